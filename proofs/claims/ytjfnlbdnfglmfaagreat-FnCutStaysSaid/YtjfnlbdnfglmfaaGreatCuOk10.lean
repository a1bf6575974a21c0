/- The functions compute what is told of them. -/
import Derived.Test.YtjfnlbdnfglmfaaGreatCuOk9
set_option linter.all false
set_option maxRecDepth 100000
namespace Go.Proofs.YtjfnlbdnfglmfaaGreat.Cu
open Go Go.Kn
noncomputable def B263 (K:Nat):Bd PP:=⟨⟨[va x_bt 0,vo (.sl (.i .u8)) 0],[ra x_it 163944],[],u2 (x_d5 K),false⟩,cn (o218 K)<|cn (o262 K)<|cn (o220 K) tt,hn [22,54,116,372,524660,372,372,16],K,Tryz.f263,[.cell 4 53]⟩
noncomputable def x_d5.g0 (K:Nat) (a0:x_d) (a1:y0) (n:Nat) (v2:y87) (q0:Int) (q1:y19):Option y19:=
 lq (B263 K) (dirs 6 6906) n ⟨[.dead, .dead,vt 2 1 0, .dead,vt 4 1 0,vt 5 1 0,vl x_ld 2 v2.1, .dead,vi q0]++dd 21,[none,none,bv x_bt 0 a0,none,bv x_it 163944 (0,0,(0,0,[]),[],[],[],0,[],[]),bv x_it 163944 q1.1]++dn 26⟩
theorem x_d5.ok0 (K:Nat) (a0:x_d) (a1:y0):x_d5.g0 K a0 a1=x_d5.l0 K a0 a1:=
 funext (lpe3 (fun _ _ _=>by kernel_rfl) fun _ _ _ _=>by kernel_rfl)
theorem o263 (K:Nat):FOk PP 263 (B263 K).F:=bok mixed Tryz.func263 fun v=>by
 have e:(B263 K).run v=x_d5.b K v.1 v.2.1 (x_d5.g0 K v.1 v.2.1 K):=by kernel_rfl
 rw [x_d5.ok0] at e
 exact e.trans (by kernel_rfl)
noncomputable def B194 (K:Nat):Bd PP:=⟨⟨[va x_bt 0,va x_gb 890829816489,vo (.i .i64) 0],[ra x_gb 1969945990632],[],u3 (s_Rise K),false⟩,cn (o60 K)<|cn (o66 K)<|cn (o262 K)<|cn (o263 K)<|cn (o264 K)<|cn (o124 K) tt,hn [92,32860,64,348,860,1372,1116,1152921504606848080,64,64],K,Tryz.f194,[.cell 6 58]⟩
theorem o194 (K:Nat):FOk PP 194 (B194 K).F:=bok mixed Tryz.func194
noncomputable def B266 (K:Nat):Bd PP:=⟨⟨[va x_it 81972],[ro (.sl (.i .u8)) 2],[],u1 (x_aw K),false⟩,cn (o226 K)<|cn (o80 K)<|cn o261 tt,hn [2,10,65546,10,26,58,549755813946,58,122,106,58,4],K,Tryz.f266,[.tmp 2]⟩
noncomputable def x_aw.g0 (K:Nat) (a0:x_dh) (n:Nat) (q3:y0) (q4:Int) (q5:Int):Option y31:=
 lq (B266 K) (dirs 7 34531) n ⟨[.dead,vt 1 1 0, .dead,vl (.i .u8) 2 q3,vi q4,vi q5]++dd 68,[none,bv x_it 81972 a0]++dn 73⟩
theorem x_aw.ok0 (K:Nat) (a0:x_dh):x_aw.g0 K a0=x_aw.l0 K a0:=
 funext (lpe3 (fun _ _ _=>by kernel_rfl) fun _ _ _ _=>by kernel_rfl)
theorem o266 (K:Nat):FOk PP 266 (B266 K).F:=bok mixed Tryz.func266 fun v=>by
 have e:(B266 K).run v=x_aw.b K v.1 (x_aw.g0 K v.1 K):=by kernel_rfl
 rw [x_aw.ok0] at e
 exact e.trans (by kernel_rfl)
noncomputable def B195 (K:Nat):Bd PP:=⟨⟨[va x_be 176904,vo (.i .i64) 0],[ra x_be 176904,ro (.i .i64) 0],[],u2 (x_lq K),false⟩,cn o265<|cn (o124 K)<|cn (o266 K) tt,hn [22,86,536870998,48,86,86,214,562949953421526,48,86,20,48],K,Tryz.f195,[.cell 4 32, .tmp 5]⟩
theorem o195 (K:Nat):FOk PP 195 (B195 K).F:=bok mixed Tryz.func195
noncomputable def B121 (K:Nat):Bd PP:=⟨⟨[va x_be 176904,va x_o8 0],[ra x_be 176904,ro (.i .i64) 0],[],u2 (x_np K),false⟩,cn (o189 K)<|cn o190<|cn o20<|cn (o191 K)<|cn (o192 K)<|cn o193<|cn (o194 K)<|cn (o195 K) tt,hn [28,92,67108956,201326684,404,1552,48,140737555464284,36028797018964060,48,6164,24592,48,151115727451828713947228,98320,48,309485009821345068724781148,92,20,48,393232,48],K,Tryz.f121,[.cell 4 32, .tmp 5]⟩
theorem o121 (K:Nat):FOk PP 121 (B121 K).F:=bok mixed Tryz.func121
noncomputable def B63 (K:Nat):Bd PP:=⟨⟨[va x_be 176904,va x_o8 0],[ra x_be 176904,ro (.i .i64) 0],[],u2 (x_fm K),false⟩,cn o20<|cn (o118 K)<|cn (o119 K)<|cn (o120 K)<|cn (o121 K) tt,hn [28,131100,208,48,284,18014398509482268,48,288230376151712028,1552,48,147573952589676412956,6160,48,24592,48],K,Tryz.f63,[.cell 4 32, .tmp 5]⟩
theorem o63 (K:Nat):FOk PP 63 (B63 K).F:=bok mixed Tryz.func63
noncomputable def B64 (K:Nat):Bd PP:=⟨⟨[va x_be 176904],[ra x_be 176904],[],u1 (x_ap K),false⟩,tt,hn [6,14,526,14,30,4194334,62,2199023255614,30,4],K,Tryz.f64,[.cell 2 32]⟩
noncomputable def x_ap.g0 (K:Nat) (a0:x_u) (n:Nat) (q1:Int) (q2:y5):Option y25:=
 lq (B64 K) (dirs 4 276) n ⟨[.dead,vt 1 1 0,vt 2 1 0,vi q1]++dd 52,[none,bv x_be 176904 (a0.1,a0.2.1,a0.2.2.1,a0.2.2.2.1,a0.2.2.2.2.1,a0.2.2.2.2.2.1,a0.2.2.2.2.2.2.1,q2),bv x_be 176904 ((0,0,0,0),0,[],[],[],[],[],[])]++dn 54⟩
noncomputable def x_ap.g1 (K:Nat) (a0:x_u) (n0:Nat) (n:Nat) (q1:Int) (q3:y5):Option y25:=
 lq (B64 K) [.r, .l, .r, .b, .lp n0, .r, .l, .b, .r, .b] n ⟨[.dead,vt 1 1 0,vt 2 1 0,vi q1,vt 4 1 0]++dd 51,[none,bv x_be 176904 (a0.1,a0.2.1,a0.2.2.1,a0.2.2.2.1,a0.2.2.2.2.1,a0.2.2.2.2.2.1,a0.2.2.2.2.2.2.1,q3),bv x_be 176904 ((0,0,0,0),0,[],[],[],[],[],[]),none,bv x_gb 0 (a0.2.2.1.getD q1.toNat x_bx)]++dn 52⟩
theorem x_ap.ok1 (K:Nat) (a0:x_u) (n0:Nat):x_ap.g1 K a0 n0=x_ap.l1 K a0 (x_ap.g0 K a0 n0):=
 funext (lpe2 (fun _ _=>by kernel_rfl) fun _ _ _=>by kernel_rfl)
theorem x_ap.ok0 (K:Nat) (a0:x_u):x_ap.g0 K a0=x_ap.l0 K a0:=
 funext (lpe2 (fun _ _=>by kernel_rfl) fun n q1 q2=>(show x_ap.g0 K a0 (n+1) q1 q2=x_ap.l0b K a0 (x_ap.g1 K a0 n K) q1 q2 by kernel_rfl).trans (by rw [x_ap.ok1]<;>rfl))
theorem o64 (K:Nat):FOk PP 64 (B64 K).F:=bok mixed Tryz.func64 fun v=>by
 have e:(B64 K).run v=x_ap.b K v.1 (x_ap.g0 K v.1 K):=by kernel_rfl
 rw [x_ap.ok0] at e
 exact e.trans (by kernel_rfl)
noncomputable def B21 (K:Nat):Bd PP:=⟨⟨[va x_be 176904,va x_o8 0],[ra x_be 176904,ro (.i .i64) 0],[],u2 (x_i8 K),false⟩,cn (o63 K)<|cn (o64 K) tt,hn [28,208,32976,208,48],K,Tryz.f21,[.cell 4 32, .tmp 5]⟩
theorem o21 (K:Nat):FOk PP 21 (B21 K).F:=bok mixed Tryz.func21
noncomputable def B76 (K:Nat):Bd PP:=⟨⟨[vp x_ei 0,vo (.i .i64) 0],[ra x_be 88573,ro (.sl x_o8) 2,ra x_be 176904],[],u2 (x_ba K),false⟩,cn o147<|cn o35<|cn (o146 K)<|cn o30<|cn (o15 K)<|cn (o22 K)<|cn (o21 K) tt,h3 [83,467,979,2003,4049,8145,68719484881,8145,16337,16337,57297,18014398509506513,8145,113] [] [] 2 [7],K,Tryz.f76,[.cell 4 32, .tmp 5, .cell 6 32]⟩
noncomputable def x_ba.g0 (K:Nat) (a0:x_6) (a1:Int) (n:Nat) (v3:y47) (q0:List x_kc) (v4:y41) (q1:Int) (q2:y22) (q3:x_u):Option y138:=
 lq (B76 K) (dirs 8 172656) n ⟨[vt 0 0 0]++dd 3++[vt 4 1 0, .dead,vt 6 1 0,vt 7 1 0,vb v3.2.1,vt 9 1 0,vl x_o8 2 q0,vi v4.1,vi q1]++dd 46,[some (0,[.val .f (.sl (.i .u8)) q2.1.1, .val .f (.i .i64) q2.1.2.1, .val .f (.i .i64) q2.1.2.2])]++dn 3++[bv x_be 176904 ((0,0,0,0),0,[],[],[],[],[],[]),none,bv x_be 176904 ((0,0,0,0),0,[],[],[],[],[],[]),some (1,[.val .f .u (), .val .f .u (), .val .f .u (), .val .f .u (), .val .f .u (), .val .f .u (), .val .f .u (), .val .f .u (), .val .f .u (), .val .f .u (), .val .f .u ()]),none,bv x_be 176904 q3]++dn 51⟩
theorem x_ba.ok0 (K:Nat) (a0:x_6) (a1:Int):x_ba.g0 K a0 a1=x_ba.l0 K a0 a1:=
 funext (lpe6 (fun _ _ _ _ _ _=>by kernel_rfl) fun _ _ _ _ _ _ _=>by kernel_rfl)
theorem o76 (K:Nat):FOk PP 76 (B76 K).F:=bok mixed Tryz.func76 fun v=>by
 have e:(B76 K).run v=x_ba.b K v.1 v.2.1 (x_ba.g0 K v.1 v.2.1 K):=by kernel_rfl
 rw [x_ba.ok0] at e
 exact e.trans (by kernel_rfl)
noncomputable def B29 (K:Nat):Bd PP:=⟨⟨[vp x_ei 0],[ra x_be 176904],[],u1 (x_fo K),false⟩,cn (o76 K) tt,hn [5,37,5],K,Tryz.f29,[.cell 2 32]⟩
theorem o29 (K:Nat):FOk PP 29 (B29 K).F:=bok mixed Tryz.func29
noncomputable def B33:Bd PP:=⟨⟨[vp x_ei 0],[ra eCmd 0],[],u1 x_dk,false⟩,cn o38<|cn o37<|cn o30 tt,hn [5,37,5,13,13,13,5],0,Tryz.f33,[.cell 2 34]⟩
theorem o33:FOk PP 33 B33.F:=bok mixed Tryz.func33
noncomputable def B78 (K:Nat):Bd PP:=⟨⟨[vp x_ei 0,vo (.i .i64) 0,vo (.i .i64) 0],[ro (.sl x_dp) 2],[],u3 (x_ah K),false⟩,cn o30<|cn o33 tt,hn [7,135,387,899,131971,899,899,899,65],K,Tryz.f78,[.tmp 6]⟩
noncomputable def x_ah.g0 (K:Nat) (a0:x_6) (a1:Int) (a2:Int) (n:Nat) (q0:Int) (q1:y14) (v1:y41) (q2:Int) (q3:y22):Option y103:=
 lq (B78 K) (dirs 6 6906) n ⟨[vt 0 0 0,vi q0]++dd 5++[vl x_dp 2 q1,vi v1.1,vi q2]++dd 22,[some (0,[.val .f (.sl (.i .u8)) q3.1.1, .val .f (.i .i64) q3.1.2.1, .val .f (.i .i64) q3.1.2.2])]++dn 34⟩
theorem x_ah.ok0 (K:Nat) (a0:x_6) (a1:Int) (a2:Int):x_ah.g0 K a0 a1 a2=x_ah.l0 K a0 a1 a2:=
 funext (lpe5 (fun _ _ _ _ _=>by kernel_rfl) fun _ _ _ _ _ _=>by kernel_rfl)
theorem o78 (K:Nat):FOk PP 78 (B78 K).F:=bok mixed Tryz.func78 fun v=>by
 have e:(B78 K).run v=x_ah.b K v.1 v.2.1 v.2.2.1 (x_ah.g0 K v.1 v.2.1 v.2.2.1 K):=by kernel_rfl
 rw [x_ah.ok0] at e
 exact e.trans (by kernel_rfl)
end Go.Proofs.YtjfnlbdnfglmfaaGreat.Cu
