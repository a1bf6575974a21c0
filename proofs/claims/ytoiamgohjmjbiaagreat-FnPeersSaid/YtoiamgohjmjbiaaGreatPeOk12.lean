/- The functions compute what is told of them. -/
import Derived.Test.YtoiamgohjmjbiaaGreatPeOk11
set_option linter.all false
set_option maxRecDepth 100000
namespace Go.Proofs.YtoiamgohjmjbiaaGreat.Pe
open Go Go.Kn
noncomputable def B48 (K:Nat):Bd PP:=⟨⟨[va x_a6 0,vo (.sl (.i .u8)) 0],[ra x_il 163944],[],u2 (x_ce K),false⟩,cn (o26 K)<|cn (o89 K)<|cn (o90 K) tt,hn [22,54,116,372,524660,372,372,16],K,Tryz.f48,[.cell 4 39]⟩
noncomputable def x_ce.g0 (K:Nat) (a0:x_e) (a1:y0) (n:Nat) (v2:y84) (q0:Int) (q1:y18):Option y18:=
 lq (B48 K) (dirs 6 6906) n ⟨[.dead, .dead,vt 2 1 0, .dead,vt 4 1 0,vt 5 1 0,vl x_js 2 v2.1, .dead,vi q0]++dd 21,[none,none,bv x_a6 0 a0,none,bv x_il 163944 (0,0,(0,0,[]),[],[],[],0,[],[]),bv x_il 163944 q1.1]++dn 26⟩
theorem x_ce.ok0 (K:Nat) (a0:x_e) (a1:y0):x_ce.g0 K a0 a1=x_ce.l0 K a0 a1:=
 funext (lpe3 (fun _ _ _=>by kernel_rfl) fun _ _ _ _=>by kernel_rfl)
theorem o48 (K:Nat):FOk PP 48 (B48 K).F:=bok mixed Tryz.func48 fun v=>by
 have e:(B48 K).run v=x_ce.b K v.1 v.2.1 (x_ce.g0 K v.1 v.2.1 K):=by kernel_rfl
 rw [x_ce.ok0] at e
 exact e.trans (by kernel_rfl)
noncomputable def B241 (K:Nat):Bd PP:=⟨⟨[va x_a6 0,va x_gj 890829816489,vo (.i .i64) 0],[ra x_gj 1969945990632],[],u3 (s_Rise K),false⟩,cn (o12 K)<|cn (o55 K)<|cn (o89 K)<|cn (o48 K)<|cn (o27 K)<|cn (o93 K) tt,hn [92,32860,64,348,860,1372,1116,1152921504606848080,64,64],K,Tryz.f241,[.cell 6 45]⟩
theorem o241 (K:Nat):FOk PP 241 (B241 K).F:=bok mixed Tryz.func241
noncomputable def B264 (K:Nat):Bd PP:=⟨⟨[va x_il 81972],[ro (.sl (.i .u8)) 2],[],u1 (x_az K),false⟩,cn (o152 K)<|cn (o102 K)<|cn o249 tt,hn [2,10,65546,10,26,58,549755813946,58,122,106,58,4],K,Tryz.f264,[.tmp 2]⟩
noncomputable def x_az.g0 (K:Nat) (a0:x_eh) (n:Nat) (q3:y0) (q4:Int) (q5:Int):Option y29:=
 lq (B264 K) (dirs 7 34531) n ⟨[.dead,vt 1 1 0, .dead,vl (.i .u8) 2 q3,vi q4,vi q5]++dd 68,[none,bv x_il 81972 a0]++dn 73⟩
theorem x_az.ok0 (K:Nat) (a0:x_eh):x_az.g0 K a0=x_az.l0 K a0:=
 funext (lpe3 (fun _ _ _=>by kernel_rfl) fun _ _ _ _=>by kernel_rfl)
theorem o264 (K:Nat):FOk PP 264 (B264 K).F:=bok mixed Tryz.func264 fun v=>by
 have e:(B264 K).run v=x_az.b K v.1 (x_az.g0 K v.1 K):=by kernel_rfl
 rw [x_az.ok0] at e
 exact e.trans (by kernel_rfl)
noncomputable def B242 (K:Nat):Bd PP:=⟨⟨[va x_c0 176904,vo (.i .i64) 0],[ra x_c0 176904,ro (.i .i64) 0],[],u2 (x_os K),false⟩,cn o179<|cn (o93 K)<|cn (o264 K) tt,hn [22,86,536870998,48,86,86,214,562949953421526,48,86,20,48],K,Tryz.f242,[.cell 4 94, .tmp 5]⟩
theorem o242 (K:Nat):FOk PP 242 (B242 K).F:=bok mixed Tryz.func242
noncomputable def B216 (K:Nat):Bd PP:=⟨⟨[va x_c0 176904,va x_vq 0],[ra x_c0 176904,ro (.i .i64) 0],[],u2 (x_py K),false⟩,cn (o236 K)<|cn o237<|cn o25<|cn (o238 K)<|cn (o239 K)<|cn o240<|cn (o241 K)<|cn (o242 K) tt,hn [28,92,67108956,201326684,404,1552,48,140737555464284,36028797018964060,48,6164,24592,48,151115727451828713947228,98320,48,309485009821345068724781148,92,20,48,393232,48],K,Tryz.f216,[.cell 4 94, .tmp 5]⟩
theorem o216 (K:Nat):FOk PP 216 (B216 K).F:=bok mixed Tryz.func216
noncomputable def B182 (K:Nat):Bd PP:=⟨⟨[va x_c0 176904,va x_vq 0],[ra x_c0 176904,ro (.i .i64) 0],[],u2 (x_fl K),false⟩,cn o25<|cn (o213 K)<|cn (o214 K)<|cn (o215 K)<|cn (o216 K) tt,hn [28,131100,208,48,284,18014398509482268,48,288230376151712028,1552,48,147573952589676412956,6160,48,24592,48],K,Tryz.f182,[.cell 4 94, .tmp 5]⟩
theorem o182 (K:Nat):FOk PP 182 (B182 K).F:=bok mixed Tryz.func182
noncomputable def B183 (K:Nat):Bd PP:=⟨⟨[va x_c0 176904],[ra x_c0 176904],[],u1 (x_ao K),false⟩,tt,hn [6,14,526,14,30,4194334,62,2199023255614,30,4],K,Tryz.f183,[.cell 2 94]⟩
noncomputable def x_ao.g0 (K:Nat) (a0:x_a0) (n:Nat) (q1:Int) (q2:y5):Option y23:=
 lq (B183 K) (dirs 4 276) n ⟨[.dead,vt 1 1 0,vt 2 1 0,vi q1]++dd 52,[none,bv x_c0 176904 (a0.1,a0.2.1,a0.2.2.1,a0.2.2.2.1,a0.2.2.2.2.1,a0.2.2.2.2.2.1,a0.2.2.2.2.2.2.1,q2),bv x_c0 176904 ((0,0,0,0),0,[],[],[],[],[],[])]++dn 54⟩
noncomputable def x_ao.g1 (K:Nat) (a0:x_a0) (n0:Nat) (n:Nat) (q1:Int) (q3:y5):Option y23:=
 lq (B183 K) [.r, .l, .r, .b, .lp n0, .r, .l, .b, .r, .b] n ⟨[.dead,vt 1 1 0,vt 2 1 0,vi q1,vt 4 1 0]++dd 51,[none,bv x_c0 176904 (a0.1,a0.2.1,a0.2.2.1,a0.2.2.2.1,a0.2.2.2.2.1,a0.2.2.2.2.2.1,a0.2.2.2.2.2.2.1,q3),bv x_c0 176904 ((0,0,0,0),0,[],[],[],[],[],[]),none,bv x_gj 0 (a0.2.2.1.getD q1.toNat x_d2)]++dn 52⟩
theorem x_ao.ok1 (K:Nat) (a0:x_a0) (n0:Nat):x_ao.g1 K a0 n0=x_ao.l1 K a0 (x_ao.g0 K a0 n0):=
 funext (lpe2 (fun _ _=>by kernel_rfl) fun _ _ _=>by kernel_rfl)
theorem x_ao.ok0 (K:Nat) (a0:x_a0):x_ao.g0 K a0=x_ao.l0 K a0:=
 funext (lpe2 (fun _ _=>by kernel_rfl) fun n q1 q2=>(show x_ao.g0 K a0 (n+1) q1 q2=x_ao.l0b K a0 (x_ao.g1 K a0 n K) q1 q2 by kernel_rfl).trans (by rw [x_ao.ok1]<;>rfl))
theorem o183 (K:Nat):FOk PP 183 (B183 K).F:=bok mixed Tryz.func183 fun v=>by
 have e:(B183 K).run v=x_ao.b K v.1 (x_ao.g0 K v.1 K):=by kernel_rfl
 rw [x_ao.ok0] at e
 exact e.trans (by kernel_rfl)
noncomputable def B137 (K:Nat):Bd PP:=⟨⟨[va x_c0 176904,va x_vq 0],[ra x_c0 176904,ro (.i .i64) 0],[],u2 (x_lk K),false⟩,cn (o182 K)<|cn (o183 K) tt,hn [28,208,32976,208,48],K,Tryz.f137,[.cell 4 94, .tmp 5]⟩
theorem o137 (K:Nat):FOk PP 137 (B137 K).F:=bok mixed Tryz.func137
noncomputable def B91 (K:Nat):Bd PP:=⟨⟨[vp x_dt 0,vo (.i .i64) 0],[ra x_c0 88573,ro (.sl x_vq) 2,ra x_c0 176904],[],u2 (x_av K),false⟩,cn o49<|cn o31<|cn (o135 K)<|cn o19<|cn (o136 K)<|cn (o138 K)<|cn (o137 K) tt,h3 [83,467,979,2003,4049,8145,68719484881,8145,16337,16337,57297,18014398509506513,8145,113] [] [] 2 [7],K,Tryz.f91,[.cell 4 94, .tmp 5, .cell 6 94]⟩
noncomputable def x_av.g0 (K:Nat) (a0:x_z) (a1:Int) (n:Nat) (v3:y44) (q0:List x_no) (v4:y39) (q1:Int) (q2:y20) (q3:x_a0):Option y133:=
 lq (B91 K) (dirs 8 172656) n ⟨[vt 0 0 0]++dd 3++[vt 4 1 0, .dead,vt 6 1 0,vt 7 1 0,vb v3.2.1,vt 9 1 0,vl x_vq 2 q0,vi v4.1,vi q1]++dd 46,[some (0,[.val .f (.sl (.i .u8)) q2.1.1, .val .f (.i .i64) q2.1.2.1, .val .f (.i .i64) q2.1.2.2])]++dn 3++[bv x_c0 176904 ((0,0,0,0),0,[],[],[],[],[],[]),none,bv x_c0 176904 ((0,0,0,0),0,[],[],[],[],[],[]),some (1,[.val .f .u (), .val .f .u (), .val .f .u (), .val .f .u (), .val .f .u (), .val .f .u (), .val .f .u (), .val .f .u (), .val .f .u (), .val .f .u (), .val .f .u ()]),none,bv x_c0 176904 q3]++dn 51⟩
theorem x_av.ok0 (K:Nat) (a0:x_z) (a1:Int):x_av.g0 K a0 a1=x_av.l0 K a0 a1:=
 funext (lpe6 (fun _ _ _ _ _ _=>by kernel_rfl) fun _ _ _ _ _ _ _=>by kernel_rfl)
theorem o91 (K:Nat):FOk PP 91 (B91 K).F:=bok mixed Tryz.func91 fun v=>by
 have e:(B91 K).run v=x_av.b K v.1 v.2.1 (x_av.g0 K v.1 v.2.1 K):=by kernel_rfl
 rw [x_av.ok0] at e
 exact e.trans (by kernel_rfl)
noncomputable def B54 (K:Nat):Bd PP:=⟨⟨[vp x_dt 0],[ra x_c0 176904],[],u1 (x_fe K),false⟩,cn (o91 K) tt,hn [5,37,5],K,Tryz.f54,[.cell 2 94]⟩
theorem o54 (K:Nat):FOk PP 54 (B54 K).F:=bok mixed Tryz.func54
noncomputable def B144:Bd PP:=⟨⟨[vp x_dt 0],[ra eCmd 0],[],u1 x_dw,false⟩,cn o30<|cn o181<|cn o19 tt,hn [5,37,5,13,13,13,5],0,Tryz.f144,[.cell 2 123]⟩
theorem o144:FOk PP 144 B144.F:=bok mixed Tryz.func144
noncomputable def B146 (K:Nat):Bd PP:=⟨⟨[vp x_dt 0,vo (.i .i64) 0],[ro (.sl eCmd) 2],[],u2 (x_au K),false⟩,cn o19<|cn o144<|cn o30 tt,hn [3,35,97,225,65761,225,481,268435937,481,225,17],K,Tryz.f146,[.tmp 4]⟩
noncomputable def x_au.g0 (K:Nat) (a0:x_z) (a1:Int) (n:Nat) (q0:y5) (v1:y39) (q1:Int) (q2:y20):Option y90:=
 lq (B146 K) (dirs 6 6906) n ⟨[vt 0 0 0]++dd 4++[vl eCmd 2 q0,vi v1.1,vi q1]++dd 29,[some (0,[.val .f (.sl (.i .u8)) q2.1.1, .val .f (.i .i64) q2.1.2.1, .val .f (.i .i64) q2.1.2.2])]++dn 38⟩
theorem x_au.ok0 (K:Nat) (a0:x_z) (a1:Int):x_au.g0 K a0 a1=x_au.l0 K a0 a1:=
 funext (lpe4 (fun _ _ _ _=>by kernel_rfl) fun _ _ _ _ _=>by kernel_rfl)
theorem o146 (K:Nat):FOk PP 146 (B146 K).F:=bok mixed Tryz.func146 fun v=>by
 have e:(B146 K).run v=x_au.b K v.1 v.2.1 (x_au.g0 K v.1 v.2.1 K):=by kernel_rfl
 rw [x_au.ok0] at e
 exact e.trans (by kernel_rfl)
end Go.Proofs.YtoiamgohjmjbiaaGreat.Pe
