/- The functions compute what is told of them. -/
import Derived.Test.YtjfnlbdnfglmfaaGreatCuOk10
set_option linter.all false
set_option maxRecDepth 100000
namespace Go.Proofs.YtjfnlbdnfglmfaaGreat.Cu
open Go Go.Kn
noncomputable def B149 (K:Nat):Bd PP:=⟨⟨[vp x_ei 0,vo (.i .i64) 0],[ro (.sl eCmd) 2],[],u2 (x_a9 K),false⟩,cn o30<|cn o33<|cn o38 tt,hn [3,35,97,225,65761,225,481,268435937,481,225,17],K,Tryz.f149,[.tmp 4]⟩
noncomputable def x_a9.g0 (K:Nat) (a0:x_6) (a1:Int) (n:Nat) (q0:y5) (v1:y41) (q1:Int) (q2:y22):Option y93:=
 lq (B149 K) (dirs 6 6906) n ⟨[vt 0 0 0]++dd 4++[vl eCmd 2 q0,vi v1.1,vi q1]++dd 29,[some (0,[.val .f (.sl (.i .u8)) q2.1.1, .val .f (.i .i64) q2.1.2.1, .val .f (.i .i64) q2.1.2.2])]++dn 38⟩
theorem x_a9.ok0 (K:Nat) (a0:x_6) (a1:Int):x_a9.g0 K a0 a1=x_a9.l0 K a0 a1:=
 funext (lpe4 (fun _ _ _ _=>by kernel_rfl) fun _ _ _ _ _=>by kernel_rfl)
theorem o149 (K:Nat):FOk PP 149 (B149 K).F:=bok mixed Tryz.func149 fun v=>by
 have e:(B149 K).run v=x_a9.b K v.1 v.2.1 (x_a9.g0 K v.1 v.2.1 K):=by kernel_rfl
 rw [x_a9.ok0] at e
 exact e.trans (by kernel_rfl)
noncomputable def B148 (K:Nat):Bd PP:=⟨⟨[va x_bt 0,vo (.sl eCmd) 1],[ra x_dg 674,ro (.sl x_bz) 2],[],u2 (x_cz K),false⟩,cn (o216 K)<|cn o58<|cn (o62 K)<|cn (o217 K) tt,hn [22,86,214,470,262614,470,982,1073742806,4054,3030,982,470,48],K,Tryz.f148,[.cell 4 51, .tmp 5]⟩
noncomputable def x_cz.g0 (K:Nat) (a0:x_d) (a1:y5) (n:Nat) (q0:y21) (q1:Int) (q2:x_ai):Option y104:=
 lq (B148 K) (dirs 6 6906) n ⟨[.dead,vl eCmd 1 a1,vt 2 1 0, .dead,vt 4 1 0, .dead,vl x_bz 2 q0,vt 7 1 0,vi q1]++dd 40,[none,none,bv x_bt 0 a0,none,bv x_dg 674 ([],[],[],0,[],[]),none,none,bv x_dg 674 q2]++dn 43⟩
theorem x_cz.ok0 (K:Nat) (a0:x_d) (a1:y5):x_cz.g0 K a0 a1=x_cz.l0 K a0 a1:=
 funext (lpe3 (fun _ _ _=>by kernel_rfl) fun _ _ _ _=>by kernel_rfl)
theorem o148 (K:Nat):FOk PP 148 (B148 K).F:=bok mixed Tryz.func148 fun v=>by
 have e:(B148 K).run v=x_cz.b K v.1 v.2.1 (x_cz.g0 K v.1 v.2.1 K):=by kernel_rfl
 rw [x_cz.ok0] at e
 exact e.trans (by kernel_rfl)
noncomputable def B79 (K:Nat):Bd PP:=⟨⟨[vp x_ei 0],[ra x_bt 0,ra x_dg 674],[],u1 (x_fg K),false⟩,cn o147<|cn (o149 K)<|cn (o148 K) tt,hn [13,29,61,13],K,Tryz.f79,[.cell 2 25, .cell 3 51]⟩
theorem o79 (K:Nat):FOk PP 79 (B79 K).F:=bok mixed Tryz.func79
noncomputable def B31 (K:Nat):Bd PP:=⟨⟨[vp x_ei 0],[ra eRpc 4374],[],u1 (x_dv K),false⟩,cn o30<|cn o38<|cn (o78 K)<|cn (o79 K)<|cn (o80 K) tt,hn [5,13,67108877,13,4294967309,45,13,5],K,Tryz.f31,[.cell 2 83]⟩
theorem o31 (K:Nat):FOk PP 31 (B31 K).F:=bok mixed Tryz.func31
noncomputable def B32:Bd PP:=⟨⟨[vp x_ei 0,va eCmd 0],[ra eCmd 0],[],u2 x_h2,false⟩,cn o30<|cn o35<|cn o81 tt,hn [25,89,217,25,8281,25,524377,25,33554521,25,2147483673,25,17],0,Tryz.f32,[.cell 4 34]⟩
theorem o32:FOk PP 32 B32.F:=bok mixed Tryz.func32
noncomputable def B219 (K:Nat):Bd PP:=⟨⟨[va x_bt 0,vo (.sl eCmd) 1],[ra x_dg 674],[],u2 (x_wx K),false⟩,cn (o148 K) tt,hn [22,48,16],K,Tryz.f219,[.cell 4 51]⟩
theorem o219 (K:Nat):FOk PP 219 (B219 K).F:=bok mixed Tryz.func219
noncomputable def B153 (K:Nat):Bd PP:=⟨⟨[vp x_ei 0],[ra x_bt 0,ra x_it 163944],[],u1 (x_ag K),false⟩,cn o147<|cn (o218 K)<|cn o30<|cn o113<|cn o33<|cn o38<|cn (o149 K)<|cn (o219 K)<|cn (o80 K)<|cn (o220 K) tt,hn [13,29,61,125,131197,125,509,1021,68719477757,206158431229,637,281474976711677,36028797018964989,637,125,13],K,Tryz.f153,[.cell 2 25, .cell 3 53]⟩
noncomputable def x_ag.g0 (K:Nat) (a0:x_6) (n:Nat) (q0:Int) (q1:y22) (v1:y57) (q2:y19):Option y109:=
 lq (B153 K) (dirs 6 6906) n ⟨[vt 0 0 0, .dead,vt 2 1 0,vt 3 1 0,vt 4 1 0,vt 5 1 0,vi q0]++dd 64,[some (0,[.val .f (.sl (.i .u8)) q1.1.1, .val .f (.i .i64) q1.1.2.1, .val .f (.i .i64) q1.1.2.2]),none,bv x_bt 0 (0,0,0,0),bv x_it 163944 (0,0,(0,0,[]),[],[],[],0,[],[]),bv x_bt 0 v1.1,bv x_it 163944 q2.1]++dn 66⟩
theorem x_ag.ok0 (K:Nat) (a0:x_6):x_ag.g0 K a0=x_ag.l0 K a0:=
 funext (lpe4 (fun _ _ _ _=>by kernel_rfl) fun _ _ _ _ _=>by kernel_rfl)
theorem o153 (K:Nat):FOk PP 153 (B153 K).F:=bok mixed Tryz.func153 fun v=>by
 have e:(B153 K).run v=x_ag.b K v.1 (x_ag.g0 K v.1 K):=by kernel_rfl
 rw [x_ag.ok0] at e
 exact e.trans (by kernel_rfl)
noncomputable def B221 (K:Nat):Bd PP:=⟨⟨[vp x_ei 0],[ra eLog 18],[],u1 (x_io K),false⟩,cn o30<|cn (o78 K) tt,hn [5,13,13,5],K,Tryz.f221,[.cell 2 45]⟩
theorem o221 (K:Nat):FOk PP 221 (B221 K).F:=bok mixed Tryz.func221
noncomputable def B154 (K:Nat):Bd PP:=⟨⟨[vp x_ei 0],[ra eLog 18],[],u1 (x_rg K),false⟩,cn (o221 K)<|cn o30<|cn o35<|cn o33<|cn o32 tt,hn [5,13,141,397,13,16525,13,1048589,13,5],K,Tryz.f154,[.cell 2 45]⟩
theorem o154 (K:Nat):FOk PP 154 (B154 K).F:=bok mixed Tryz.func154
noncomputable def B222:Bd PP:=⟨⟨[vp x_ei 0],[ra x_bt 0],[],u1 x_ro,false⟩,cn o147<|cn o30<|cn o35 tt,hn [5,13,141,397,13,16525,13,1048717,13,67108877,13,5],0,Tryz.f222,[.cell 2 25]⟩
theorem o222:FOk PP 222 B222.F:=bok mixed Tryz.func222
noncomputable def B282 (K:Nat):Bd PP:=⟨⟨[vp x_ei 0],[ra eRow 18],[],u1 (x_a4 K),false⟩,cn o30<|cn o84<|cn (o283 K)<|cn (o316 K)<|cn (o317 K) tt,hn [5,13,29,61,2109,61,61,268435517,805306429,61,274877907005,61,5],K,Tryz.f282,[.cell 2 114]⟩
noncomputable def x_a4.g0 (K:Nat) (a0:x_6) (n:Nat) (v1:y41) (q0:Int) (q1:y41) (q2:Int) (q3:Int) (q4:y8):Option y52:=
 lq (B282 K) (dirs 6 6906) n ⟨[vt 0 0 0, .dead,vt 2 1 0,vt 3 1 0,vi v1.1,vi q0]++dd 40,[some (0,[.val .f (.sl (.i .u8)) q1.2.1.1, .val .f (.i .i64) q1.2.1.2.1, .val .f (.i .i64) q1.2.1.2.2]),none,bv eRow 18 (0,0,[]),bv eRow 18 (q2,q3,q4)]++dn 43⟩
theorem x_a4.ok0 (K:Nat) (a0:x_6):x_a4.g0 K a0=x_a4.l0 K a0:=
 funext (lpe6 (fun _ _ _ _ _ _=>by kernel_rfl) fun _ _ _ _ _ _ _=>by kernel_rfl)
theorem o282 (K:Nat):FOk PP 282 (B282 K).F:=bok mixed Tryz.func282 fun v=>by
 have e:(B282 K).run v=x_a4.b K v.1 (x_a4.g0 K v.1 K):=by kernel_rfl
 rw [x_a4.ok0] at e
 exact e.trans (by kernel_rfl)
noncomputable def B223 (K:Nat):Bd PP:=⟨⟨[vp x_ei 0],[ra eRow 18],[],u1 (x_dx K),false⟩,cn (o282 K)<|cn o30<|cn o35<|cn o81<|cn (o283 K) tt,hn [5,13,141,397,13,16525,13,1048717,13,8589934605,274877906957,13,5],K,Tryz.f223,[.cell 2 114]⟩
noncomputable def x_dx.g0 (K:Nat) (a0:x_6) (n:Nat) (v2:y41) (q0:TRow):Option y52:=
 lq (B223 K) (dirs 14 3265379506) n ⟨[vt 0 0 0, .dead,vt 2 1 0,vt 3 1 0]++dd 42,[some (0,[.val .f (.sl (.i .u8)) v2.2.1.1, .val .f (.i .i64) v2.2.1.2.1, .val .f (.i .i64) v2.2.1.2.2]),none,bv eRow 18 (0,0,[]),bv eRow 18 q0]++dn 43⟩
theorem x_dx.ok0 (K:Nat) (a0:x_6):x_dx.g0 K a0=x_dx.l0 K a0:=
 funext (lpe2 (fun _ _=>by kernel_rfl) fun _ _ _=>by kernel_rfl)
theorem o223 (K:Nat):FOk PP 223 (B223 K).F:=bok mixed Tryz.func223 fun v=>by
 have e:(B223 K).run v=x_dx.b K v.1 (x_dx.g0 K v.1 K):=by kernel_rfl
 rw [x_dx.ok0] at e
 exact e.trans (by kernel_rfl)
noncomputable def B284 (K:Nat):Bd PP:=⟨⟨[vp x_ei 0],[ra x_bs 162],[],u1 (x_a3 K),false⟩,cn o30<|cn (o318 K) tt,hn [5,13,29,32797,29,61,125,1073741949,125,29,5],K,Tryz.f284,[.cell 2 118]⟩
noncomputable def x_a3.g0 (K:Nat) (a0:x_6) (n:Nat) (q0:Int) (q1:y41) (q2:Int) (q3:Int) (q4:Int) (q5:Int) (q6:y9):Option y64:=
 lq (B284 K) (dirs 5 1381) n ⟨[vt 0 0 0, .dead,vt 2 1 0,vt 3 1 0,vi q0]++dd 36,[some (0,[.val .f (.sl (.i .u8)) q1.2.1.1, .val .f (.i .i64) q1.2.1.2.1, .val .f (.i .i64) q1.2.1.2.2]),none,bv x_bs 162 (0,0,0,0,[]),bv x_bs 162 (q2,q3,q4,q5,q6)]++dn 38⟩
theorem x_a3.ok0 (K:Nat) (a0:x_6):x_a3.g0 K a0=x_a3.l0 K a0:=
 funext (lpe7 (fun _ _ _ _ _ _ _=>by kernel_rfl) fun _ _ _ _ _ _ _ _=>by kernel_rfl)
theorem o284 (K:Nat):FOk PP 284 (B284 K).F:=bok mixed Tryz.func284 fun v=>by
 have e:(B284 K).run v=x_a3.b K v.1 (x_a3.g0 K v.1 K):=by kernel_rfl
 rw [x_a3.ok0] at e
 exact e.trans (by kernel_rfl)
noncomputable def B224 (K:Nat):Bd PP:=⟨⟨[vp x_ei 0],[ra x_bs 162],[],u1 (x_q8 K),false⟩,cn (o284 K)<|cn o30<|cn o35 tt,hn [5,13,141,397,13,16525,13,1048717,13,4294967309,13,5],K,Tryz.f224,[.cell 2 118]⟩
theorem o224 (K:Nat):FOk PP 224 (B224 K).F:=bok mixed Tryz.func224
end Go.Proofs.YtjfnlbdnfglmfaaGreat.Cu
