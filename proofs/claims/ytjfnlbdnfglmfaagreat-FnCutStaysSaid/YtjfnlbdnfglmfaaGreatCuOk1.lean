/- The functions compute what is told of them. -/
import Derived.Test.YtjfnlbdnfglmfaaGreatCuOk0
set_option linter.all false
set_option maxRecDepth 100000
namespace Go.Proofs.YtjfnlbdnfglmfaaGreat.Cu
open Go Go.Kn
noncomputable def B185 (K:Nat):Bd PP:=⟨⟨[va x_bh 39,vo (.i .i64) 0],[ro .b 0],[],u2 (x_a1 K),false⟩,cn o20 tt,hn [6,67108868,16,36,2147483684,36,147573952589676412964,16,68,4722366482869645213764,68,2417851639229258349412420,16,16],K,Tryz.f185,[.tmp 4]⟩
noncomputable def x_a1.g0 (K:Nat) (a0:x_ar) (a1:Int) (n:Nat) (q0:Int):Option y11:=
 lq (B185 K) (dirs 5 1381) n ⟨[.dead, .dead,vt 2 1 0, .dead, .dead,vi q0]++dd 76,[none,none,bv x_bh 39 a0]++dn 81⟩
noncomputable def x_a1.g1 (K:Nat) (a0:x_ar) (a1:Int) (n:Nat) (q1:Int):Option y11:=
 lq (B185 K) (dirs 6 6906) n ⟨[.dead, .dead,vt 2 1 0]++dd 3++[vi q1]++dd 75,[none,none,bv x_bh 39 a0]++dn 81⟩
theorem x_a1.ok1 (K:Nat) (a0:x_ar) (a1:Int):x_a1.g1 K a0 a1=x_a1.l1 K a0 a1:=
 funext (lpe1 (fun _=>by kernel_rfl) fun _ _=>by kernel_rfl)
theorem x_a1.ok0 (K:Nat) (a0:x_ar) (a1:Int):x_a1.g0 K a0 a1=x_a1.l0 K a0 a1:=
 funext (lpe1 (fun _=>by kernel_rfl) fun n q0=>(show x_a1.g0 K a0 a1 (n+1) q0=x_a1.l0b K a0 a1 (x_a1.g0 K a0 a1 n) (x_a1.g1 K a0 a1 K) q0 by kernel_rfl).trans (by rw [x_a1.ok1]<;>rfl))
theorem o185 (K:Nat):FOk PP 185 (B185 K).F:=bok mixed Tryz.func185 fun v=>by
 have e:(B185 K).run v=x_a1.b K v.1 v.2.1 (x_a1.g0 K v.1 v.2.1 K):=by kernel_rfl
 rw [x_a1.ok0] at e
 exact e.trans (by kernel_rfl)
noncomputable def B111 (K:Nat):Bd PP:=⟨⟨[va x_bz 0],[ro .b 0],[],u1 (x_il K),false⟩,cn o20<|cn (o117 K) tt,hn [2,4],K,Tryz.f111,[.tmp 2]⟩
theorem o111 (K:Nat):FOk PP 111 (B111 K).F:=bok mixed Tryz.func111
noncomputable def B114 (K:Nat):Bd PP:=⟨⟨[va x_bt 0,va x_dg 337],[ro .b 0],[],u2 (x_ao K),false⟩,cn o58<|cn o20<|cn (o183 K)<|cn (o184 K)<|cn (o185 K)<|cn (o111 K) tt,hn [12,562949953421324,16,44,9007199254741036,44,4611686018427387948,16,76,18446744073709551692,76,37778931862957161709644,16,136,151115727451828646838408,136,39614081257132168796771975304,16,16],K,Tryz.f114,[.tmp 4]⟩
noncomputable def x_ao.g0 (K:Nat) (a0:x_d) (a1:x_ai) (n:Nat) (q0:Int):Option y11:=
 lq (B114 K) (dirs 5 1381) n ⟨[.dead, .dead,vt 2 1 0,vt 3 1 0, .dead,vi q0]++dd 90,[none,none,bv x_bt 0 a0,bv x_dg 337 a1]++dn 94⟩
noncomputable def x_ao.g1 (K:Nat) (a0:x_d) (a1:x_ai) (n:Nat) (q1:Int):Option y11:=
 lq (B114 K) (dirs 6 6906) n ⟨[.dead, .dead,vt 2 1 0,vt 3 1 0, .dead, .dead,vi q1]++dd 89,[none,none,bv x_bt 0 a0,bv x_dg 337 a1]++dn 94⟩
noncomputable def x_ao.g2 (K:Nat) (a0:x_d) (a1:x_ai) (n:Nat) (q2:Int):Option y11:=
 lq (B114 K) (dirs 7 34531) n ⟨dd 3++[vt 3 1 0]++dd 3++[vi q2]++dd 88,dn 3++[bv x_dg 337 a1]++dn 94⟩
theorem x_ao.ok2 (K:Nat) (a0:x_d) (a1:x_ai):x_ao.g2 K a0 a1=x_ao.l2 K a0 a1:=
 funext (lpe1 (fun _=>by kernel_rfl) fun _ _=>by kernel_rfl)
theorem x_ao.ok1 (K:Nat) (a0:x_d) (a1:x_ai):x_ao.g1 K a0 a1=x_ao.l1 K a0 a1:=
 funext (lpe1 (fun _=>by kernel_rfl) fun n q1=>(show x_ao.g1 K a0 a1 (n+1) q1=x_ao.l1b K a0 a1 (x_ao.g1 K a0 a1 n) (x_ao.g2 K a0 a1 K) q1 by kernel_rfl).trans (by rw [x_ao.ok2]<;>rfl))
theorem x_ao.ok0 (K:Nat) (a0:x_d) (a1:x_ai):x_ao.g0 K a0 a1=x_ao.l0 K a0 a1:=
 funext (lpe1 (fun _=>by kernel_rfl) fun n q0=>(show x_ao.g0 K a0 a1 (n+1) q0=x_ao.l0b K a0 a1 (x_ao.g0 K a0 a1 n) (x_ao.g1 K a0 a1 K) q0 by kernel_rfl).trans (by rw [x_ao.ok1]<;>rfl))
theorem o114 (K:Nat):FOk PP 114 (B114 K).F:=bok mixed Tryz.func114 fun v=>by
 have e:(B114 K).run v=x_ao.b K v.1 v.2.1 (x_ao.g0 K v.1 v.2.1 K):=by kernel_rfl
 rw [x_ao.ok0] at e
 exact e.trans (by kernel_rfl)
noncomputable def B112 (K:Nat):Bd PP:=⟨⟨[va x_bt 0,va x_it 81972],[ro .b 0],[],u2 (x_jx K),false⟩,cn o113<|cn o20<|cn (o182 K)<|cn (o114 K) tt,hn [12,76,16],K,Tryz.f112,[.tmp 4]⟩
theorem o112 (K:Nat):FOk PP 112 (B112 K).F:=bok mixed Tryz.func112
noncomputable def B116 (K:Nat):Bd PP:=⟨⟨[vo (.sl x_dp) 1,vo (.i .i64) 0],[ro .b 0],[],u2 (x_ds K),false⟩,cn o20<|cn (o62 K) tt,hn [3,35,547,35,268435491,16,16],K,Tryz.f116,[.tmp 4]⟩
noncomputable def x_ds.g0 (K:Nat) (a0:y14) (a1:Int) (n:Nat) (q0:Int):Option y11:=
 lq (B116 K) (dirs 4 276) n ⟨[vl x_dp 1 a0,vi a1]++dd 3++[vi q0]++dd 26,dn 34⟩
theorem x_ds.ok0 (K:Nat) (a0:y14) (a1:Int):x_ds.g0 K a0 a1=x_ds.l0 K a0 a1:=
 funext (lpe1 (fun _=>by kernel_rfl) fun _ _=>by kernel_rfl)
theorem o116 (K:Nat):FOk PP 116 (B116 K).F:=bok mixed Tryz.func116 fun v=>by
 have e:(B116 K).run v=x_ds.b K v.1 v.2.1 (x_ds.g0 K v.1 v.2.1 K):=by kernel_rfl
 rw [x_ds.ok0] at e
 exact e.trans (by kernel_rfl)
noncomputable def B61 (K:Nat):Bd PP:=⟨⟨[va eRpc 2187,vo (.i .i64) 0],[ro .b 0],[],u2 (x_n2 K),false⟩,cn o20<|cn (o116 K) tt,hn [6,68719476740,16,16],K,Tryz.f61,[.tmp 4]⟩
theorem o61 (K:Nat):FOk PP 61 (B61 K).F:=bok mixed Tryz.func61
noncomputable def B115:Bd PP:=⟨⟨[va x_ty 1],[ro .b 0],[],u1 x_j9,false⟩,cn o20 tt,hn [2,4],0,Tryz.f115,[.tmp 2]⟩
theorem o115:FOk PP 115 B115.F:=bok mixed Tryz.func115
noncomputable def B60 (K:Nat):Bd PP:=⟨⟨[va x_bt 0,va x_gb 984972995316,vo (.i .i64) 0],[ro .b 0],[],u3 (x_as K),false⟩,cn o20<|cn (o112 K)<|cn o113<|cn (o61 K)<|cn (o114 K)<|cn o115 tt,hn [28,4611686018427387932,64,156,668,4722366482869645214364,668,9903520314283042199192994460,64,1180,316912650057057350374175802524,1180,664613997892457936451903530140173468,64,64],K,Tryz.f60,[.tmp 6]⟩
noncomputable def x_as.g0 (K:Nat) (a0:x_d) (a1:x_bq) (a2:Int) (n:Nat) (v5:y29) (q0:Int):Option y11:=
 lq (B60 K) (dirs 6 6906) n ⟨[.dead, .dead,vi a2,vt 3 1 0,vt 4 1 0, .dead, .dead,vi v5.1, .dead,vi q0]++dd 135,dn 3++[bv x_bt 0 a0,bv x_gb 984972995316 a1]++dn 143⟩
noncomputable def x_as.g1 (K:Nat) (a0:x_d) (a1:x_bq) (a2:Int) (n:Nat) (v5:y29) (q1:Int):Option y11:=
 lq (B60 K) (dirs 7 34531) n ⟨[.dead, .dead,vi a2,vt 3 1 0,vt 4 1 0, .dead, .dead,vi v5.1, .dead, .dead,vi q1]++dd 134,dn 3++[bv x_bt 0 a0,bv x_gb 984972995316 a1]++dn 143⟩
theorem x_as.ok1 (K:Nat) (a0:x_d) (a1:x_bq) (a2:Int):x_as.g1 K a0 a1 a2=x_as.l1 K a0 a1 a2:=
 funext (lpe2 (fun _ _=>by kernel_rfl) fun _ _ _=>by kernel_rfl)
theorem x_as.ok0 (K:Nat) (a0:x_d) (a1:x_bq) (a2:Int):x_as.g0 K a0 a1 a2=x_as.l0 K a0 a1 a2:=
 funext (lpe2 (fun _ _=>by kernel_rfl) fun n v5 q0=>(show x_as.g0 K a0 a1 a2 (n+1) v5 q0=x_as.l0b K a0 a1 a2 (x_as.g0 K a0 a1 a2 n) (x_as.g1 K a0 a1 a2 K) v5 q0 by kernel_rfl).trans (by rw [x_as.ok1]<;>rfl))
theorem o60 (K:Nat):FOk PP 60 (B60 K).F:=bok mixed Tryz.func60 fun v=>by
 have e:(B60 K).run v=x_as.b K v.1 v.2.1 v.2.2.1 (x_as.g0 K v.1 v.2.1 v.2.2.1 K):=by kernel_rfl
 rw [x_as.ok0] at e
 exact e.trans (by kernel_rfl)
noncomputable def B215 (K:Nat):Bd PP:=⟨⟨[va x_bt 0,vo (.i .i64) 0,vo (.i .i64) 0],[ra x_gb 1969945990632,ro .b 0],[],u3 (x_m9 K),false⟩,cn o58<|cn o20<|cn (o218 K)<|cn (o264 K)<|cn (o216 K)<|cn (o60 K) tt,hn [78,65614,192,332,17179869504,192,192],K,Tryz.f215,[.cell 6 58, .tmp 7]⟩
theorem o215 (K:Nat):FOk PP 215 (B215 K).F:=bok mixed Tryz.func215
noncomputable def B146 (K:Nat):Bd PP:=⟨⟨[va x_bt 0,vo (.i .i64) 0],[ra x_be 176904,ro .b 0],[],u2 (x_b8 K),false⟩,cn o58<|cn o20<|cn (o215 K) tt,hn [22,131094,48,86,214,67109078,214,982,137438953942,48,214,48],K,Tryz.f146,[.cell 4 32, .tmp 5]⟩
noncomputable def x_b8.g0 (K:Nat) (a0:x_d) (a1:Int) (n:Nat) (q0:Int) (q1:y6):Option y47:=
 lq (B146 K) (dirs 6 6906) n ⟨[.dead,vi a1,vt 2 1 0, .dead,vt 4 1 0, .dead,vt 6 1 0,vi q0]++dd 38,[none,none,bv x_bt 0 a0,none,bv x_be 176904 ((0,0,0,0),0,[],[],[],[],[],[]),none,bv x_be 176904 (a0,a1,q1,[],List.replicate 4 zCmd,List.replicate 4 0,[],[])]++dn 41⟩
theorem x_b8.ok0 (K:Nat) (a0:x_d) (a1:Int):x_b8.g0 K a0 a1=x_b8.l0 K a0 a1:=
 funext (lpe2 (fun _ _=>by kernel_rfl) fun _ _ _=>by kernel_rfl)
theorem o146 (K:Nat):FOk PP 146 (B146 K).F:=bok mixed Tryz.func146 fun v=>by
 have e:(B146 K).run v=x_b8.b K v.1 v.2.1 (x_b8.g0 K v.1 v.2.1 K):=by kernel_rfl
 rw [x_b8.ok0] at e
 exact e.trans (by kernel_rfl)
noncomputable def B36:Bd PP:=⟨⟨[vo (.i .i64) 0,vo (.i .i64) 0],[ro (.i .i64) 0],[],u2 x_gp,false⟩,tt,hn [3,131,19,19],0,Tryz.f36,[.tmp 4]⟩
theorem o36:FOk PP 36 B36.F:=bok mixed Tryz.func36
noncomputable def B81:Bd PP:=⟨⟨[vp x_ei 0,vo (.sl .s) 1],[ro .s 0],[],u2 x_lj,false⟩,cn o30 tt,hn [3,17],0,Tryz.f81,[.tmp 4]⟩
theorem o81:FOk PP 81 B81.F:=bok mixed Tryz.func81
noncomputable def B84:Bd PP:=⟨⟨[vp x_ei 0],[ro .s 0],[],u1 x_fa,false⟩,cn o81 tt,hn [1,5],0,Tryz.f84,[.tmp 2]⟩
theorem o84:FOk PP 84 B84.F:=bok mixed Tryz.func84
noncomputable def B37:Bd PP:=⟨⟨[vp x_ei 0],[ra eCmd 0],[],u1 x_e8,false⟩,cn o35<|cn o30<|cn o84 tt,hn [5,13,32781,98317,13,13,13,268435469,13,5],0,Tryz.f37,[.cell 2 34]⟩
theorem o37:FOk PP 37 B37.F:=bok mixed Tryz.func37
noncomputable def B38:Bd PP:=⟨⟨[vp x_ei 0,vo (.i .i64) 0],[ro .b 0],[],u2 x_ii,false⟩,cn o30 tt,hn [3,17],0,Tryz.f38,[.tmp 4]⟩
theorem o38:FOk PP 38 B38.F:=bok mixed Tryz.func38
end Go.Proofs.YtjfnlbdnfglmfaaGreat.Cu
