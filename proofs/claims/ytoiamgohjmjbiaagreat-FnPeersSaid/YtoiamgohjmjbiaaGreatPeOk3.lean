/- The functions compute what is told of them. -/
import Derived.Test.YtoiamgohjmjbiaaGreatPeOk2
set_option linter.all false
set_option maxRecDepth 100000
namespace Go.Proofs.YtoiamgohjmjbiaaGreat.Pe
open Go Go.Kn
noncomputable def B79 (K:Nat):Bd PP:=⟨⟨[va x_a6 0,vo (.sl x_bf) 1],[ro .b 0],[],u2 (x_bg K),false⟩,cn (o111 K) tt,hn [6,38,1062,38,102,268435558,16,9223372036854775846,16,16],K,Tryz.f79,[.tmp 4]⟩
noncomputable def x_bg.g0 (K:Nat) (a0:x_e) (a1:y14) (n:Nat) (q0:Int):Option y11:=
 lq (B79 K) (dirs 4 276) n ⟨[.dead,vl x_bf 1 a1,vt 2 1 0, .dead, .dead,vi q0]++dd 58,[none,none,bv x_a6 0 a0]++dn 63⟩
theorem x_bg.ok0 (K:Nat) (a0:x_e) (a1:y14):x_bg.g0 K a0 a1=x_bg.l0 K a0 a1:=
 funext (lpe1 (fun _=>by kernel_rfl) fun _ _=>by kernel_rfl)
theorem o79 (K:Nat):FOk PP 79 (B79 K).F:=bok mixed Tryz.func79 fun v=>by
 have e:(B79 K).run v=x_bg.b K v.1 v.2.1 (x_bg.g0 K v.1 v.2.1 K):=by kernel_rfl
 rw [x_bg.ok0] at e
 exact e.trans (by kernel_rfl)
noncomputable def B112 (K:Nat):Bd PP:=⟨⟨[va x_sp 0],[ro .b 0],[],u1 (x_oq K),false⟩,cn (o113 K)<|cn o25 tt,hn [2,4],K,Tryz.f112,[.tmp 2]⟩
theorem o112 (K:Nat):FOk PP 112 (B112 K).F:=bok mixed Tryz.func112
noncomputable def B80 (K:Nat):Bd PP:=⟨⟨[va eRow 9],[ro .b 0],[],u1 (x_dj K),false⟩,cn (o112 K)<|cn o25 tt,hn [2,10,266,10,4503599627370506,4,4],K,Tryz.f80,[.tmp 2]⟩
noncomputable def x_dj.g0 (K:Nat) (a0:TRow) (n:Nat) (q0:Int):Option y11:=
 lq (B80 K) (dirs 4 276) n ⟨[.dead,vt 1 1 0, .dead,vi q0]++dd 65,[none,bv eRow 9 a0]++dn 68⟩
theorem x_dj.ok0 (K:Nat) (a0:TRow):x_dj.g0 K a0=x_dj.l0 K a0:=
 funext (lpe1 (fun _=>by kernel_rfl) fun _ _=>by kernel_rfl)
theorem o80 (K:Nat):FOk PP 80 (B80 K).F:=bok mixed Tryz.func80 fun v=>by
 have e:(B80 K).run v=x_dj.b K v.1 (x_dj.g0 K v.1 K):=by kernel_rfl
 rw [x_dj.ok0] at e
 exact e.trans (by kernel_rfl)
noncomputable def B81 (K:Nat):Bd PP:=⟨⟨[va x_a2 39,vo (.i .i64) 0],[ro .b 0],[],u2 (x_aj K),false⟩,cn o25 tt,hn [6,67108868,16,36,2147483684,36,147573952589676412964,16,68,4722366482869645213764,68,2417851639229258349412420,16,16],K,Tryz.f81,[.tmp 4]⟩
noncomputable def x_aj.g0 (K:Nat) (a0:x_ag) (a1:Int) (n:Nat) (q0:Int):Option y11:=
 lq (B81 K) (dirs 5 1381) n ⟨[.dead, .dead,vt 2 1 0, .dead, .dead,vi q0]++dd 76,[none,none,bv x_a2 39 a0]++dn 81⟩
noncomputable def x_aj.g1 (K:Nat) (a0:x_ag) (a1:Int) (n:Nat) (q1:Int):Option y11:=
 lq (B81 K) (dirs 6 6906) n ⟨[.dead, .dead,vt 2 1 0]++dd 3++[vi q1]++dd 75,[none,none,bv x_a2 39 a0]++dn 81⟩
theorem x_aj.ok1 (K:Nat) (a0:x_ag) (a1:Int):x_aj.g1 K a0 a1=x_aj.l1 K a0 a1:=
 funext (lpe1 (fun _=>by kernel_rfl) fun _ _=>by kernel_rfl)
theorem x_aj.ok0 (K:Nat) (a0:x_ag) (a1:Int):x_aj.g0 K a0 a1=x_aj.l0 K a0 a1:=
 funext (lpe1 (fun _=>by kernel_rfl) fun n q0=>(show x_aj.g0 K a0 a1 (n+1) q0=x_aj.l0b K a0 a1 (x_aj.g0 K a0 a1 n) (x_aj.g1 K a0 a1 K) q0 by kernel_rfl).trans (by rw [x_aj.ok1]<;>rfl))
theorem o81 (K:Nat):FOk PP 81 (B81 K).F:=bok mixed Tryz.func81 fun v=>by
 have e:(B81 K).run v=x_aj.b K v.1 v.2.1 (x_aj.g0 K v.1 v.2.1 K):=by kernel_rfl
 rw [x_aj.ok0] at e
 exact e.trans (by kernel_rfl)
noncomputable def B82 (K:Nat):Bd PP:=⟨⟨[va x_bl 0],[ro .b 0],[],u1 (x_ji K),false⟩,cn o25<|cn (o113 K) tt,hn [2,4],K,Tryz.f82,[.tmp 2]⟩
theorem o82 (K:Nat):FOk PP 82 (B82 K).F:=bok mixed Tryz.func82
noncomputable def B43 (K:Nat):Bd PP:=⟨⟨[va x_a6 0,va x_c7 337],[ro .b 0],[],u2 (x_aa K),false⟩,cn o24<|cn o25<|cn (o79 K)<|cn (o80 K)<|cn (o81 K)<|cn (o82 K) tt,hn [12,562949953421324,16,44,9007199254741036,44,4611686018427387948,16,76,18446744073709551692,76,37778931862957161709644,16,136,151115727451828646838408,136,39614081257132168796771975304,16,16],K,Tryz.f43,[.tmp 4]⟩
noncomputable def x_aa.g0 (K:Nat) (a0:x_e) (a1:x_as) (n:Nat) (q0:Int):Option y11:=
 lq (B43 K) (dirs 5 1381) n ⟨[.dead, .dead,vt 2 1 0,vt 3 1 0, .dead,vi q0]++dd 90,[none,none,bv x_a6 0 a0,bv x_c7 337 a1]++dn 94⟩
noncomputable def x_aa.g1 (K:Nat) (a0:x_e) (a1:x_as) (n:Nat) (q1:Int):Option y11:=
 lq (B43 K) (dirs 6 6906) n ⟨[.dead, .dead,vt 2 1 0,vt 3 1 0, .dead, .dead,vi q1]++dd 89,[none,none,bv x_a6 0 a0,bv x_c7 337 a1]++dn 94⟩
noncomputable def x_aa.g2 (K:Nat) (a0:x_e) (a1:x_as) (n:Nat) (q2:Int):Option y11:=
 lq (B43 K) (dirs 7 34531) n ⟨dd 3++[vt 3 1 0]++dd 3++[vi q2]++dd 88,dn 3++[bv x_c7 337 a1]++dn 94⟩
theorem x_aa.ok2 (K:Nat) (a0:x_e) (a1:x_as):x_aa.g2 K a0 a1=x_aa.l2 K a0 a1:=
 funext (lpe1 (fun _=>by kernel_rfl) fun _ _=>by kernel_rfl)
theorem x_aa.ok1 (K:Nat) (a0:x_e) (a1:x_as):x_aa.g1 K a0 a1=x_aa.l1 K a0 a1:=
 funext (lpe1 (fun _=>by kernel_rfl) fun n q1=>(show x_aa.g1 K a0 a1 (n+1) q1=x_aa.l1b K a0 a1 (x_aa.g1 K a0 a1 n) (x_aa.g2 K a0 a1 K) q1 by kernel_rfl).trans (by rw [x_aa.ok2]<;>rfl))
theorem x_aa.ok0 (K:Nat) (a0:x_e) (a1:x_as):x_aa.g0 K a0 a1=x_aa.l0 K a0 a1:=
 funext (lpe1 (fun _=>by kernel_rfl) fun n q0=>(show x_aa.g0 K a0 a1 (n+1) q0=x_aa.l0b K a0 a1 (x_aa.g0 K a0 a1 n) (x_aa.g1 K a0 a1 K) q0 by kernel_rfl).trans (by rw [x_aa.ok1]<;>rfl))
theorem o43 (K:Nat):FOk PP 43 (B43 K).F:=bok mixed Tryz.func43 fun v=>by
 have e:(B43 K).run v=x_aa.b K v.1 v.2.1 (x_aa.g0 K v.1 v.2.1 K):=by kernel_rfl
 rw [x_aa.ok0] at e
 exact e.trans (by kernel_rfl)
noncomputable def B40 (K:Nat):Bd PP:=⟨⟨[va x_a6 0,va x_il 81972],[ro .b 0],[],u2 (x_hx K),false⟩,cn o41<|cn o25<|cn (o77 K)<|cn (o43 K) tt,hn [12,76,16],K,Tryz.f40,[.tmp 4]⟩
theorem o40 (K:Nat):FOk PP 40 (B40 K).F:=bok mixed Tryz.func40
noncomputable def B78 (K:Nat):Bd PP:=⟨⟨[vo (.sl x_cv) 1,vo (.i .i64) 0],[ro .b 0],[],u2 (x_cx K),false⟩,cn o25<|cn (o110 K) tt,hn [3,35,547,35,268435491,16,16],K,Tryz.f78,[.tmp 4]⟩
noncomputable def x_cx.g0 (K:Nat) (a0:y13) (a1:Int) (n:Nat) (q0:Int):Option y11:=
 lq (B78 K) (dirs 4 276) n ⟨[vl x_cv 1 a0,vi a1]++dd 3++[vi q0]++dd 26,dn 34⟩
theorem x_cx.ok0 (K:Nat) (a0:y13) (a1:Int):x_cx.g0 K a0 a1=x_cx.l0 K a0 a1:=
 funext (lpe1 (fun _=>by kernel_rfl) fun _ _=>by kernel_rfl)
theorem o78 (K:Nat):FOk PP 78 (B78 K).F:=bok mixed Tryz.func78 fun v=>by
 have e:(B78 K).run v=x_cx.b K v.1 v.2.1 (x_cx.g0 K v.1 v.2.1 K):=by kernel_rfl
 rw [x_cx.ok0] at e
 exact e.trans (by kernel_rfl)
noncomputable def B42 (K:Nat):Bd PP:=⟨⟨[va eRpc 2187,vo (.i .i64) 0],[ro .b 0],[],u2 (x_n0 K),false⟩,cn o25<|cn (o78 K) tt,hn [6,68719476740,16,16],K,Tryz.f42,[.tmp 4]⟩
theorem o42 (K:Nat):FOk PP 42 (B42 K).F:=bok mixed Tryz.func42
noncomputable def B44:Bd PP:=⟨⟨[va x_vb 1],[ro .b 0],[],u1 x_iy,false⟩,cn o25 tt,hn [2,4],0,Tryz.f44,[.tmp 2]⟩
theorem o44:FOk PP 44 B44.F:=bok mixed Tryz.func44
noncomputable def B12 (K:Nat):Bd PP:=⟨⟨[va x_a6 0,va x_gj 984972995316,vo (.i .i64) 0],[ro .b 0],[],u3 (x_ac K),false⟩,cn o25<|cn (o40 K)<|cn o41<|cn (o42 K)<|cn (o43 K)<|cn o44 tt,hn [28,4611686018427387932,64,156,668,4722366482869645214364,668,9903520314283042199192994460,64,1180,316912650057057350374175802524,1180,664613997892457936451903530140173468,64,64],K,Tryz.f12,[.tmp 6]⟩
noncomputable def x_ac.g0 (K:Nat) (a0:x_e) (a1:x_cg) (a2:Int) (n:Nat) (v5:y27) (q0:Int):Option y11:=
 lq (B12 K) (dirs 6 6906) n ⟨[.dead, .dead,vi a2,vt 3 1 0,vt 4 1 0, .dead, .dead,vi v5.1, .dead,vi q0]++dd 135,dn 3++[bv x_a6 0 a0,bv x_gj 984972995316 a1]++dn 143⟩
noncomputable def x_ac.g1 (K:Nat) (a0:x_e) (a1:x_cg) (a2:Int) (n:Nat) (v5:y27) (q1:Int):Option y11:=
 lq (B12 K) (dirs 7 34531) n ⟨[.dead, .dead,vi a2,vt 3 1 0,vt 4 1 0, .dead, .dead,vi v5.1, .dead, .dead,vi q1]++dd 134,dn 3++[bv x_a6 0 a0,bv x_gj 984972995316 a1]++dn 143⟩
theorem x_ac.ok1 (K:Nat) (a0:x_e) (a1:x_cg) (a2:Int):x_ac.g1 K a0 a1 a2=x_ac.l1 K a0 a1 a2:=
 funext (lpe2 (fun _ _=>by kernel_rfl) fun _ _ _=>by kernel_rfl)
theorem x_ac.ok0 (K:Nat) (a0:x_e) (a1:x_cg) (a2:Int):x_ac.g0 K a0 a1 a2=x_ac.l0 K a0 a1 a2:=
 funext (lpe2 (fun _ _=>by kernel_rfl) fun n v5 q0=>(show x_ac.g0 K a0 a1 a2 (n+1) v5 q0=x_ac.l0b K a0 a1 a2 (x_ac.g0 K a0 a1 a2 n) (x_ac.g1 K a0 a1 a2 K) v5 q0 by kernel_rfl).trans (by rw [x_ac.ok1]<;>rfl))
theorem o12 (K:Nat):FOk PP 12 (B12 K).F:=bok mixed Tryz.func12 fun v=>by
 have e:(B12 K).run v=x_ac.b K v.1 v.2.1 v.2.2.1 (x_ac.g0 K v.1 v.2.1 v.2.2.1 K):=by kernel_rfl
 rw [x_ac.ok0] at e
 exact e.trans (by kernel_rfl)
noncomputable def B7 (K:Nat):Bd PP:=⟨⟨[va x_a6 0,vo (.i .i64) 0,vo (.i .i64) 0],[ra x_gj 1969945990632,ro .b 0],[],u3 (x_g9 K),false⟩,cn o24<|cn o25<|cn (o26 K)<|cn (o27 K)<|cn (o28 K)<|cn (o12 K) tt,hn [78,65614,192,332,17179869504,192,192],K,Tryz.f7,[.cell 6 45, .tmp 7]⟩
theorem o7 (K:Nat):FOk PP 7 (B7 K).F:=bok mixed Tryz.func7
end Go.Proofs.YtoiamgohjmjbiaaGreat.Pe
