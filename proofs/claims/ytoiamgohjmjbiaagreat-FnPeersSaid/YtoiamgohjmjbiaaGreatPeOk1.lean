/- The functions compute what is told of them. -/
import Derived.Test.YtoiamgohjmjbiaaGreatPeOk0
set_option linter.all false
set_option maxRecDepth 100000
namespace Go.Proofs.YtoiamgohjmjbiaaGreat.Pe
open Go Go.Kn
noncomputable def B66 (K:Nat):Bd PP:=⟨⟨[va eRow 9],[ro .b 0],[],u1 (x_d8 K),false⟩,cn o20<|cn (o105 K) tt,hn [2,2097154,4,58720258,125829122,58720282,302231454903657352396802,4,58720258,4],K,Tryz.f66,[.tmp 2]⟩
noncomputable def x_d8.g0 (K:Nat) (a0:TRow) (n:Nat) (q0:Int):Option y11:=
 lq (B66 K) (dirs 5 1381) n ⟨[.dead,vt 1 1 0]++dd 21++[vl x_sp 1 a0.2.2,vi (a0.2.2.length:Int),vi q0]++dd 54,[none,bv eRow 9 a0]++dn 79⟩
theorem x_d8.ok0 (K:Nat) (a0:TRow):x_d8.g0 K a0=x_d8.l0 K a0:=
 funext (lpe1 (fun _=>by kernel_rfl) fun _ _=>by kernel_rfl)
theorem o66 (K:Nat):FOk PP 66 (B66 K).F:=bok mixed Tryz.func66 fun v=>by
 have e:(B66 K).run v=x_d8.b K v.1 (x_d8.g0 K v.1 K):=by kernel_rfl
 rw [x_d8.ok0] at e
 exact e.trans (by kernel_rfl)
noncomputable def B65 (K:Nat):Bd PP:=⟨⟨[va eRow 9],[ro .b 0],[],u1 (x_ly K),false⟩,cn (o66 K) tt,hn [2,4],K,Tryz.f65,[.tmp 2]⟩
theorem o65 (K:Nat):FOk PP 65 (B65 K).F:=bok mixed Tryz.func65
noncomputable def B104 (K:Nat):Bd PP:=⟨⟨[vo (.sl eRow) 1],[ro (.i .i64) 0],[.one, .fn 65 0],u1 (x_s K),false⟩,cn (o65 K) tt,hn [3,387,899,419,65955,16,387,16],K,Tryz.f104,[.tmp 4]⟩
noncomputable def x_s.g0 (K:Nat) (a0:y3) (n:Nat) (q0:Int):Option y6:=
 lq (B104 K) (dirs 4 276) n ⟨[vl eRow 1 a0, .fn 65 []]++dd 5++[vi (a0.length:Int),vi q0]++dd 10,dn 20⟩
theorem x_s.ok0 (K:Nat) (a0:y3):x_s.g0 K a0=x_s.l0 K a0:=
 funext (lpe1 (fun _=>by kernel_rfl) fun _ _=>by kernel_rfl)
theorem o104 (K:Nat):FOk PP 104 (B104 K).F:=bok mixed Tryz.func104 fun v=>by
 have e:(B104 K).run v=x_s.b K v.1 (x_s.g0 K v.1 K):=by kernel_rfl
 rw [x_s.ok0] at e
 exact e.trans (by kernel_rfl)
noncomputable def B64 (K:Nat):Bd PP:=⟨⟨[vo (.sl eRow) 1],[ro .b 0],[.one, .fn 65 0],u1 (x_bz K),false⟩,cg 65 (o104 K) tt,hn [3,16],K,Tryz.f64,[.tmp 4]⟩
theorem o64 (K:Nat):FOk PP 64 (B64 K).F:=bok mixed Tryz.func64
noncomputable def B107:Bd PP:=⟨⟨[vo (.i .i64) 0],[ro .b 0],[],u1 x_nc,false⟩,cn o20 tt,hn [1,4],0,Tryz.f107,[.tmp 2]⟩
theorem o107:FOk PP 107 B107.F:=bok mixed Tryz.func107
noncomputable def B69 (K:Nat):Bd PP:=⟨⟨[va x_a2 39,vo (.i .i64) 0],[ro .b 0],[],u2 (x_by K),false⟩,cn o107<|cn o20<|cn (o34 K) tt,hn [6,1798,3846,1894,2147485446,16,1798,16],K,Tryz.f69,[.tmp 4]⟩
noncomputable def x_by.g0 (K:Nat) (a0:x_ag) (a1:Int) (n:Nat) (q0:Int):Option y11:=
 lq (B69 K) (dirs 4 276) n ⟨[.dead,vi a1,vt 2 1 0]++dd 5++[vl (.i .i64) 1 a0.2.1,vi (a0.2.1.length:Int),vi q0]++dd 51,[none,none,bv x_a2 39 a0]++dn 61⟩
theorem x_by.ok0 (K:Nat) (a0:x_ag) (a1:Int):x_by.g0 K a0 a1=x_by.l0 K a0 a1:=
 funext (lpe1 (fun _=>by kernel_rfl) fun _ _=>by kernel_rfl)
theorem o69 (K:Nat):FOk PP 69 (B69 K).F:=bok mixed Tryz.func69 fun v=>by
 have e:(B69 K).run v=x_by.b K v.1 v.2.1 (x_by.g0 K v.1 v.2.1 K):=by kernel_rfl
 rw [x_by.ok0] at e
 exact e.trans (by kernel_rfl)
noncomputable def B68 (K:Nat):Bd PP:=⟨⟨[va x_a2 39,vp x_a6 0],[ro .b 0],[],u2 (x_l4 K),false⟩,cn (o69 K) tt,hn [6,10],K,Tryz.f68,[.tmp 3]⟩
theorem o68 (K:Nat):FOk PP 68 (B68 K).F:=bok mixed Tryz.func68
noncomputable def B106 (K:Nat):Bd PP:=⟨⟨[vo (.sl x_a2) 1,vp x_a6 0],[ro (.i .i64) 0],[.one, .fn 68 1],u2 (x_u K),false⟩,cn (o68 K) tt,hn [3,387,899,419,65955,18,387,18],K,Tryz.f106,[.tmp 4]⟩
noncomputable def x_u.g0 (K:Nat) (a0:y12) (a1:x_e) (n:Nat) (q0:Int) (q1:x_e):Option y40:=
 lq (B106 K) (dirs 4 276) n ⟨[vl x_a2 1 a0, .fn 68 [.one (.ptr 1 0 0)]]++dd 5++[vi (a0.length:Int),vi q0]++dd 10,[none,some (0,[.val .f (.i .i64) q1.1, .val .f (.i .i64) q1.2.1, .val .f (.i .i64) q1.2.2.1, .val .f (.i .i64) q1.2.2.2])]++dn 19⟩
theorem x_u.ok0 (K:Nat) (a0:y12) (a1:x_e):x_u.g0 K a0 a1=x_u.l0 K a0 a1:=
 funext (lpe2 (fun _ _=>by kernel_rfl) fun _ _ _=>by kernel_rfl)
theorem o106 (K:Nat):FOk PP 106 (B106 K).F:=bok mixed Tryz.func106 fun v=>by
 have e:(B106 K).run v=x_u.b K v.1 v.2.1 (x_u.g0 K v.1 v.2.1 K):=by kernel_rfl
 rw [x_u.ok0] at e
 exact e.trans (by kernel_rfl)
noncomputable def B67 (K:Nat):Bd PP:=⟨⟨[vo (.sl x_a2) 1,vp x_a6 0],[ro .b 0],[.one, .fn 68 1],u2 (x_b4 K),false⟩,cg 68 (o106 K) tt,hn [3,18],K,Tryz.f67,[.tmp 4]⟩
theorem o67 (K:Nat):FOk PP 67 (B67 K).F:=bok mixed Tryz.func67
noncomputable def B72 (K:Nat):Bd PP:=⟨⟨[va x_bl 0],[ro .b 0],[],u1 (x_jw K),false⟩,cn o20<|cn (o105 K) tt,hn [2,4],K,Tryz.f72,[.tmp 2]⟩
theorem o72 (K:Nat):FOk PP 72 (B72 K).F:=bok mixed Tryz.func72
noncomputable def B71 (K:Nat):Bd PP:=⟨⟨[va x_bl 0],[ro .b 0],[],u1 (x_l2 K),false⟩,cn (o72 K) tt,hn [2,4],K,Tryz.f71,[.tmp 2]⟩
theorem o71 (K:Nat):FOk PP 71 (B71 K).F:=bok mixed Tryz.func71
noncomputable def B108 (K:Nat):Bd PP:=⟨⟨[vo (.sl x_bl) 1],[ro (.i .i64) 0],[.one, .fn 71 0],u1 (x_v K),false⟩,cn (o71 K) tt,hn [3,387,899,419,65955,16,387,16],K,Tryz.f108,[.tmp 4]⟩
noncomputable def x_v.g0 (K:Nat) (a0:y19) (n:Nat) (q0:Int):Option y6:=
 lq (B108 K) (dirs 4 276) n ⟨[vl x_bl 1 a0, .fn 71 []]++dd 5++[vi (a0.length:Int),vi q0]++dd 10,dn 20⟩
theorem x_v.ok0 (K:Nat) (a0:y19):x_v.g0 K a0=x_v.l0 K a0:=
 funext (lpe1 (fun _=>by kernel_rfl) fun _ _=>by kernel_rfl)
theorem o108 (K:Nat):FOk PP 108 (B108 K).F:=bok mixed Tryz.func108 fun v=>by
 have e:(B108 K).run v=x_v.b K v.1 (x_v.g0 K v.1 K):=by kernel_rfl
 rw [x_v.ok0] at e
 exact e.trans (by kernel_rfl)
noncomputable def B70 (K:Nat):Bd PP:=⟨⟨[vo (.sl x_bl) 1],[ro .b 0],[.one, .fn 71 0],u1 (x_b0 K),false⟩,cg 71 (o108 K) tt,hn [3,16],K,Tryz.f70,[.tmp 4]⟩
theorem o70 (K:Nat):FOk PP 70 (B70 K).F:=bok mixed Tryz.func70
noncomputable def B35 (K:Nat):Bd PP:=⟨⟨[va x_a6 0,va x_c7 337],[ro .b 0],[],u2 (x_cs K),false⟩,cn o51<|cn o20<|cn (o34 K)<|cn (o63 K)<|cg 65 (o64 K)<|cg 68 (o67 K)<|cg 71 (o70 K) tt,hn [12,1125899906842636,16,31525197391593484,67553994410557452,31525197391593580,1180623145914802897004,16,324518553658426758308353412169740,16,31525197391593484,140,392,896,16],K,Tryz.f35,[.tmp 4]⟩
noncomputable def x_cs.g0 (K:Nat) (a0:x_e) (a1:x_as) (n:Nat) (q0:Int):Option y11:=
 lq (B35 K) (dirs 5 1381) n ⟨[.dead, .dead,vt 2 1 0,vt 3 1 0]++dd 48++[vl x_bf 1 a1.2.1,vi (a1.2.1.length:Int),vi q0]++dd 75,[none,none,bv x_a6 0 a0,bv x_c7 337 a1]++dn 128⟩
theorem x_cs.ok0 (K:Nat) (a0:x_e) (a1:x_as):x_cs.g0 K a0 a1=x_cs.l0 K a0 a1:=
 funext (lpe1 (fun _=>by kernel_rfl) fun _ _=>by kernel_rfl)
theorem o35 (K:Nat):FOk PP 35 (B35 K).F:=bok mixed Tryz.func35 fun v=>by
 have e:(B35 K).run v=x_cs.b K v.1 v.2.1 (x_cs.g0 K v.1 v.2.1 K):=by kernel_rfl
 rw [x_cs.ok0] at e
 exact e.trans (by kernel_rfl)
noncomputable def B32 (K:Nat):Bd PP:=⟨⟨[va x_a6 0,va x_il 81972],[ro .b 0],[],u2 (x_iw K),false⟩,cn o59<|cn o20<|cn (o60 K)<|cn (o35 K) tt,hn [12,76,16],K,Tryz.f32,[.tmp 4]⟩
theorem o32 (K:Nat):FOk PP 32 (B32 K).F:=bok mixed Tryz.func32
noncomputable def B33:Bd PP:=⟨⟨[va eLog 9],[ro (.i .i64) 0],[],u1 i_last,false⟩,tt,hn [2,4],0,Tryz.f33,[.tmp 2]⟩
theorem o33:FOk PP 33 B33.F:=bok mixed Tryz.func33
noncomputable def B36:Bd PP:=⟨⟨[va x_vb 1],[ro .b 0],[],u1 x_oz,false⟩,cn o20 tt,hn [2,4],0,Tryz.f36,[.tmp 2]⟩
theorem o36:FOk PP 36 B36.F:=bok mixed Tryz.func36
noncomputable def B75 (K:Nat):Bd PP:=⟨⟨[va x_cv 0,vp eRpc 0],[ro .b 0],[],u2 (x_oj K),false⟩,cn o20<|cn (o76 K) tt,hn [6,10],K,Tryz.f75,[.tmp 3]⟩
theorem o75 (K:Nat):FOk PP 75 (B75 K).F:=bok mixed Tryz.func75
noncomputable def B109 (K:Nat):Bd PP:=⟨⟨[vo (.sl x_cv) 1,vp eRpc 0],[ro (.i .i64) 0],[.one, .fn 75 1],u2 (x_x K),false⟩,cn (o75 K) tt,hn [3,387,899,419,65955,18,387,18],K,Tryz.f109,[.tmp 4]⟩
noncomputable def x_x.g0 (K:Nat) (a0:y13) (a1:TRpc) (n:Nat) (q0:Int) (q1:TRpc):Option y31:=
 lq (B109 K) (dirs 4 276) n ⟨[vl x_cv 1 a0, .fn 75 [.one (.ptr 1 0 0)]]++dd 5++[vi (a0.length:Int),vi q0]++dd 10,[none,some (0,[.val .f (.i .i64) q1.1, .val .f (.i .i64) q1.2.1, .val .f (.i .i64) q1.2.2.1, .val .f (.i .i64) q1.2.2.2.1, .val .f (.i .i64) q1.2.2.2.2.1, .val .f (.i .i64) q1.2.2.2.2.2.1, .val .f (.i .i64) q1.2.2.2.2.2.2.1, .val .f (.sl x_cv) q1.2.2.2.2.2.2.2.1, .val .f .b q1.2.2.2.2.2.2.2.2.1, .val .f .s q1.2.2.2.2.2.2.2.2.2])]++dn 19⟩
theorem x_x.ok0 (K:Nat) (a0:y13) (a1:TRpc):x_x.g0 K a0 a1=x_x.l0 K a0 a1:=
 funext (lpe2 (fun _ _=>by kernel_rfl) fun _ _ _=>by kernel_rfl)
theorem o109 (K:Nat):FOk PP 109 (B109 K).F:=bok mixed Tryz.func109 fun v=>by
 have e:(B109 K).run v=x_x.b K v.1 v.2.1 (x_x.g0 K v.1 v.2.1 K):=by kernel_rfl
 rw [x_x.ok0] at e
 exact e.trans (by kernel_rfl)
end Go.Proofs.YtoiamgohjmjbiaaGreat.Pe
