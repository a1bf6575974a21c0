/- The functions compute what is told of them. -/
import Derived.Test.YtoiamgohjmjbiaaGreatPeOk17
set_option linter.all false
set_option maxRecDepth 100000
namespace Go.Proofs.YtoiamgohjmjbiaaGreat.Pe
open Go Go.Kn
noncomputable def B114 (K:Nat):Bd PP:=⟨⟨[vo (.sl x_cv) 1,vo (.sl x_cv) 1],[ro .b 0],[],u2 (x_c1 K),false⟩,tt,hn [3,1027,16,12291,28675,12323,16789507,16,12291,16],K,Tryz.f114,[.tmp 4]⟩
noncomputable def x_c1.g0 (K:Nat) (a0:y13) (a1:y13) (n:Nat) (q0:Int):Option y11:=
 lq (B114 K) (dirs 5 1381) n ⟨[vl x_cv 1 a0,vl x_cv 1 a1]++dd 10++[vi (a0.length:Int),vi q0]++dd 12,dn 28⟩
theorem x_c1.ok0 (K:Nat) (a0:y13) (a1:y13):x_c1.g0 K a0 a1=x_c1.l0 K a0 a1:=
 funext (lpe1 (fun _=>by kernel_rfl) fun _ _=>by kernel_rfl)
theorem o114 (K:Nat):FOk PP 114 (B114 K).F:=bok mixed Tryz.func114 fun v=>by
 have e:(B114 K).run v=x_c1.b K v.1 v.2.1 (x_c1.g0 K v.1 v.2.1 K):=by kernel_rfl
 rw [x_c1.ok0] at e
 exact e.trans (by kernel_rfl)
noncomputable def B83 (K:Nat):Bd PP:=⟨⟨[va eLog 9,va eLog 9],[ro .b 0],[],u2 (x_lh K),false⟩,cn (o114 K) tt,hn [12,16],K,Tryz.f83,[.tmp 4]⟩
theorem o83 (K:Nat):FOk PP 83 (B83 K).F:=bok mixed Tryz.func83
noncomputable def B117 (K:Nat):Bd PP:=⟨⟨[vo (.sl x_sp) 1,vo (.sl x_sp) 1],[ro .b 0],[],u2 (x_b8 K),false⟩,tt,hn [3,1027,16,12291,28675,12323,16789507,16,12291,16],K,Tryz.f117,[.tmp 4]⟩
noncomputable def x_b8.g0 (K:Nat) (a0:y8) (a1:y8) (n:Nat) (q0:Int):Option y11:=
 lq (B117 K) (dirs 5 1381) n ⟨[vl x_sp 1 a0,vl x_sp 1 a1]++dd 10++[vi (a0.length:Int),vi q0]++dd 12,dn 28⟩
theorem x_b8.ok0 (K:Nat) (a0:y8) (a1:y8):x_b8.g0 K a0 a1=x_b8.l0 K a0 a1:=
 funext (lpe1 (fun _=>by kernel_rfl) fun _ _=>by kernel_rfl)
theorem o117 (K:Nat):FOk PP 117 (B117 K).F:=bok mixed Tryz.func117 fun v=>by
 have e:(B117 K).run v=x_b8.b K v.1 v.2.1 (x_b8.g0 K v.1 v.2.1 K):=by kernel_rfl
 rw [x_b8.ok0] at e
 exact e.trans (by kernel_rfl)
noncomputable def B116 (K:Nat):Bd PP:=⟨⟨[va eRow 9,va eRow 9],[ro .b 0],[],u2 (x_hb K),false⟩,cn (o117 K) tt,hn [12,16],K,Tryz.f116,[.tmp 4]⟩
theorem o116 (K:Nat):FOk PP 116 (B116 K).F:=bok mixed Tryz.func116
noncomputable def B115 (K:Nat):Bd PP:=⟨⟨[vo (.sl eRow) 1,vo (.sl eRow) 1],[ro .b 0],[.one, .one, .fn 116 0],u2 (x_l K),false⟩,cn (o116 K) tt,hn [7,16391,64,229383,491527,229767,230151,1073971207,64,229383,64],K,Tryz.f115,[.tmp 6]⟩
noncomputable def x_l.g0 (K:Nat) (a0:y3) (a1:y3) (n:Nat) (q0:Int):Option y11:=
 lq (B115 K) (dirs 5 1381) n ⟨[vl eRow 1 a0,vl eRow 1 a1, .fn 116 []]++dd 12++[vl eRow 1 a0,vi (a0.length:Int),vi q0]++dd 14,dn 34⟩
theorem x_l.ok0 (K:Nat) (a0:y3) (a1:y3):x_l.g0 K a0 a1=x_l.l0 K a0 a1:=
 funext (lpe1 (fun _=>by kernel_rfl) fun _ _=>by kernel_rfl)
theorem o115 (K:Nat):FOk PP 115 (B115 K).F:=bok mixed Tryz.func115 fun v=>by
 have e:(B115 K).run v=x_l.b K v.1 v.2.1 (x_l.g0 K v.1 v.2.1 K):=by kernel_rfl
 rw [x_l.ok0] at e
 exact e.trans (by kernel_rfl)
noncomputable def B120 (K:Nat):Bd PP:=⟨⟨[vo (.sl x_rp) 1,vo (.sl x_rp) 1],[ro .b 0],[],u2 (x_ca K),false⟩,tt,hn [3,1027,16,12291,28675,12323,16789507,16,12291,16],K,Tryz.f120,[.tmp 4]⟩
noncomputable def x_ca.g0 (K:Nat) (a0:y9) (a1:y9) (n:Nat) (q0:Int):Option y11:=
 lq (B120 K) (dirs 5 1381) n ⟨[vl x_rp 1 a0,vl x_rp 1 a1]++dd 10++[vi (a0.length:Int),vi q0]++dd 12,dn 28⟩
theorem x_ca.ok0 (K:Nat) (a0:y9) (a1:y9):x_ca.g0 K a0 a1=x_ca.l0 K a0 a1:=
 funext (lpe1 (fun _=>by kernel_rfl) fun _ _=>by kernel_rfl)
theorem o120 (K:Nat):FOk PP 120 (B120 K).F:=bok mixed Tryz.func120 fun v=>by
 have e:(B120 K).run v=x_ca.b K v.1 v.2.1 (x_ca.g0 K v.1 v.2.1 K):=by kernel_rfl
 rw [x_ca.ok0] at e
 exact e.trans (by kernel_rfl)
noncomputable def B119 (K:Nat):Bd PP:=⟨⟨[va x_bf 81,va x_bf 81],[ro .b 0],[],u2 (x_g8 K),false⟩,cn (o120 K) tt,hn [12,16],K,Tryz.f119,[.tmp 4]⟩
theorem o119 (K:Nat):FOk PP 119 (B119 K).F:=bok mixed Tryz.func119
noncomputable def B118 (K:Nat):Bd PP:=⟨⟨[vo (.sl x_bf) 1,vo (.sl x_bf) 1],[ro .b 0],[.one, .one, .fn 119 0],u2 (x_m K),false⟩,cn (o119 K) tt,hn [7,16391,64,229383,491527,229767,230151,1073971207,64,229383,64],K,Tryz.f118,[.tmp 6]⟩
noncomputable def x_m.g0 (K:Nat) (a0:y14) (a1:y14) (n:Nat) (q0:Int):Option y11:=
 lq (B118 K) (dirs 5 1381) n ⟨[vl x_bf 1 a0,vl x_bf 1 a1, .fn 119 []]++dd 12++[vl x_bf 1 a0,vi (a0.length:Int),vi q0]++dd 14,dn 34⟩
theorem x_m.ok0 (K:Nat) (a0:y14) (a1:y14):x_m.g0 K a0 a1=x_m.l0 K a0 a1:=
 funext (lpe1 (fun _=>by kernel_rfl) fun _ _=>by kernel_rfl)
theorem o118 (K:Nat):FOk PP 118 (B118 K).F:=bok mixed Tryz.func118 fun v=>by
 have e:(B118 K).run v=x_m.b K v.1 v.2.1 (x_m.g0 K v.1 v.2.1 K):=by kernel_rfl
 rw [x_m.ok0] at e
 exact e.trans (by kernel_rfl)
noncomputable def B123 (K:Nat):Bd PP:=⟨⟨[vo (.sl (.i .i64)) 1,vo (.sl (.i .i64)) 1],[ro .b 0],[],u2 (x_bp K),false⟩,tt,hn [3,1027,16,12291,28675,12323,16789507,16,12291,16],K,Tryz.f123,[.tmp 4]⟩
noncomputable def x_bp.g0 (K:Nat) (a0:y0) (a1:y0) (n:Nat) (q0:Int):Option y11:=
 lq (B123 K) (dirs 5 1381) n ⟨[vl (.i .i64) 1 a0,vl (.i .i64) 1 a1]++dd 10++[vi (a0.length:Int),vi q0]++dd 12,dn 28⟩
theorem x_bp.ok0 (K:Nat) (a0:y0) (a1:y0):x_bp.g0 K a0 a1=x_bp.l0 K a0 a1:=
 funext (lpe1 (fun _=>by kernel_rfl) fun _ _=>by kernel_rfl)
theorem o123 (K:Nat):FOk PP 123 (B123 K).F:=bok mixed Tryz.func123 fun v=>by
 have e:(B123 K).run v=x_bp.b K v.1 v.2.1 (x_bp.g0 K v.1 v.2.1 K):=by kernel_rfl
 rw [x_bp.ok0] at e
 exact e.trans (by kernel_rfl)
noncomputable def B122 (K:Nat):Bd PP:=⟨⟨[va x_a2 39,va x_a2 39],[ro .b 0],[],u2 (x_hf K),false⟩,cn (o123 K) tt,hn [12,16],K,Tryz.f122,[.tmp 4]⟩
theorem o122 (K:Nat):FOk PP 122 (B122 K).F:=bok mixed Tryz.func122
noncomputable def B121 (K:Nat):Bd PP:=⟨⟨[vo (.sl x_a2) 1,vo (.sl x_a2) 1],[ro .b 0],[.one, .one, .fn 122 0],u2 (x_k K),false⟩,cn (o122 K) tt,hn [7,16391,64,229383,491527,229767,230151,1073971207,64,229383,64],K,Tryz.f121,[.tmp 6]⟩
noncomputable def x_k.g0 (K:Nat) (a0:y12) (a1:y12) (n:Nat) (q0:Int):Option y11:=
 lq (B121 K) (dirs 5 1381) n ⟨[vl x_a2 1 a0,vl x_a2 1 a1, .fn 122 []]++dd 12++[vl x_a2 1 a0,vi (a0.length:Int),vi q0]++dd 14,dn 34⟩
theorem x_k.ok0 (K:Nat) (a0:y12) (a1:y12):x_k.g0 K a0 a1=x_k.l0 K a0 a1:=
 funext (lpe1 (fun _=>by kernel_rfl) fun _ _=>by kernel_rfl)
theorem o121 (K:Nat):FOk PP 121 (B121 K).F:=bok mixed Tryz.func121 fun v=>by
 have e:(B121 K).run v=x_k.b K v.1 v.2.1 (x_k.g0 K v.1 v.2.1 K):=by kernel_rfl
 rw [x_k.ok0] at e
 exact e.trans (by kernel_rfl)
noncomputable def B124 (K:Nat):Bd PP:=⟨⟨[vo (.sl x_bl) 1,vo (.sl x_bl) 1],[ro .b 0],[],u2 (x_b1 K),false⟩,tt,hn [3,1027,16,12291,28675,12323,16789507,16,12291,16],K,Tryz.f124,[.tmp 4]⟩
noncomputable def x_b1.g0 (K:Nat) (a0:y19) (a1:y19) (n:Nat) (q0:Int):Option y11:=
 lq (B124 K) (dirs 5 1381) n ⟨[vl x_bl 1 a0,vl x_bl 1 a1]++dd 10++[vi (a0.length:Int),vi q0]++dd 12,dn 28⟩
theorem x_b1.ok0 (K:Nat) (a0:y19) (a1:y19):x_b1.g0 K a0 a1=x_b1.l0 K a0 a1:=
 funext (lpe1 (fun _=>by kernel_rfl) fun _ _=>by kernel_rfl)
theorem o124 (K:Nat):FOk PP 124 (B124 K).F:=bok mixed Tryz.func124 fun v=>by
 have e:(B124 K).run v=x_b1.b K v.1 v.2.1 (x_b1.g0 K v.1 v.2.1 K):=by kernel_rfl
 rw [x_b1.ok0] at e
 exact e.trans (by kernel_rfl)
noncomputable def B84 (K:Nat):Bd PP:=⟨⟨[va x_c7 337,va x_c7 337],[ro .b 0],[],u2 (x_jf K),false⟩,cg 116 (o115 K)<|cg 119 (o118 K)<|cg 122 (o121 K)<|cn (o123 K)<|cn (o124 K) tt,hn [12,44,108,236,16],K,Tryz.f84,[.tmp 4]⟩
theorem o84 (K:Nat):FOk PP 84 (B84 K).F:=bok mixed Tryz.func84
noncomputable def B45 (K:Nat):Bd PP:=⟨⟨[va x_il 81972,va x_il 81972],[ro .b 0],[],u2 (x_jg K),false⟩,cn (o83 K)<|cn (o84 K) tt,hn [12,16],K,Tryz.f45,[.tmp 4]⟩
theorem o45 (K:Nat):FOk PP 45 (B45 K).F:=bok mixed Tryz.func45
noncomputable def B13 (K:Nat):Bd PP:=⟨⟨[va x_a6 0,va x_gj 890829816489],[ro .b 0],[],u2 (x_xf K),false⟩,cn (o46 K)<|cn (o45 K) tt,hn [12,16],K,Tryz.f13,[.tmp 4]⟩
theorem o13 (K:Nat):FOk PP 13 (B13 K).F:=bok mixed Tryz.func13
noncomputable def B88 (K:Nat):Bd PP:=⟨⟨[va x_c7 337,va x_c7 337],[ro .b 0],[],u2 (x_f4 K),false⟩,cn (o102 K) tt,hn [12,16],K,Tryz.f88,[.tmp 4]⟩
theorem o88 (K:Nat):FOk PP 88 (B88 K).F:=bok mixed Tryz.func88
noncomputable def B47 (K:Nat):Bd PP:=⟨⟨[va x_il 81972,va x_il 81972],[ro .b 0],[],u2 (x_f3 K),false⟩,cn (o87 K)<|cn (o88 K) tt,hn [12,16],K,Tryz.f47,[.tmp 4]⟩
theorem o47 (K:Nat):FOk PP 47 (B47 K).F:=bok mixed Tryz.func47
noncomputable def B14 (K:Nat):Bd PP:=⟨⟨[va x_a6 0,va x_gj 890829816489],[ro .b 0],[],u2 (s_Kept K),false⟩,cn (o40 K)<|cn (o48 K)<|cn (o47 K) tt,hn [12,16],K,Tryz.f14,[.tmp 4]⟩
theorem o14 (K:Nat):FOk PP 14 (B14 K).F:=bok mixed Tryz.func14
end Go.Proofs.YtoiamgohjmjbiaaGreat.Pe
