/- The functions compute what is told of them. -/
import Derived.Test.YtjfnlbdnfglmfaaGreatCuOk22
set_option linter.all false
set_option maxRecDepth 100000
namespace Go.Proofs.YtjfnlbdnfglmfaaGreat.Cu
open Go Go.Kn
noncomputable def B128 (K:Nat):Bd PP:=⟨⟨[vo (.sl eRow) 1,vo (.sl eRow) 1],[ro .b 0],[.one, .one, .fn 129 0],u2 (x_n K),false⟩,cn (o129 K) tt,hn [7,16391,64,229383,491527,229767,230151,1073971207,64,229383,64],K,Tryz.f128,[.tmp 6]⟩
noncomputable def x_n.g0 (K:Nat) (a0:y4) (a1:y4) (n:Nat) (q0:Int):Option y11:=
 lq (B128 K) (dirs 5 1381) n ⟨[vl eRow 1 a0,vl eRow 1 a1, .fn 129 []]++dd 12++[vl eRow 1 a0,vi (a0.length:Int),vi q0]++dd 14,dn 34⟩
theorem x_n.ok0 (K:Nat) (a0:y4) (a1:y4):x_n.g0 K a0 a1=x_n.l0 K a0 a1:=
 funext (lpe1 (fun _=>by kernel_rfl) fun _ _=>by kernel_rfl)
theorem o128 (K:Nat):FOk PP 128 (B128 K).F:=bok mixed Tryz.func128 fun v=>by
 have e:(B128 K).run v=x_n.b K v.1 v.2.1 (x_n.g0 K v.1 v.2.1 K):=by kernel_rfl
 rw [x_n.ok0] at e
 exact e.trans (by kernel_rfl)
noncomputable def B133 (K:Nat):Bd PP:=⟨⟨[vo (.sl x_rv) 1,vo (.sl x_rv) 1],[ro .b 0],[],u2 (x_ct K),false⟩,tt,hn [3,1027,16,12291,28675,12323,16789507,16,12291,16],K,Tryz.f133,[.tmp 4]⟩
noncomputable def x_ct.g0 (K:Nat) (a0:y9) (a1:y9) (n:Nat) (q0:Int):Option y11:=
 lq (B133 K) (dirs 5 1381) n ⟨[vl x_rv 1 a0,vl x_rv 1 a1]++dd 10++[vi (a0.length:Int),vi q0]++dd 12,dn 28⟩
theorem x_ct.ok0 (K:Nat) (a0:y9) (a1:y9):x_ct.g0 K a0 a1=x_ct.l0 K a0 a1:=
 funext (lpe1 (fun _=>by kernel_rfl) fun _ _=>by kernel_rfl)
theorem o133 (K:Nat):FOk PP 133 (B133 K).F:=bok mixed Tryz.func133 fun v=>by
 have e:(B133 K).run v=x_ct.b K v.1 v.2.1 (x_ct.g0 K v.1 v.2.1 K):=by kernel_rfl
 rw [x_ct.ok0] at e
 exact e.trans (by kernel_rfl)
noncomputable def B132 (K:Nat):Bd PP:=⟨⟨[va x_bs 81,va x_bs 81],[ro .b 0],[],u2 (x_hx K),false⟩,cn (o133 K) tt,hn [12,16],K,Tryz.f132,[.tmp 4]⟩
theorem o132 (K:Nat):FOk PP 132 (B132 K).F:=bok mixed Tryz.func132
noncomputable def B131 (K:Nat):Bd PP:=⟨⟨[vo (.sl x_bs) 1,vo (.sl x_bs) 1],[ro .b 0],[.one, .one, .fn 132 0],u2 (x_m K),false⟩,cn (o132 K) tt,hn [7,16391,64,229383,491527,229767,230151,1073971207,64,229383,64],K,Tryz.f131,[.tmp 6]⟩
noncomputable def x_m.g0 (K:Nat) (a0:y13) (a1:y13) (n:Nat) (q0:Int):Option y11:=
 lq (B131 K) (dirs 5 1381) n ⟨[vl x_bs 1 a0,vl x_bs 1 a1, .fn 132 []]++dd 12++[vl x_bs 1 a0,vi (a0.length:Int),vi q0]++dd 14,dn 34⟩
theorem x_m.ok0 (K:Nat) (a0:y13) (a1:y13):x_m.g0 K a0 a1=x_m.l0 K a0 a1:=
 funext (lpe1 (fun _=>by kernel_rfl) fun _ _=>by kernel_rfl)
theorem o131 (K:Nat):FOk PP 131 (B131 K).F:=bok mixed Tryz.func131 fun v=>by
 have e:(B131 K).run v=x_m.b K v.1 v.2.1 (x_m.g0 K v.1 v.2.1 K):=by kernel_rfl
 rw [x_m.ok0] at e
 exact e.trans (by kernel_rfl)
noncomputable def B136 (K:Nat):Bd PP:=⟨⟨[vo (.sl (.i .i64)) 1,vo (.sl (.i .i64)) 1],[ro .b 0],[],u2 (x_cb K),false⟩,tt,hn [3,1027,16,12291,28675,12323,16789507,16,12291,16],K,Tryz.f136,[.tmp 4]⟩
noncomputable def x_cb.g0 (K:Nat) (a0:y0) (a1:y0) (n:Nat) (q0:Int):Option y11:=
 lq (B136 K) (dirs 5 1381) n ⟨[vl (.i .i64) 1 a0,vl (.i .i64) 1 a1]++dd 10++[vi (a0.length:Int),vi q0]++dd 12,dn 28⟩
theorem x_cb.ok0 (K:Nat) (a0:y0) (a1:y0):x_cb.g0 K a0 a1=x_cb.l0 K a0 a1:=
 funext (lpe1 (fun _=>by kernel_rfl) fun _ _=>by kernel_rfl)
theorem o136 (K:Nat):FOk PP 136 (B136 K).F:=bok mixed Tryz.func136 fun v=>by
 have e:(B136 K).run v=x_cb.b K v.1 v.2.1 (x_cb.g0 K v.1 v.2.1 K):=by kernel_rfl
 rw [x_cb.ok0] at e
 exact e.trans (by kernel_rfl)
noncomputable def B135 (K:Nat):Bd PP:=⟨⟨[va x_bh 39,va x_bh 39],[ro .b 0],[],u2 (x_h6 K),false⟩,cn (o136 K) tt,hn [12,16],K,Tryz.f135,[.tmp 4]⟩
theorem o135 (K:Nat):FOk PP 135 (B135 K).F:=bok mixed Tryz.func135
noncomputable def B134 (K:Nat):Bd PP:=⟨⟨[vo (.sl x_bh) 1,vo (.sl x_bh) 1],[ro .b 0],[.one, .one, .fn 135 0],u2 (x_o K),false⟩,cn (o135 K) tt,hn [7,16391,64,229383,491527,229767,230151,1073971207,64,229383,64],K,Tryz.f134,[.tmp 6]⟩
noncomputable def x_o.g0 (K:Nat) (a0:y12) (a1:y12) (n:Nat) (q0:Int):Option y11:=
 lq (B134 K) (dirs 5 1381) n ⟨[vl x_bh 1 a0,vl x_bh 1 a1, .fn 135 []]++dd 12++[vl x_bh 1 a0,vi (a0.length:Int),vi q0]++dd 14,dn 34⟩
theorem x_o.ok0 (K:Nat) (a0:y12) (a1:y12):x_o.g0 K a0 a1=x_o.l0 K a0 a1:=
 funext (lpe1 (fun _=>by kernel_rfl) fun _ _=>by kernel_rfl)
theorem o134 (K:Nat):FOk PP 134 (B134 K).F:=bok mixed Tryz.func134 fun v=>by
 have e:(B134 K).run v=x_o.b K v.1 v.2.1 (x_o.g0 K v.1 v.2.1 K):=by kernel_rfl
 rw [x_o.ok0] at e
 exact e.trans (by kernel_rfl)
noncomputable def B137 (K:Nat):Bd PP:=⟨⟨[vo (.sl x_bz) 1,vo (.sl x_bz) 1],[ro .b 0],[],u2 (x_cs K),false⟩,tt,hn [3,1027,16,12291,28675,12323,16789507,16,12291,16],K,Tryz.f137,[.tmp 4]⟩
noncomputable def x_cs.g0 (K:Nat) (a0:y21) (a1:y21) (n:Nat) (q0:Int):Option y11:=
 lq (B137 K) (dirs 5 1381) n ⟨[vl x_bz 1 a0,vl x_bz 1 a1]++dd 10++[vi (a0.length:Int),vi q0]++dd 12,dn 28⟩
theorem x_cs.ok0 (K:Nat) (a0:y21) (a1:y21):x_cs.g0 K a0 a1=x_cs.l0 K a0 a1:=
 funext (lpe1 (fun _=>by kernel_rfl) fun _ _=>by kernel_rfl)
theorem o137 (K:Nat):FOk PP 137 (B137 K).F:=bok mixed Tryz.func137 fun v=>by
 have e:(B137 K).run v=x_cs.b K v.1 v.2.1 (x_cs.g0 K v.1 v.2.1 K):=by kernel_rfl
 rw [x_cs.ok0] at e
 exact e.trans (by kernel_rfl)
noncomputable def B72 (K:Nat):Bd PP:=⟨⟨[va x_dg 337,va x_dg 337],[ro .b 0],[],u2 (x_k4 K),false⟩,cg 129 (o128 K)<|cg 132 (o131 K)<|cg 135 (o134 K)<|cn (o136 K)<|cn (o137 K) tt,hn [12,44,108,236,16],K,Tryz.f72,[.tmp 4]⟩
theorem o72 (K:Nat):FOk PP 72 (B72 K).F:=bok mixed Tryz.func72
noncomputable def B27 (K:Nat):Bd PP:=⟨⟨[va x_it 81972,va x_it 81972],[ro .b 0],[],u2 (x_k1 K),false⟩,cn (o71 K)<|cn (o72 K) tt,hn [12,16],K,Tryz.f27,[.tmp 4]⟩
theorem o27 (K:Nat):FOk PP 27 (B27 K).F:=bok mixed Tryz.func27
noncomputable def B11 (K:Nat):Bd PP:=⟨⟨[va x_bt 0,va x_gb 890829816489],[ro .b 0],[],u2 (i_Kept K),false⟩,cn (o28 K)<|cn (o27 K) tt,hn [12,16],K,Tryz.f11,[.tmp 4]⟩
theorem o11 (K:Nat):FOk PP 11 (B11 K).F:=bok mixed Tryz.func11
noncomputable def B3 (K:Nat):Bd PP:=⟨lawF [(false,(.sl (.i .u8)))] fun v=>x_hy K v.1,cn o4<|cn (o5 K)<|cn o6<|cn (o7 K)<|cn (o8 K)<|cn (o9 K)<|cn (o10 K)<|cn (o11 K) tt,hn [1,32769,4,9,40,232,744,1099511628008,4,4398046511336,4,3176,11272,4],K,Tryz.f3,[.tmp 2]⟩
theorem o3 (K:Nat):FOk PP 3 (B3 K).F:=bok mixed Tryz.func3
end Go.Proofs.YtjfnlbdnfglmfaaGreat.Cu
