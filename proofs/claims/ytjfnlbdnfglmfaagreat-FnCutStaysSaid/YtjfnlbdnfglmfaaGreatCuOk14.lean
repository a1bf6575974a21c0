/- The functions compute what is told of them. -/
import Derived.Test.YtjfnlbdnfglmfaaGreatCuOk13
set_option linter.all false
set_option maxRecDepth 100000
namespace Go.Proofs.YtjfnlbdnfglmfaaGreat.Cu
open Go Go.Kn
noncomputable def B88:Bd PP:=⟨⟨[va eLog 9],[ro (.i .i64) 0],[],u1 i_last,false⟩,tt,hn [2,4],0,Tryz.f88,[.tmp 2]⟩
theorem o88:FOk PP 88 B88.F:=bok mixed Tryz.func88
noncomputable def B90:Bd PP:=⟨⟨[va x_ty 1],[ro .b 0],[],u1 x_rj,false⟩,cn o17 tt,hn [2,4],0,Tryz.f90,[.tmp 2]⟩
theorem o90:FOk PP 90 B90.F:=bok mixed Tryz.func90
noncomputable def B95 (K:Nat):Bd PP:=⟨⟨[va x_dp 0,vp eRpc 0],[ro .b 0],[],u2 (x_rb K),false⟩,cn o17<|cn (o42 K) tt,hn [6,10],K,Tryz.f95,[.tmp 3]⟩
theorem o95 (K:Nat):FOk PP 95 (B95 K).F:=bok mixed Tryz.func95
noncomputable def B169 (K:Nat):Bd PP:=⟨⟨[vo (.sl x_dp) 1,vp eRpc 0],[ro (.i .i64) 0],[.one, .fn 95 1],u2 (x_4 K),false⟩,cn (o95 K) tt,hn [3,387,899,419,65955,18,387,18],K,Tryz.f169,[.tmp 4]⟩
noncomputable def x_4.g0 (K:Nat) (a0:y14) (a1:TRpc) (n:Nat) (q0:Int) (q1:TRpc):Option y37:=
 lq (B169 K) (dirs 4 276) n ⟨[vl x_dp 1 a0, .fn 95 [.one (.ptr 1 0 0)]]++dd 5++[vi (a0.length:Int),vi q0]++dd 10,[none,some (0,[.val .f (.i .i64) q1.1, .val .f (.i .i64) q1.2.1, .val .f (.i .i64) q1.2.2.1, .val .f (.i .i64) q1.2.2.2.1, .val .f (.i .i64) q1.2.2.2.2.1, .val .f (.i .i64) q1.2.2.2.2.2.1, .val .f (.i .i64) q1.2.2.2.2.2.2.1, .val .f (.sl x_dp) q1.2.2.2.2.2.2.2.1, .val .f .b q1.2.2.2.2.2.2.2.2.1, .val .f .s q1.2.2.2.2.2.2.2.2.2])]++dn 19⟩
theorem x_4.ok0 (K:Nat) (a0:y14) (a1:TRpc):x_4.g0 K a0 a1=x_4.l0 K a0 a1:=
 funext (lpe2 (fun _ _=>by kernel_rfl) fun _ _ _=>by kernel_rfl)
theorem o169 (K:Nat):FOk PP 169 (B169 K).F:=bok mixed Tryz.func169 fun v=>by
 have e:(B169 K).run v=x_4.b K v.1 v.2.1 (x_4.g0 K v.1 v.2.1 K):=by kernel_rfl
 rw [x_4.ok0] at e
 exact e.trans (by kernel_rfl)
noncomputable def B94 (K:Nat):Bd PP:=⟨⟨[vo (.sl x_dp) 1,vp eRpc 0],[ro .b 0],[.one, .fn 95 1],u2 (x_db K),false⟩,cg 95 (o169 K) tt,hn [3,18],K,Tryz.f94,[.tmp 4]⟩
theorem o94 (K:Nat):FOk PP 94 (B94 K).F:=bok mixed Tryz.func94
noncomputable def B45 (K:Nat):Bd PP:=⟨⟨[va eRpc 0,vo (.i .i64) 0],[ro .b 0],[],u2 (x_sc K),false⟩,cn o17<|cg 95 (o94 K) tt,hn [6,68719476740,16,1180591620717411303428,16,16],K,Tryz.f45,[.tmp 4]⟩
theorem o45 (K:Nat):FOk PP 45 (B45 K).F:=bok mixed Tryz.func45
noncomputable def B91 (K:Nat):Bd PP:=⟨⟨[va eRpc 0,vp (.i .i64) 0,vp x_gb 0],[ro .b 0],[],u3 (x_o2 K),false⟩,cn (o45 K) tt,hn [14,22],K,Tryz.f91,[.tmp 4]⟩
theorem o91 (K:Nat):FOk PP 91 (B91 K).F:=bok mixed Tryz.func91
noncomputable def B93 (K:Nat):Bd PP:=⟨⟨[vo (.sl eRpc) 1,vp (.i .i64) 0,vp x_gb 0],[ro (.i .i64) 0],[.one, .fn 91 2],u3 (x_1 K),false⟩,sf 1<|cn (o91 K) tt,hn [7,391,903,423,65959,22,391,22],K,Tryz.f93,[.tmp 4]⟩
noncomputable def x_1.g0 (K:Nat) (a0:y3) (a1:Int) (a2:x_bq) (n:Nat) (q0:Int) (q1:Int) (q2:x_bq):Option y83:=
 lq (B93 K) (dirs 4 276) n ⟨[vl eRpc 1 a0, .fn 91 [.one (.ptr 1 0 0), .one (.ptr 2 0 0)]]++dd 5++[vi (a0.length:Int),vi q0]++dd 10,[none,some (0,[.val .f (.i .i64) q1]),some (0,[.val .f (.i .i64) q2.1, .val .f (.i .i64) q2.2.1.1, .val .f (.i .i64) q2.2.1.2.1, .val .f (.i .i64) q2.2.1.2.2.1.1, .val .f (.i .i64) q2.2.1.2.2.1.2.1, .val .f (.sl x_dp) q2.2.1.2.2.1.2.2, .val .f (.sl eRow) q2.2.1.2.2.2.1, .val .f (.sl x_bs) q2.2.1.2.2.2.2.1, .val .f (.sl x_bh) q2.2.1.2.2.2.2.2.1, .val .f (.i .i64) q2.2.1.2.2.2.2.2.2.1, .val .f (.sl (.i .i64)) q2.2.1.2.2.2.2.2.2.2.1, .val .f (.sl x_bz) q2.2.1.2.2.2.2.2.2.2.2, .val .f (.i .i64) q2.2.2.1, .val .f (.sl .b) q2.2.2.2.1, .val .f (.sl (.i .i64)) q2.2.2.2.2.1, .val .f (.sl (.i .i64)) q2.2.2.2.2.2.1, .val .f (.i .i64) q2.2.2.2.2.2.2.1, .val .f (.sl eRow) q2.2.2.2.2.2.2.2.1.1, .val .f (.sl x_bs) q2.2.2.2.2.2.2.2.1.2.1, .val .f (.sl x_bh) q2.2.2.2.2.2.2.2.1.2.2.1, .val .f (.i .i64) q2.2.2.2.2.2.2.2.1.2.2.2.1, .val .f (.sl (.i .i64)) q2.2.2.2.2.2.2.2.1.2.2.2.2.1, .val .f (.sl x_bz) q2.2.2.2.2.2.2.2.1.2.2.2.2.2, .val .f (.sl (.i .u8)) q2.2.2.2.2.2.2.2.2.1.1, .val .f (.i .i64) q2.2.2.2.2.2.2.2.2.1.2, .val .f (.sl eRpc) q2.2.2.2.2.2.2.2.2.2])]++dn 19⟩
theorem x_1.ok0 (K:Nat) (a0:y3) (a1:Int) (a2:x_bq):x_1.g0 K a0 a1 a2=x_1.l0 K a0 a1 a2:=
 funext (lpe3 (fun _ _ _=>by kernel_rfl) fun _ _ _ _=>by kernel_rfl)
theorem o93 (K:Nat):FOk PP 93 (B93 K).F:=bok mixed Tryz.func93 fun v=>by
 have e:(B93 K).run v=x_1.b K v.1 v.2.1 v.2.2.1 (x_1.g0 K v.1 v.2.1 v.2.2.1 K):=by kernel_rfl
 rw [x_1.ok0] at e
 exact e.trans (by kernel_rfl)
noncomputable def B43 (K:Nat):Bd PP:=⟨⟨[vo (.sl eRpc) 1,vp (.i .i64) 0,vp x_gb 0],[ro .b 0],[.one, .fn 91 2],u3 (x_c2 K),false⟩,sf 1<|cg 91 (o93 K) tt,hn [7,22],K,Tryz.f43,[.tmp 4]⟩
theorem o43 (K:Nat):FOk PP 43 (B43 K).F:=bok mixed Tryz.func43
noncomputable def B41 (K:Nat):Bd PP:=⟨⟨[va x_bt 0,va x_gb 0,vo (.i .i64) 0],[ro .b 0],[],u3 (x_qu K),false⟩,cn o17<|cn (o87 K)<|cn o88<|cn (o40 K)<|cn (o89 K)<|cn o90<|cg 91 (o43 K) tt,hn [56,274877907000,64,184,75557863725914323419320,64,20282409603651670423947251286064,64,64],K,Tryz.f41,[.tmp 6]⟩
theorem o41 (K:Nat):FOk PP 41 (B41 K).F:=bok mixed Tryz.func41
noncomputable def B44 (K:Nat):Bd PP:=⟨⟨[va eRpc 0,vp x_be 0],[ro .b 0],[],u2 (x_ln K),false⟩,cn (o45 K) tt,hn [6,10],K,Tryz.f44,[.tmp 3]⟩
theorem o44 (K:Nat):FOk PP 44 (B44 K).F:=bok mixed Tryz.func44
noncomputable def B93a (K:Nat):Bd PP:=⟨⟨[vo (.sl eRpc) 1,vp x_be 0],[ro (.i .i64) 0],[.one, .fn 44 1],u2 (x_v K),false⟩,cn (o44 K) tt,hn [3,387,899,419,65955,18,387,18],K,Tryz.f93,[.tmp 4]⟩
noncomputable def x_v.g0 (K:Nat) (a0:y3) (a1:x_u) (n:Nat) (q0:Int) (q1:x_u):Option y46:=
 lq (B93a K) (dirs 4 276) n ⟨[vl eRpc 1 a0, .fn 44 [.one (.ptr 1 0 0)]]++dd 5++[vi (a0.length:Int),vi q0]++dd 10,[none,some (0,[.val .f (.i .i64) q1.1.1, .val .f (.i .i64) q1.1.2.1, .val .f (.i .i64) q1.1.2.2.1, .val .f (.i .i64) q1.1.2.2.2, .val .f (.i .i64) q1.2.1, .val .f (.sl x_gb) q1.2.2.1, .val .f (.sl eRpc) q1.2.2.2.1, .val .f (.sl eCmd) q1.2.2.2.2.1, .val .f (.sl (.i .i64)) q1.2.2.2.2.2.1, .val .f (.sl x_mg) q1.2.2.2.2.2.2.1, .val .f (.sl eCmd) q1.2.2.2.2.2.2.2])]++dn 19⟩
theorem x_v.ok0 (K:Nat) (a0:y3) (a1:x_u):x_v.g0 K a0 a1=x_v.l0 K a0 a1:=
 funext (lpe2 (fun _ _=>by kernel_rfl) fun _ _ _=>by kernel_rfl)
theorem o93a (K:Nat):FOk PP 93 (B93a K).F:=bok mixed Tryz.func93 fun v=>by
 have e:(B93a K).run v=x_v.b K v.1 v.2.1 (x_v.g0 K v.1 v.2.1 K):=by kernel_rfl
 rw [x_v.ok0] at e
 exact e.trans (by kernel_rfl)
noncomputable def B43a (K:Nat):Bd PP:=⟨⟨[vo (.sl eRpc) 1,vp x_be 0],[ro .b 0],[.one, .fn 44 1],u2 (x_cg K),false⟩,cg 44 (o93a K) tt,hn [3,18],K,Tryz.f43,[.tmp 4]⟩
theorem o43a (K:Nat):FOk PP 43 (B43a K).F:=bok mixed Tryz.func43
noncomputable def B47 (K:Nat):Bd PP:=⟨⟨[va x_mg 0],[ro .b 0],[],u1 (x_jl K),false⟩,cn o48<|cn o17<|cn (o49 K) tt,hn [2,4],K,Tryz.f47,[.tmp 2]⟩
theorem o47 (K:Nat):FOk PP 47 (B47 K).F:=bok mixed Tryz.func47
noncomputable def B96 (K:Nat):Bd PP:=⟨⟨[vo (.sl x_mg) 1],[ro (.i .i64) 0],[.one, .fn 47 0],u1 (x_w K),false⟩,cn (o47 K) tt,hn [3,387,899,419,65955,16,387,16],K,Tryz.f96,[.tmp 4]⟩
noncomputable def x_w.g0 (K:Nat) (a0:y17) (n:Nat) (q0:Int):Option y7:=
 lq (B96 K) (dirs 4 276) n ⟨[vl x_mg 1 a0, .fn 47 []]++dd 5++[vi (a0.length:Int),vi q0]++dd 10,dn 20⟩
theorem x_w.ok0 (K:Nat) (a0:y17):x_w.g0 K a0=x_w.l0 K a0:=
 funext (lpe1 (fun _=>by kernel_rfl) fun _ _=>by kernel_rfl)
theorem o96 (K:Nat):FOk PP 96 (B96 K).F:=bok mixed Tryz.func96 fun v=>by
 have e:(B96 K).run v=x_w.b K v.1 (x_w.g0 K v.1 K):=by kernel_rfl
 rw [x_w.ok0] at e
 exact e.trans (by kernel_rfl)
noncomputable def B46 (K:Nat):Bd PP:=⟨⟨[vo (.sl x_mg) 1],[ro .b 0],[.one, .fn 47 0],u1 (x_cl K),false⟩,cg 47 (o96 K) tt,hn [3,16],K,Tryz.f46,[.tmp 4]⟩
theorem o46 (K:Nat):FOk PP 46 (B46 K).F:=bok mixed Tryz.func46
noncomputable def B51 (K:Nat):Bd PP:=⟨⟨[va eCmd 0],[ro .b 0],[],u1 (x_je K),false⟩,cn (o42 K) tt,hn [2,4],K,Tryz.f51,[.tmp 2]⟩
theorem o51 (K:Nat):FOk PP 51 (B51 K).F:=bok mixed Tryz.func51
end Go.Proofs.YtjfnlbdnfglmfaaGreat.Cu
