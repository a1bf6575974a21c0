/- The functions compute what is told of them. -/
import Derived.Test.YtjfnlbdnfglmfaaGreatCuOk15
set_option linter.all false
set_option maxRecDepth 100000
namespace Go.Proofs.YtjfnlbdnfglmfaaGreat.Cu
open Go Go.Kn
noncomputable def B169a (K:Nat):Bd PP:=⟨⟨[vo (.sl x_dp) 1],[ro (.i .i64) 0],[.one, .fn 204 0],u1 (x_2 K),false⟩,cn (o204 K) tt,hn [3,387,899,419,65955,16,387,16],K,Tryz.f169,[.tmp 4]⟩
noncomputable def x_2.g0 (K:Nat) (a0:y14) (n:Nat) (q0:Int):Option y7:=
 lq (B169a K) (dirs 4 276) n ⟨[vl x_dp 1 a0, .fn 204 []]++dd 5++[vi (a0.length:Int),vi q0]++dd 10,dn 20⟩
theorem x_2.ok0 (K:Nat) (a0:y14):x_2.g0 K a0=x_2.l0 K a0:=
 funext (lpe1 (fun _=>by kernel_rfl) fun _ _=>by kernel_rfl)
theorem o169a (K:Nat):FOk PP 169 (B169a K).F:=bok mixed Tryz.func169 fun v=>by
 have e:(B169a K).run v=x_2.b K v.1 (x_2.g0 K v.1 K):=by kernel_rfl
 rw [x_2.ok0] at e
 exact e.trans (by kernel_rfl)
noncomputable def B94a (K:Nat):Bd PP:=⟨⟨[vo (.sl x_dp) 1],[ro .b 0],[.one, .fn 204 0],u1 (x_cv K),false⟩,cg 204 (o169a K) tt,hn [3,16],K,Tryz.f94,[.tmp 4]⟩
theorem o94a (K:Nat):FOk PP 94 (B94a K).F:=bok mixed Tryz.func94
noncomputable def B140 (K:Nat):Bd PP:=⟨⟨[va x_ld 81],[ro .b 0],[],u1 (x_ly K),false⟩,cn o17<|cg 204 (o94a K) tt,hn [2,16777218,4,134217730,4,536870914,1610612738,4,2251800350556162,4,2305843009213693954,4,4],K,Tryz.f140,[.tmp 2]⟩
theorem o140 (K:Nat):FOk PP 140 (B140 K).F:=bok mixed Tryz.func140
noncomputable def B311 (K:Nat):Bd PP:=⟨⟨[vo (.i .i64) 0],[ro (.sl (.i .u8)) 2],[],u1 (x_dw K),false⟩,cn o17 tt,hn [1,65,4,9,265,9,9,4],K,Tryz.f311,[.tmp 2]⟩
noncomputable def x_dw.g0 (K:Nat) (a0:Int) (n:Nat) (q0:Int) (q1:y0):Option y31:=
 lq (B311 K) (dirs 5 1281) n ⟨[vi q0, .dead, .dead,vl (.i .u8) 2 q1]++dd 19,dn 24⟩
theorem x_dw.ok0 (K:Nat) (a0:Int):x_dw.g0 K a0=x_dw.l0 K a0:=
 funext (lpe2 (fun _ _=>by kernel_rfl) fun _ _ _=>by kernel_rfl)
theorem o311 (K:Nat):FOk PP 311 (B311 K).F:=bok mixed Tryz.func311 fun v=>by
 have e:(B311 K).run v=x_dw.b K v.1 (x_dw.g0 K v.1 K):=by kernel_rfl
 rw [x_dw.ok0] at e
 exact e.trans (by kernel_rfl)
noncomputable def B269 (K:Nat):Bd PP:=⟨⟨[vo (.sl (.i .i64)) 1],[ro (.sl (.i .u8)) 2],[],u1 (x_el K),false⟩,cn (o311 K) tt,hn [1,9,457,969,489,457,457,4],K,Tryz.f269,[.tmp 2]⟩
noncomputable def x_el.g0 (K:Nat) (a0:y0) (n:Nat) (q0:y0) (q1:Int):Option y31:=
 lq (B269 K) (dirs 5 1381) n ⟨[vl (.i .i64) 1 a0, .dead, .dead,vl (.i .u8) 2 q0, .dead, .dead,vl (.i .i64) 1 a0,vi (a0.length:Int),vi q1]++dd 9,dn 19⟩
theorem x_el.ok0 (K:Nat) (a0:y0):x_el.g0 K a0=x_el.l0 K a0:=
 funext (lpe2 (fun _ _=>by kernel_rfl) fun _ _ _=>by kernel_rfl)
theorem o269 (K:Nat):FOk PP 269 (B269 K).F:=bok mixed Tryz.func269 fun v=>by
 have e:(B269 K).run v=x_el.b K v.1 (x_el.g0 K v.1 K):=by kernel_rfl
 rw [x_el.ok0] at e
 exact e.trans (by kernel_rfl)
noncomputable def B272 (K:Nat):Bd PP:=⟨⟨[vo .s 0],[ro (.sl (.i .u8)) 2],[],u1 (x_fl K),false⟩,cn (o311 K) tt,hn [1,4],K,Tryz.f272,[.tmp 2]⟩
theorem o272 (K:Nat):FOk PP 272 (B272 K).F:=bok mixed Tryz.func272
noncomputable def B312:Bd PP:=⟨⟨[.nl (.i .u8),vo (.i .i64) 0],[ro (.sl (.i .u8)) 2],[],u1 x_z6,false⟩,tt,hn [3,67,3,3,65539,1,17],0,Tryz.f312,[.tmp 4]⟩
theorem o312:FOk PP 312 B312.F:=bok mixed Tryz.func312
noncomputable def B270 (K:Nat):Bd PP:=⟨⟨[vo (.sl (.sl (.i .u8))) 1],[ro (.sl (.i .u8)) 2],[],u1 (x_av K),false⟩,cn o312 tt,hn [1,9,3593,7689,3625,3593,1052169,3593,3593,65,234881089,503316545,234881345,234881089,234881089,4],K,Tryz.f270,[.tmp 2]⟩
noncomputable def x_av.g0 (K:Nat) (a0:y28) (n:Nat) (q0:Int) (q1:Int):Option y31:=
 lq (B270 K) (dirs 5 1381) n ⟨[vl (.sl (.i .u8)) 1 a0, .dead, .dead,vi q0]++dd 5++[vl (.sl (.i .u8)) 1 a0,vi (a0.length:Int),vi q1]++dd 24,dn 37⟩
noncomputable def x_av.g1 (K:Nat) (a0:y28) (n:Nat) (q2:y0) (q3:Int):Option y31:=
 lq (B270 K) (dirs 7 34531) n ⟨[vl (.sl (.i .u8)) 1 a0]++dd 5++[vl (.i .u8) 2 q2]++dd 18++[vl (.sl (.i .u8)) 1 a0,vi (a0.length:Int),vi q3]++dd 8,dn 37⟩
theorem x_av.ok1 (K:Nat) (a0:y28):x_av.g1 K a0=x_av.l1 K a0:=
 funext (lpe2 (fun _ _=>by kernel_rfl) fun _ _ _=>by kernel_rfl)
theorem x_av.ok0 (K:Nat) (a0:y28):x_av.g0 K a0=x_av.l0 K a0:=
 funext (lpe2 (fun _ _=>by kernel_rfl) fun n q0 q1=>(show x_av.g0 K a0 (n+1) q0 q1=x_av.l0b K a0 (x_av.g0 K a0 n) (x_av.g1 K a0 K) q0 q1 by kernel_rfl).trans (by rw [x_av.ok1]<;>rfl))
theorem o270 (K:Nat):FOk PP 270 (B270 K).F:=bok mixed Tryz.func270 fun v=>by
 have e:(B270 K).run v=x_av.b K v.1 (x_av.g0 K v.1 K):=by kernel_rfl
 rw [x_av.ok0] at e
 exact e.trans (by kernel_rfl)
noncomputable def B271 (K:Nat):Bd PP:=⟨⟨[va eCmd 0],[ro (.sl (.i .u8)) 2],[],u1 (x_k0 K),false⟩,cn (o42 K)<|cn (o269 K)<|cn (o272 K)<|cn (o270 K) tt,hn [2,34,4,4],K,Tryz.f271,[.tmp 2]⟩
theorem o271 (K:Nat):FOk PP 271 (B271 K).F:=bok mixed Tryz.func271
noncomputable def B273 (K:Nat):Bd PP:=⟨⟨[vo (.sl (.i .u8)) 1],[ro (.i .i64) 0],[],u1 (x_fd K),false⟩,tt,hn [1,25,921,1945,985,921,921,921,4],K,Tryz.f273,[.tmp 2]⟩
noncomputable def x_fd.g0 (K:Nat) (a0:y0) (n:Nat) (q0:Int) (q1:Int) (q2:Int):Option y7:=
 lq (B273 K) (dirs 5 1381) n ⟨[vl (.i .u8) 1 a0, .dead, .dead,vi q0,vi q1, .dead, .dead,vl (.i .u8) 1 a0,vi (a0.length:Int),vi q2]++dd 17,dn 28⟩
theorem x_fd.ok0 (K:Nat) (a0:y0):x_fd.g0 K a0=x_fd.l0 K a0:=
 funext (lpe3 (fun _ _ _=>by kernel_rfl) fun _ _ _ _=>by kernel_rfl)
theorem o273 (K:Nat):FOk PP 273 (B273 K).F:=bok mixed Tryz.func273 fun v=>by
 have e:(B273 K).run v=x_fd.b K v.1 (x_fd.g0 K v.1 K):=by kernel_rfl
 rw [x_fd.ok0] at e
 exact e.trans (by kernel_rfl)
noncomputable def B203 (K:Nat):Bd PP:=⟨⟨[va x_ld 81],[ro (.sl (.i .u8)) 2],[],u1 (x_a8 K),false⟩,cn (o140 K)<|cn (o269 K)<|cn (o271 K)<|cn (o270 K)<|cn (o272 K)<|cn (o273 K) tt,hn [2,514,4,10,234881034,503316490,234881066,234881034,234881034,8,72,4],K,Tryz.f203,[.tmp 2]⟩
noncomputable def x_a8.g0 (K:Nat) (a0:x_df) (n:Nat) (q0:y31) (q1:Int):Option y31:=
 lq (B203 K) (dirs 6 6906) n ⟨[.dead,vt 1 1 0, .dead,vl (.i .u8) 2 q0.1]++dd 21++[vl x_dp 1 a0.2.2.2.2.1,vi (a0.2.2.2.2.1.length:Int),vi q1]++dd 40,[none,bv x_ld 81 a0]++dn 67⟩
theorem x_a8.ok0 (K:Nat) (a0:x_df):x_a8.g0 K a0=x_a8.l0 K a0:=
 funext (lpe2 (fun _ _=>by kernel_rfl) fun _ _ _=>by kernel_rfl)
theorem o203 (K:Nat):FOk PP 203 (B203 K).F:=bok mixed Tryz.func203 fun v=>by
 have e:(B203 K).run v=x_a8.b K v.1 (x_a8.g0 K v.1 K):=by kernel_rfl
 rw [x_a8.ok0] at e
 exact e.trans (by kernel_rfl)
noncomputable def B294 (K:Nat):Bd PP:=⟨⟨[va eRow 9],[ro (.sl (.i .u8)) 2],[],u1 (x_b9 K),false⟩,cn (o269 K)<|cn (o272 K)<|cn (o270 K) tt,hn [2,10,458760,983048,458792,458760,458760,4],K,Tryz.f294,[.tmp 2]⟩
noncomputable def x_b9.g0 (K:Nat) (a0:TRow) (n:Nat) (q0:y31) (q1:Int):Option y31:=
 lq (B294 K) (dirs 5 1381) n ⟨dd 3++[vl (.i .u8) 2 q0.1]++dd 12++[vl x_sl 1 a0.2.2,vi (a0.2.2.length:Int),vi q1]++dd 24,dn 44⟩
theorem x_b9.ok0 (K:Nat) (a0:TRow):x_b9.g0 K a0=x_b9.l0 K a0:=
 funext (lpe2 (fun _ _=>by kernel_rfl) fun _ _ _=>by kernel_rfl)
theorem o294 (K:Nat):FOk PP 294 (B294 K).F:=bok mixed Tryz.func294 fun v=>by
 have e:(B294 K).run v=x_b9.b K v.1 (x_b9.g0 K v.1 K):=by kernel_rfl
 rw [x_b9.ok0] at e
 exact e.trans (by kernel_rfl)
end Go.Proofs.YtjfnlbdnfglmfaaGreat.Cu
