/- The functions compute what is told of them. -/
import Derived.Test.YtjfnlbdnfglmfaaGreatCuOk20
set_option linter.all false
set_option maxRecDepth 100000
namespace Go.Proofs.YtjfnlbdnfglmfaaGreat.Cu
open Go Go.Kn
noncomputable def B142 (K:Nat):Bd PP:=⟨⟨[va eLog 9,vo (.i .i64) 0,vo (.i .i64) 0,vo (.sl x_dp) 1],[ra eLog 18,ro .b 0],[],u4 (x_ea K),false⟩,cn (o159 K)<|cn o205<|cn o144 tt,hn [286,65822,768,1310,268436762,768,7516194074,16106128666,7516200218,7516206362,288230383667918106,7516194074,7516194074,2361183241434822608144,768,768],K,Tryz.f142,[.cell 8 45, .tmp 9]⟩
noncomputable def x_ea.g0 (K:Nat) (a0:TLog) (a1:Int) (a2:Int) (a3:y14) (n:Nat) (q0:Int) (v2:y15) (q1:y14):Option y39:=
 lq (B142 K) (dirs 7 34531) n ⟨[.dead,vi a1, .dead,vl x_dp 1 a3,vt 4 1 0]++dd 3++[vt 8 1 0, .dead,vt 10 1 0]++dd 19++[vl x_dp 1 a3,vi (a3.length:Int),vi q0]++dd 42,dn 4++[bv eLog 9 a0]++dn 3++[bv eLog 18 (0,0,[]),none,bv eLog 18 (v2.1.1,v2.1.2.1,q1)]++dn 68⟩
theorem x_ea.ok0 (K:Nat) (a0:TLog) (a1:Int) (a2:Int) (a3:y14):x_ea.g0 K a0 a1 a2 a3=x_ea.l0 K a0 a1 a2 a3:=
 funext (lpe3 (fun _ _ _=>by kernel_rfl) fun _ _ _ _=>by kernel_rfl)
theorem o142 (K:Nat):FOk PP 142 (B142 K).F:=bok mixed Tryz.func142 fun v=>by
 have e:(B142 K).run v=x_ea.b K v.1 v.2.1 v.2.2.1 v.2.2.2.1 (x_ea.g0 K v.1 v.2.1 v.2.2.1 v.2.2.2.1 K):=by kernel_rfl
 rw [x_ea.ok0] at e
 exact e.trans (by kernel_rfl)
noncomputable def B274 (K:Nat):Bd PP:=⟨⟨[.via 2,vp eRow 18,vp x_dn 0],[],[.one, .one, .gh 0],u2 (x_ib K),false⟩,sf 1<|cn (o213 K)<|cn (o214 K) tt,hn [15,15,15,15,15,15,7],K,Tryz.f274,[]⟩
theorem o274 (K:Nat):FOk PP 274 (B274 K).F:=bok mixed Tryz.func274
noncomputable def B206a (K:Nat):Bd PP:=⟨⟨[vp x_dn 0, .via 0,vp eRow 18],[],[.one, .fn 274 2],u2 (x_g K),false⟩,sf 1<|cn (o213 K)<|cn (o274 K) tt,hn [23,55,131127,55,55],K,Tryz.f206,[]⟩
noncomputable def x_g.g0 (K:Nat) (a0:x_h) (a2:TRow) (n:Nat) (v1:y50) (q0:Int) (q1:y26) (q2:TRow):Option y55:=
 lq (B206a K) (dirs 3 56) n ⟨[vt 0 0 0, .fn 274 [.one (.ptr 1 0 0), .one (.ptr 2 0 0)], .dead, .dead,vi v1.1,vi q0]++dd 16,[some (0,[.val .f (.sl (.i .u8)) q1.1.1, .val .f (.i .i64) q1.1.2.1, .val .f .b q1.1.2.2]),some (0,[.ptr 0 0 0]),some (0,[.val .f (.i .i64) q2.1, .val .f (.i .i64) q2.2.1, .val (.x 0) (.sl x_sl) q2.2.2])]++dn 22⟩
theorem x_g.ok0 (K:Nat) (a0:x_h) (a2:TRow):x_g.g0 K a0 a2=x_g.l0 K a0 a2:=
 funext (lpe4 (fun _ _ _ _=>by kernel_rfl) fun _ _ _ _ _=>by kernel_rfl)
theorem o206a (K:Nat):FOk PP 206 (B206a K).F:=bok mixed Tryz.func206 fun v=>by
 have e:(B206a K).run v=x_g.b K v.1 v.2.1 (x_g.g0 K v.1 v.2.1 K):=by kernel_rfl
 rw [x_g.ok0] at e
 exact e.trans (by kernel_rfl)
noncomputable def B208 (K:Nat):Bd PP:=⟨⟨[vp x_dn 0],[ra eRow 18],[],u1 (x_hw K),false⟩,cn (o213 K)<|cg 274 (o206a K) tt,hn [7,15,15,13,5],K,Tryz.f208,[.cell 2 114]⟩
theorem o208 (K:Nat):FOk PP 208 (B208 K).F:=bok mixed Tryz.func208
noncomputable def B207 (K:Nat):Bd PP:=⟨⟨[vp x_dg 674, .via 2,vp x_dn 0],[],[.one, .one, .gh 1],u2 (x_op K),false⟩,sf 1<|cn (o208 K) tt,hn [7],K,Tryz.f207,[]⟩
theorem o207 (K:Nat):FOk PP 207 (B207 K).F:=bok mixed Tryz.func207
noncomputable def B206b (K:Nat):Bd PP:=⟨⟨[vp x_dn 0,vp x_dg 674, .via 0],[],[.one, .fn 207 2],u2 (x_r K),false⟩,sf 1<|cn (o213 K)<|cn (o207 K) tt,hn [23,55,131127,55,55],K,Tryz.f206,[]⟩
noncomputable def x_r.g0 (K:Nat) (a0:x_h) (a1:x_ai) (n:Nat) (v1:y50) (q0:Int) (q1:y26) (q2:x_ai):Option y67:=
 lq (B206b K) (dirs 3 56) n ⟨[vt 0 0 0, .fn 207 [.one (.ptr 1 0 0), .one (.ptr 2 0 0)], .dead, .dead,vi v1.1,vi q0]++dd 16,[some (0,[.val .f (.sl (.i .u8)) q1.1.1, .val .f (.i .i64) q1.1.2.1, .val .f .b q1.1.2.2]),some (0,[.val (.x 0) (.sl eRow) q2.1, .val (.x 0) (.sl x_bs) q2.2.1, .val (.x 0) (.sl x_bh) q2.2.2.1, .val .f (.i .i64) q2.2.2.2.1, .val (.x 0) (.sl (.i .i64)) q2.2.2.2.2.1, .val (.x 0) (.sl x_bz) q2.2.2.2.2.2]),some (0,[.ptr 0 0 0])]++dn 22⟩
theorem x_r.ok0 (K:Nat) (a0:x_h) (a1:x_ai):x_r.g0 K a0 a1=x_r.l0 K a0 a1:=
 funext (lpe4 (fun _ _ _ _=>by kernel_rfl) fun _ _ _ _ _=>by kernel_rfl)
theorem o206b (K:Nat):FOk PP 206 (B206b K).F:=bok mixed Tryz.func206 fun v=>by
 have e:(B206b K).run v=x_r.b K v.1 v.2.1 (x_r.g0 K v.1 v.2.1 K):=by kernel_rfl
 rw [x_r.ok0] at e
 exact e.trans (by kernel_rfl)
noncomputable def B275 (K:Nat):Bd PP:=⟨⟨[.via 2,vp x_bs 162,vp x_dn 0],[],[.one, .one, .gh 0],u2 (x_gm K),false⟩,sf 1<|cn (o213 K) tt,hn [15,15,7],K,Tryz.f275,[]⟩
theorem o275 (K:Nat):FOk PP 275 (B275 K).F:=bok mixed Tryz.func275
noncomputable def B206c (K:Nat):Bd PP:=⟨⟨[vp x_dn 0, .via 0,vp x_bs 162],[],[.one, .fn 275 2],u2 (x_e K),false⟩,sf 1<|cn (o213 K)<|cn (o275 K) tt,hn [23,55,131127,55,55],K,Tryz.f206,[]⟩
noncomputable def x_e.g0 (K:Nat) (a0:x_h) (a2:x_at) (n:Nat) (v1:y50) (q0:Int) (q1:y26) (q2:x_at):Option y78:=
 lq (B206c K) (dirs 3 56) n ⟨[vt 0 0 0, .fn 275 [.one (.ptr 1 0 0), .one (.ptr 2 0 0)], .dead, .dead,vi v1.1,vi q0]++dd 16,[some (0,[.val .f (.sl (.i .u8)) q1.1.1, .val .f (.i .i64) q1.1.2.1, .val .f .b q1.1.2.2]),some (0,[.ptr 0 0 0]),some (0,[.val .f (.i .i64) q2.1, .val .f (.i .i64) q2.2.1, .val .f (.i .i64) q2.2.2.1, .val .f (.i .i64) q2.2.2.2.1, .val (.x 0) (.sl x_rv) q2.2.2.2.2])]++dn 22⟩
theorem x_e.ok0 (K:Nat) (a0:x_h) (a2:x_at):x_e.g0 K a0 a2=x_e.l0 K a0 a2:=
 funext (lpe4 (fun _ _ _ _=>by kernel_rfl) fun _ _ _ _ _=>by kernel_rfl)
theorem o206c (K:Nat):FOk PP 206 (B206c K).F:=bok mixed Tryz.func206 fun v=>by
 have e:(B206c K).run v=x_e.b K v.1 v.2.1 (x_e.g0 K v.1 v.2.1 K):=by kernel_rfl
 rw [x_e.ok0] at e
 exact e.trans (by kernel_rfl)
noncomputable def B210 (K:Nat):Bd PP:=⟨⟨[vp x_dn 0],[ra x_bs 162],[],u1 (x_gf K),false⟩,cn (o213 K)<|cg 275 (o206c K) tt,hn [7,15,15,15,15,15,13,5],K,Tryz.f210,[.cell 2 118]⟩
theorem o210 (K:Nat):FOk PP 210 (B210 K).F:=bok mixed Tryz.func210
noncomputable def B209 (K:Nat):Bd PP:=⟨⟨[vp x_dg 674, .via 2,vp x_dn 0],[],[.one, .one, .gh 1],u2 (x_oi K),false⟩,sf 1<|cn (o210 K) tt,hn [7],K,Tryz.f209,[]⟩
theorem o209 (K:Nat):FOk PP 209 (B209 K).F:=bok mixed Tryz.func209
noncomputable def B206d (K:Nat):Bd PP:=⟨⟨[vp x_dn 0,vp x_dg 674, .via 0],[],[.one, .fn 209 2],u2 (x_q K),false⟩,sf 1<|cn (o213 K)<|cn (o209 K) tt,hn [23,55,131127,55,55],K,Tryz.f206,[]⟩
noncomputable def x_q.g0 (K:Nat) (a0:x_h) (a1:x_ai) (n:Nat) (v1:y50) (q0:Int) (q1:y26) (q2:x_ai):Option y67:=
 lq (B206d K) (dirs 3 56) n ⟨[vt 0 0 0, .fn 209 [.one (.ptr 1 0 0), .one (.ptr 2 0 0)], .dead, .dead,vi v1.1,vi q0]++dd 16,[some (0,[.val .f (.sl (.i .u8)) q1.1.1, .val .f (.i .i64) q1.1.2.1, .val .f .b q1.1.2.2]),some (0,[.val (.x 0) (.sl eRow) q2.1, .val (.x 0) (.sl x_bs) q2.2.1, .val (.x 0) (.sl x_bh) q2.2.2.1, .val .f (.i .i64) q2.2.2.2.1, .val (.x 0) (.sl (.i .i64)) q2.2.2.2.2.1, .val (.x 0) (.sl x_bz) q2.2.2.2.2.2]),some (0,[.ptr 0 0 0])]++dn 22⟩
theorem x_q.ok0 (K:Nat) (a0:x_h) (a1:x_ai):x_q.g0 K a0 a1=x_q.l0 K a0 a1:=
 funext (lpe4 (fun _ _ _ _=>by kernel_rfl) fun _ _ _ _ _=>by kernel_rfl)
theorem o206d (K:Nat):FOk PP 206 (B206d K).F:=bok mixed Tryz.func206 fun v=>by
 have e:(B206d K).run v=x_q.b K v.1 v.2.1 (x_q.g0 K v.1 v.2.1 K):=by kernel_rfl
 rw [x_q.ok0] at e
 exact e.trans (by kernel_rfl)
noncomputable def B276 (K:Nat):Bd PP:=⟨⟨[vp x_bh 78, .via 2,vp x_dn 0],[],[.one, .one, .gh 1],u2 (x_go K),false⟩,sf 1<|cn (o213 K) tt,hn [7,7],K,Tryz.f276,[]⟩
theorem o276 (K:Nat):FOk PP 276 (B276 K).F:=bok mixed Tryz.func276
end Go.Proofs.YtjfnlbdnfglmfaaGreat.Cu
