/- The functions compute what is told of them. -/
import Derived.Test.YtjfnlbdnfglmfaaGreatCuOk18
set_option linter.all false
set_option maxRecDepth 100000
namespace Go.Proofs.YtjfnlbdnfglmfaaGreat.Cu
open Go Go.Kn
noncomputable def B126 (K:Nat):Bd PP:=⟨⟨[va eLog 9,va eLog 9],[ro .b 0],[],u2 (x_c3 K),false⟩,tt,hn [12,67108876,16,44,2147483692,44,17592186044460,16,16],K,Tryz.f126,[.tmp 4]⟩
noncomputable def x_c3.g0 (K:Nat) (a0:TLog) (a1:TLog) (n:Nat) (q0:Int):Option y11:=
 lq (B126 K) (dirs 5 1381) n ⟨[.dead, .dead,vt 2 1 0,vt 3 1 0, .dead,vi q0]++dd 39,[none,none,bv eLog 9 a0,bv eLog 9 a1]++dn 43⟩
theorem x_c3.ok0 (K:Nat) (a0:TLog) (a1:TLog):x_c3.g0 K a0 a1=x_c3.l0 K a0 a1:=
 funext (lpe1 (fun _=>by kernel_rfl) fun _ _=>by kernel_rfl)
theorem o126 (K:Nat):FOk PP 126 (B126 K).F:=bok mixed Tryz.func126 fun v=>by
 have e:(B126 K).run v=x_c3.b K v.1 v.2.1 (x_c3.g0 K v.1 v.2.1 K):=by kernel_rfl
 rw [x_c3.ok0] at e
 exact e.trans (by kernel_rfl)
noncomputable def B68 (K:Nat):Bd PP:=⟨⟨[va eRow 9,va eRow 9],[ro .b 0],[],u2 (x_cy K),false⟩,tt,hn [12,67108876,16,44,2147483692,44,17592186044460,16,16],K,Tryz.f68,[.tmp 4]⟩
noncomputable def x_cy.g0 (K:Nat) (a0:TRow) (a1:TRow) (n:Nat) (q0:Int):Option y11:=
 lq (B68 K) (dirs 5 1381) n ⟨[.dead, .dead,vt 2 1 0,vt 3 1 0, .dead,vi q0]++dd 39,[none,none,bv eRow 9 a0,bv eRow 9 a1]++dn 43⟩
theorem x_cy.ok0 (K:Nat) (a0:TRow) (a1:TRow):x_cy.g0 K a0 a1=x_cy.l0 K a0 a1:=
 funext (lpe1 (fun _=>by kernel_rfl) fun _ _=>by kernel_rfl)
theorem o68 (K:Nat):FOk PP 68 (B68 K).F:=bok mixed Tryz.func68 fun v=>by
 have e:(B68 K).run v=x_cy.b K v.1 v.2.1 (x_cy.g0 K v.1 v.2.1 K):=by kernel_rfl
 rw [x_cy.ok0] at e
 exact e.trans (by kernel_rfl)
noncomputable def B69 (K:Nat):Bd PP:=⟨⟨[va x_bs 81,va x_bs 81],[ro .b 0],[],u2 (x_bm K),false⟩,tt,hn [12,1099511627788,16,44,35184372088876,44,288230376151711788,16,16],K,Tryz.f69,[.tmp 4]⟩
noncomputable def x_bm.g0 (K:Nat) (a0:x_at) (a1:x_at) (n:Nat) (q0:Int):Option y11:=
 lq (B69 K) (dirs 5 1381) n ⟨[.dead, .dead,vt 2 1 0,vt 3 1 0, .dead,vi q0]++dd 53,[none,none,bv x_bs 81 a0,bv x_bs 81 a1]++dn 57⟩
theorem x_bm.ok0 (K:Nat) (a0:x_at) (a1:x_at):x_bm.g0 K a0 a1=x_bm.l0 K a0 a1:=
 funext (lpe1 (fun _=>by kernel_rfl) fun _ _=>by kernel_rfl)
theorem o69 (K:Nat):FOk PP 69 (B69 K).F:=bok mixed Tryz.func69 fun v=>by
 have e:(B69 K).run v=x_bm.b K v.1 v.2.1 (x_bm.g0 K v.1 v.2.1 K):=by kernel_rfl
 rw [x_bm.ok0] at e
 exact e.trans (by kernel_rfl)
noncomputable def B70 (K:Nat):Bd PP:=⟨⟨[va x_bh 39,va x_bh 39],[ro .b 0],[],u2 (x_i4 K),false⟩,cn (o23 K) tt,hn [12,16],K,Tryz.f70,[.tmp 4]⟩
theorem o70 (K:Nat):FOk PP 70 (B70 K).F:=bok mixed Tryz.func70
noncomputable def B26 (K:Nat):Bd PP:=⟨⟨[va x_dg 337,va x_dg 337],[ro .b 0],[],u2 (x_t K),false⟩,cn (o23 K)<|cn (o68 K)<|cn (o69 K)<|cn (o70 K) tt,hn [12,144115188075855884,16,44,4611686018427387948,44,75557863725914323419180,16,76,2417851639229258349412428,76,39614081257132168796771975244,16,140,1267650600228229401496703205516,140,20769187434139310514121985316880524,16,268,664613997892457936451903530140172556,268,5444517870735015415413993718908291383564,16,16],K,Tryz.f26,[.tmp 4]⟩
noncomputable def x_t.g0 (K:Nat) (a0:x_ai) (a1:x_ai) (n:Nat) (q0:Int):Option y11:=
 lq (B26 K) (dirs 5 1381) n ⟨[.dead, .dead,vt 2 1 0,vt 3 1 0, .dead,vi q0]++dd 127,[none,none,bv x_dg 337 a0,bv x_dg 337 a1]++dn 131⟩
noncomputable def x_t.g1 (K:Nat) (a0:x_ai) (a1:x_ai) (n:Nat) (q1:Int):Option y11:=
 lq (B26 K) (dirs 6 6906) n ⟨[.dead, .dead,vt 2 1 0,vt 3 1 0, .dead, .dead,vi q1]++dd 126,[none,none,bv x_dg 337 a0,bv x_dg 337 a1]++dn 131⟩
noncomputable def x_t.g2 (K:Nat) (a0:x_ai) (a1:x_ai) (n:Nat) (q2:Int):Option y11:=
 lq (B26 K) (dirs 7 34531) n ⟨[.dead, .dead,vt 2 1 0,vt 3 1 0]++dd 3++[vi q2]++dd 125,[none,none,bv x_dg 337 a0,bv x_dg 337 a1]++dn 131⟩
noncomputable def x_t.g3 (K:Nat) (a0:x_ai) (a1:x_ai) (n:Nat) (q3:Int):Option y11:=
 lq (B26 K) (dirs 8 172656) n ⟨[.dead, .dead,vt 2 1 0,vt 3 1 0]++dd 4++[vi q3]++dd 124,[none,none,bv x_dg 337 a0,bv x_dg 337 a1]++dn 131⟩
theorem x_t.ok3 (K:Nat) (a0:x_ai) (a1:x_ai):x_t.g3 K a0 a1=x_t.l3 K a0 a1:=
 funext (lpe1 (fun _=>by kernel_rfl) fun _ _=>by kernel_rfl)
theorem x_t.ok2 (K:Nat) (a0:x_ai) (a1:x_ai):x_t.g2 K a0 a1=x_t.l2 K a0 a1:=
 funext (lpe1 (fun _=>by kernel_rfl) fun n q2=>(show x_t.g2 K a0 a1 (n+1) q2=x_t.l2b K a0 a1 (x_t.g2 K a0 a1 n) (x_t.g3 K a0 a1 K) q2 by kernel_rfl).trans (by rw [x_t.ok3]<;>rfl))
theorem x_t.ok1 (K:Nat) (a0:x_ai) (a1:x_ai):x_t.g1 K a0 a1=x_t.l1 K a0 a1:=
 funext (lpe1 (fun _=>by kernel_rfl) fun n q1=>(show x_t.g1 K a0 a1 (n+1) q1=x_t.l1b K a0 a1 (x_t.g1 K a0 a1 n) (x_t.g2 K a0 a1 K) q1 by kernel_rfl).trans (by rw [x_t.ok2]<;>rfl))
theorem x_t.ok0 (K:Nat) (a0:x_ai) (a1:x_ai):x_t.g0 K a0 a1=x_t.l0 K a0 a1:=
 funext (lpe1 (fun _=>by kernel_rfl) fun n q0=>(show x_t.g0 K a0 a1 (n+1) q0=x_t.l0b K a0 a1 (x_t.g0 K a0 a1 n) (x_t.g1 K a0 a1 K) q0 by kernel_rfl).trans (by rw [x_t.ok1]<;>rfl))
theorem o26 (K:Nat):FOk PP 26 (B26 K).F:=bok mixed Tryz.func26 fun v=>by
 have e:(B26 K).run v=x_t.b K v.1 v.2.1 (x_t.g0 K v.1 v.2.1 K):=by kernel_rfl
 rw [x_t.ok0] at e
 exact e.trans (by kernel_rfl)
noncomputable def B10 (K:Nat):Bd PP:=⟨⟨[va x_bt 0,va x_dg 337,va x_dg 337],[ro .b 0],[],u3 (x_gi K),false⟩,cn (o26 K) tt,hn [48,64],K,Tryz.f10,[.tmp 6]⟩
theorem o10 (K:Nat):FOk PP 10 (B10 K).F:=bok mixed Tryz.func10
noncomputable def B67 (K:Nat):Bd PP:=⟨⟨[va x_bt 0,va x_it 81972,va x_it 81972],[ro .b 0],[],u3 (x_ki K),false⟩,cn (o126 K)<|cn (o10 K) tt,hn [56,64],K,Tryz.f67,[.tmp 6]⟩
theorem o67 (K:Nat):FOk PP 67 (B67 K).F:=bok mixed Tryz.func67
noncomputable def B25 (K:Nat):Bd PP:=⟨⟨[va x_gb 984972995316,va x_gb 984972995316],[ro .b 0],[],u2 (x_b3 K),false⟩,cn (o67 K)<|cn (o10 K)<|cn (o23 K)<|cn (o24 K) tt,hn [12,154742504910672534362390540,16,44,4951760157141521099596496940,44,40564819207303340847894502572076,16,16],K,Tryz.f25,[.tmp 4]⟩
noncomputable def x_b3.g0 (K:Nat) (a0:x_bq) (a1:x_bq) (n:Nat) (q0:Int):Option y11:=
 lq (B25 K) (dirs 5 1381) n ⟨[.dead, .dead,vt 2 1 0,vt 3 1 0, .dead,vi q0]++dd 105,[none,none,bv x_gb 984972995316 a0,bv x_gb 984972995316 a1]++dn 109⟩
theorem x_b3.ok0 (K:Nat) (a0:x_bq) (a1:x_bq):x_b3.g0 K a0 a1=x_b3.l0 K a0 a1:=
 funext (lpe1 (fun _=>by kernel_rfl) fun _ _=>by kernel_rfl)
theorem o25 (K:Nat):FOk PP 25 (B25 K).F:=bok mixed Tryz.func25 fun v=>by
 have e:(B25 K).run v=x_b3.b K v.1 v.2.1 (x_b3.g0 K v.1 v.2.1 K):=by kernel_rfl
 rw [x_b3.ok0] at e
 exact e.trans (by kernel_rfl)
end Go.Proofs.YtjfnlbdnfglmfaaGreat.Cu
