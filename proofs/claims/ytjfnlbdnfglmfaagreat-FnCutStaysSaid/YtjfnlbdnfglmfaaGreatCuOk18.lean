/- The functions compute what is told of them. -/
import Derived.Test.YtjfnlbdnfglmfaaGreatCuOk17
set_option linter.all false
set_option maxRecDepth 100000
namespace Go.Proofs.YtjfnlbdnfglmfaaGreat.Cu
open Go Go.Kn
noncomputable def B57 (K:Nat):Bd PP:=⟨⟨[vp x_be 118098],[],[],u1 (x_5 K),false⟩,cn o17 tt,hn [1793,3841,1801,2098953,1817,1099511629593,1801,1793],K,Tryz.f57,[]⟩
noncomputable def x_5.g0 (K:Nat) (a0:x_u) (n:Nat) (q1:Int) (q2:y5):Option y25:=
 lq (B57 K) (dirs 2 11) n ⟨[vt 0 0 0]++dd 7++[vl x_gb 0 a0.2.2.1,vi (a0.2.2.1.length:Int),vi q1]++dd 48,[some (0,[.val .f (.i .i64) a0.1.1, .val .f (.i .i64) a0.1.2.1, .val .f (.i .i64) a0.1.2.2.1, .val .f (.i .i64) a0.1.2.2.2, .val .f (.i .i64) a0.2.1, .val .f (.sl x_gb) a0.2.2.1, .val .f (.sl eRpc) a0.2.2.2.1, .val .f (.sl eCmd) a0.2.2.2.2.1, .val .f (.sl (.i .i64)) a0.2.2.2.2.2.1, .val .f (.sl x_mg) a0.2.2.2.2.2.2.1, .val (.x 0) (.sl eCmd) q2])]++dn 59⟩
noncomputable def x_5.g1 (K:Nat) (a0:x_u) (n0:Nat) (n:Nat) (q1:Int) (q3:y5):Option y25:=
 lq (B57 K) [.r, .b, .lp n0, .r, .r, .l, .b, .r, .b] n ⟨[vt 0 0 0, .dead, .dead,vt 3 1 0]++dd 4++[vl x_gb 0 a0.2.2.1,vi (a0.2.2.1.length:Int),vi q1]++dd 48,[some (0,[.val .f (.i .i64) a0.1.1, .val .f (.i .i64) a0.1.2.1, .val .f (.i .i64) a0.1.2.2.1, .val .f (.i .i64) a0.1.2.2.2, .val .f (.i .i64) a0.2.1, .val .f (.sl x_gb) a0.2.2.1, .val .f (.sl eRpc) a0.2.2.2.1, .val .f (.sl eCmd) a0.2.2.2.2.1, .val .f (.sl (.i .i64)) a0.2.2.2.2.2.1, .val .f (.sl x_mg) a0.2.2.2.2.2.2.1, .val (.x 0) (.sl eCmd) q3]),none,none,bv x_gb 0 (a0.2.2.1.getD q1.toNat x_bx)]++dn 56⟩
theorem x_5.ok1 (K:Nat) (a0:x_u) (n0:Nat):x_5.g1 K a0 n0=x_5.l1 K a0 (x_5.g0 K a0 n0):=
 funext (lpe2 (fun _ _=>by kernel_rfl) fun _ _ _=>by kernel_rfl)
theorem x_5.ok0 (K:Nat) (a0:x_u):x_5.g0 K a0=x_5.l0 K a0:=
 funext (lpe2 (fun _ _=>by kernel_rfl) fun n q1 q2=>(show x_5.g0 K a0 (n+1) q1 q2=x_5.l0b K a0 (x_5.g1 K a0 n K) q1 q2 by kernel_rfl).trans (by rw [x_5.ok1]<;>rfl))
theorem o57 (K:Nat):FOk PP 57 (B57 K).F:=bok mixed Tryz.func57 fun v=>by
 have e:(B57 K).run v=x_5.b K v.1 (x_5.g0 K v.1 K):=by kernel_rfl
 rw [x_5.ok0] at e
 exact e.trans (by kernel_rfl)
noncomputable def B18 (K:Nat):Bd PP:=⟨⟨[va x_be 88452,va x_o8 0],[ra x_be 176904,ro (.i .i64) 0],[],u2 (x_ym K),false⟩,cn (o52 K)<|cn (o53 K)<|cn (o56 K)<|cn (o57 K) tt,h2 [28,1052,48,92,92,65628,212,589916,589916,589916,212,33620060,33620060,33554524,212,4294967508,48,80,48] [] [19,25],K,Tryz.f18,[.cell 4 32, .tmp 5]⟩
theorem o18 (K:Nat):FOk PP 18 (B18 K).F:=bok mixed Tryz.func18
noncomputable def B7 (K:Nat):Bd PP:=⟨⟨[va x_be 0,va x_o8 0],[ra x_be 176904,ro (.i .i64) 0],[],u2 (i_Do K),false⟩,cn (o16 K)<|cn o17<|cn (o18 K) tt,hn [28,16412,48,48],K,Tryz.f7,[.cell 4 32, .tmp 5]⟩
theorem o7 (K:Nat):FOk PP 7 (B7 K).F:=bok mixed Tryz.func7
noncomputable def B59 (K:Nat):Bd PP:=⟨⟨[va x_be 88452],[ro .b 0],[],u1 (x_ak K),false⟩,cn (o62 K)<|cn o20<|cn (o111 K) tt,hn [2,4194306,4,10,16777226,10,26,9223372036854775818,4,34,295147905179352825890,34,98,10141204801825835211973625643042,4,4],K,Tryz.f59,[.tmp 2]⟩
noncomputable def x_ak.g0 (K:Nat) (a0:x_u) (n:Nat) (q0:Int):Option y11:=
 lq (B59 K) (dirs 5 1381) n ⟨[.dead,vt 1 1 0, .dead,vi q0]++dd 100,[none,bv x_be 88452 a0]++dn 103⟩
noncomputable def x_ak.g1 (K:Nat) (a0:x_u) (n:Nat) (q1:Int):Option y11:=
 lq (B59 K) (dirs 6 6906) n ⟨[.dead,vt 1 1 0]++dd 3++[vi q1]++dd 98,[none,bv x_be 88452 a0]++dn 103⟩
theorem x_ak.ok1 (K:Nat) (a0:x_u):x_ak.g1 K a0=x_ak.l1 K a0:=
 funext (lpe1 (fun _=>by kernel_rfl) fun _ _=>by kernel_rfl)
theorem x_ak.ok0 (K:Nat) (a0:x_u):x_ak.g0 K a0=x_ak.l0 K a0:=
 funext (lpe1 (fun _=>by kernel_rfl) fun n q0=>(show x_ak.g0 K a0 (n+1) q0=x_ak.l0b K a0 (x_ak.g0 K a0 n) (x_ak.g1 K a0 K) q0 by kernel_rfl).trans (by rw [x_ak.ok1]<;>rfl))
theorem o59 (K:Nat):FOk PP 59 (B59 K).F:=bok mixed Tryz.func59 fun v=>by
 have e:(B59 K).run v=x_ak.b K v.1 (x_ak.g0 K v.1 K):=by kernel_rfl
 rw [x_ak.ok0] at e
 exact e.trans (by kernel_rfl)
noncomputable def B19 (K:Nat):Bd PP:=⟨⟨[va x_be 88452],[ro .b 0],[],u1 (x_ac K),false⟩,cn o58<|cn o20<|cn (o59 K)<|cn (o60 K)<|cn (o61 K)<|cn (o62 K) tt,hn [2,1099511627778,4,10,17592186044426,10,147573952589676412938,4,18,4722366482869645213714,18,9671406556917033397649426,4,34,309485009821345068724781090,34,158456325028528675187087900706,4,4],K,Tryz.f19,[.tmp 2]⟩
noncomputable def x_ac.g0 (K:Nat) (a0:x_u) (n:Nat) (q0:Int):Option y11:=
 lq (B19 K) (dirs 5 1381) n ⟨[.dead,vt 1 1 0, .dead,vi q0]++dd 94,[none,bv x_be 88452 a0]++dn 97⟩
noncomputable def x_ac.g1 (K:Nat) (a0:x_u) (n:Nat) (q1:Int):Option y11:=
 lq (B19 K) (dirs 6 6906) n ⟨[.dead,vt 1 1 0, .dead, .dead,vi q1]++dd 93,[none,bv x_be 88452 a0]++dn 97⟩
noncomputable def x_ac.g2 (K:Nat) (a0:x_u) (n:Nat) (q2:Int):Option y11:=
 lq (B19 K) (dirs 7 34531) n ⟨[.dead,vt 1 1 0]++dd 3++[vi q2]++dd 92,[none,bv x_be 88452 a0]++dn 97⟩
theorem x_ac.ok2 (K:Nat) (a0:x_u):x_ac.g2 K a0=x_ac.l2 K a0:=
 funext (lpe1 (fun _=>by kernel_rfl) fun _ _=>by kernel_rfl)
theorem x_ac.ok1 (K:Nat) (a0:x_u):x_ac.g1 K a0=x_ac.l1 K a0:=
 funext (lpe1 (fun _=>by kernel_rfl) fun n q1=>(show x_ac.g1 K a0 (n+1) q1=x_ac.l1b K a0 (x_ac.g1 K a0 n) (x_ac.g2 K a0 K) q1 by kernel_rfl).trans (by rw [x_ac.ok2]<;>rfl))
theorem x_ac.ok0 (K:Nat) (a0:x_u):x_ac.g0 K a0=x_ac.l0 K a0:=
 funext (lpe1 (fun _=>by kernel_rfl) fun n q0=>(show x_ac.g0 K a0 (n+1) q0=x_ac.l0b K a0 (x_ac.g0 K a0 n) (x_ac.g1 K a0 K) q0 by kernel_rfl).trans (by rw [x_ac.ok1]<;>rfl))
theorem o19 (K:Nat):FOk PP 19 (B19 K).F:=bok mixed Tryz.func19 fun v=>by
 have e:(B19 K).run v=x_ac.b K v.1 (x_ac.g0 K v.1 K):=by kernel_rfl
 rw [x_ac.ok0] at e
 exact e.trans (by kernel_rfl)
noncomputable def B8 (K:Nat):Bd PP:=⟨⟨[va x_be 88452,va x_o8 0],[ra x_be 176904,ro (.i .i64) 0],[],u2 (s_Do K),false⟩,cn (o19 K)<|cn o20<|cn (o22 K)<|cn (o21 K) tt,hn [28,65564,48,212,67109076,48,48],K,Tryz.f8,[.cell 4 32, .tmp 5]⟩
theorem o8 (K:Nat):FOk PP 8 (B8 K).F:=bok mixed Tryz.func8
noncomputable def B23 (K:Nat):Bd PP:=⟨⟨[vo (.sl (.i .i64)) 1,vo (.sl (.i .i64)) 1],[ro .b 0],[],u2 (x_bf K),false⟩,tt,hn [3,1027,16,35,16419,35,33554467,16,16],K,Tryz.f23,[.tmp 4]⟩
noncomputable def x_bf.g0 (K:Nat) (a0:y0) (a1:y0) (n:Nat) (q0:Int):Option y11:=
 lq (B23 K) (dirs 5 1381) n ⟨[vl (.i .i64) 1 a0,vl (.i .i64) 1 a1]++dd 3++[vi q0]++dd 20,dn 28⟩
theorem x_bf.ok0 (K:Nat) (a0:y0) (a1:y0):x_bf.g0 K a0 a1=x_bf.l0 K a0 a1:=
 funext (lpe1 (fun _=>by kernel_rfl) fun _ _=>by kernel_rfl)
theorem o23 (K:Nat):FOk PP 23 (B23 K).F:=bok mixed Tryz.func23 fun v=>by
 have e:(B23 K).run v=x_bf.b K v.1 v.2.1 (x_bf.g0 K v.1 v.2.1 K):=by kernel_rfl
 rw [x_bf.ok0] at e
 exact e.trans (by kernel_rfl)
noncomputable def B24 (K:Nat):Bd PP:=⟨⟨[vo (.sl eRpc) 1,vo (.sl eRpc) 1],[ro .b 0],[],u2 (x_am K),false⟩,tt,hn [3,8195,16,35,131107,35,227,158456325028528675187087900899,16,483,5070602400912917605986812821987,483,41538374868278621028243970633761251,16,16],K,Tryz.f24,[.tmp 4]⟩
noncomputable def x_am.g0 (K:Nat) (a0:y3) (a1:y3) (n:Nat) (q1:Int):Option y11:=
 lq (B24 K) (dirs 5 1381) n ⟨[vl eRpc 1 a0,vl eRpc 1 a1]++dd 3++[vi q1]++dd 110,dn 118⟩
noncomputable def x_am.g1 (K:Nat) (a0:y3) (a1:y3) (n0:Nat) (n:Nat) (q1:Int) (q2:Int):Option y11:=
 lq (B24 K) [.r, .r, .l, .r, .b, .lp n0, .r, .l, .b, .r, .r, .r, .b] n ⟨[vl eRpc 1 a0,vl eRpc 1 a1]++dd 3++[vi q1,vt 6 1 0,vt 7 1 0,vi q2]++dd 107,dn 6++[bv eRpc 0 (a0.getD q1.toNat zRpc),bv eRpc 0 (a1.getD q1.toNat zRpc)]++dn 110⟩
theorem x_am.ok1 (K:Nat) (a0:y3) (a1:y3) (n0:Nat):x_am.g1 K a0 a1 n0=x_am.l1 K a0 a1 (x_am.g0 K a0 a1 n0):=
 funext (lpe2 (fun _ _=>by kernel_rfl) fun _ _ _=>by kernel_rfl)
theorem x_am.ok0 (K:Nat) (a0:y3) (a1:y3):x_am.g0 K a0 a1=x_am.l0 K a0 a1:=
 funext (lpe1 (fun _=>by kernel_rfl) fun n q1=>(show x_am.g0 K a0 a1 (n+1) q1=x_am.l0b K a0 a1 (x_am.g1 K a0 a1 n K) q1 by kernel_rfl).trans (by rw [x_am.ok1]<;>rfl))
theorem o24 (K:Nat):FOk PP 24 (B24 K).F:=bok mixed Tryz.func24 fun v=>by
 have e:(B24 K).run v=x_am.b K v.1 v.2.1 (x_am.g0 K v.1 v.2.1 K):=by kernel_rfl
 rw [x_am.ok0] at e
 exact e.trans (by kernel_rfl)
end Go.Proofs.YtjfnlbdnfglmfaaGreat.Cu
