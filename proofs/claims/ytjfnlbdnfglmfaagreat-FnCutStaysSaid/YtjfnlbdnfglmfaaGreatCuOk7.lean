/- The functions compute what is told of them. -/
import Derived.Test.YtjfnlbdnfglmfaaGreatCuOk6
set_option linter.all false
set_option maxRecDepth 100000
namespace Go.Proofs.YtjfnlbdnfglmfaaGreat.Cu
open Go Go.Kn
noncomputable def B316 (K:Nat):Bd PP:=⟨⟨[va eRow 9,vo (.i .i64) 0,vo (.i .i64) 0],[ra eRow 18],[],u3 (x_a0 K),false⟩,cn o197<|cn (o184 K) tt,hn [78,206,4194510,64,268435662,462,4398046511566,64,974,1152921504606847950,974,462,206,64],K,Tryz.f316,[.cell 6 114]⟩
noncomputable def x_a0.g0 (K:Nat) (a0:TRow) (a1:Int) (a2:Int) (n:Nat) (q1:Int) (v1:y16) (q2:y8):Option y16:=
 lq (B316 K) (dirs 5 1281) n ⟨[.dead,vi a1,vi a2,vt 3 1 0, .dead, .dead,vt 6 1 0,vt 7 1 0]++dd 68,dn 3++[bv eRow 9 a0,none,none,bv eRow 18 (0,0,[]),bv eRow 18 (q1,v1.1.2.1,q2)]++dn 71⟩
noncomputable def x_a0.g1 (K:Nat) (a0:TRow) (a1:Int) (a2:Int) (n0:Nat) (n:Nat) (q2:y8) (q3:Int) (q1:Int) (v1:y16):Option y16:=
 lq (B316 K) [.r, .r, .r, .l, .b, .lp n0, .r, .b, .r, .r, .r, .l, .b] n ⟨[.dead,vi a1,vi a2,vt 3 1 0, .dead, .dead,vt 6 1 0,vt 7 1 0,vi (i6 (Int.tdiv (q2.getD 0 x_ce).1 a1)),vi q3]++dd 66,dn 3++[bv eRow 9 a0,none,none,bv eRow 18 (0,0,[]),bv eRow 18 (q1,v1.1.2.1,q2)]++dn 71⟩
theorem x_a0.ok1 (K:Nat) (a0:TRow) (a1:Int) (a2:Int) (n0:Nat):x_a0.g1 K a0 a1 a2 n0=x_a0.l1 K a0 a1 a2 (x_a0.g0 K a0 a1 a2 n0):=
 funext (lpe4 (fun _ _ _ _=>by kernel_rfl) fun _ _ _ _ _=>by kernel_rfl)
theorem x_a0.ok0 (K:Nat) (a0:TRow) (a1:Int) (a2:Int):x_a0.g0 K a0 a1 a2=x_a0.l0 K a0 a1 a2:=
 funext (lpe3 (fun _ _ _=>by kernel_rfl) fun n q1 v1 q2=>(show x_a0.g0 K a0 a1 a2 (n+1) q1 v1 q2=x_a0.l0b K a0 a1 a2 (x_a0.g1 K a0 a1 a2 n K) q1 v1 q2 by kernel_rfl).trans (by rw [x_a0.ok1]<;>rfl))
theorem o316 (K:Nat):FOk PP 316 (B316 K).F:=bok mixed Tryz.func316 fun v=>by
 have e:(B316 K).run v=x_a0.b K v.1 v.2.1 v.2.2.1 (x_a0.g0 K v.1 v.2.1 v.2.2.1 K):=by kernel_rfl
 rw [x_a0.ok0] at e
 exact e.trans (by kernel_rfl)
noncomputable def B334 (K:Nat):Bd PP:=⟨⟨[va eRow 9,vo (.i .i64) 0],[ro .b 0],[],u2 (x_ca K),false⟩,tt,hn [6,38,4134,38,134217766,16,16],K,Tryz.f334,[.tmp 4]⟩
noncomputable def x_ca.g0 (K:Nat) (a0:TRow) (a1:Int) (n:Nat) (q0:Int):Option y11:=
 lq (B334 K) (dirs 4 276) n ⟨[.dead,vi a1,vt 2 1 0, .dead, .dead,vi q0]++dd 22,[none,none,bv eRow 9 a0]++dn 27⟩
theorem x_ca.ok0 (K:Nat) (a0:TRow) (a1:Int):x_ca.g0 K a0 a1=x_ca.l0 K a0 a1:=
 funext (lpe1 (fun _=>by kernel_rfl) fun _ _=>by kernel_rfl)
theorem o334 (K:Nat):FOk PP 334 (B334 K).F:=bok mixed Tryz.func334 fun v=>by
 have e:(B334 K).run v=x_ca.b K v.1 v.2.1 (x_ca.g0 K v.1 v.2.1 K):=by kernel_rfl
 rw [x_ca.ok0] at e
 exact e.trans (by kernel_rfl)
noncomputable def B317 (K:Nat):Bd PP:=⟨⟨[va eRow 9,vo (.i .i64) 0],[ra eRow 18],[],u2 (x_c5 K),false⟩,cn (o184 K)<|cn o197<|cn (o334 K) tt,hn [22,16406,16,54,118,67108982,118,246,18014398509482230,118,16],K,Tryz.f317,[.cell 4 114]⟩
noncomputable def x_c5.g0 (K:Nat) (a0:TRow) (a1:Int) (n:Nat) (q0:Int) (q1:y8):Option y16:=
 lq (B317 K) (dirs 6 6906) n ⟨[.dead,vi a1,vt 2 1 0, .dead,vt 4 1 0,vt 5 1 0,vi q0]++dd 55,[none,none,bv eRow 9 a0,none,bv eRow 18 (0,0,[]),bv eRow 18 (a0.1,a0.2.1,q1)]++dn 58⟩
theorem x_c5.ok0 (K:Nat) (a0:TRow) (a1:Int):x_c5.g0 K a0 a1=x_c5.l0 K a0 a1:=
 funext (lpe2 (fun _ _=>by kernel_rfl) fun _ _ _=>by kernel_rfl)
theorem o317 (K:Nat):FOk PP 317 (B317 K).F:=bok mixed Tryz.func317 fun v=>by
 have e:(B317 K).run v=x_c5.b K v.1 v.2.1 (x_c5.g0 K v.1 v.2.1 K):=by kernel_rfl
 rw [x_c5.ok0] at e
 exact e.trans (by kernel_rfl)
noncomputable def B315 (K:Nat):Bd PP:=⟨⟨[va x_bt 0,va x_dg 674,va eCmd 0],[ra x_dg 674,ra x_bz 0],[],u3 (x_vw K),false⟩,cn (o331 K)<|cn (o332 K)<|cn (o333 K)<|cn (o316 K)<|cn (o317 K) tt,h2 [248,33016,240,1073774840,960,192,2199023288568,3264,192,2251799813718264,12496,36893488147419107536,110680464442257314000,192,1180591620717411307728,192,192,4835703278458516698824952,240,8184] [(19,9),(19,10)] [],K,Tryz.f315,[.cell 6 51, .cell 7 73]⟩
theorem o315 (K:Nat):FOk PP 315 (B315 K).F:=bok mixed Tryz.func315
noncomputable def B279 (K:Nat):Bd PP:=⟨⟨[va x_bt 0,va x_dg 674,va eCmd 0],[ra x_dg 674,ra x_bz 0],[],u3 (x_fj K),false⟩,cn o261<|cn (o313 K)<|cn o20<|cn (o314 K)<|cn (o315 K) tt,h2 [248,33016,208,464,134218192,464,464,7928,281474976710904,2251799813685496,192,1728,192,147573952589676413176,192,6336,192] [(7,4),(7,5)] [],K,Tryz.f279,[.cell 6 51, .cell 7 73]⟩
noncomputable def x_fj.g0 (K:Nat) (a0:x_d) (a1:x_ai) (a2:TCmd) (n:Nat) (q0:Int) (q1:y12) (v1:y7):Option y62:=
 lq (B279 K) (dirs 8 172901) n ⟨dd 4++[vt 4 1 0, .dead,vt 6 1 0,vt 7 1 0,vi q0]++dd 70,dn 4++[bv x_dg 674 (a1.1,a1.2.1,q1,v1.1,a1.2.2.2.2),none,bv x_dg 674 ([],[],[],0,[],[]),bv x_bz 0 (0,0,ByteArray.empty,ByteArray.empty)]++dn 74⟩
theorem x_fj.ok0 (K:Nat) (a0:x_d) (a1:x_ai) (a2:TCmd):x_fj.g0 K a0 a1 a2=x_fj.l0 K a0 a1 a2:=
 funext (lpe3 (fun _ _ _=>by kernel_rfl) fun _ _ _ _=>by kernel_rfl)
theorem o279 (K:Nat):FOk PP 279 (B279 K).F:=bok mixed Tryz.func279 fun v=>by
 have e:(B279 K).run v=x_fj.b K v.1 v.2.1 v.2.2.1 (x_fj.g0 K v.1 v.2.1 v.2.2.1 K):=by kernel_rfl
 rw [x_fj.ok0] at e
 exact e.trans (by kernel_rfl)
noncomputable def B217 (K:Nat):Bd PP:=⟨⟨[va x_bt 0,va x_dg 337,va eCmd 0],[ra x_dg 674,ra x_bz 0],[],u3 (x_zi K),false⟩,cn (o124 K)<|cn (o279 K) tt,hn [248,4344,192,16777464,192,992,992,960,192],K,Tryz.f217,[.cell 6 51, .cell 7 73]⟩
theorem o217 (K:Nat):FOk PP 217 (B217 K).F:=bok mixed Tryz.func217
noncomputable def B325 (K:Nat):Bd PP:=⟨⟨[va x_bt 0,va x_dg 337,va eCmd 0],[ra x_dg 674],[],u3 (x_rp K),false⟩,cn (o217 K) tt,hn [120,192,64],K,Tryz.f325,[.cell 6 51]⟩
theorem o325 (K:Nat):FOk PP 325 (B325 K).F:=bok mixed Tryz.func325
noncomputable def B303 (K:Nat):Bd PP:=⟨⟨[vp x_e7 21160907109180,vo (.i .i64) 0],[],[],u2 (x_em K),false⟩,cn o113<|cn o261<|cn (o325 K) tt,hn [19,16777235,19,19],K,Tryz.f303,[]⟩
noncomputable def x_em.g0 (K:Nat) (a0:y1) (a1:Int) (n:Nat) (v1:y29) (q0:Int) (q1:x_ai):Option y27:=
 lq (B303 K) (dirs 2 11) n ⟨[vt 0 0 0,vi a1, .dead, .dead,vi v1.1]++dd 67,[some (0,[.val .f (.i .i64) a0.1.1, .val .f (.i .i64) a0.1.2.1, .val .f (.i .i64) a0.1.2.2.1, .val .f (.i .i64) a0.1.2.2.2, .val .f (.i .i64) a0.2.1, .val .f (.i .i64) a0.2.2.1.1, .val .f (.i .i64) a0.2.2.1.2.1.1, .val .f (.i .i64) a0.2.2.1.2.1.2.1, .val .f (.i .i64) a0.2.2.1.2.1.2.2.1.1, .val .f (.i .i64) a0.2.2.1.2.1.2.2.1.2.1, .val .f (.sl x_dp) a0.2.2.1.2.1.2.2.1.2.2, .val .f (.sl eRow) a0.2.2.1.2.1.2.2.2.1, .val .f (.sl x_bs) a0.2.2.1.2.1.2.2.2.2.1, .val .f (.sl x_bh) a0.2.2.1.2.1.2.2.2.2.2.1, .val .f (.i .i64) a0.2.2.1.2.1.2.2.2.2.2.2.1, .val .f (.sl (.i .i64)) a0.2.2.1.2.1.2.2.2.2.2.2.2.1, .val .f (.sl x_bz) a0.2.2.1.2.1.2.2.2.2.2.2.2.2, .val .f (.i .i64) a0.2.2.1.2.2.1, .val (.x 0) (.sl .b) a0.2.2.1.2.2.2.1, .val (.x 0) (.sl (.i .i64)) a0.2.2.1.2.2.2.2.1, .val (.x 0) (.sl (.i .i64)) a0.2.2.1.2.2.2.2.2.1, .val .f (.i .i64) q0, .val (.x 0) (.sl eRow) q1.1, .val (.x 0) (.sl x_bs) q1.2.1, .val (.x 0) (.sl x_bh) q1.2.2.1, .val .f (.i .i64) q1.2.2.2.1, .val (.x 0) (.sl (.i .i64)) q1.2.2.2.2.1, .val (.x 0) (.sl x_bz) q1.2.2.2.2.2, .val .f (.sl (.i .u8)) a0.2.2.1.2.2.2.2.2.2.2.2.1.1, .val .f (.i .i64) a0.2.2.1.2.2.2.2.2.2.2.2.1.2, .val .f (.sl eRpc) a0.2.2.1.2.2.2.2.2.2.2.2.2, .val .f .b a0.2.2.2])]++dn 73⟩
theorem x_em.ok0 (K:Nat) (a0:y1) (a1:Int):x_em.g0 K a0 a1=x_em.l0 K a0 a1:=
 funext (lpe3 (fun _ _ _=>by kernel_rfl) fun _ _ _ _=>by kernel_rfl)
theorem o303 (K:Nat):FOk PP 303 (B303 K).F:=bok mixed Tryz.func303 fun v=>by
 have e:(B303 K).run v=x_em.b K v.1 v.2.1 (x_em.g0 K v.1 v.2.1 K):=by kernel_rfl
 rw [x_em.ok0] at e
 exact e.trans (by kernel_rfl)
noncomputable def B250 (K:Nat):Bd PP:=⟨⟨[vp x_e7 21160907109180,va eRpc 2187],[],[],u2 (x_ge K),false⟩,cn o113<|cn (o298 K)<|cn (o247 K)<|cn (o299 K)<|cn (o300 K)<|cn o261<|cn o36<|cn (o301 K)<|cn (o302 K)<|cn (o254 K)<|cn (o303 K) tt,hn [9,25,57,2147483705,1,57,35184372088889,1,441,1977,154742504910672534362391225,1,10141204801825835211973625643529,9,9,2057,42535295865117307932921825928971028489,2057,1],K,Tryz.f250,[]⟩
theorem o250 (K:Nat):FOk PP 250 (B250 K).F:=bok mixed Tryz.func250
noncomputable def B251 (K:Nat):Bd PP:=⟨⟨[vp x_e7 21160907109180,va eRpc 2187],[],[],u2 (x_jb K),false⟩,cn o113<|cn (o298 K)<|cn (o247 K)<|cn o259<|cn (o303 K)<|cn (o304 K)<|cn (o302 K)<|cn (o254 K) tt,hn [9,25,57,268435513,1,25,35184372088857,1,2305843009213693961,9,1,393,39614081257132168796771975305,137,9,9,9,1],K,Tryz.f251,[]⟩
theorem o251 (K:Nat):FOk PP 251 (B251 K).F:=bok mixed Tryz.func251
end Go.Proofs.YtjfnlbdnfglmfaaGreat.Cu
