/- The functions compute what is told of them. -/
import Derived.Test.YtoiamgohjmjbiaaGreatPeOk9
set_option linter.all false
set_option maxRecDepth 100000
namespace Go.Proofs.YtoiamgohjmjbiaaGreat.Pe
open Go Go.Kn
noncomputable def B256 (K:Nat):Bd PP:=⟨⟨[vp x_ee 21160907109180,va eRpc 2187],[],[],u2 (x_h6 K),false⟩,cn o41<|cn (o270 K)<|cn (o252 K)<|cn o178<|cn (o273 K)<|cn (o177 K)<|cn (o272 K)<|cn (o259 K) tt,hn [9,25,57,268435513,1,25,35184372088857,1,2305843009213693961,9,1,393,39614081257132168796771975305,137,9,9,9,1],K,Tryz.f256,[]⟩
theorem o256 (K:Nat):FOk PP 256 (B256 K).F:=bok mixed Tryz.func256
noncomputable def B274 (K:Nat):Bd PP:=⟨⟨[vp x_ee 21160907109180],[],[],u1 (x_9 K),false⟩,cn o41<|cn o269<|cn o178<|cn o16<|cn (o273 K) tt,hn [5,17,4294967313,17,49,113,1099511627889,113,113,604462909807314587353105,1],K,Tryz.f274,[]⟩
noncomputable def x_9.g0 (K:Nat) (a0:y1) (n:Nat) (q2:Int):Option y25:=
 lq (B274 K) (dirs 3 56) n ⟨[vt 0 0 0]++dd 3++[vi q2]++dd 78,[some (0,[.val .f (.i .i64) a0.1.1, .val .f (.i .i64) a0.1.2.1, .val .f (.i .i64) a0.1.2.2.1, .val .f (.i .i64) a0.1.2.2.2, .val .f (.i .i64) a0.2.1, .val .f (.i .i64) a0.2.2.1.1, .val .f (.i .i64) a0.2.2.1.2.1.1, .val .f (.i .i64) a0.2.2.1.2.1.2.1, .val .f (.i .i64) a0.2.2.1.2.1.2.2.1.1, .val .f (.i .i64) a0.2.2.1.2.1.2.2.1.2.1, .val .f (.sl x_cv) a0.2.2.1.2.1.2.2.1.2.2, .val .f (.sl eRow) a0.2.2.1.2.1.2.2.2.1, .val .f (.sl x_bf) a0.2.2.1.2.1.2.2.2.2.1, .val .f (.sl x_a2) a0.2.2.1.2.1.2.2.2.2.2.1, .val .f (.i .i64) a0.2.2.1.2.1.2.2.2.2.2.2.1, .val .f (.sl (.i .i64)) a0.2.2.1.2.1.2.2.2.2.2.2.2.1, .val .f (.sl x_bl) a0.2.2.1.2.1.2.2.2.2.2.2.2.2, .val .f (.i .i64) a0.2.2.1.2.2.1, .val (.x 0) (.sl .b) a0.2.2.1.2.2.2.1, .val (.x 0) (.sl (.i .i64)) a0.2.2.1.2.2.2.2.1, .val (.x 0) (.sl (.i .i64)) a0.2.2.1.2.2.2.2.2.1, .val .f (.i .i64) a0.2.2.1.2.2.2.2.2.2.1, .val (.x 0) (.sl eRow) a0.2.2.1.2.2.2.2.2.2.2.1.1, .val (.x 0) (.sl x_bf) a0.2.2.1.2.2.2.2.2.2.2.1.2.1, .val (.x 0) (.sl x_a2) a0.2.2.1.2.2.2.2.2.2.2.1.2.2.1, .val .f (.i .i64) a0.2.2.1.2.2.2.2.2.2.2.1.2.2.2.1, .val (.x 0) (.sl (.i .i64)) a0.2.2.1.2.2.2.2.2.2.2.1.2.2.2.2.1, .val (.x 0) (.sl x_bl) a0.2.2.1.2.2.2.2.2.2.2.1.2.2.2.2.2, .val .f (.sl (.i .u8)) a0.2.2.1.2.2.2.2.2.2.2.2.1.1, .val .f (.i .i64) a0.2.2.1.2.2.2.2.2.2.2.2.1.2, .val .f (.sl eRpc) a0.2.2.1.2.2.2.2.2.2.2.2.2, .val .f .b a0.2.2.2])]++dn 83⟩
noncomputable def x_9.g1 (K:Nat) (a0:y1) (n0:Nat) (n:Nat) (q2:Int) (q3:Int) (q4:Int):Option y25:=
 lq (B274 K) [.r, .r, .b, .lp n0, .r, .l, .b, .r, .l, .r, .b] n ⟨[vt 0 0 0]++dd 3++[vi q2,vi q3,vi q4]++dd 76,[some (0,[.val .f (.i .i64) a0.1.1, .val .f (.i .i64) a0.1.2.1, .val .f (.i .i64) a0.1.2.2.1, .val .f (.i .i64) a0.1.2.2.2, .val .f (.i .i64) a0.2.1, .val .f (.i .i64) a0.2.2.1.1, .val .f (.i .i64) a0.2.2.1.2.1.1, .val .f (.i .i64) a0.2.2.1.2.1.2.1, .val .f (.i .i64) a0.2.2.1.2.1.2.2.1.1, .val .f (.i .i64) a0.2.2.1.2.1.2.2.1.2.1, .val .f (.sl x_cv) a0.2.2.1.2.1.2.2.1.2.2, .val .f (.sl eRow) a0.2.2.1.2.1.2.2.2.1, .val .f (.sl x_bf) a0.2.2.1.2.1.2.2.2.2.1, .val .f (.sl x_a2) a0.2.2.1.2.1.2.2.2.2.2.1, .val .f (.i .i64) a0.2.2.1.2.1.2.2.2.2.2.2.1, .val .f (.sl (.i .i64)) a0.2.2.1.2.1.2.2.2.2.2.2.2.1, .val .f (.sl x_bl) a0.2.2.1.2.1.2.2.2.2.2.2.2.2, .val .f (.i .i64) a0.2.2.1.2.2.1, .val (.x 0) (.sl .b) a0.2.2.1.2.2.2.1, .val (.x 0) (.sl (.i .i64)) a0.2.2.1.2.2.2.2.1, .val (.x 0) (.sl (.i .i64)) a0.2.2.1.2.2.2.2.2.1, .val .f (.i .i64) a0.2.2.1.2.2.2.2.2.2.1, .val (.x 0) (.sl eRow) a0.2.2.1.2.2.2.2.2.2.2.1.1, .val (.x 0) (.sl x_bf) a0.2.2.1.2.2.2.2.2.2.2.1.2.1, .val (.x 0) (.sl x_a2) a0.2.2.1.2.2.2.2.2.2.2.1.2.2.1, .val .f (.i .i64) a0.2.2.1.2.2.2.2.2.2.2.1.2.2.2.1, .val (.x 0) (.sl (.i .i64)) a0.2.2.1.2.2.2.2.2.2.2.1.2.2.2.2.1, .val (.x 0) (.sl x_bl) a0.2.2.1.2.2.2.2.2.2.2.1.2.2.2.2.2, .val .f (.sl (.i .u8)) a0.2.2.1.2.2.2.2.2.2.2.2.1.1, .val .f (.i .i64) a0.2.2.1.2.2.2.2.2.2.2.2.1.2, .val .f (.sl eRpc) a0.2.2.1.2.2.2.2.2.2.2.2.2, .val .f .b a0.2.2.2])]++dn 83⟩
theorem x_9.ok1 (K:Nat) (a0:y1) (n0:Nat):x_9.g1 K a0 n0=x_9.l1 K a0 (x_9.g0 K a0 n0):=
 funext (lpe3 (fun _ _ _=>by kernel_rfl) fun _ _ _ _=>by kernel_rfl)
theorem x_9.ok0 (K:Nat) (a0:y1):x_9.g0 K a0=x_9.l0 K a0:=
 funext (lpe1 (fun _=>by kernel_rfl) fun n q2=>(show x_9.g0 K a0 (n+1) q2=x_9.l0b K a0 (x_9.g1 K a0 n K) q2 by kernel_rfl).trans (by rw [x_9.ok1]<;>rfl))
theorem o274 (K:Nat):FOk PP 274 (B274 K).F:=bok mixed Tryz.func274 fun v=>by
 have e:(B274 K).run v=x_9.b K v.1 (x_9.g0 K v.1 K):=by kernel_rfl
 rw [x_9.ok0] at e
 exact e.trans (by kernel_rfl)
noncomputable def B257 (K:Nat):Bd PP:=⟨⟨[vp x_ee 21160907109180,va eRpc 2187],[],[],u2 (x_du K),false⟩,cn o41<|cn o249<|cn o180<|cn (o274 K) tt,hn [9,8388617,25,89,274877907033,1,19342813113834066795298889,65,1,1],K,Tryz.f257,[]⟩
theorem o257 (K:Nat):FOk PP 257 (B257 K).F:=bok mixed Tryz.func257
noncomputable def B233 (K:Nat):Bd PP:=⟨⟨[va x_a6 0,va x_gj 984972995316,vo (.i .i64) 0,va eRpc 2187],[ra x_gj 87043658508,ro .b 0],[],u4 (x_ih K),false⟩,cn (o12 K)<|cn (o42 K)<|cn (o55 K)<|cn (o252 K)<|cn (o253 K)<|cn (o254 K)<|cn (o255 K)<|cn (o256 K)<|cn (o257 K) tt,hn [436,268435892,768,68719478196,4466765989300,68719478196,281543696188852,68719478068,4785143323559348,68719478068,144396731772044724,68719478068,4611967562123576756,68719478068,147573952658395891124,68719478068,77371252455336335900673312,768,768],K,Tryz.f233,[.cell 8 45, .tmp 9]⟩
theorem o233 (K:Nat):FOk PP 233 (B233 K).F:=bok mixed Tryz.func233
noncomputable def B213 (K:Nat):Bd PP:=⟨⟨[va x_c0 176904,va x_vq 0],[ra x_c0 176904,ro (.i .i64) 0],[],u2 (x_pc K),false⟩,cn o25<|cn o143<|cn (o233 K) tt,hn [28,65564,48,92,67108956,1073741908,48,20,48,92,144115188075855956,468,9444732965739290427604,20,48],K,Tryz.f213,[.cell 4 94, .tmp 5]⟩
theorem o213 (K:Nat):FOk PP 213 (B213 K).F:=bok mixed Tryz.func213
noncomputable def B234 (K:Nat):Bd PP:=⟨⟨[va x_c0 88452,vo (.i .i64) 0,vo (.i .i64) 0],[ro .b 0],[],u3 (x_gi K),false⟩,tt,hn [14,142,4238,142,4294967438,64,64],K,Tryz.f234,[.tmp 6]⟩
noncomputable def x_gi.g0 (K:Nat) (a0:x_a0) (a1:Int) (a2:Int) (n:Nat) (q0:Int):Option y11:=
 lq (B234 K) (dirs 4 276) n ⟨[.dead,vi a1,vi a2,vt 3 1 0]++dd 3++[vi q0]++dd 25,dn 3++[bv x_c0 88452 a0]++dn 32⟩
theorem x_gi.ok0 (K:Nat) (a0:x_a0) (a1:Int) (a2:Int):x_gi.g0 K a0 a1 a2=x_gi.l0 K a0 a1 a2:=
 funext (lpe1 (fun _=>by kernel_rfl) fun _ _=>by kernel_rfl)
theorem o234 (K:Nat):FOk PP 234 (B234 K).F:=bok mixed Tryz.func234 fun v=>by
 have e:(B234 K).run v=x_gi.b K v.1 v.2.1 v.2.2.1 (x_gi.g0 K v.1 v.2.1 v.2.2.1 K):=by kernel_rfl
 rw [x_gi.ok0] at e
 exact e.trans (by kernel_rfl)
noncomputable def B214 (K:Nat):Bd PP:=⟨⟨[va x_c0 176904,va x_vq 0],[ra x_c0 176904,ro (.i .i64) 0],[],u2 (x_k3 K),false⟩,cn (o234 K) tt,hn [28,92,220,4398046511324,48,140737488355548,48,20,48],K,Tryz.f214,[.cell 4 94, .tmp 5]⟩
theorem o214 (K:Nat):FOk PP 214 (B214 K).F:=bok mixed Tryz.func214
noncomputable def B235 (K:Nat):Bd PP:=⟨⟨[va x_a6 0,va x_gj 984972995316,vo (.i .i64) 0,va eCmd 0],[ra x_gj 1969945990632,ro .b 0],[],u4 (x_h3 K),false⟩,cn (o12 K)<|cn (o110 K)<|cn (o55 K)<|cn o41<|cn (o258 K) tt,hn [436,268435888,768,3504,12576,147573952589676417312,768,768],K,Tryz.f235,[.cell 8 45, .tmp 9]⟩
theorem o235 (K:Nat):FOk PP 235 (B235 K).F:=bok mixed Tryz.func235
noncomputable def B215 (K:Nat):Bd PP:=⟨⟨[va x_c0 176904,va x_vq 0],[ra x_c0 176904,ro (.i .i64) 0],[],u2 (x_g5 K),false⟩,cn (o234 K)<|cn (o235 K) tt,hn [28,92,220,524508,2147483868,48,220,220,156,924,9223372036854776220,48,156,9444732965739290427548,28,20,48],K,Tryz.f215,[.cell 4 94, .tmp 5]⟩
theorem o215 (K:Nat):FOk PP 215 (B215 K).F:=bok mixed Tryz.func215
noncomputable def B236 (K:Nat):Bd PP:=⟨⟨[va x_a6 0,va x_gj 984972995316,vo (.i .i64) 0],[ra x_gj 87043658508,ro .b 0],[],u3 (x_n9 K),false⟩,cn (o12 K)<|cn (o55 K)<|cn (o259 K)<|cn o41<|cn (o260 K)<|cn o16<|cn (o261 K) tt,hn [92,134217820,192,34359738708,34359738708,34359738708,34359738708,34359738708,34359740244,34359742292,4722366482904004955988,34359742292,302231454903691653418836,34359742292,618970019642690171809300820,192,19807040628566084432745726272,34359738688,192],K,Tryz.f236,[.cell 6 45, .tmp 7]⟩
noncomputable def x_n9.g0 (K:Nat) (a0:x_e) (a1:x_cg) (a2:Int) (n:Nat) (v7:y27) (q0:Int) (q1:y25) (q2:Int) (q3:List Bool):Option y41:=
 lq (B236 K) (dirs 11 21582031) n ⟨[.dead, .dead,vi a2, .dead,vt 4 1 0, .dead,vt 6 1 0, .dead,vt 35 1 0,vi v7.1,vi v7.2.1,vi q0]++dd 23++[vt 35 1 0]++dd 65,dn 4++[bv x_gj 984972995316 a1,none,bv x_gj 1969945990632 (0,(0,0,(0,0,[]),[],[],[],0,[],[]),0,[],[],[],0,([],[],[],0,[],[]),([],0),[])]++dn 28++[bv x_ee 21160907109180 (q1.1.1,q1.1.2.1,(q1.1.2.2.1.1,q1.1.2.2.1.2.1,q2,q3,q1.1.2.2.1.2.2.2.2),q1.1.2.2.2)]++dn 68⟩
theorem x_n9.ok0 (K:Nat) (a0:x_e) (a1:x_cg) (a2:Int):x_n9.g0 K a0 a1 a2=x_n9.l0 K a0 a1 a2:=
 funext (lpe5 (fun _ _ _ _ _=>by kernel_rfl) fun _ _ _ _ _ _=>by kernel_rfl)
theorem o236 (K:Nat):FOk PP 236 (B236 K).F:=bok mixed Tryz.func236 fun v=>by
 have e:(B236 K).run v=x_n9.b K v.1 v.2.1 v.2.2.1 (x_n9.g0 K v.1 v.2.1 v.2.2.1 K):=by kernel_rfl
 rw [x_n9.ok0] at e
 exact e.trans (by kernel_rfl)
end Go.Proofs.YtoiamgohjmjbiaaGreat.Pe
