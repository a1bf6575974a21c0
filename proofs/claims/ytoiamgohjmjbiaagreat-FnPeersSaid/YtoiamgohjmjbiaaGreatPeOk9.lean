/- The functions compute what is told of them. -/
import Derived.Test.YtoiamgohjmjbiaaGreatPeOk8
set_option linter.all false
set_option maxRecDepth 100000
namespace Go.Proofs.YtoiamgohjmjbiaaGreat.Pe
open Go Go.Kn
noncomputable def B267 (K:Nat):Bd PP:=⟨⟨[va eRow 9,vo (.i .i64) 0],[ra x_sp 0,ro (.i .i64) 0],[],u2 (x_c8 K),false⟩,tt,hn [22,1046,48,86,65622,86,67108950,48,48],K,Tryz.f267,[.cell 4 157, .tmp 5]⟩
noncomputable def x_c8.g0 (K:Nat) (a0:TRow) (a1:Int) (n:Nat) (q0:Int):Option y37:=
 lq (B267 K) (dirs 5 1381) n ⟨[.dead,vi a1,vt 2 1 0, .dead,vt 4 1 0, .dead,vi q0]++dd 26,[none,none,bv eRow 9 a0,none,bv x_sp 0 (0,ByteArray.empty,ByteArray.empty,0,0)]++dn 30⟩
theorem x_c8.ok0 (K:Nat) (a0:TRow) (a1:Int):x_c8.g0 K a0 a1=x_c8.l0 K a0 a1:=
 funext (lpe1 (fun _=>by kernel_rfl) fun _ _=>by kernel_rfl)
theorem o267 (K:Nat):FOk PP 267 (B267 K).F:=bok mixed Tryz.func267 fun v=>by
 have e:(B267 K).run v=x_c8.b K v.1 v.2.1 (x_c8.g0 K v.1 v.2.1 K):=by kernel_rfl
 rw [x_c8.ok0] at e
 exact e.trans (by kernel_rfl)
noncomputable def B217 (K:Nat):Bd PP:=⟨⟨[va eRow 9,vo (.i .i64) 0,vo (.i .i64) 0],[ra eRow 18],[],u3 (x_ai K),false⟩,cn o140<|cn (o80 K) tt,hn [78,206,4194510,64,268435662,462,4398046511566,64,974,1152921504606847950,974,462,206,64],K,Tryz.f217,[.cell 6 111]⟩
noncomputable def x_ai.g0 (K:Nat) (a0:TRow) (a1:Int) (a2:Int) (n:Nat) (q1:Int) (v1:y16) (q2:y8):Option y16:=
 lq (B217 K) (dirs 5 1281) n ⟨[.dead,vi a1,vi a2,vt 3 1 0, .dead, .dead,vt 6 1 0,vt 7 1 0]++dd 68,dn 3++[bv eRow 9 a0,none,none,bv eRow 18 (0,0,[]),bv eRow 18 (q1,v1.1.2.1,q2)]++dn 71⟩
noncomputable def x_ai.g1 (K:Nat) (a0:TRow) (a1:Int) (a2:Int) (n0:Nat) (n:Nat) (q2:y8) (q3:Int) (q1:Int) (v1:y16):Option y16:=
 lq (B217 K) [.r, .r, .r, .l, .b, .lp n0, .r, .b, .r, .r, .r, .l, .b] n ⟨[.dead,vi a1,vi a2,vt 3 1 0, .dead, .dead,vt 6 1 0,vt 7 1 0,vi (i6 (Int.tdiv (q2.getD 0 x_cb).1 a1)),vi q3]++dd 66,dn 3++[bv eRow 9 a0,none,none,bv eRow 18 (0,0,[]),bv eRow 18 (q1,v1.1.2.1,q2)]++dn 71⟩
theorem x_ai.ok1 (K:Nat) (a0:TRow) (a1:Int) (a2:Int) (n0:Nat):x_ai.g1 K a0 a1 a2 n0=x_ai.l1 K a0 a1 a2 (x_ai.g0 K a0 a1 a2 n0):=
 funext (lpe4 (fun _ _ _ _=>by kernel_rfl) fun _ _ _ _ _=>by kernel_rfl)
theorem x_ai.ok0 (K:Nat) (a0:TRow) (a1:Int) (a2:Int):x_ai.g0 K a0 a1 a2=x_ai.l0 K a0 a1 a2:=
 funext (lpe3 (fun _ _ _=>by kernel_rfl) fun n q1 v1 q2=>(show x_ai.g0 K a0 a1 a2 (n+1) q1 v1 q2=x_ai.l0b K a0 a1 a2 (x_ai.g1 K a0 a1 a2 n K) q1 v1 q2 by kernel_rfl).trans (by rw [x_ai.ok1]<;>rfl))
theorem o217 (K:Nat):FOk PP 217 (B217 K).F:=bok mixed Tryz.func217 fun v=>by
 have e:(B217 K).run v=x_ai.b K v.1 v.2.1 v.2.2.1 (x_ai.g0 K v.1 v.2.1 v.2.2.1 K):=by kernel_rfl
 rw [x_ai.ok0] at e
 exact e.trans (by kernel_rfl)
noncomputable def B243 (K:Nat):Bd PP:=⟨⟨[va eRow 9,vo (.i .i64) 0],[ro .b 0],[],u2 (x_bn K),false⟩,tt,hn [6,38,4134,38,134217766,16,16],K,Tryz.f243,[.tmp 4]⟩
noncomputable def x_bn.g0 (K:Nat) (a0:TRow) (a1:Int) (n:Nat) (q0:Int):Option y11:=
 lq (B243 K) (dirs 4 276) n ⟨[.dead,vi a1,vt 2 1 0, .dead, .dead,vi q0]++dd 22,[none,none,bv eRow 9 a0]++dn 27⟩
theorem x_bn.ok0 (K:Nat) (a0:TRow) (a1:Int):x_bn.g0 K a0 a1=x_bn.l0 K a0 a1:=
 funext (lpe1 (fun _=>by kernel_rfl) fun _ _=>by kernel_rfl)
theorem o243 (K:Nat):FOk PP 243 (B243 K).F:=bok mixed Tryz.func243 fun v=>by
 have e:(B243 K).run v=x_bn.b K v.1 v.2.1 (x_bn.g0 K v.1 v.2.1 K):=by kernel_rfl
 rw [x_bn.ok0] at e
 exact e.trans (by kernel_rfl)
noncomputable def B218 (K:Nat):Bd PP:=⟨⟨[va eRow 9,vo (.i .i64) 0],[ra eRow 18],[],u2 (x_b6 K),false⟩,cn (o80 K)<|cn o140<|cn (o243 K) tt,hn [22,16406,16,54,118,67108982,118,246,18014398509482230,118,16],K,Tryz.f218,[.cell 4 111]⟩
noncomputable def x_b6.g0 (K:Nat) (a0:TRow) (a1:Int) (n:Nat) (q0:Int) (q1:y8):Option y16:=
 lq (B218 K) (dirs 6 6906) n ⟨[.dead,vi a1,vt 2 1 0, .dead,vt 4 1 0,vt 5 1 0,vi q0]++dd 55,[none,none,bv eRow 9 a0,none,bv eRow 18 (0,0,[]),bv eRow 18 (a0.1,a0.2.1,q1)]++dn 58⟩
theorem x_b6.ok0 (K:Nat) (a0:TRow) (a1:Int):x_b6.g0 K a0 a1=x_b6.l0 K a0 a1:=
 funext (lpe2 (fun _ _=>by kernel_rfl) fun _ _ _=>by kernel_rfl)
theorem o218 (K:Nat):FOk PP 218 (B218 K).F:=bok mixed Tryz.func218 fun v=>by
 have e:(B218 K).run v=x_b6.b K v.1 v.2.1 (x_b6.g0 K v.1 v.2.1 K):=by kernel_rfl
 rw [x_b6.ok0] at e
 exact e.trans (by kernel_rfl)
noncomputable def B251 (K:Nat):Bd PP:=⟨⟨[va x_a6 0,va x_c7 674,va eCmd 0],[ra x_c7 674,ra x_bl 0],[],u3 (x_tq K),false⟩,cn (o265 K)<|cn (o266 K)<|cn (o267 K)<|cn (o217 K)<|cn (o218 K) tt,h2 [248,33016,240,1073774840,960,192,2199023288568,3264,192,2251799813718264,12496,36893488147419107536,110680464442257314000,192,1180591620717411307728,192,192,4835703278458516698824952,240,8184] [(19,9),(19,10)] [],K,Tryz.f251,[.cell 6 37, .cell 7 118]⟩
theorem o251 (K:Nat):FOk PP 251 (B251 K).F:=bok mixed Tryz.func251
noncomputable def B225 (K:Nat):Bd PP:=⟨⟨[va x_a6 0,va x_c7 674,va eCmd 0],[ra x_c7 674,ra x_bl 0],[],u3 (x_eq K),false⟩,cn o249<|cn (o221 K)<|cn o25<|cn (o250 K)<|cn (o251 K) tt,h2 [248,33016,208,464,134218192,464,464,7928,281474976710904,2251799813685496,192,1728,192,147573952589676413176,192,6336,192] [(7,4),(7,5)] [],K,Tryz.f225,[.cell 6 37, .cell 7 118]⟩
noncomputable def x_eq.g0 (K:Nat) (a0:x_e) (a1:x_as) (a2:TCmd) (n:Nat) (q0:Int) (q1:y12) (v1:y6):Option y60:=
 lq (B225 K) (dirs 8 172901) n ⟨dd 4++[vt 4 1 0, .dead,vt 6 1 0,vt 7 1 0,vi q0]++dd 70,dn 4++[bv x_c7 674 (a1.1,a1.2.1,q1,v1.1,a1.2.2.2.2),none,bv x_c7 674 ([],[],[],0,[],[]),bv x_bl 0 (0,0,ByteArray.empty,ByteArray.empty)]++dn 74⟩
theorem x_eq.ok0 (K:Nat) (a0:x_e) (a1:x_as) (a2:TCmd):x_eq.g0 K a0 a1 a2=x_eq.l0 K a0 a1 a2:=
 funext (lpe3 (fun _ _ _=>by kernel_rfl) fun _ _ _ _=>by kernel_rfl)
theorem o225 (K:Nat):FOk PP 225 (B225 K).F:=bok mixed Tryz.func225 fun v=>by
 have e:(B225 K).run v=x_eq.b K v.1 v.2.1 v.2.2.1 (x_eq.g0 K v.1 v.2.1 v.2.2.1 K):=by kernel_rfl
 rw [x_eq.ok0] at e
 exact e.trans (by kernel_rfl)
noncomputable def B190 (K:Nat):Bd PP:=⟨⟨[va x_a6 0,va x_c7 337,va eCmd 0],[ra x_c7 674,ra x_bl 0],[],u3 (x_wp K),false⟩,cn (o93 K)<|cn (o225 K) tt,hn [248,4344,192,16777464,192,992,992,960,192],K,Tryz.f190,[.cell 6 37, .cell 7 118]⟩
theorem o190 (K:Nat):FOk PP 190 (B190 K).F:=bok mixed Tryz.func190
noncomputable def B280 (K:Nat):Bd PP:=⟨⟨[va x_a6 0,va x_c7 337,va eCmd 0],[ra x_c7 674],[],u3 (x_po K),false⟩,cn (o190 K) tt,hn [120,192,64],K,Tryz.f280,[.cell 6 37]⟩
theorem o280 (K:Nat):FOk PP 280 (B280 K).F:=bok mixed Tryz.func280
noncomputable def B273 (K:Nat):Bd PP:=⟨⟨[vp x_ee 21160907109180,vo (.i .i64) 0],[],[],u2 (x_ds K),false⟩,cn o41<|cn o249<|cn (o280 K) tt,hn [19,16777235,19,19],K,Tryz.f273,[]⟩
noncomputable def x_ds.g0 (K:Nat) (a0:y1) (a1:Int) (n:Nat) (v1:y27) (q0:Int) (q1:x_as):Option y25:=
 lq (B273 K) (dirs 2 11) n ⟨[vt 0 0 0,vi a1, .dead, .dead,vi v1.1]++dd 67,[some (0,[.val .f (.i .i64) a0.1.1, .val .f (.i .i64) a0.1.2.1, .val .f (.i .i64) a0.1.2.2.1, .val .f (.i .i64) a0.1.2.2.2, .val .f (.i .i64) a0.2.1, .val .f (.i .i64) a0.2.2.1.1, .val .f (.i .i64) a0.2.2.1.2.1.1, .val .f (.i .i64) a0.2.2.1.2.1.2.1, .val .f (.i .i64) a0.2.2.1.2.1.2.2.1.1, .val .f (.i .i64) a0.2.2.1.2.1.2.2.1.2.1, .val .f (.sl x_cv) a0.2.2.1.2.1.2.2.1.2.2, .val .f (.sl eRow) a0.2.2.1.2.1.2.2.2.1, .val .f (.sl x_bf) a0.2.2.1.2.1.2.2.2.2.1, .val .f (.sl x_a2) a0.2.2.1.2.1.2.2.2.2.2.1, .val .f (.i .i64) a0.2.2.1.2.1.2.2.2.2.2.2.1, .val .f (.sl (.i .i64)) a0.2.2.1.2.1.2.2.2.2.2.2.2.1, .val .f (.sl x_bl) a0.2.2.1.2.1.2.2.2.2.2.2.2.2, .val .f (.i .i64) a0.2.2.1.2.2.1, .val (.x 0) (.sl .b) a0.2.2.1.2.2.2.1, .val (.x 0) (.sl (.i .i64)) a0.2.2.1.2.2.2.2.1, .val (.x 0) (.sl (.i .i64)) a0.2.2.1.2.2.2.2.2.1, .val .f (.i .i64) q0, .val (.x 0) (.sl eRow) q1.1, .val (.x 0) (.sl x_bf) q1.2.1, .val (.x 0) (.sl x_a2) q1.2.2.1, .val .f (.i .i64) q1.2.2.2.1, .val (.x 0) (.sl (.i .i64)) q1.2.2.2.2.1, .val (.x 0) (.sl x_bl) q1.2.2.2.2.2, .val .f (.sl (.i .u8)) a0.2.2.1.2.2.2.2.2.2.2.2.1.1, .val .f (.i .i64) a0.2.2.1.2.2.2.2.2.2.2.2.1.2, .val .f (.sl eRpc) a0.2.2.1.2.2.2.2.2.2.2.2.2, .val .f .b a0.2.2.2])]++dn 73⟩
theorem x_ds.ok0 (K:Nat) (a0:y1) (a1:Int):x_ds.g0 K a0 a1=x_ds.l0 K a0 a1:=
 funext (lpe3 (fun _ _ _=>by kernel_rfl) fun _ _ _ _=>by kernel_rfl)
theorem o273 (K:Nat):FOk PP 273 (B273 K).F:=bok mixed Tryz.func273 fun v=>by
 have e:(B273 K).run v=x_ds.b K v.1 v.2.1 (x_ds.g0 K v.1 v.2.1 K):=by kernel_rfl
 rw [x_ds.ok0] at e
 exact e.trans (by kernel_rfl)
noncomputable def B255 (K:Nat):Bd PP:=⟨⟨[vp x_ee 21160907109180,va eRpc 2187],[],[],u2 (x_fb K),false⟩,cn o41<|cn (o270 K)<|cn (o252 K)<|cn (o176 K)<|cn (o271 K)<|cn o249<|cn o180<|cn (o87 K)<|cn (o272 K)<|cn (o259 K)<|cn (o273 K) tt,hn [9,25,57,2147483705,1,57,35184372088889,1,441,1977,154742504910672534362391225,1,10141204801825835211973625643529,9,9,2057,42535295865117307932921825928971028489,2057,1],K,Tryz.f255,[]⟩
theorem o255 (K:Nat):FOk PP 255 (B255 K).F:=bok mixed Tryz.func255
end Go.Proofs.YtoiamgohjmjbiaaGreat.Pe
