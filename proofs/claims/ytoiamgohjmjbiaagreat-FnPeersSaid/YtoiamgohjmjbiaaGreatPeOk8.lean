/- The functions compute what is told of them. -/
import Derived.Test.YtoiamgohjmjbiaaGreatPeOk7
set_option linter.all false
set_option maxRecDepth 100000
namespace Go.Proofs.YtoiamgohjmjbiaaGreat.Pe
open Go Go.Kn
noncomputable def B221 (K:Nat):Bd PP:=⟨⟨[va x_a2 39,vo (.i .i64) 0],[ra x_a2 78],[],u2 (x_a1 K),false⟩,cn o142<|cn o246<|cn o247 tt,hn [22,54,118,246,33014,246,2251799813685494,182,246,36028797018964020,48,16],K,Tryz.f221,[.cell 4 88]⟩
noncomputable def x_a1.g0 (K:Nat) (a0:x_ag) (a1:Int) (n:Nat) (q0:Bool) (q1:Int) (q2:y21):Option y21:=
 lq (B221 K) (dirs 6 6906) n ⟨[.dead,vi a1,vt 2 1 0, .dead,vt 4 1 0,vt 5 1 0,vb q0,vi q1]++dd 53,[none,none,bv x_a2 39 a0,none,bv x_a2 78 (0,[],[],[]),bv x_a2 78 q2.1]++dn 57⟩
theorem x_a1.ok0 (K:Nat) (a0:x_ag) (a1:Int):x_a1.g0 K a0 a1=x_a1.l0 K a0 a1:=
 funext (lpe3 (fun _ _ _=>by kernel_rfl) fun _ _ _ _=>by kernel_rfl)
theorem o221 (K:Nat):FOk PP 221 (B221 K).F:=bok mixed Tryz.func221 fun v=>by
 have e:(B221 K).run v=x_a1.b K v.1 v.2.1 (x_a1.g0 K v.1 v.2.1 K):=by kernel_rfl
 rw [x_a1.ok0] at e
 exact e.trans (by kernel_rfl)
noncomputable def B245 (K:Nat):Bd PP:=⟨⟨[va x_a2 39,vo (.i .i64) 0],[ro (.i .i64) 0],[],u2 (x_ge K),false⟩,tt,hn [6,38,1062,38,524326,16,16],K,Tryz.f245,[.tmp 4]⟩
noncomputable def x_ge.g0 (K:Nat) (a0:x_ag) (a1:Int) (n:Nat) (q0:Int):Option y6:=
 lq (B245 K) (dirs 4 276) n ⟨[.dead,vi a1,vt 2 1 0, .dead, .dead,vi q0]++dd 15,[none,none,bv x_a2 39 a0]++dn 20⟩
theorem x_ge.ok0 (K:Nat) (a0:x_ag) (a1:Int):x_ge.g0 K a0 a1=x_ge.l0 K a0 a1:=
 funext (lpe1 (fun _=>by kernel_rfl) fun _ _=>by kernel_rfl)
theorem o245 (K:Nat):FOk PP 245 (B245 K).F:=bok mixed Tryz.func245 fun v=>by
 have e:(B245 K).run v=x_ge.b K v.1 v.2.1 (x_ge.g0 K v.1 v.2.1 K):=by kernel_rfl
 rw [x_ge.ok0] at e
 exact e.trans (by kernel_rfl)
noncomputable def B223 (K:Nat):Bd PP:=⟨⟨[va x_a2 39,vo (.i .i64) 0,vo (.i .i64) 0],[ra x_a2 78],[],u3 (x_an K),false⟩,cn o142<|cn o25<|cn (o245 K)<|cn o247 tt,hn [78,206,32974,64,462,2097614,67109316,192,64,462,9007199254741454,462,974,972,460,1484,1480,200,192,64],K,Tryz.f223,[.cell 6 88]⟩
noncomputable def x_an.g0 (K:Nat) (a0:x_ag) (a1:Int) (a2:Int) (n:Nat) (q0:Int) (v1:y21):Option y21:=
 lq (B223 K) (dirs 8 160156) n ⟨[.dead,vi a1,vi a2,vt 3 1 0, .dead, .dead,vt 6 1 0,vt 7 1 0,vi q0]++dd 86,dn 3++[bv x_a2 39 a0,none,none,bv x_a2 78 (0,[],[],[]),bv x_a2 78 v1.1]++dn 90⟩
theorem x_an.ok0 (K:Nat) (a0:x_ag) (a1:Int) (a2:Int):x_an.g0 K a0 a1 a2=x_an.l0 K a0 a1 a2:=
 funext (lpe2 (fun _ _=>by kernel_rfl) fun _ _ _=>by kernel_rfl)
theorem o223 (K:Nat):FOk PP 223 (B223 K).F:=bok mixed Tryz.func223 fun v=>by
 have e:(B223 K).run v=x_an.b K v.1 v.2.1 v.2.2.1 (x_an.g0 K v.1 v.2.1 v.2.2.1 K):=by kernel_rfl
 rw [x_an.ok0] at e
 exact e.trans (by kernel_rfl)
noncomputable def B220 (K:Nat):Bd PP:=⟨⟨[va x_a2 39,vo (.i .i64) 0],[ra x_a2 78],[],u2 (x_ft K),false⟩,cn (o245 K)<|cn o25<|cn o142<|cn o246<|cn o247 tt,hn [22,54,65588,16,84,80,16],K,Tryz.f220,[.cell 4 88]⟩
theorem o220 (K:Nat):FOk PP 220 (B220 K).F:=bok mixed Tryz.func220
noncomputable def B248:Bd PP:=⟨⟨[va x_a2 39,vo (.i .i64) 0],[ro (.i .i64) 0],[],u2 x_la,false⟩,tt,hn [6,4102,16,16],0,Tryz.f248,[.tmp 4]⟩
theorem o248:FOk PP 248 B248.F:=bok mixed Tryz.func248
noncomputable def B222:Bd PP:=⟨⟨[va x_a2 39,vo (.i .i64) 0,vo (.i .i64) 0,vo (.i .i64) 0,vo (.i .i64) 0],[ra x_a2 78,ro .b 0],[],fun v=>x_gp v.1 v.2.1 v.2.2.1 v.2.2.2.1 v.2.2.2.2.1,false⟩,cn o142<|cn o25<|cn o248 tt,hn [1086,5182,8796093027352,3072,5120,3072],0,Tryz.f222,[.cell 10 88, .tmp 11]⟩
theorem o222:FOk PP 222 B222.F:=bok mixed Tryz.func222
noncomputable def B250 (K:Nat):Bd PP:=⟨⟨[va x_a6 0,va x_c7 674,va eCmd 0],[ra x_c7 674,ra x_bl 0],[],u3 (x_k8 K),false⟩,cn (o223 K)<|cn (o220 K)<|cn o222 tt,h2 [248,504,262648,8389104,192,192,17180131832,240,140737488617976,240,288230376151712248,1776,18889465931478580855536,192,240,192,1016] [(16,9),(16,10)] [],K,Tryz.f250,[.cell 6 37, .cell 7 118]⟩
theorem o250 (K:Nat):FOk PP 250 (B250 K).F:=bok mixed Tryz.func250
noncomputable def B278 (K:Nat):Bd PP:=⟨⟨[vo (.sl x_bf) 1,vo (.i .i64) 0,vo (.i .i64) 0],[ra x_bf 162],[],u3 (x_b9 K),false⟩,cn o141 tt,hn [71,199,2247,199,536871111,64,64],K,Tryz.f278,[.cell 6 106]⟩
noncomputable def x_b9.g0 (K:Nat) (a0:y14) (a1:Int) (a2:Int) (n:Nat) (q0:Int):Option y22:=
 lq (B278 K) (dirs 4 276) n ⟨[vl x_bf 1 a0,vi a1,vi a2]++dd 3++[vt 6 1 0,vi q0]++dd 30,dn 6++[bv x_bf 162 (0,0,0,0,[])]++dn 34⟩
theorem x_b9.ok0 (K:Nat) (a0:y14) (a1:Int) (a2:Int):x_b9.g0 K a0 a1 a2=x_b9.l0 K a0 a1 a2:=
 funext (lpe1 (fun _=>by kernel_rfl) fun _ _=>by kernel_rfl)
theorem o278 (K:Nat):FOk PP 278 (B278 K).F:=bok mixed Tryz.func278 fun v=>by
 have e:(B278 K).run v=x_b9.b K v.1 v.2.1 v.2.2.1 (x_b9.g0 K v.1 v.2.1 v.2.2.1 K):=by kernel_rfl
 rw [x_b9.ok0] at e
 exact e.trans (by kernel_rfl)
noncomputable def B244 (K:Nat):Bd PP:=⟨⟨[va x_bf 81,vo (.i .i64) 0,vo (.i .i64) 0],[ro (.i .i64) 0,ro (.i .i64) 0],[],u3 (x_bj K),false⟩,tt,hn [14,4110,192,65548,262144,192,192,4194316,134217728,192,192,268,4294967564,268,4398046511372,192,192],K,Tryz.f244,[.tmp 6, .tmp 7]⟩
noncomputable def x_bj.g0 (K:Nat) (a0:x_am) (a1:Int) (a2:Int) (n:Nat) (q0:Int):Option y27:=
 lq (B244 K) (dirs 7 34531) n ⟨[.dead, .dead,vi a2,vt 3 1 0]++dd 4++[vi q0]++dd 40,dn 3++[bv x_bf 81 a0]++dn 48⟩
theorem x_bj.ok0 (K:Nat) (a0:x_am) (a1:Int) (a2:Int):x_bj.g0 K a0 a1 a2=x_bj.l0 K a0 a1 a2:=
 funext (lpe1 (fun _=>by kernel_rfl) fun _ _=>by kernel_rfl)
theorem o244 (K:Nat):FOk PP 244 (B244 K).F:=bok mixed Tryz.func244 fun v=>by
 have e:(B244 K).run v=x_bj.b K v.1 v.2.1 v.2.2.1 (x_bj.g0 K v.1 v.2.1 v.2.2.1 K):=by kernel_rfl
 rw [x_bj.ok0] at e
 exact e.trans (by kernel_rfl)
noncomputable def B186 (K:Nat):Bd PP:=⟨⟨[va eRow 9,vo .s 0,vo .s 0,vo (.i .i64) 0,vo (.i .i64) 0],[ra eRow 18,ro (.i .i64) 0,ro .b 0],[],fun v=>x_j8 K v.1 v.2.1 v.2.2.1 v.2.2.2.1 v.2.2.2.2.1,false⟩,cn o140<|cn (o80 K) tt,hn [1086,9278,271422,7168,9248,9248,274877916192,7168,7168],K,Tryz.f186,[.cell 10 111, .tmp 11, .tmp 12]⟩
theorem o186 (K:Nat):FOk PP 186 (B186 K).F:=bok mixed Tryz.func186
noncomputable def B219 (K:Nat):Bd PP:=⟨⟨[va x_bf 81,vo (.i .i64) 0,vo (.i .i64) 0,vo (.i .i64) 0,vo (.i .i64) 0],[ra x_bf 162],[],fun v=>x_dm K v.1 v.2.1 v.2.2.1 v.2.2.2.1 v.2.2.2.2.1,false⟩,cn o141<|cn (o244 K)<|cn o180 tt,hn [1086,3134,7230,16780350,1024,536874014,3102,3098,3098,3074,281474976713730,3072,1024],K,Tryz.f219,[.cell 10 106]⟩
theorem o219 (K:Nat):FOk PP 219 (B219 K).F:=bok mixed Tryz.func219
noncomputable def B279 (K:Nat):Bd PP:=⟨⟨[vo (.sl x_bf) 1,va x_bf 81],[ro (.sl x_bf) 2],[],u2 (x_ay K),false⟩,cn o141 tt,hn [9,41,105,233,8425,233,489,2147484137,8589934825,169,233,2305843009213694441,425,489,233,9444732965739290427432,32,16],K,Tryz.f279,[.tmp 4]⟩
noncomputable def x_ay.g0 (K:Nat) (a0:y14) (a1:x_am) (n:Nat) (q0:y14) (q1:Bool) (q2:Int):Option y48:=
 lq (B279 K) (dirs 6 6906) n ⟨[vl x_bf 1 a0, .dead, .dead,vt 3 1 0, .dead,vl x_bf 2 q0,vb q1,vi q2]++dd 72,dn 3++[bv x_bf 81 a1]++dn 78⟩
theorem x_ay.ok0 (K:Nat) (a0:y14) (a1:x_am):x_ay.g0 K a0 a1=x_ay.l0 K a0 a1:=
 funext (lpe3 (fun _ _ _=>by kernel_rfl) fun _ _ _ _=>by kernel_rfl)
theorem o279 (K:Nat):FOk PP 279 (B279 K).F:=bok mixed Tryz.func279 fun v=>by
 have e:(B279 K).run v=x_ay.b K v.1 v.2.1 (x_ay.g0 K v.1 v.2.1 K):=by kernel_rfl
 rw [x_ay.ok0] at e
 exact e.trans (by kernel_rfl)
noncomputable def B265 (K:Nat):Bd PP:=⟨⟨[va x_a6 0,va x_c7 674,va eCmd 0],[ra x_c7 674,ra x_bl 0],[],u3 (x_s9 K),false⟩,cn (o278 K)<|cn (o244 K)<|cn (o186 K)<|cn (o219 K)<|cn (o279 K) tt,hn [248,504,2040,1073743352,3221227000,192,69793219064,192,1100585370104,192,17592186044920,192,14840,295147905179352832504,192,4600,4304,192],K,Tryz.f265,[.cell 6 37, .cell 7 118]⟩
theorem o265 (K:Nat):FOk PP 265 (B265 K).F:=bok mixed Tryz.func265
noncomputable def B266 (K:Nat):Bd PP:=⟨⟨[va x_c7 674,va eCmd 0],[ra x_c7 674,ra x_bl 0],[],u2 (x_k4 K),false⟩,cn (o278 K)<|cn (o279 K) tt,hn [60,124,262268,48,60,48],K,Tryz.f266,[.cell 4 37, .cell 5 118]⟩
theorem o266 (K:Nat):FOk PP 266 (B266 K).F:=bok mixed Tryz.func266
end Go.Proofs.YtoiamgohjmjbiaaGreat.Pe
