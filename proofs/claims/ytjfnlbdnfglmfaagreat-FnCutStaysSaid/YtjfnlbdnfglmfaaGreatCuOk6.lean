/- The functions compute what is told of them. -/
import Derived.Test.YtjfnlbdnfglmfaaGreatCuOk5
set_option linter.all false
set_option maxRecDepth 100000
namespace Go.Proofs.YtjfnlbdnfglmfaaGreat.Cu
open Go Go.Kn
noncomputable def B321 (K:Nat):Bd PP:=⟨⟨[va x_bh 39,vo (.i .i64) 0,vo (.i .i64) 0],[ra x_bh 78],[],u3 (x_a5 K),false⟩,cn o199<|cn o20<|cn (o336 K)<|cn o330 tt,hn [78,206,32974,64,462,2097614,67109316,192,64,462,9007199254741454,462,974,972,460,1484,1480,200,192,64],K,Tryz.f321,[.cell 6 121]⟩
noncomputable def x_a5.g0 (K:Nat) (a0:x_ar) (a1:Int) (a2:Int) (n:Nat) (q0:Int) (v1:y23):Option y23:=
 lq (B321 K) (dirs 8 160156) n ⟨[.dead,vi a1,vi a2,vt 3 1 0, .dead, .dead,vt 6 1 0,vt 7 1 0,vi q0]++dd 86,dn 3++[bv x_bh 39 a0,none,none,bv x_bh 78 (0,[],[],[]),bv x_bh 78 v1.1]++dn 90⟩
theorem x_a5.ok0 (K:Nat) (a0:x_ar) (a1:Int) (a2:Int):x_a5.g0 K a0 a1 a2=x_a5.l0 K a0 a1 a2:=
 funext (lpe2 (fun _ _=>by kernel_rfl) fun _ _ _=>by kernel_rfl)
theorem o321 (K:Nat):FOk PP 321 (B321 K).F:=bok mixed Tryz.func321 fun v=>by
 have e:(B321 K).run v=x_a5.b K v.1 v.2.1 v.2.2.1 (x_a5.g0 K v.1 v.2.1 v.2.2.1 K):=by kernel_rfl
 rw [x_a5.ok0] at e
 exact e.trans (by kernel_rfl)
noncomputable def B319 (K:Nat):Bd PP:=⟨⟨[va x_bh 39,vo (.i .i64) 0],[ra x_bh 78],[],u2 (x_gn K),false⟩,cn (o336 K)<|cn o20<|cn o199<|cn o329<|cn o330 tt,hn [22,54,65588,16,84,80,16],K,Tryz.f319,[.cell 4 121]⟩
theorem o319 (K:Nat):FOk PP 319 (B319 K).F:=bok mixed Tryz.func319
noncomputable def B337:Bd PP:=⟨⟨[va x_bh 39,vo (.i .i64) 0],[ro (.i .i64) 0],[],u2 x_nb,false⟩,tt,hn [6,4102,16,16],0,Tryz.f337,[.tmp 4]⟩
theorem o337:FOk PP 337 B337.F:=bok mixed Tryz.func337
noncomputable def B320:Bd PP:=⟨⟨[va x_bh 39,vo (.i .i64) 0,vo (.i .i64) 0,vo (.i .i64) 0,vo (.i .i64) 0],[ra x_bh 78,ro .b 0],[],fun v=>x_hl v.1 v.2.1 v.2.2.1 v.2.2.2.1 v.2.2.2.2.1,false⟩,cn o199<|cn o20<|cn o337 tt,hn [1086,5182,8796093027352,3072,5120,3072],0,Tryz.f320,[.cell 10 121, .tmp 11]⟩
theorem o320:FOk PP 320 B320.F:=bok mixed Tryz.func320
noncomputable def B314 (K:Nat):Bd PP:=⟨⟨[va x_bt 0,va x_dg 674,va eCmd 0],[ra x_dg 674,ra x_bz 0],[],u3 (x_my K),false⟩,cn (o321 K)<|cn (o319 K)<|cn o320 tt,h2 [248,504,262648,8389104,192,192,17180131832,240,140737488617976,240,288230376151712248,1776,18889465931478580855536,192,240,192,1016] [(16,9),(16,10)] [],K,Tryz.f314,[.cell 6 51, .cell 7 73]⟩
theorem o314 (K:Nat):FOk PP 314 (B314 K).F:=bok mixed Tryz.func314
noncomputable def B347 (K:Nat):Bd PP:=⟨⟨[vo (.sl x_bs) 1,vo (.i .i64) 0,vo (.i .i64) 0],[ra x_bs 162],[],u3 (x_cq K),false⟩,cn o198 tt,hn [71,199,2247,199,536871111,64,64],K,Tryz.f347,[.cell 6 118]⟩
noncomputable def x_cq.g0 (K:Nat) (a0:y13) (a1:Int) (a2:Int) (n:Nat) (q0:Int):Option y24:=
 lq (B347 K) (dirs 4 276) n ⟨[vl x_bs 1 a0,vi a1,vi a2]++dd 3++[vt 6 1 0,vi q0]++dd 30,dn 6++[bv x_bs 162 (0,0,0,0,[])]++dn 34⟩
theorem x_cq.ok0 (K:Nat) (a0:y13) (a1:Int) (a2:Int):x_cq.g0 K a0 a1 a2=x_cq.l0 K a0 a1 a2:=
 funext (lpe1 (fun _=>by kernel_rfl) fun _ _=>by kernel_rfl)
theorem o347 (K:Nat):FOk PP 347 (B347 K).F:=bok mixed Tryz.func347 fun v=>by
 have e:(B347 K).run v=x_cq.b K v.1 v.2.1 v.2.2.1 (x_cq.g0 K v.1 v.2.1 v.2.2.1 K):=by kernel_rfl
 rw [x_cq.ok0] at e
 exact e.trans (by kernel_rfl)
noncomputable def B335 (K:Nat):Bd PP:=⟨⟨[va x_bs 81,vo (.i .i64) 0,vo (.i .i64) 0],[ro (.i .i64) 0,ro (.i .i64) 0],[],u3 (x_b2 K),false⟩,tt,hn [14,4110,192,65548,262144,192,192,4194316,134217728,192,192,268,4294967564,268,4398046511372,192,192],K,Tryz.f335,[.tmp 6, .tmp 7]⟩
noncomputable def x_b2.g0 (K:Nat) (a0:x_at) (a1:Int) (a2:Int) (n:Nat) (q0:Int):Option y29:=
 lq (B335 K) (dirs 7 34531) n ⟨[.dead, .dead,vi a2,vt 3 1 0]++dd 4++[vi q0]++dd 40,dn 3++[bv x_bs 81 a0]++dn 48⟩
theorem x_b2.ok0 (K:Nat) (a0:x_at) (a1:Int) (a2:Int):x_b2.g0 K a0 a1 a2=x_b2.l0 K a0 a1 a2:=
 funext (lpe1 (fun _=>by kernel_rfl) fun _ _=>by kernel_rfl)
theorem o335 (K:Nat):FOk PP 335 (B335 K).F:=bok mixed Tryz.func335 fun v=>by
 have e:(B335 K).run v=x_b2.b K v.1 v.2.1 v.2.2.1 (x_b2.g0 K v.1 v.2.1 v.2.2.1 K):=by kernel_rfl
 rw [x_b2.ok0] at e
 exact e.trans (by kernel_rfl)
noncomputable def B283 (K:Nat):Bd PP:=⟨⟨[va eRow 9,vo .s 0,vo .s 0,vo (.i .i64) 0,vo (.i .i64) 0],[ra eRow 18,ro (.i .i64) 0,ro .b 0],[],fun v=>x_l0 K v.1 v.2.1 v.2.2.1 v.2.2.2.1 v.2.2.2.2.1,false⟩,cn o197<|cn (o184 K) tt,hn [1086,9278,271422,7168,9248,9248,274877916192,7168,7168],K,Tryz.f283,[.cell 10 114, .tmp 11, .tmp 12]⟩
theorem o283 (K:Nat):FOk PP 283 (B283 K).F:=bok mixed Tryz.func283
noncomputable def B318 (K:Nat):Bd PP:=⟨⟨[va x_bs 81,vo (.i .i64) 0,vo (.i .i64) 0,vo (.i .i64) 0,vo (.i .i64) 0],[ra x_bs 162],[],fun v=>x_ef K v.1 v.2.1 v.2.2.1 v.2.2.2.1 v.2.2.2.2.1,false⟩,cn o198<|cn (o335 K)<|cn o36 tt,hn [1086,3134,7230,16780350,1024,536874014,3102,3098,3098,3074,281474976713730,3072,1024],K,Tryz.f318,[.cell 10 118]⟩
theorem o318 (K:Nat):FOk PP 318 (B318 K).F:=bok mixed Tryz.func318
noncomputable def B348 (K:Nat):Bd PP:=⟨⟨[vo (.sl x_bs) 1,va x_bs 81],[ro (.sl x_bs) 2],[],u2 (x_bi K),false⟩,cn o198 tt,hn [9,41,105,233,8425,233,489,2147484137,8589934825,169,233,2305843009213694441,425,489,233,9444732965739290427432,32,16],K,Tryz.f348,[.tmp 4]⟩
noncomputable def x_bi.g0 (K:Nat) (a0:y13) (a1:x_at) (n:Nat) (q0:y13) (q1:Bool) (q2:Int):Option y51:=
 lq (B348 K) (dirs 6 6906) n ⟨[vl x_bs 1 a0, .dead, .dead,vt 3 1 0, .dead,vl x_bs 2 q0,vb q1,vi q2]++dd 72,dn 3++[bv x_bs 81 a1]++dn 78⟩
theorem x_bi.ok0 (K:Nat) (a0:y13) (a1:x_at):x_bi.g0 K a0 a1=x_bi.l0 K a0 a1:=
 funext (lpe3 (fun _ _ _=>by kernel_rfl) fun _ _ _ _=>by kernel_rfl)
theorem o348 (K:Nat):FOk PP 348 (B348 K).F:=bok mixed Tryz.func348 fun v=>by
 have e:(B348 K).run v=x_bi.b K v.1 v.2.1 (x_bi.g0 K v.1 v.2.1 K):=by kernel_rfl
 rw [x_bi.ok0] at e
 exact e.trans (by kernel_rfl)
noncomputable def B331 (K:Nat):Bd PP:=⟨⟨[va x_bt 0,va x_dg 674,va eCmd 0],[ra x_dg 674,ra x_bz 0],[],u3 (x_wt K),false⟩,cn (o347 K)<|cn (o335 K)<|cn (o283 K)<|cn (o318 K)<|cn (o348 K) tt,hn [248,504,2040,1073743352,3221227000,192,69793219064,192,1100585370104,192,17592186044920,192,14840,295147905179352832504,192,4600,4304,192],K,Tryz.f331,[.cell 6 51, .cell 7 73]⟩
theorem o331 (K:Nat):FOk PP 331 (B331 K).F:=bok mixed Tryz.func331
noncomputable def B332 (K:Nat):Bd PP:=⟨⟨[va x_dg 674,va eCmd 0],[ra x_dg 674,ra x_bz 0],[],u2 (x_ms K),false⟩,cn (o347 K)<|cn (o348 K) tt,hn [60,124,262268,48,60,48],K,Tryz.f332,[.cell 4 51, .cell 5 73]⟩
theorem o332 (K:Nat):FOk PP 332 (B332 K).F:=bok mixed Tryz.func332
noncomputable def B333 (K:Nat):Bd PP:=⟨⟨[va eRow 9,vo (.i .i64) 0],[ra x_sl 0,ro (.i .i64) 0],[],u2 (x_d2 K),false⟩,tt,hn [22,1046,48,86,65622,86,67108950,48,48],K,Tryz.f333,[.cell 4 177, .tmp 5]⟩
noncomputable def x_d2.g0 (K:Nat) (a0:TRow) (a1:Int) (n:Nat) (q0:Int):Option y40:=
 lq (B333 K) (dirs 5 1381) n ⟨[.dead,vi a1,vt 2 1 0, .dead,vt 4 1 0, .dead,vi q0]++dd 26,[none,none,bv eRow 9 a0,none,bv x_sl 0 (0,ByteArray.empty,ByteArray.empty,0,0)]++dn 30⟩
theorem x_d2.ok0 (K:Nat) (a0:TRow) (a1:Int):x_d2.g0 K a0 a1=x_d2.l0 K a0 a1:=
 funext (lpe1 (fun _=>by kernel_rfl) fun _ _=>by kernel_rfl)
theorem o333 (K:Nat):FOk PP 333 (B333 K).F:=bok mixed Tryz.func333 fun v=>by
 have e:(B333 K).run v=x_d2.b K v.1 v.2.1 (x_d2.g0 K v.1 v.2.1 K):=by kernel_rfl
 rw [x_d2.ok0] at e
 exact e.trans (by kernel_rfl)
end Go.Proofs.YtjfnlbdnfglmfaaGreat.Cu
