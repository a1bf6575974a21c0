/- The functions compute what is told of them. -/
import Derived.Test.YtoiamgohjmjbiaaGreatPeOk3
set_option linter.all false
set_option maxRecDepth 100000
namespace Go.Proofs.YtoiamgohjmjbiaaGreat.Pe
open Go Go.Kn
noncomputable def B135 (K:Nat):Bd PP:=⟨⟨[va x_a6 0,vo (.i .i64) 0],[ra x_c0 176904,ro .b 0],[],u2 (x_bm K),false⟩,cn o24<|cn o25<|cn (o7 K) tt,hn [22,131094,48,86,214,67109078,214,982,137438953942,48,214,48],K,Tryz.f135,[.cell 4 94, .tmp 5]⟩
noncomputable def x_bm.g0 (K:Nat) (a0:x_e) (a1:Int) (n:Nat) (q0:Int) (q1:y7):Option y44:=
 lq (B135 K) (dirs 6 6906) n ⟨[.dead,vi a1,vt 2 1 0, .dead,vt 4 1 0, .dead,vt 6 1 0,vi q0]++dd 38,[none,none,bv x_a6 0 a0,none,bv x_c0 176904 ((0,0,0,0),0,[],[],[],[],[],[]),none,bv x_c0 176904 (a0,a1,q1,[],List.replicate 4 zCmd,List.replicate 4 0,[],[])]++dn 41⟩
theorem x_bm.ok0 (K:Nat) (a0:x_e) (a1:Int):x_bm.g0 K a0 a1=x_bm.l0 K a0 a1:=
 funext (lpe2 (fun _ _=>by kernel_rfl) fun _ _ _=>by kernel_rfl)
theorem o135 (K:Nat):FOk PP 135 (B135 K).F:=bok mixed Tryz.func135 fun v=>by
 have e:(B135 K).run v=x_bm.b K v.1 v.2.1 (x_bm.g0 K v.1 v.2.1 K):=by kernel_rfl
 rw [x_bm.ok0] at e
 exact e.trans (by kernel_rfl)
noncomputable def B180:Bd PP:=⟨⟨[vo (.i .i64) 0,vo (.i .i64) 0],[ro (.i .i64) 0],[],u2 x_fs,false⟩,tt,hn [3,131,19,19],0,Tryz.f180,[.tmp 4]⟩
theorem o180:FOk PP 180 B180.F:=bok mixed Tryz.func180
noncomputable def B184:Bd PP:=⟨⟨[vp x_dt 0,vo (.sl .s) 1],[ro .s 0],[],u2 x_j7,false⟩,cn o19 tt,hn [3,17],0,Tryz.f184,[.tmp 4]⟩
theorem o184:FOk PP 184 B184.F:=bok mixed Tryz.func184
noncomputable def B212:Bd PP:=⟨⟨[vp x_dt 0],[ro .s 0],[],u1 x_eg,false⟩,cn o184 tt,hn [1,5],0,Tryz.f212,[.tmp 2]⟩
theorem o212:FOk PP 212 B212.F:=bok mixed Tryz.func212
noncomputable def B181:Bd PP:=⟨⟨[vp x_dt 0],[ra eCmd 0],[],u1 x_ef,false⟩,cn o31<|cn o19<|cn o212 tt,hn [5,13,32781,98317,13,13,13,268435469,13,5],0,Tryz.f181,[.cell 2 123]⟩
theorem o181:FOk PP 181 B181.F:=bok mixed Tryz.func181
noncomputable def B30:Bd PP:=⟨⟨[vp x_dt 0,vo (.i .i64) 0],[ro .b 0],[],u2 x_hd,false⟩,cn o19 tt,hn [3,17],0,Tryz.f30,[.tmp 4]⟩
theorem o30:FOk PP 30 B30.F:=bok mixed Tryz.func30
noncomputable def B136 (K:Nat):Bd PP:=⟨⟨[vp x_dt 0,va x_c0 88452],[ra x_vq 0],[],u2 (x_w K),false⟩,cn o180<|cn o19<|cn o181<|cn o31<|cn o30 tt,h2 [25,57,121,249,505,4194809,505,2147484153,505,761,68719477497,206158430969,17,2267742733049,2267742733049,2267742733049,17,1125968626320121,17,36028865738441465,36028865738441465,36028865738441465,17,18446744142429029113,18446744142429029113,18446744142429029113,1145,151115727451828646839417,1145,9903520314283042199192994937,17,17,20282409603651670424015970763481,17,2596148429267413814265316884087513,17,41538374868278621028244039353238233,41538374868278621028244039353238233,17,2658455991569831745807614120560689241,17,1393796574908163946345982392040522594123865,17,17] [] [41,55,64,115],K,Tryz.f136,[.cell 4 185]⟩
noncomputable def x_w.g0 (K:Nat) (a0:x_z) (a1:x_a0) (n:Nat) (v1:y6) (v2:y39) (q0:Int) (q1:Int):Option y50:=
 lq (B136 K) (dirs 7 34531) n ⟨[vt 0 0 0, .dead, .dead,vt 3 1 0,vt 4 1 0,vi v1.1,vi v2.1,vi q0,vi q1]++dd 141,[some (0,[.val .f (.sl (.i .u8)) v2.2.1.1, .val .f (.i .i64) v2.2.1.2.1, .val .f (.i .i64) v2.2.1.2.2]),none,none,bv x_c0 88452 a1,bv x_vq 0 (0,0,0,0,0,0,0,0,0,ByteArray.empty,ByteArray.empty)]++dn 147⟩
noncomputable def x_w.g1 (K:Nat) (a0:x_z) (a1:x_a0) (n:Nat) (v1:y6) (v2:y39) (q3:Int) (v4:y39):Option y50:=
 lq (B136 K) (dirs 22 1061916350472656) n ⟨[vt 0 0 0, .dead, .dead,vt 3 1 0,vt 4 1 0,vi v1.1,vi v2.1]++dd 3++[vi q3]++dd 139,[some (0,[.val .f (.sl (.i .u8)) v4.2.1.1, .val .f (.i .i64) v4.2.1.2.1, .val .f (.i .i64) v4.2.1.2.2]),none,none,bv x_c0 88452 a1,bv x_vq 0 (0,0,0,0,0,0,0,0,0,ByteArray.empty,ByteArray.empty)]++dn 147⟩
theorem x_w.ok1 (K:Nat) (a0:x_z) (a1:x_a0):x_w.g1 K a0 a1=x_w.l1 K a0 a1:=
 funext (lpe4 (fun _ _ _ _=>by kernel_rfl) fun _ _ _ _ _=>by kernel_rfl)
theorem x_w.ok0 (K:Nat) (a0:x_z) (a1:x_a0):x_w.g0 K a0 a1=x_w.l0 K a0 a1:=
 funext (lpe4 (fun _ _ _ _=>by kernel_rfl) fun n v1 v2 q0 q1=>(show x_w.g0 K a0 a1 (n+1) v1 v2 q0 q1=x_w.l0b K a0 a1 (x_w.g0 K a0 a1 n) (x_w.g1 K a0 a1 K) v1 v2 q0 q1 by kernel_rfl).trans (by rw [x_w.ok1]<;>rfl))
theorem o136 (K:Nat):FOk PP 136 (B136 K).F:=bok mixed Tryz.func136 fun v=>by
 have e:(B136 K).run v=x_w.b K v.1 v.2.1 (x_w.g0 K v.1 v.2.1 K):=by kernel_rfl
 rw [x_w.ok0] at e
 exact e.trans (by kernel_rfl)
noncomputable def B143:Bd PP:=⟨⟨[va eRpc 2187],[ra eRpc 4374],[],u1 x_j5,false⟩,tt,hn [6,6,4],0,Tryz.f143,[.cell 2 76]⟩
theorem o143:FOk PP 143 B143.F:=bok mixed Tryz.func143
noncomputable def B95 (K:Nat):Bd PP:=⟨⟨[vo (.sl eRpc) 1],[ro (.sl eRpc) 2],[],u1 (x_bx K),false⟩,cn o143 tt,hn [1,9,25,537,25,25,4],K,Tryz.f95,[.tmp 2]⟩
noncomputable def x_bx.g0 (K:Nat) (a0:y4) (n:Nat) (q0:y4) (q1:Int):Option y35:=
 lq (B95 K) (dirs 5 1381) n ⟨[vl eRpc 1 a0, .dead, .dead,vl eRpc 2 q0,vi q1]++dd 16,dn 22⟩
theorem x_bx.ok0 (K:Nat) (a0:y4):x_bx.g0 K a0=x_bx.l0 K a0:=
 funext (lpe2 (fun _ _=>by kernel_rfl) fun _ _ _=>by kernel_rfl)
theorem o95 (K:Nat):FOk PP 95 (B95 K).F:=bok mixed Tryz.func95 fun v=>by
 have e:(B95 K).run v=x_bx.b K v.1 (x_bx.g0 K v.1 K):=by kernel_rfl
 rw [x_bx.ok0] at e
 exact e.trans (by kernel_rfl)
noncomputable def B139:Bd PP:=⟨⟨[va eLog 9],[ra eLog 18],[],u1 x_iv,false⟩,tt,hn [6,4],0,Tryz.f139,[.cell 2 30]⟩
theorem o139:FOk PP 139 B139.F:=bok mixed Tryz.func139
noncomputable def B140:Bd PP:=⟨⟨[va eRow 9],[ra eRow 18],[],u1 x_ha,false⟩,tt,hn [6,4],0,Tryz.f140,[.cell 2 111]⟩
theorem o140:FOk PP 140 B140.F:=bok mixed Tryz.func140
noncomputable def B141:Bd PP:=⟨⟨[va x_bf 81],[ra x_bf 162],[],u1 x_d4,false⟩,tt,hn [6,6,4],0,Tryz.f141,[.cell 2 106]⟩
theorem o141:FOk PP 141 B141.F:=bok mixed Tryz.func141
noncomputable def B142:Bd PP:=⟨⟨[va x_a2 39],[ra x_a2 78],[],u1 x_gh,false⟩,tt,hn [6,4],0,Tryz.f142,[.cell 2 88]⟩
theorem o142:FOk PP 142 B142.F:=bok mixed Tryz.func142
noncomputable def B93 (K:Nat):Bd PP:=⟨⟨[va x_c7 337],[ra x_c7 674],[],u1 (x_8 K),false⟩,cn o140<|cn o141<|cn o142 tt,hn [6,14,30,4194334,30,30,46,1099511627822,46,46,78,288230376151711822,78,78,4],K,Tryz.f93,[.cell 2 37]⟩
noncomputable def x_8.g0 (K:Nat) (a0:x_as) (n:Nat) (q0:Int) (q1:y3):Option y17:=
 lq (B93 K) (dirs 5 1381) n ⟨[.dead,vt 1 1 0,vt 2 1 0,vt 3 1 0,vi q0]++dd 68,[none,bv x_c7 337 a0,bv x_c7 674 ([],[],[],0,[],[]),bv x_c7 674 (q1,[],[],a0.2.2.2.1,[]++a0.2.2.2.2.1,[]++a0.2.2.2.2.2)]++dn 70⟩
noncomputable def x_8.g1 (K:Nat) (a0:x_as) (n:Nat) (q2:Int) (q1:y3) (q3:y14):Option y17:=
 lq (B93 K) (dirs 6 6906) n ⟨[.dead,vt 1 1 0,vt 2 1 0,vt 3 1 0, .dead,vi q2]++dd 67,[none,bv x_c7 337 a0,bv x_c7 674 ([],[],[],0,[],[]),bv x_c7 674 (q1,q3,[],a0.2.2.2.1,[]++a0.2.2.2.2.1,[]++a0.2.2.2.2.2)]++dn 70⟩
noncomputable def x_8.g2 (K:Nat) (a0:x_as) (n:Nat) (q4:Int) (q1:y3) (q3:y14) (q5:y12):Option y17:=
 lq (B93 K) (dirs 7 34531) n ⟨[.dead,vt 1 1 0,vt 2 1 0,vt 3 1 0, .dead, .dead,vi q4]++dd 66,[none,bv x_c7 337 a0,bv x_c7 674 ([],[],[],0,[],[]),bv x_c7 674 (q1,q3,q5,a0.2.2.2.1,[]++a0.2.2.2.2.1,[]++a0.2.2.2.2.2)]++dn 70⟩
theorem x_8.ok2 (K:Nat) (a0:x_as):x_8.g2 K a0=x_8.l2 K a0:=
 funext (lpe4 (fun _ _ _ _=>by kernel_rfl) fun _ _ _ _ _=>by kernel_rfl)
theorem x_8.ok1 (K:Nat) (a0:x_as):x_8.g1 K a0=x_8.l1 K a0:=
 funext (lpe3 (fun _ _ _=>by kernel_rfl) fun n q2 q1 q3=>(show x_8.g1 K a0 (n+1) q2 q1 q3=x_8.l1b K a0 (x_8.g1 K a0 n) (x_8.g2 K a0 K) q2 q1 q3 by kernel_rfl).trans (by rw [x_8.ok2]<;>rfl))
theorem x_8.ok0 (K:Nat) (a0:x_as):x_8.g0 K a0=x_8.l0 K a0:=
 funext (lpe2 (fun _ _=>by kernel_rfl) fun n q0 q1=>(show x_8.g0 K a0 (n+1) q0 q1=x_8.l0b K a0 (x_8.g0 K a0 n) (x_8.g1 K a0 K) q0 q1 by kernel_rfl).trans (by rw [x_8.ok1]<;>rfl))
theorem o93 (K:Nat):FOk PP 93 (B93 K).F:=bok mixed Tryz.func93 fun v=>by
 have e:(B93 K).run v=x_8.b K v.1 (x_8.g0 K v.1 K):=by kernel_rfl
 rw [x_8.ok0] at e
 exact e.trans (by kernel_rfl)
noncomputable def B92 (K:Nat):Bd PP:=⟨⟨[va x_il 81972],[ra x_il 163944],[],u1 (x_f9 K),false⟩,cn o139<|cn (o93 K) tt,hn [6,4],K,Tryz.f92,[.cell 2 39]⟩
theorem o92 (K:Nat):FOk PP 92 (B92 K).F:=bok mixed Tryz.func92
noncomputable def B94:Bd PP:=⟨⟨[va x_vb 1],[ra x_vb 2],[],u1 x_he,false⟩,tt,hn [6,4],0,Tryz.f94,[.cell 2 42]⟩
theorem o94:FOk PP 94 B94.F:=bok mixed Tryz.func94
noncomputable def B55 (K:Nat):Bd PP:=⟨⟨[va x_gj 984972995316],[ra x_gj 1969945990632],[],u1 (x_3 K),false⟩,cn (o92 K)<|cn (o93 K)<|cn o94<|cn (o95 K) tt,hn [6,4],K,Tryz.f55,[.cell 2 45]⟩
theorem o55 (K:Nat):FOk PP 55 (B55 K).F:=bok mixed Tryz.func55
end Go.Proofs.YtoiamgohjmjbiaaGreat.Pe
