/- The functions compute what is told of them. -/
import Derived.Test.YtjfnlbdnfglmfaaGreatCuOk1
set_option linter.all false
set_option maxRecDepth 100000
namespace Go.Proofs.YtjfnlbdnfglmfaaGreat.Cu
open Go Go.Kn
noncomputable def B15 (K:Nat):Bd PP:=⟨⟨[vp x_ei 0,va x_be 88452],[ra x_o8 0],[],u2 (x_y K),false⟩,cn o36<|cn o30<|cn o37<|cn o35<|cn o38 tt,h2 [25,57,121,249,505,4194809,505,2147484153,505,761,68719477497,206158430969,17,2267742733049,2267742733049,2267742733049,17,1125968626320121,17,36028865738441465,36028865738441465,36028865738441465,17,18446744142429029113,18446744142429029113,18446744142429029113,1145,151115727451828646839417,1145,9903520314283042199192994937,17,17,20282409603651670424015970763481,17,2596148429267413814265316884087513,17,41538374868278621028244039353238233,41538374868278621028244039353238233,17,2658455991569831745807614120560689241,17,1393796574908163946345982392040522594123865,17,17] [] [41,55,64,115],K,Tryz.f15,[.cell 4 36]⟩
noncomputable def x_y.g0 (K:Nat) (a0:x_6) (a1:x_u) (n:Nat) (v1:y7) (v2:y41) (q0:Int) (q1:Int):Option y53:=
 lq (B15 K) (dirs 7 34531) n ⟨[vt 0 0 0, .dead, .dead,vt 3 1 0,vt 4 1 0,vi v1.1,vi v2.1,vi q0,vi q1]++dd 141,[some (0,[.val .f (.sl (.i .u8)) v2.2.1.1, .val .f (.i .i64) v2.2.1.2.1, .val .f (.i .i64) v2.2.1.2.2]),none,none,bv x_be 88452 a1,bv x_o8 0 (0,0,0,0,0,0,0,0,0,ByteArray.empty,ByteArray.empty)]++dn 147⟩
noncomputable def x_y.g1 (K:Nat) (a0:x_6) (a1:x_u) (n:Nat) (v1:y7) (v2:y41) (q3:Int) (v4:y41):Option y53:=
 lq (B15 K) (dirs 22 1061916350472656) n ⟨[vt 0 0 0, .dead, .dead,vt 3 1 0,vt 4 1 0,vi v1.1,vi v2.1]++dd 3++[vi q3]++dd 139,[some (0,[.val .f (.sl (.i .u8)) v4.2.1.1, .val .f (.i .i64) v4.2.1.2.1, .val .f (.i .i64) v4.2.1.2.2]),none,none,bv x_be 88452 a1,bv x_o8 0 (0,0,0,0,0,0,0,0,0,ByteArray.empty,ByteArray.empty)]++dn 147⟩
theorem x_y.ok1 (K:Nat) (a0:x_6) (a1:x_u):x_y.g1 K a0 a1=x_y.l1 K a0 a1:=
 funext (lpe4 (fun _ _ _ _=>by kernel_rfl) fun _ _ _ _ _=>by kernel_rfl)
theorem x_y.ok0 (K:Nat) (a0:x_6) (a1:x_u):x_y.g0 K a0 a1=x_y.l0 K a0 a1:=
 funext (lpe4 (fun _ _ _ _=>by kernel_rfl) fun n v1 v2 q0 q1=>(show x_y.g0 K a0 a1 (n+1) v1 v2 q0 q1=x_y.l0b K a0 a1 (x_y.g0 K a0 a1 n) (x_y.g1 K a0 a1 K) v1 v2 q0 q1 by kernel_rfl).trans (by rw [x_y.ok1]<;>rfl))
theorem o15 (K:Nat):FOk PP 15 (B15 K).F:=bok mixed Tryz.func15 fun v=>by
 have e:(B15 K).run v=x_y.b K v.1 v.2.1 (x_y.g0 K v.1 v.2.1 K):=by kernel_rfl
 rw [x_y.ok0] at e
 exact e.trans (by kernel_rfl)
noncomputable def B122:Bd PP:=⟨⟨[va eRpc 2187],[ra eRpc 4374],[],u1 x_ll,false⟩,tt,hn [6,6,4],0,Tryz.f122,[.cell 2 83]⟩
theorem o122:FOk PP 122 B122.F:=bok mixed Tryz.func122
noncomputable def B65 (K:Nat):Bd PP:=⟨⟨[vo (.sl eRpc) 1],[ro (.sl eRpc) 2],[],u1 (x_cx K),false⟩,cn o122 tt,hn [1,9,25,537,25,25,4],K,Tryz.f65,[.tmp 2]⟩
noncomputable def x_cx.g0 (K:Nat) (a0:y3) (n:Nat) (q0:y3) (q1:Int):Option y38:=
 lq (B65 K) (dirs 5 1381) n ⟨[vl eRpc 1 a0, .dead, .dead,vl eRpc 2 q0,vi q1]++dd 16,dn 22⟩
theorem x_cx.ok0 (K:Nat) (a0:y3):x_cx.g0 K a0=x_cx.l0 K a0:=
 funext (lpe2 (fun _ _=>by kernel_rfl) fun _ _ _=>by kernel_rfl)
theorem o65 (K:Nat):FOk PP 65 (B65 K).F:=bok mixed Tryz.func65 fun v=>by
 have e:(B65 K).run v=x_cx.b K v.1 (x_cx.g0 K v.1 K):=by kernel_rfl
 rw [x_cx.ok0] at e
 exact e.trans (by kernel_rfl)
noncomputable def B196:Bd PP:=⟨⟨[va eLog 9],[ra eLog 18],[],u1 x_j2,false⟩,tt,hn [6,4],0,Tryz.f196,[.cell 2 45]⟩
theorem o196:FOk PP 196 B196.F:=bok mixed Tryz.func196
noncomputable def B197:Bd PP:=⟨⟨[va eRow 9],[ra eRow 18],[],u1 x_h9,false⟩,tt,hn [6,4],0,Tryz.f197,[.cell 2 114]⟩
theorem o197:FOk PP 197 B197.F:=bok mixed Tryz.func197
noncomputable def B198:Bd PP:=⟨⟨[va x_bs 81],[ra x_bs 162],[],u1 x_ex,false⟩,tt,hn [6,6,4],0,Tryz.f198,[.cell 2 118]⟩
theorem o198:FOk PP 198 B198.F:=bok mixed Tryz.func198
noncomputable def B199:Bd PP:=⟨⟨[va x_bh 39],[ra x_bh 78],[],u1 x_g9,false⟩,tt,hn [6,4],0,Tryz.f199,[.cell 2 121]⟩
theorem o199:FOk PP 199 B199.F:=bok mixed Tryz.func199
noncomputable def B124 (K:Nat):Bd PP:=⟨⟨[va x_dg 337],[ra x_dg 674],[],u1 (x_aj K),false⟩,cn o197<|cn o198<|cn o199 tt,hn [6,14,30,4194334,30,30,46,1099511627822,46,46,78,288230376151711822,78,78,4],K,Tryz.f124,[.cell 2 51]⟩
noncomputable def x_aj.g0 (K:Nat) (a0:x_ai) (n:Nat) (q0:Int) (q1:y4):Option y18:=
 lq (B124 K) (dirs 5 1381) n ⟨[.dead,vt 1 1 0,vt 2 1 0,vt 3 1 0,vi q0]++dd 68,[none,bv x_dg 337 a0,bv x_dg 674 ([],[],[],0,[],[]),bv x_dg 674 (q1,[],[],a0.2.2.2.1,[]++a0.2.2.2.2.1,[]++a0.2.2.2.2.2)]++dn 70⟩
noncomputable def x_aj.g1 (K:Nat) (a0:x_ai) (n:Nat) (q2:Int) (q1:y4) (q3:y13):Option y18:=
 lq (B124 K) (dirs 6 6906) n ⟨[.dead,vt 1 1 0,vt 2 1 0,vt 3 1 0, .dead,vi q2]++dd 67,[none,bv x_dg 337 a0,bv x_dg 674 ([],[],[],0,[],[]),bv x_dg 674 (q1,q3,[],a0.2.2.2.1,[]++a0.2.2.2.2.1,[]++a0.2.2.2.2.2)]++dn 70⟩
noncomputable def x_aj.g2 (K:Nat) (a0:x_ai) (n:Nat) (q4:Int) (q1:y4) (q3:y13) (q5:y12):Option y18:=
 lq (B124 K) (dirs 7 34531) n ⟨[.dead,vt 1 1 0,vt 2 1 0,vt 3 1 0, .dead, .dead,vi q4]++dd 66,[none,bv x_dg 337 a0,bv x_dg 674 ([],[],[],0,[],[]),bv x_dg 674 (q1,q3,q5,a0.2.2.2.1,[]++a0.2.2.2.2.1,[]++a0.2.2.2.2.2)]++dn 70⟩
theorem x_aj.ok2 (K:Nat) (a0:x_ai):x_aj.g2 K a0=x_aj.l2 K a0:=
 funext (lpe4 (fun _ _ _ _=>by kernel_rfl) fun _ _ _ _ _=>by kernel_rfl)
theorem x_aj.ok1 (K:Nat) (a0:x_ai):x_aj.g1 K a0=x_aj.l1 K a0:=
 funext (lpe3 (fun _ _ _=>by kernel_rfl) fun n q2 q1 q3=>(show x_aj.g1 K a0 (n+1) q2 q1 q3=x_aj.l1b K a0 (x_aj.g1 K a0 n) (x_aj.g2 K a0 K) q2 q1 q3 by kernel_rfl).trans (by rw [x_aj.ok2]<;>rfl))
theorem x_aj.ok0 (K:Nat) (a0:x_ai):x_aj.g0 K a0=x_aj.l0 K a0:=
 funext (lpe2 (fun _ _=>by kernel_rfl) fun n q0 q1=>(show x_aj.g0 K a0 (n+1) q0 q1=x_aj.l0b K a0 (x_aj.g0 K a0 n) (x_aj.g1 K a0 K) q0 q1 by kernel_rfl).trans (by rw [x_aj.ok1]<;>rfl))
theorem o124 (K:Nat):FOk PP 124 (B124 K).F:=bok mixed Tryz.func124 fun v=>by
 have e:(B124 K).run v=x_aj.b K v.1 (x_aj.g0 K v.1 K):=by kernel_rfl
 rw [x_aj.ok0] at e
 exact e.trans (by kernel_rfl)
noncomputable def B123 (K:Nat):Bd PP:=⟨⟨[va x_it 81972],[ra x_it 163944],[],u1 (x_g3 K),false⟩,cn o196<|cn (o124 K) tt,hn [6,4],K,Tryz.f123,[.cell 2 53]⟩
theorem o123 (K:Nat):FOk PP 123 (B123 K).F:=bok mixed Tryz.func123
noncomputable def B125:Bd PP:=⟨⟨[va x_ty 1],[ra x_ty 2],[],u1 x_h7,false⟩,tt,hn [6,4],0,Tryz.f125,[.cell 2 56]⟩
theorem o125:FOk PP 125 B125.F:=bok mixed Tryz.func125
noncomputable def B66 (K:Nat):Bd PP:=⟨⟨[va x_gb 984972995316],[ra x_gb 1969945990632],[],u1 (x_ae K),false⟩,cn (o123 K)<|cn (o124 K)<|cn o125<|cn (o65 K) tt,hn [6,4],K,Tryz.f66,[.cell 2 58]⟩
theorem o66 (K:Nat):FOk PP 66 (B66 K).F:=bok mixed Tryz.func66
noncomputable def B22 (K:Nat):Bd PP:=⟨⟨[va x_be 88452],[ra x_be 176904],[],u1 (x_ch K),false⟩,cn (o65 K)<|cn (o66 K) tt,hn [6,14,30,8589934622,30,30,4],K,Tryz.f22,[.cell 2 32]⟩
noncomputable def x_ch.g0 (K:Nat) (a0:x_u) (n:Nat) (q0:Int) (q1:y6) (v1:y38):Option y25:=
 lq (B22 K) (dirs 5 1381) n ⟨[.dead,vt 1 1 0,vt 2 1 0,vt 3 1 0,vi q0]++dd 43,[none,bv x_be 88452 a0,bv x_be 176904 ((0,0,0,0),0,[],[],[],[],[],[]),bv x_be 176904 (a0.1,a0.2.1,q1,v1.1,[]++a0.2.2.2.2.1,[]++a0.2.2.2.2.2.1,[]++a0.2.2.2.2.2.2.1,[]++a0.2.2.2.2.2.2.2)]++dn 45⟩
theorem x_ch.ok0 (K:Nat) (a0:x_u):x_ch.g0 K a0=x_ch.l0 K a0:=
 funext (lpe3 (fun _ _ _=>by kernel_rfl) fun _ _ _ _=>by kernel_rfl)
theorem o22 (K:Nat):FOk PP 22 (B22 K).F:=bok mixed Tryz.func22 fun v=>by
 have e:(B22 K).run v=x_ch.b K v.1 (x_ch.g0 K v.1 K):=by kernel_rfl
 rw [x_ch.ok0] at e
 exact e.trans (by kernel_rfl)
noncomputable def B280 (K:Nat):Bd PP:=⟨⟨[va x_ld 81],[ro .b 0],[],u1 (x_j8 K),false⟩,cn o20<|cn (o116 K) tt,hn [2,16777218,4,67108866,201326594,4,281475043819522,4,288230376151711746,4,4],K,Tryz.f280,[.tmp 2]⟩
theorem o280 (K:Nat):FOk PP 280 (B280 K).F:=bok mixed Tryz.func280
noncomputable def B150 (K:Nat):Bd PP:=⟨⟨[vo (.i .i64) 0],[ro (.sl (.i .u8)) 2],[],u1 (x_bw K),false⟩,cn o20 tt,hn [1,9,137,4,1033,9,9,4],K,Tryz.f150,[.tmp 2]⟩
noncomputable def x_bw.g0 (K:Nat) (a0:Int) (n:Nat) (q0:Int) (q1:y0):Option y31:=
 lq (B150 K) (dirs 5 1281) n ⟨[vi q0, .dead, .dead,vl (.i .u8) 2 q1]++dd 21,dn 26⟩
theorem x_bw.ok0 (K:Nat) (a0:Int):x_bw.g0 K a0=x_bw.l0 K a0:=
 funext (lpe2 (fun _ _=>by kernel_rfl) fun _ _ _=>by kernel_rfl)
theorem o150 (K:Nat):FOk PP 150 (B150 K).F:=bok mixed Tryz.func150 fun v=>by
 have e:(B150 K).run v=x_bw.b K v.1 (x_bw.g0 K v.1 K):=by kernel_rfl
 rw [x_bw.ok0] at e
 exact e.trans (by kernel_rfl)
end Go.Proofs.YtjfnlbdnfglmfaaGreat.Cu
