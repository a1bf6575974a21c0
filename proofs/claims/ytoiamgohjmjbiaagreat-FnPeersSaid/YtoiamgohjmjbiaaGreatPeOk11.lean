/- The functions compute what is told of them. -/
import Derived.Test.YtoiamgohjmjbiaaGreatPeOk10
set_option linter.all false
set_option maxRecDepth 100000
namespace Go.Proofs.YtoiamgohjmjbiaaGreat.Pe
open Go Go.Kn
noncomputable def B237:Bd PP:=⟨⟨[va x_c0 176904,va x_gj 0,vo .b 0],[ra x_c0 176904,ro (.i .i64) 0],[],u3 x_lu,false⟩,tt,hn [92,600,192,72,192],0,Tryz.f237,[.cell 6 94, .tmp 7]⟩
theorem o237:FOk PP 237 B237.F:=bok mixed Tryz.func237
noncomputable def B102 (K:Nat):Bd PP:=⟨⟨[va x_c7 337],[ro (.sl (.i .u8)) 2],[],u1 (x_b K),false⟩,cn (o155 K)<|cn (o156 K)<|cn (o157 K) tt,hn [2,10,26,16777242,26,58,58,122,140737488355450,122,250,250,250,250,122,10,266,309485009821345068724781322,266,778,778,1802,83076749736557242056487941267523338,1802,1802,10,2058,44601490397061246283071436545296723011962890,2058,6154,6154,14346,93536104789177786765035829293842113257979682764810,14346,14346,2058,10,16394,200867255532373784442745261542645325315275374222849104429066,16394,49162,49162,49162,16394,4],K,Tryz.f102,[.tmp 2]⟩
noncomputable def x_b.g0 (K:Nat) (a0:x_as) (n:Nat) (q2:y0) (q3:Int):Option y29:=
 lq (B102 K) (dirs 5 1381) n ⟨[.dead,vt 1 1 0, .dead,vl (.i .u8) 2 q2,vi q3]++dd 225,[none,bv x_c7 337 a0]++dn 229⟩
noncomputable def x_b.g1 (K:Nat) (a0:x_as) (n0:Nat) (n:Nat) (q4:y0) (q3:Int) (q5:Int):Option y29:=
 lq (B102 K) [.r, .r, .l, .r, .b, .lp n0, .r, .l, .b, .r, .r, .r, .b] n ⟨[.dead,vt 1 1 0, .dead,vl (.i .u8) 2 q4,vi q3,vt 5 1 0,vi q5]++dd 223,[none,bv x_c7 337 a0]++dn 3++[bv eRow 0 (a0.1.getD q3.toNat zRow)]++dn 225⟩
noncomputable def x_b.g2 (K:Nat) (a0:x_as) (n:Nat) (q8:y0) (q9:Int):Option y29:=
 lq (B102 K) (dirs 7 34531) n ⟨[.dead,vt 1 1 0, .dead,vl (.i .u8) 2 q8]++dd 4++[vi q9]++dd 221,[none,bv x_c7 337 a0]++dn 229⟩
noncomputable def x_b.g3 (K:Nat) (a0:x_as) (n2:Nat) (n:Nat) (q10:y0) (q9:Int) (q11:Int):Option y29:=
 lq (B102 K) [.r, .r, .r, .r, .l, .r, .b, .lp n2, .r, .l, .b, .r, .r, .r, .b] n ⟨[.dead,vt 1 1 0, .dead,vl (.i .u8) 2 q10]++dd 4++[vi q9,vt 9 1 0,vi q11]++dd 219,[none,bv x_c7 337 a0]++dn 7++[bv x_bf 0 (a0.2.1.getD q9.toNat x_bc)]++dn 221⟩
noncomputable def x_b.g4 (K:Nat) (a0:x_as) (n:Nat) (q14:y0) (q15:Int):Option y29:=
 lq (B102 K) (dirs 9 863281) n ⟨[.dead,vt 1 1 0, .dead,vl (.i .u8) 2 q14]++dd 7++[vi q15]++dd 218,[none,bv x_c7 337 a0]++dn 229⟩
noncomputable def x_b.g5 (K:Nat) (a0:x_as) (n4:Nat) (n:Nat) (q16:y0) (q15:Int) (q17:Int):Option y29:=
 lq (B102 K) [.r, .r, .r, .r, .r, .r, .l, .r, .b, .lp n4, .r, .l, .b, .r, .r, .l, .r, .b] n ⟨[.dead,vt 1 1 0, .dead,vl (.i .u8) 2 q16]++dd 7++[vi q15,vt 12 1 0,vi q17]++dd 216,[none,bv x_c7 337 a0]++dn 10++[bv x_a2 0 (a0.2.2.1.getD q15.toNat x_co)]++dn 218⟩
noncomputable def x_b.g6 (K:Nat) (a0:x_as) (n:Nat) (q18:y0) (q19:Int):Option y29:=
 lq (B102 K) (dirs 11 21582031) n ⟨[.dead,vt 1 1 0, .dead,vl (.i .u8) 2 q18]++dd 10++[vi q19]++dd 215,[none,bv x_c7 337 a0]++dn 229⟩
theorem x_b.ok1 (K:Nat) (a0:x_as) (n0:Nat):x_b.g1 K a0 n0=x_b.l1 K a0 (x_b.g0 K a0 n0):=
 funext (lpe3 (fun _ _ _=>by kernel_rfl) fun _ _ _ _=>by kernel_rfl)
theorem x_b.ok3 (K:Nat) (a0:x_as) (n2:Nat):x_b.g3 K a0 n2=x_b.l3 K a0 (x_b.g2 K a0 n2):=
 funext (lpe3 (fun _ _ _=>by kernel_rfl) fun _ _ _ _=>by kernel_rfl)
theorem x_b.ok5 (K:Nat) (a0:x_as) (n4:Nat):x_b.g5 K a0 n4=x_b.l5 K a0 (x_b.g4 K a0 n4):=
 funext (lpe3 (fun _ _ _=>by kernel_rfl) fun _ _ _ _=>by kernel_rfl)
theorem x_b.ok6 (K:Nat) (a0:x_as):x_b.g6 K a0=x_b.l6 K a0:=
 funext (lpe2 (fun _ _=>by kernel_rfl) fun _ _ _=>by kernel_rfl)
theorem x_b.ok4 (K:Nat) (a0:x_as):x_b.g4 K a0=x_b.l4 K a0:=
 funext (lpe2 (fun _ _=>by kernel_rfl) fun n q14 q15=>(show x_b.g4 K a0 (n+1) q14 q15=x_b.l4b K a0 (x_b.g5 K a0 n K) (x_b.g6 K a0 K) q14 q15 by kernel_rfl).trans (by rw [x_b.ok5,x_b.ok6]<;>rfl))
theorem x_b.ok2 (K:Nat) (a0:x_as):x_b.g2 K a0=x_b.l2 K a0:=
 funext (lpe2 (fun _ _=>by kernel_rfl) fun n q8 q9=>(show x_b.g2 K a0 (n+1) q8 q9=x_b.l2b K a0 (x_b.g3 K a0 n K) (x_b.g4 K a0 K) q8 q9 by kernel_rfl).trans (by rw [x_b.ok3,x_b.ok4]<;>rfl))
theorem x_b.ok0 (K:Nat) (a0:x_as):x_b.g0 K a0=x_b.l0 K a0:=
 funext (lpe2 (fun _ _=>by kernel_rfl) fun n q2 q3=>(show x_b.g0 K a0 (n+1) q2 q3=x_b.l0b K a0 (x_b.g1 K a0 n K) (x_b.g2 K a0 K) q2 q3 by kernel_rfl).trans (by rw [x_b.ok1,x_b.ok2]<;>rfl))
theorem o102 (K:Nat):FOk PP 102 (B102 K).F:=bok mixed Tryz.func102 fun v=>by
 have e:(B102 K).run v=x_b.b K v.1 (x_b.g0 K v.1 K):=by kernel_rfl
 rw [x_b.ok0] at e
 exact e.trans (by kernel_rfl)
noncomputable def B262:Bd PP:=⟨⟨[va eLog 9,vo (.i .i64) 0],[ro (.sl x_cv) 2],[],u2 s_From,false⟩,cn o211 tt,hn [6,36,1060,16,16],0,Tryz.f262,[.tmp 4]⟩
theorem o262:FOk PP 262 B262.F:=bok mixed Tryz.func262
noncomputable def B238 (K:Nat):Bd PP:=⟨⟨[va x_a6 0,va x_gj 984972995316,vo (.i .i64) 0,vo (.i .i64) 0],[ra x_gj 87081922260,ro .b 0],[],u4 (s_Feed K),false⟩,cn (o12 K)<|cn o25<|cn (o55 K)<|cn (o102 K)<|cn (o260 K)<|cn o262<|cn o178 tt,hn [316,68719477052,768,17592186045736,17592186047784,17592186051880,72075186223979816,17592186045728,17592186060072,37778931880549347769640,17592186060072,17592186045728,39614081257132186388958020896,768,768],K,Tryz.f238,[.cell 8 45, .tmp 9]⟩
theorem o238 (K:Nat):FOk PP 238 (B238 K).F:=bok mixed Tryz.func238
noncomputable def B277:Bd PP:=⟨⟨[va x_vb 1],[ra x_vb 2],[],u1 s_Sync,false⟩,cn o94<|cn o44 tt,hn [6,14,142,12,4],0,Tryz.f277,[.cell 2 42]⟩
theorem o277:FOk PP 277 B277.F:=bok mixed Tryz.func277
noncomputable def B263 (K:Nat):Bd PP:=⟨⟨[va x_a6 0,va x_gj 984972995316,vo (.i .i64) 0],[ra x_gj 87081922260,ro (.sl eRpc) 2],[],u3 (x_lm K),false⟩,cn (o55 K)<|cn (o12 K)<|cn o277<|cn o41<|cn (o274 K) tt,hn [92,348,524636,192,860,860,860,8589936208,77309412944,8589938256,8589936192,8589936192,192],K,Tryz.f263,[.cell 6 45, .tmp 7]⟩
theorem o263 (K:Nat):FOk PP 263 (B263 K).F:=bok mixed Tryz.func263
noncomputable def B239 (K:Nat):Bd PP:=⟨⟨[va x_c0 176904,vo (.i .i64) 0],[ra x_c0 176904,ro (.i .i64) 0],[],u2 (x_ky K),false⟩,cn (o263 K) tt,hn [22,214,134217942,48,148,20,48],K,Tryz.f239,[.cell 4 94, .tmp 5]⟩
theorem o239 (K:Nat):FOk PP 239 (B239 K).F:=bok mixed Tryz.func239
noncomputable def B240:Bd PP:=⟨⟨[va x_vb 1,vo (.i .i64) 0],[ra x_vb 2],[],u2 s_Fall,false⟩,cn o44<|cn o94<|cn o249<|cn o180 tt,hn [22,278,16,52,16],0,Tryz.f240,[.cell 4 42]⟩
theorem o240:FOk PP 240 B240.F:=bok mixed Tryz.func240
noncomputable def B208 (K:Nat):Bd PP:=⟨⟨[vp x_cr 0],[ra eCmd 0],[],u1 (x_of K),false⟩,cn (o207 K)<|cn (o209 K) tt,hn [5,13,13,13,13,13,13,13,13,13,5],K,Tryz.f208,[.cell 2 123]⟩
theorem o208 (K:Nat):FOk PP 208 (B208 K).F:=bok mixed Tryz.func208
noncomputable def B175 (K:Nat):Bd PP:=⟨⟨[vp x_cr 0],[ra x_js 162],[],u1 (x_bs K),false⟩,cn (o207 K)<|cn (o208 K)<|cn (o209 K) tt,hn [5,13,13,13,13,13,29,61,2147483709,61,125,125,125,61,13,5],K,Tryz.f175,[.cell 2 136]⟩
noncomputable def x_bs.g0 (K:Nat) (a0:x_g) (n:Nat) (v5:y47) (q0:Int) (q1:y24) (v1:y47) (v2:y47) (v3:y47) (v4:y47) (q2:y13):Option y61:=
 lq (B175 K) (dirs 10 4316406) n ⟨[vt 0 0 0, .dead,vt 2 1 0,vt 3 1 0,vi v5.1,vi q0]++dd 45,[some (0,[.val .f (.sl (.i .u8)) q1.1.1, .val .f (.i .i64) q1.1.2.1, .val .f .b q1.1.2.2]),none,bv x_js 162 (0,0,0,0,[],ByteArray.empty),bv x_js 162 (v1.1,v2.1,i6 (v3.1-1),v4.1,q2,ByteArray.empty)]++dn 48⟩
theorem x_bs.ok0 (K:Nat) (a0:x_g):x_bs.g0 K a0=x_bs.l0 K a0:=
 funext (lpe8 (fun _ _ _ _ _ _ _ _=>by kernel_rfl) fun _ _ _ _ _ _ _ _ _=>by kernel_rfl)
theorem o175 (K:Nat):FOk PP 175 (B175 K).F:=bok mixed Tryz.func175 fun v=>by
 have e:(B175 K).run v=x_bs.b K v.1 (x_bs.g0 K v.1 K):=by kernel_rfl
 rw [x_bs.ok0] at e
 exact e.trans (by kernel_rfl)
noncomputable def B132 (K:Nat):Bd PP:=⟨⟨[vo (.sl (.i .u8)) 0,vo (.i .i64) 0],[ra x_js 162,ro (.i .i64) 0,ro .b 0],[],u2 (x_kc K),false⟩,cn (o173 K)<|cn (o174 K)<|cn (o175 K)<|cn (o133 K) tt,hn [19,913,1073742225,112,1425,2251799813686672,112,36028797018967440,36028797018971536,75557863725914323423632,112,112],K,Tryz.f132,[.cell 4 136, .tmp 5, .tmp 6]⟩
theorem o132 (K:Nat):FOk PP 132 (B132 K).F:=bok mixed Tryz.func132
noncomputable def B89 (K:Nat):Bd PP:=⟨⟨[vo (.sl (.i .u8)) 0],[ro (.sl x_js) 2,ro (.i .i64) 0],[],u1 (x_dh K),false⟩,cn (o132 K) tt,hn [1,17,49,8241,497,4194545,145,49,12],K,Tryz.f89,[.tmp 2, .tmp 3]⟩
noncomputable def x_dh.g0 (K:Nat) (a0:y0) (n:Nat) (q0:y10) (q1:Int):Option y84:=
 lq (B89 K) (dirs 5 1281) n ⟨[vl (.i .u8) 0 a0]++dd 3++[vl x_js 2 q0,vi q1]++dd 24,dn 31⟩
theorem x_dh.ok0 (K:Nat) (a0:y0):x_dh.g0 K a0=x_dh.l0 K a0:=
 funext (lpe2 (fun _ _=>by kernel_rfl) fun _ _ _=>by kernel_rfl)
theorem o89 (K:Nat):FOk PP 89 (B89 K).F:=bok mixed Tryz.func89 fun v=>by
 have e:(B89 K).run v=x_dh.b K v.1 (x_dh.g0 K v.1 K):=by kernel_rfl
 rw [x_dh.ok0] at e
 exact e.trans (by kernel_rfl)
end Go.Proofs.YtoiamgohjmjbiaaGreat.Pe
