/- The functions compute what is told of them. -/
import Derived.Test.YtjfnlbdnfglmfaaGreatCuOk8
set_option linter.all false
set_option maxRecDepth 100000
namespace Go.Proofs.YtjfnlbdnfglmfaaGreat.Cu
open Go Go.Kn
noncomputable def B80 (K:Nat):Bd PP:=⟨⟨[va x_dg 337],[ro (.sl (.i .u8)) 2],[],u1 (x_b K),false⟩,cn (o150 K)<|cn (o151 K)<|cn (o152 K) tt,hn [2,10,26,16777242,26,58,58,122,140737488355450,122,250,250,250,250,122,10,266,309485009821345068724781322,266,778,778,1802,83076749736557242056487941267523338,1802,1802,10,2058,44601490397061246283071436545296723011962890,2058,6154,6154,14346,93536104789177786765035829293842113257979682764810,14346,14346,2058,10,16394,200867255532373784442745261542645325315275374222849104429066,16394,49162,49162,49162,16394,4],K,Tryz.f80,[.tmp 2]⟩
noncomputable def x_b.g0 (K:Nat) (a0:x_ai) (n:Nat) (q2:y0) (q3:Int):Option y31:=
 lq (B80 K) (dirs 5 1381) n ⟨[.dead,vt 1 1 0, .dead,vl (.i .u8) 2 q2,vi q3]++dd 225,[none,bv x_dg 337 a0]++dn 229⟩
noncomputable def x_b.g1 (K:Nat) (a0:x_ai) (n0:Nat) (n:Nat) (q4:y0) (q3:Int) (q5:Int):Option y31:=
 lq (B80 K) [.r, .r, .l, .r, .b, .lp n0, .r, .l, .b, .r, .r, .r, .b] n ⟨[.dead,vt 1 1 0, .dead,vl (.i .u8) 2 q4,vi q3,vt 5 1 0,vi q5]++dd 223,[none,bv x_dg 337 a0]++dn 3++[bv eRow 0 (a0.1.getD q3.toNat zRow)]++dn 225⟩
noncomputable def x_b.g2 (K:Nat) (a0:x_ai) (n:Nat) (q8:y0) (q9:Int):Option y31:=
 lq (B80 K) (dirs 7 34531) n ⟨[.dead,vt 1 1 0, .dead,vl (.i .u8) 2 q8]++dd 4++[vi q9]++dd 221,[none,bv x_dg 337 a0]++dn 229⟩
noncomputable def x_b.g3 (K:Nat) (a0:x_ai) (n2:Nat) (n:Nat) (q10:y0) (q9:Int) (q11:Int):Option y31:=
 lq (B80 K) [.r, .r, .r, .r, .l, .r, .b, .lp n2, .r, .l, .b, .r, .r, .r, .b] n ⟨[.dead,vt 1 1 0, .dead,vl (.i .u8) 2 q10]++dd 4++[vi q9,vt 9 1 0,vi q11]++dd 219,[none,bv x_dg 337 a0]++dn 7++[bv x_bs 0 (a0.2.1.getD q9.toNat x_bb)]++dn 221⟩
noncomputable def x_b.g4 (K:Nat) (a0:x_ai) (n:Nat) (q14:y0) (q15:Int):Option y31:=
 lq (B80 K) (dirs 9 863281) n ⟨[.dead,vt 1 1 0, .dead,vl (.i .u8) 2 q14]++dd 7++[vi q15]++dd 218,[none,bv x_dg 337 a0]++dn 229⟩
noncomputable def x_b.g5 (K:Nat) (a0:x_ai) (n4:Nat) (n:Nat) (q16:y0) (q15:Int) (q17:Int):Option y31:=
 lq (B80 K) [.r, .r, .r, .r, .r, .r, .l, .r, .b, .lp n4, .r, .l, .b, .r, .r, .l, .r, .b] n ⟨[.dead,vt 1 1 0, .dead,vl (.i .u8) 2 q16]++dd 7++[vi q15,vt 12 1 0,vi q17]++dd 216,[none,bv x_dg 337 a0]++dn 10++[bv x_bh 0 (a0.2.2.1.getD q15.toNat x_bv)]++dn 218⟩
noncomputable def x_b.g6 (K:Nat) (a0:x_ai) (n:Nat) (q18:y0) (q19:Int):Option y31:=
 lq (B80 K) (dirs 11 21582031) n ⟨[.dead,vt 1 1 0, .dead,vl (.i .u8) 2 q18]++dd 10++[vi q19]++dd 215,[none,bv x_dg 337 a0]++dn 229⟩
theorem x_b.ok1 (K:Nat) (a0:x_ai) (n0:Nat):x_b.g1 K a0 n0=x_b.l1 K a0 (x_b.g0 K a0 n0):=
 funext (lpe3 (fun _ _ _=>by kernel_rfl) fun _ _ _ _=>by kernel_rfl)
theorem x_b.ok3 (K:Nat) (a0:x_ai) (n2:Nat):x_b.g3 K a0 n2=x_b.l3 K a0 (x_b.g2 K a0 n2):=
 funext (lpe3 (fun _ _ _=>by kernel_rfl) fun _ _ _ _=>by kernel_rfl)
theorem x_b.ok5 (K:Nat) (a0:x_ai) (n4:Nat):x_b.g5 K a0 n4=x_b.l5 K a0 (x_b.g4 K a0 n4):=
 funext (lpe3 (fun _ _ _=>by kernel_rfl) fun _ _ _ _=>by kernel_rfl)
theorem x_b.ok6 (K:Nat) (a0:x_ai):x_b.g6 K a0=x_b.l6 K a0:=
 funext (lpe2 (fun _ _=>by kernel_rfl) fun _ _ _=>by kernel_rfl)
theorem x_b.ok4 (K:Nat) (a0:x_ai):x_b.g4 K a0=x_b.l4 K a0:=
 funext (lpe2 (fun _ _=>by kernel_rfl) fun n q14 q15=>(show x_b.g4 K a0 (n+1) q14 q15=x_b.l4b K a0 (x_b.g5 K a0 n K) (x_b.g6 K a0 K) q14 q15 by kernel_rfl).trans (by rw [x_b.ok5,x_b.ok6]<;>rfl))
theorem x_b.ok2 (K:Nat) (a0:x_ai):x_b.g2 K a0=x_b.l2 K a0:=
 funext (lpe2 (fun _ _=>by kernel_rfl) fun n q8 q9=>(show x_b.g2 K a0 (n+1) q8 q9=x_b.l2b K a0 (x_b.g3 K a0 n K) (x_b.g4 K a0 K) q8 q9 by kernel_rfl).trans (by rw [x_b.ok3,x_b.ok4]<;>rfl))
theorem x_b.ok0 (K:Nat) (a0:x_ai):x_b.g0 K a0=x_b.l0 K a0:=
 funext (lpe2 (fun _ _=>by kernel_rfl) fun n q2 q3=>(show x_b.g0 K a0 (n+1) q2 q3=x_b.l0b K a0 (x_b.g1 K a0 n K) (x_b.g2 K a0 K) q2 q3 by kernel_rfl).trans (by rw [x_b.ok1,x_b.ok2]<;>rfl))
theorem o80 (K:Nat):FOk PP 80 (B80 K).F:=bok mixed Tryz.func80 fun v=>by
 have e:(B80 K).run v=x_b.b K v.1 (x_b.g0 K v.1 K):=by kernel_rfl
 rw [x_b.ok0] at e
 exact e.trans (by kernel_rfl)
noncomputable def B258:Bd PP:=⟨⟨[va eLog 9,vo (.i .i64) 0],[ro (.sl x_dp) 2],[],u2 s_From,false⟩,cn o308 tt,hn [6,36,1060,16,16],0,Tryz.f258,[.tmp 4]⟩
theorem o258:FOk PP 258 B258.F:=bok mixed Tryz.func258
noncomputable def B191 (K:Nat):Bd PP:=⟨⟨[va x_bt 0,va x_gb 984972995316,vo (.i .i64) 0,vo (.i .i64) 0],[ra x_gb 87081922260,ro .b 0],[],u4 (s_Feed K),false⟩,cn (o60 K)<|cn o20<|cn (o66 K)<|cn (o80 K)<|cn (o255 K)<|cn o258<|cn o259 tt,hn [316,68719477052,768,17592186045736,17592186047784,17592186051880,72075186223979816,17592186045728,17592186060072,37778931880549347769640,17592186060072,17592186045728,39614081257132186388958020896,768,768],K,Tryz.f191,[.cell 8 58, .tmp 9]⟩
theorem o191 (K:Nat):FOk PP 191 (B191 K).F:=bok mixed Tryz.func191
noncomputable def B309:Bd PP:=⟨⟨[va x_ty 1],[ra x_ty 2],[],u1 s_Sync,false⟩,cn o125<|cn o115 tt,hn [6,14,142,12,4],0,Tryz.f309,[.cell 2 56]⟩
theorem o309:FOk PP 309 B309.F:=bok mixed Tryz.func309
noncomputable def B260 (K:Nat):Bd PP:=⟨⟨[va x_bt 0,va x_gb 984972995316,vo (.i .i64) 0],[ra x_gb 87081922260,ro (.sl eRpc) 2],[],u3 (x_nd K),false⟩,cn (o66 K)<|cn (o60 K)<|cn o309<|cn o113<|cn (o305 K) tt,hn [92,348,524636,192,860,860,860,8589936208,77309412944,8589938256,8589936192,8589936192,192],K,Tryz.f260,[.cell 6 58, .tmp 7]⟩
theorem o260 (K:Nat):FOk PP 260 (B260 K).F:=bok mixed Tryz.func260
noncomputable def B192 (K:Nat):Bd PP:=⟨⟨[va x_be 176904,vo (.i .i64) 0],[ra x_be 176904,ro (.i .i64) 0],[],u2 (x_mp K),false⟩,cn (o260 K) tt,hn [22,214,134217942,48,148,20,48],K,Tryz.f192,[.cell 4 32, .tmp 5]⟩
theorem o192 (K:Nat):FOk PP 192 (B192 K).F:=bok mixed Tryz.func192
noncomputable def B193:Bd PP:=⟨⟨[va x_ty 1,vo (.i .i64) 0],[ra x_ty 2],[],u2 s_Fall,false⟩,cn o115<|cn o125<|cn o261<|cn o36 tt,hn [22,278,16,52,16],0,Tryz.f193,[.cell 4 56]⟩
theorem o193:FOk PP 193 B193.F:=bok mixed Tryz.func193
noncomputable def B346 (K:Nat):Bd PP:=⟨⟨[vp x_dn 0],[ra eCmd 0],[],u1 (x_v7 K),false⟩,cn (o341 K)<|cn (o345 K) tt,hn [5,13,13,13,13,13,13,13,13,13,5],K,Tryz.f346,[.cell 2 34]⟩
theorem o346 (K:Nat):FOk PP 346 (B346 K).F:=bok mixed Tryz.func346
noncomputable def B328 (K:Nat):Bd PP:=⟨⟨[vp x_dn 0],[ra x_ld 162],[],u1 (x_du K),false⟩,cn (o341 K)<|cn (o346 K)<|cn (o345 K) tt,hn [5,13,13,13,13,13,29,61,2147483709,61,125,125,125,61,13,5],K,Tryz.f328,[.cell 2 128]⟩
noncomputable def x_du.g0 (K:Nat) (a0:x_h) (n:Nat) (v5:y50) (q0:Int) (q1:y26) (v1:y50) (v2:y50) (v3:y50) (v4:y50) (q2:y14):Option y63:=
 lq (B328 K) (dirs 10 4316406) n ⟨[vt 0 0 0, .dead,vt 2 1 0,vt 3 1 0,vi v5.1,vi q0]++dd 45,[some (0,[.val .f (.sl (.i .u8)) q1.1.1, .val .f (.i .i64) q1.1.2.1, .val .f .b q1.1.2.2]),none,bv x_ld 162 (0,0,0,0,[],ByteArray.empty),bv x_ld 162 (v1.1,v2.1,i6 (v3.1-1),v4.1,q2,ByteArray.empty)]++dn 48⟩
theorem x_du.ok0 (K:Nat) (a0:x_h):x_du.g0 K a0=x_du.l0 K a0:=
 funext (lpe8 (fun _ _ _ _ _ _ _ _=>by kernel_rfl) fun _ _ _ _ _ _ _ _ _=>by kernel_rfl)
theorem o328 (K:Nat):FOk PP 328 (B328 K).F:=bok mixed Tryz.func328 fun v=>by
 have e:(B328 K).run v=x_du.b K v.1 (x_du.g0 K v.1 K):=by kernel_rfl
 rw [x_du.ok0] at e
 exact e.trans (by kernel_rfl)
noncomputable def B310 (K:Nat):Bd PP:=⟨⟨[vo (.sl (.i .u8)) 0,vo (.i .i64) 0],[ra x_ld 162,ro (.i .i64) 0,ro .b 0],[],u2 (x_q4 K),false⟩,cn (o327 K)<|cn (o287 K)<|cn (o328 K)<|cn (o280 K) tt,hn [19,913,1073742225,112,1425,2251799813686672,112,36028797018967440,36028797018971536,75557863725914323423632,112,112],K,Tryz.f310,[.cell 4 128, .tmp 5, .tmp 6]⟩
theorem o310 (K:Nat):FOk PP 310 (B310 K).F:=bok mixed Tryz.func310
noncomputable def B262 (K:Nat):Bd PP:=⟨⟨[vo (.sl (.i .u8)) 0],[ro (.sl x_ld) 2,ro (.i .i64) 0],[],u1 (x_e3 K),false⟩,cn (o310 K) tt,hn [1,17,49,8241,497,4194545,145,49,12],K,Tryz.f262,[.tmp 2, .tmp 3]⟩
noncomputable def x_e3.g0 (K:Nat) (a0:y0) (n:Nat) (q0:y10) (q1:Int):Option y87:=
 lq (B262 K) (dirs 5 1281) n ⟨[vl (.i .u8) 0 a0]++dd 3++[vl x_ld 2 q0,vi q1]++dd 24,dn 31⟩
theorem x_e3.ok0 (K:Nat) (a0:y0):x_e3.g0 K a0=x_e3.l0 K a0:=
 funext (lpe2 (fun _ _=>by kernel_rfl) fun _ _ _=>by kernel_rfl)
theorem o262 (K:Nat):FOk PP 262 (B262 K).F:=bok mixed Tryz.func262 fun v=>by
 have e:(B262 K).run v=x_e3.b K v.1 (x_e3.g0 K v.1 K):=by kernel_rfl
 rw [x_e3.ok0] at e
 exact e.trans (by kernel_rfl)
end Go.Proofs.YtjfnlbdnfglmfaaGreat.Cu
