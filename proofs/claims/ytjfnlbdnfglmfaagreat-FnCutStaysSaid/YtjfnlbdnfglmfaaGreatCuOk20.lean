/- The functions compute what is told of them. -/
import Derived.Test.YtjfnlbdnfglmfaaGreatCuOk19
set_option linter.all false
set_option maxRecDepth 100000
namespace Go.Proofs.YtjfnlbdnfglmfaaGreat.Cu
open Go Go.Kn
noncomputable def B9 (K:Nat):Bd PP:=⟨⟨[va x_be 88452,va x_be 88452],[ro .b 0],[],u2 (x_i K),false⟩,cn (o23 K)<|cn (o24 K)<|cn (o25 K) tt,hn [12,36893488147419103244,16,44,1180591620717411303468,44,19342813113834066795298860,16,76,618970019642690137449562188,76,5070602400912917605986812821580,16,140,162259276829213363391578010288268,140,1329227995784915872903807060280344716,16,268,42535295865117307932921825928971026700,268,348449143727040986586495598010130648531212,16,16],K,Tryz.f9,[.tmp 4]⟩
noncomputable def x_i.g0 (K:Nat) (a0:x_u) (a1:x_u) (n:Nat) (q0:Int):Option y11:=
 lq (B9 K) (dirs 5 1381) n ⟨[.dead, .dead,vt 2 1 0,vt 3 1 0, .dead,vi q0]++dd 133,[none,none,bv x_be 88452 a0,bv x_be 88452 a1]++dn 137⟩
noncomputable def x_i.g1 (K:Nat) (a0:x_u) (a1:x_u) (n:Nat) (q1:Int):Option y11:=
 lq (B9 K) (dirs 6 6906) n ⟨[.dead, .dead,vt 2 1 0,vt 3 1 0, .dead, .dead,vi q1]++dd 132,[none,none,bv x_be 88452 a0,bv x_be 88452 a1]++dn 137⟩
noncomputable def x_i.g2 (K:Nat) (a0:x_u) (a1:x_u) (n:Nat) (q2:Int):Option y11:=
 lq (B9 K) (dirs 7 34531) n ⟨[.dead, .dead,vt 2 1 0,vt 3 1 0]++dd 3++[vi q2]++dd 131,[none,none,bv x_be 88452 a0,bv x_be 88452 a1]++dn 137⟩
noncomputable def x_i.g3 (K:Nat) (a0:x_u) (a1:x_u) (n:Nat) (q3:Int):Option y11:=
 lq (B9 K) (dirs 8 172656) n ⟨[.dead, .dead,vt 2 1 0,vt 3 1 0]++dd 4++[vi q3]++dd 130,[none,none,bv x_be 88452 a0,bv x_be 88452 a1]++dn 137⟩
theorem x_i.ok3 (K:Nat) (a0:x_u) (a1:x_u):x_i.g3 K a0 a1=x_i.l3 K a0 a1:=
 funext (lpe1 (fun _=>by kernel_rfl) fun _ _=>by kernel_rfl)
theorem x_i.ok2 (K:Nat) (a0:x_u) (a1:x_u):x_i.g2 K a0 a1=x_i.l2 K a0 a1:=
 funext (lpe1 (fun _=>by kernel_rfl) fun n q2=>(show x_i.g2 K a0 a1 (n+1) q2=x_i.l2b K a0 a1 (x_i.g2 K a0 a1 n) (x_i.g3 K a0 a1 K) q2 by kernel_rfl).trans (by rw [x_i.ok3]<;>rfl))
theorem x_i.ok1 (K:Nat) (a0:x_u) (a1:x_u):x_i.g1 K a0 a1=x_i.l1 K a0 a1:=
 funext (lpe1 (fun _=>by kernel_rfl) fun n q1=>(show x_i.g1 K a0 a1 (n+1) q1=x_i.l1b K a0 a1 (x_i.g1 K a0 a1 n) (x_i.g2 K a0 a1 K) q1 by kernel_rfl).trans (by rw [x_i.ok2]<;>rfl))
theorem x_i.ok0 (K:Nat) (a0:x_u) (a1:x_u):x_i.g0 K a0 a1=x_i.l0 K a0 a1:=
 funext (lpe1 (fun _=>by kernel_rfl) fun n q0=>(show x_i.g0 K a0 a1 (n+1) q0=x_i.l0b K a0 a1 (x_i.g0 K a0 a1 n) (x_i.g1 K a0 a1 K) q0 by kernel_rfl).trans (by rw [x_i.ok1]<;>rfl))
theorem o9 (K:Nat):FOk PP 9 (B9 K).F:=bok mixed Tryz.func9 fun v=>by
 have e:(B9 K).run v=x_i.b K v.1 v.2.1 (x_i.g0 K v.1 v.2.1 K):=by kernel_rfl
 rw [x_i.ok0] at e
 exact e.trans (by kernel_rfl)
noncomputable def B200:Bd PP:=⟨⟨[vo (.i .i64) 0],[ra x_bh 78],[],u1 x_k3,false⟩,cn o17 tt,hn [5,37,4,4],0,Tryz.f200,[.cell 2 121]⟩
theorem o200:FOk PP 200 B200.F:=bok mixed Tryz.func200
noncomputable def B138 (K:Nat):Bd PP:=⟨⟨[va x_bt 0],[ra x_dg 674],[],u1 (x_dc K),false⟩,cn o39<|cn o200 tt,hn [6,134,4,14,30,65566,30,30,4],K,Tryz.f138,[.cell 2 51]⟩
noncomputable def x_dc.g0 (K:Nat) (a0:x_d) (n:Nat) (q0:Int) (q1:y12):Option y18:=
 lq (B138 K) (dirs 6 6906) n ⟨[.dead,vt 1 1 0,vt 2 1 0,vt 3 1 0,vi q0]++dd 23,[none,bv x_bt 0 a0,bv x_dg 674 ([],[],[],0,[],[]),bv x_dg 674 (List.replicate a0.1.toNat zRow,[],q1,0,List.replicate 4 0,List.replicate 4 x_b7)]++dn 25⟩
theorem x_dc.ok0 (K:Nat) (a0:x_d):x_dc.g0 K a0=x_dc.l0 K a0:=
 funext (lpe2 (fun _ _=>by kernel_rfl) fun _ _ _=>by kernel_rfl)
theorem o138 (K:Nat):FOk PP 138 (B138 K).F:=bok mixed Tryz.func138 fun v=>by
 have e:(B138 K).run v=x_dc.b K v.1 (x_dc.g0 K v.1 K):=by kernel_rfl
 rw [x_dc.ok0] at e
 exact e.trans (by kernel_rfl)
noncomputable def B73 (K:Nat):Bd PP:=⟨⟨[va x_bt 0],[ra x_it 163944],[],u1 (x_m5 K),false⟩,cn o39<|cn (o138 K) tt,hn [6,38,4,4],K,Tryz.f73,[.cell 2 53]⟩
theorem o73 (K:Nat):FOk PP 73 (B73 K).F:=bok mixed Tryz.func73
noncomputable def B201 (K:Nat):Bd PP:=⟨⟨[vo (.sl (.i .u8)) 1,vo (.i .i64) 0],[ro (.i .i64) 0,ro (.i .i64) 0,ro .b 0],[],u2 (x_dq K),false⟩,tt,hn [3,1027,112,131,387,2097539,387,387,2199023255939,36028797018964354,112,112,112],K,Tryz.f201,[.tmp 4, .tmp 5, .tmp 6]⟩
noncomputable def x_dq.g0 (K:Nat) (a0:y0) (a1:Int) (n:Nat) (q0:Int) (q1:Int):Option y72:=
 lq (B201 K) (dirs 6 6906) n ⟨[vl (.i .u8) 1 a0,vi a1]++dd 5++[vi q0,vi q1]++dd 50,dn 61⟩
theorem x_dq.ok0 (K:Nat) (a0:y0) (a1:Int):x_dq.g0 K a0 a1=x_dq.l0 K a0 a1:=
 funext (lpe2 (fun _ _=>by kernel_rfl) fun _ _ _=>by kernel_rfl)
theorem o201 (K:Nat):FOk PP 201 (B201 K).F:=bok mixed Tryz.func201 fun v=>by
 have e:(B201 K).run v=x_dq.b K v.1 v.2.1 (x_dq.g0 K v.1 v.2.1 K):=by kernel_rfl
 rw [x_dq.ok0] at e
 exact e.trans (by kernel_rfl)
noncomputable def B213 (K:Nat):Bd PP:=⟨⟨[vp x_dn 0],[ro (.i .i64) 0],[],u1 (x_8 K),false⟩,cn (o201 K) tt,hn [1,57,67108889,1,5,9,5],K,Tryz.f213,[.tmp 2]⟩
theorem o213 (K:Nat):FOk PP 213 (B213 K).F:=bok mixed Tryz.func213
noncomputable def B277 (K:Nat):Bd PP:=⟨⟨[vo (.sl (.i .u8)) 1,vo (.i .i64) 0],[ro .s 0,ro (.i .i64) 0,ro .b 0],[],u2 (x_m0 K),false⟩,cn (o201 K) tt,hn [3,897,67109249,112,112],K,Tryz.f277,[.tmp 4, .tmp 5, .tmp 6]⟩
theorem o277 (K:Nat):FOk PP 277 (B277 K).F:=bok mixed Tryz.func277
noncomputable def B214 (K:Nat):Bd PP:=⟨⟨[vp x_dn 0],[ro .s 0],[],u1 (x_dm K),false⟩,cn (o277 K) tt,hn [1,57,67108889,1,5,9,5],K,Tryz.f214,[.tmp 2]⟩
theorem o214 (K:Nat):FOk PP 214 (B214 K).F:=bok mixed Tryz.func214
noncomputable def B268 (K:Nat):Bd PP:=⟨⟨[vp x_dn 0],[ra eCmd 0],[],u1 (x_h8 K),false⟩,cn (o213 K)<|cn (o214 K)<|cn (o42 K) tt,hn [5,13,13,13,13,13,13,13,13,13,13,5],K,Tryz.f268,[.cell 2 34]⟩
theorem o268 (K:Nat):FOk PP 268 (B268 K).F:=bok mixed Tryz.func268
noncomputable def B267 (K:Nat):Bd PP:=⟨⟨[.via 2,vp x_ld 162,vp x_dn 0],[],[.one, .one, .gh 0],u2 (x_nl K),false⟩,sf 1<|cn (o213 K)<|cn (o268 K) tt,hn [15,15,7],K,Tryz.f267,[]⟩
theorem o267 (K:Nat):FOk PP 267 (B267 K).F:=bok mixed Tryz.func267
noncomputable def B206 (K:Nat):Bd PP:=⟨⟨[vp x_dn 0, .via 0,vp x_ld 162],[],[.one, .fn 267 2],u2 (x_s K),false⟩,sf 1<|cn (o213 K)<|cn (o267 K) tt,hn [23,55,131127,55,55],K,Tryz.f206,[]⟩
noncomputable def x_s.g0 (K:Nat) (a0:x_h) (a2:x_df) (n:Nat) (v1:y50) (q0:Int) (q1:y26) (q2:x_df):Option y66:=
 lq (B206 K) (dirs 3 56) n ⟨[vt 0 0 0, .fn 267 [.one (.ptr 1 0 0), .one (.ptr 2 0 0)], .dead, .dead,vi v1.1,vi q0]++dd 16,[some (0,[.val .f (.sl (.i .u8)) q1.1.1, .val .f (.i .i64) q1.1.2.1, .val .f .b q1.1.2.2]),some (0,[.ptr 0 0 0]),some (0,[.val .f (.i .i64) q2.1, .val .f (.i .i64) q2.2.1, .val .f (.i .i64) q2.2.2.1, .val .f (.i .i64) q2.2.2.2.1, .val (.x 0) (.sl x_dp) q2.2.2.2.2.1, .val .f .s q2.2.2.2.2.2])]++dn 22⟩
theorem x_s.ok0 (K:Nat) (a0:x_h) (a2:x_df):x_s.g0 K a0 a2=x_s.l0 K a0 a2:=
 funext (lpe4 (fun _ _ _ _=>by kernel_rfl) fun _ _ _ _ _=>by kernel_rfl)
theorem o206 (K:Nat):FOk PP 206 (B206 K).F:=bok mixed Tryz.func206 fun v=>by
 have e:(B206 K).run v=x_s.b K v.1 v.2.1 (x_s.g0 K v.1 v.2.1 K):=by kernel_rfl
 rw [x_s.ok0] at e
 exact e.trans (by kernel_rfl)
noncomputable def B202 (K:Nat):Bd PP:=⟨⟨[vo (.sl (.i .u8)) 0],[ra x_ld 162,ro .b 0],[],u1 (x_qw K),false⟩,cn (o213 K)<|cg 267 (o206 K)<|cn (o214 K)<|cn (o140 K) tt,hn [5,277,309,309,309,309,309,309,309,12],K,Tryz.f202,[.cell 2 128, .tmp 3]⟩
theorem o202 (K:Nat):FOk PP 202 (B202 K).F:=bok mixed Tryz.func202
noncomputable def B139 (K:Nat):Bd PP:=⟨⟨[vo (.sl (.i .u8)) 0,vo (.i .i64) 0],[ra x_ld 162,ro (.i .i64) 0,ro .b 0],[],u2 (x_rh K),false⟩,cn (o201 K)<|cn (o202 K)<|cn (o203 K) tt,hn [19,915,1073742227,112,1427,7187,288230376151714832,112,112],K,Tryz.f139,[.cell 4 128, .tmp 5, .tmp 6]⟩
theorem o139 (K:Nat):FOk PP 139 (B139 K).F:=bok mixed Tryz.func139
noncomputable def B74 (K:Nat):Bd PP:=⟨⟨[vo (.sl (.i .u8)) 0],[ro (.sl x_ld) 2,ro (.i .i64) 0],[],u1 (x_fi K),false⟩,cn (o139 K) tt,hn [1,17,49,497,131313,12,145,49],K,Tryz.f74,[.tmp 2, .tmp 3]⟩
noncomputable def x_fi.g0 (K:Nat) (a0:y0) (n:Nat) (q0:y10) (q1:Int):Option y87:=
 lq (B74 K) (dirs 4 281) n ⟨[vl (.i .u8) 0 a0]++dd 3++[vl x_ld 2 q0,vi q1]++dd 19,dn 26⟩
theorem x_fi.ok0 (K:Nat) (a0:y0):x_fi.g0 K a0=x_fi.l0 K a0:=
 funext (lpe2 (fun _ _=>by kernel_rfl) fun _ _ _=>by kernel_rfl)
theorem o74 (K:Nat):FOk PP 74 (B74 K).F:=bok mixed Tryz.func74 fun v=>by
 have e:(B74 K).run v=x_fi.b K v.1 (x_fi.g0 K v.1 K):=by kernel_rfl
 rw [x_fi.ok0] at e
 exact e.trans (by kernel_rfl)
end Go.Proofs.YtjfnlbdnfglmfaaGreat.Cu
