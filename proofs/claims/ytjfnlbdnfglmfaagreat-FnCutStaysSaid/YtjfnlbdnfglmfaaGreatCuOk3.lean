/- The functions compute what is told of them. -/
import Derived.Test.YtjfnlbdnfglmfaaGreatCuOk2
set_option linter.all false
set_option maxRecDepth 100000
namespace Go.Proofs.YtjfnlbdnfglmfaaGreat.Cu
open Go Go.Kn
noncomputable def B151 (K:Nat):Bd PP:=⟨⟨[vo (.sl (.i .i64)) 1],[ro (.sl (.i .u8)) 2],[],u1 (x_cc K),false⟩,cn (o150 K) tt,hn [1,9,25,537,25,25,4],K,Tryz.f151,[.tmp 2]⟩
noncomputable def x_cc.g0 (K:Nat) (a0:y0) (n:Nat) (q0:y0) (q1:Int):Option y31:=
 lq (B151 K) (dirs 5 1381) n ⟨[vl (.i .i64) 1 a0, .dead, .dead,vl (.i .u8) 2 q0,vi q1]++dd 15,dn 21⟩
theorem x_cc.ok0 (K:Nat) (a0:y0):x_cc.g0 K a0=x_cc.l0 K a0:=
 funext (lpe2 (fun _ _=>by kernel_rfl) fun _ _ _=>by kernel_rfl)
theorem o151 (K:Nat):FOk PP 151 (B151 K).F:=bok mixed Tryz.func151 fun v=>by
 have e:(B151 K).run v=x_cc.b K v.1 (x_cc.g0 K v.1 K):=by kernel_rfl
 rw [x_cc.ok0] at e
 exact e.trans (by kernel_rfl)
noncomputable def B152 (K:Nat):Bd PP:=⟨⟨[vo .s 0],[ro (.sl (.i .u8)) 2],[],u1 (x_e4 K),false⟩,cn (o150 K) tt,hn [1,4],K,Tryz.f152,[.tmp 2]⟩
theorem o152 (K:Nat):FOk PP 152 (B152 K).F:=bok mixed Tryz.func152
noncomputable def B322 (K:Nat):Bd PP:=⟨⟨[va eCmd 0],[ro (.sl (.i .u8)) 2],[],u1 (x_kr K),false⟩,cn (o62 K)<|cn (o151 K)<|cn (o152 K) tt,hn [2,66,4,10,10,4],K,Tryz.f322,[.tmp 2]⟩
theorem o322 (K:Nat):FOk PP 322 (B322 K).F:=bok mixed Tryz.func322
noncomputable def B286 (K:Nat):Bd PP:=⟨⟨[va x_ld 81],[ro (.sl (.i .u8)) 2],[],u1 (x_d8 K),false⟩,cn (o150 K)<|cn (o322 K)<|cn (o152 K) tt,hn [2,10,10,10,10,26,17179869210,26,58,58,26,4],K,Tryz.f286,[.tmp 2]⟩
noncomputable def x_d8.g0 (K:Nat) (a0:x_df) (n:Nat) (q0:y0) (q1:Int):Option y31:=
 lq (B286 K) (dirs 8 172656) n ⟨[.dead,vt 1 1 0, .dead,vl (.i .u8) 2 q0,vi q1]++dd 52,[none,bv x_ld 81 a0]++dn 56⟩
theorem x_d8.ok0 (K:Nat) (a0:x_df):x_d8.g0 K a0=x_d8.l0 K a0:=
 funext (lpe2 (fun _ _=>by kernel_rfl) fun _ _ _=>by kernel_rfl)
theorem o286 (K:Nat):FOk PP 286 (B286 K).F:=bok mixed Tryz.func286 fun v=>by
 have e:(B286 K).run v=x_d8.b K v.1 (x_d8.g0 K v.1 K):=by kernel_rfl
 rw [x_d8.ok0] at e
 exact e.trans (by kernel_rfl)
noncomputable def B323 (K:Nat):Bd PP:=⟨⟨[vo (.sl (.i .u8)) 1],[ro (.i .i64) 0],[],u1 (x_ee K),false⟩,tt,hn [1,25,57,569,57,57,57,4],K,Tryz.f323,[.tmp 2]⟩
noncomputable def x_ee.g0 (K:Nat) (a0:y0) (n:Nat) (q0:Int) (q1:Int) (q2:Int):Option y7:=
 lq (B323 K) (dirs 5 1381) n ⟨[vl (.i .u8) 1 a0, .dead, .dead,vi q0,vi q1,vi q2]++dd 22,dn 29⟩
theorem x_ee.ok0 (K:Nat) (a0:y0):x_ee.g0 K a0=x_ee.l0 K a0:=
 funext (lpe3 (fun _ _ _=>by kernel_rfl) fun _ _ _ _=>by kernel_rfl)
theorem o323 (K:Nat):FOk PP 323 (B323 K).F:=bok mixed Tryz.func323 fun v=>by
 have e:(B323 K).run v=x_ee.b K v.1 (x_ee.g0 K v.1 K):=by kernel_rfl
 rw [x_ee.ok0] at e
 exact e.trans (by kernel_rfl)
noncomputable def B287 (K:Nat):Bd PP:=⟨⟨[vo (.sl (.i .u8)) 1],[ro (.sl (.i .u8)) 2],[],u1 (x_os K),false⟩,cn (o323 K) tt,hn [1,8,4],K,Tryz.f287,[.tmp 2]⟩
theorem o287 (K:Nat):FOk PP 287 (B287 K).F:=bok mixed Tryz.func287
noncomputable def B226 (K:Nat):Bd PP:=⟨⟨[va x_ld 81],[ro (.sl (.i .u8)) 2],[],u1 (x_eh K),false⟩,cn (o280 K)<|cn (o286 K)<|cn (o150 K)<|cn (o287 K) tt,hn [2,130,4,8,24,4],K,Tryz.f226,[.tmp 2]⟩
theorem o226 (K:Nat):FOk PP 226 (B226 K).F:=bok mixed Tryz.func226
noncomputable def B306:Bd PP:=⟨⟨[va x_ty 1,vo (.sl (.i .u8)) 1],[ra x_ty 2,ro .b 0],[],u2 x_rt,false⟩,cn o125<|cn o115 tt,hn [22,86,1048658,48,80,48],0,Tryz.f306,[.cell 4 56, .tmp 5]⟩
theorem o306:FOk PP 306 B306.F:=bok mixed Tryz.func306
noncomputable def B308:Bd PP:=⟨⟨[va eLog 9,vo (.i .i64) 0],[ro (.i .i64) 0],[],u2 x_wz,false⟩,tt,hn [6,262150,16,36,268435488,16,16],0,Tryz.f308,[.tmp 4]⟩
theorem o308:FOk PP 308 B308.F:=bok mixed Tryz.func308
noncomputable def B259:Bd PP:=⟨⟨[va eLog 9,vo (.i .i64) 0],[ro (.i .i64) 0],[],u2 x_gq,false⟩,cn o308 tt,hn [6,518,16,36,65572,16,16],0,Tryz.f259,[.tmp 4]⟩
theorem o259:FOk PP 259 B259.F:=bok mixed Tryz.func259
noncomputable def B299 (K:Nat):Bd PP:=⟨⟨[va eLog 9,vo (.i .i64) 0,vo (.i .i64) 0,vo (.sl x_dp) 1],[ra eLog 18,ro .b 0],[],u4 (x_dy K),false⟩,cn (o182 K)<|cn o196<|cn o259 tt,hn [286,33054,768,1310,134219034,768,3354,4294970650,3354,7450,35184372096282,144115188075863322,3354,3354,75557863725914323420432,768,768],K,Tryz.f299,[.cell 8 45, .tmp 9]⟩
noncomputable def x_dy.g0 (K:Nat) (a0:TLog) (a1:Int) (a2:Int) (a3:y14) (n:Nat) (q0:Int) (v2:y15) (q1:y14):Option y39:=
 lq (B299 K) (dirs 7 34531) n ⟨[.dead,vi a1, .dead,vl x_dp 1 a3,vt 4 1 0]++dd 3++[vt 8 1 0, .dead,vt 10 1 0,vi q0]++dd 68,dn 4++[bv eLog 9 a0]++dn 3++[bv eLog 18 (0,0,[]),none,bv eLog 18 (v2.1.1,v2.1.2.1,q1)]++dn 73⟩
theorem x_dy.ok0 (K:Nat) (a0:TLog) (a1:Int) (a2:Int) (a3:y14):x_dy.g0 K a0 a1 a2 a3=x_dy.l0 K a0 a1 a2 a3:=
 funext (lpe3 (fun _ _ _=>by kernel_rfl) fun _ _ _ _=>by kernel_rfl)
theorem o299 (K:Nat):FOk PP 299 (B299 K).F:=bok mixed Tryz.func299 fun v=>by
 have e:(B299 K).run v=x_dy.b K v.1 v.2.1 v.2.2.1 v.2.2.2.1 (x_dy.g0 K v.1 v.2.1 v.2.2.1 v.2.2.2.1 K):=by kernel_rfl
 rw [x_dy.ok0] at e
 exact e.trans (by kernel_rfl)
noncomputable def B327 (K:Nat):Bd PP:=⟨⟨[vo (.sl (.i .u8)) 1,vo (.i .i64) 0],[ro (.i .i64) 0,ro (.i .i64) 0,ro .b 0],[],u2 (x_cn K),false⟩,tt,hn [3,131,387,2435,387,8388995,112,899,899,549755814787,562949953421698,112,112,112],K,Tryz.f327,[.tmp 4, .tmp 5, .tmp 6]⟩
noncomputable def x_cn.g0 (K:Nat) (a0:y0) (a1:Int) (n:Nat) (q0:Int) (q1:Int):Option y72:=
 lq (B327 K) (dirs 5 1381) n ⟨[vl (.i .u8) 1 a0,vi a1]++dd 5++[vi q0,vi q1]++dd 46,dn 57⟩
theorem x_cn.ok0 (K:Nat) (a0:y0) (a1:Int):x_cn.g0 K a0 a1=x_cn.l0 K a0 a1:=
 funext (lpe2 (fun _ _=>by kernel_rfl) fun _ _ _=>by kernel_rfl)
theorem o327 (K:Nat):FOk PP 327 (B327 K).F:=bok mixed Tryz.func327 fun v=>by
 have e:(B327 K).run v=x_cn.b K v.1 v.2.1 (x_cn.g0 K v.1 v.2.1 K):=by kernel_rfl
 rw [x_cn.ok0] at e
 exact e.trans (by kernel_rfl)
noncomputable def B341 (K:Nat):Bd PP:=⟨⟨[vp x_dn 0],[ro (.i .i64) 0],[],u1 (x_b6 K),false⟩,cn (o327 K) tt,hn [1,57,134217753,1,5,9,5],K,Tryz.f341,[.tmp 2]⟩
theorem o341 (K:Nat):FOk PP 341 (B341 K).F:=bok mixed Tryz.func341
noncomputable def B360 (K:Nat):Bd PP:=⟨⟨[vo (.sl (.i .u8)) 1,vo (.i .i64) 0],[ro .s 0,ro (.i .i64) 0,ro .b 0],[],u2 (x_jh K),false⟩,cn (o327 K) tt,hn [3,897,67109249,112,112],K,Tryz.f360,[.tmp 4, .tmp 5, .tmp 6]⟩
theorem o360 (K:Nat):FOk PP 360 (B360 K).F:=bok mixed Tryz.func360
noncomputable def B345 (K:Nat):Bd PP:=⟨⟨[vp x_dn 0],[ro .s 0],[],u1 (x_fr K),false⟩,cn (o360 K) tt,hn [1,57,134217753,1,5,9,5],K,Tryz.f345,[.tmp 2]⟩
theorem o345 (K:Nat):FOk PP 345 (B345 K).F:=bok mixed Tryz.func345
noncomputable def B342 (K:Nat):Bd PP:=⟨⟨[vp x_dn 0],[ra eRow 18],[],u1 (x_d0 K),false⟩,cn (o341 K)<|cn (o345 K) tt,hn [5,13,13,13,29,61,16777277,61,125,125,125,125,125,125,61,5],K,Tryz.f342,[.cell 2 114]⟩
noncomputable def x_d0.g0 (K:Nat) (a0:x_h) (n:Nat) (v3:y50) (q0:Int) (q1:y50) (v1:y50) (v2:y50) (q2:y8):Option y54:=
 lq (B342 K) (dirs 8 172656) n ⟨[vt 0 0 0, .dead,vt 2 1 0,vt 3 1 0,vi v3.1,vi q0]++dd 44,[some (0,[.val .f (.sl (.i .u8)) q1.2.1.1, .val .f (.i .i64) q1.2.1.2.1, .val .f .b q1.2.1.2.2]),none,bv eRow 18 (0,0,[]),bv eRow 18 (v1.1,v2.1,q2)]++dn 47⟩
theorem x_d0.ok0 (K:Nat) (a0:x_h):x_d0.g0 K a0=x_d0.l0 K a0:=
 funext (lpe6 (fun _ _ _ _ _ _=>by kernel_rfl) fun _ _ _ _ _ _ _=>by kernel_rfl)
theorem o342 (K:Nat):FOk PP 342 (B342 K).F:=bok mixed Tryz.func342 fun v=>by
 have e:(B342 K).run v=x_d0.b K v.1 (x_d0.g0 K v.1 K):=by kernel_rfl
 rw [x_d0.ok0] at e
 exact e.trans (by kernel_rfl)
noncomputable def B343 (K:Nat):Bd PP:=⟨⟨[vp x_dn 0],[ra x_bs 162],[],u1 (x_bu K),false⟩,cn (o341 K) tt,hn [5,13,13,13,13,13,29,61,2147483709,61,125,125,125,61,5],K,Tryz.f343,[.cell 2 118]⟩
noncomputable def x_bu.g0 (K:Nat) (a0:x_h) (n:Nat) (v5:y50) (q0:Int) (q1:y50) (v1:y50) (v2:y50) (v3:y50) (v4:y50) (q2:y9):Option y74:=
 lq (B343 K) (dirs 10 4316406) n ⟨[vt 0 0 0, .dead,vt 2 1 0,vt 3 1 0,vi v5.1,vi q0]++dd 42,[some (0,[.val .f (.sl (.i .u8)) q1.2.1.1, .val .f (.i .i64) q1.2.1.2.1, .val .f .b q1.2.1.2.2]),none,bv x_bs 162 (0,0,0,0,[]),bv x_bs 162 (v1.1,v2.1,v3.1,i6 (v4.1-1),q2)]++dn 45⟩
theorem x_bu.ok0 (K:Nat) (a0:x_h):x_bu.g0 K a0=x_bu.l0 K a0:=
 funext (lpe8 (fun _ _ _ _ _ _ _ _=>by kernel_rfl) fun _ _ _ _ _ _ _ _ _=>by kernel_rfl)
theorem o343 (K:Nat):FOk PP 343 (B343 K).F:=bok mixed Tryz.func343 fun v=>by
 have e:(B343 K).run v=x_bu.b K v.1 (x_bu.g0 K v.1 K):=by kernel_rfl
 rw [x_bu.ok0] at e
 exact e.trans (by kernel_rfl)
end Go.Proofs.YtjfnlbdnfglmfaaGreat.Cu
