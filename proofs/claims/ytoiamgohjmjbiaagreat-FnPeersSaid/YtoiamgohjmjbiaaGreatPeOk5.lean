/- The functions compute what is told of them. -/
import Derived.Test.YtoiamgohjmjbiaaGreatPeOk4
set_option linter.all false
set_option maxRecDepth 100000
namespace Go.Proofs.YtoiamgohjmjbiaaGreat.Pe
open Go Go.Kn
noncomputable def B138 (K:Nat):Bd PP:=⟨⟨[va x_c0 88452],[ra x_c0 176904],[],u1 (x_ch K),false⟩,cn (o95 K)<|cn (o55 K) tt,hn [6,14,30,8589934622,30,30,4],K,Tryz.f138,[.cell 2 94]⟩
noncomputable def x_ch.g0 (K:Nat) (a0:x_a0) (n:Nat) (q0:Int) (q1:y7) (v1:y35):Option y23:=
 lq (B138 K) (dirs 5 1381) n ⟨[.dead,vt 1 1 0,vt 2 1 0,vt 3 1 0,vi q0]++dd 43,[none,bv x_c0 88452 a0,bv x_c0 176904 ((0,0,0,0),0,[],[],[],[],[],[]),bv x_c0 176904 (a0.1,a0.2.1,q1,v1.1,[]++a0.2.2.2.2.1,[]++a0.2.2.2.2.2.1,[]++a0.2.2.2.2.2.2.1,[]++a0.2.2.2.2.2.2.2)]++dn 45⟩
theorem x_ch.ok0 (K:Nat) (a0:x_a0):x_ch.g0 K a0=x_ch.l0 K a0:=
 funext (lpe3 (fun _ _ _=>by kernel_rfl) fun _ _ _ _=>by kernel_rfl)
theorem o138 (K:Nat):FOk PP 138 (B138 K).F:=bok mixed Tryz.func138 fun v=>by
 have e:(B138 K).run v=x_ch.b K v.1 (x_ch.g0 K v.1 K):=by kernel_rfl
 rw [x_ch.ok0] at e
 exact e.trans (by kernel_rfl)
noncomputable def B133 (K:Nat):Bd PP:=⟨⟨[va x_js 81],[ro .b 0],[],u1 (x_ir K),false⟩,cn o25<|cn (o78 K) tt,hn [2,16777218,4,67108866,201326594,4,281475043819522,4,288230376151711746,4,4],K,Tryz.f133,[.tmp 2]⟩
theorem o133 (K:Nat):FOk PP 133 (B133 K).F:=bok mixed Tryz.func133
noncomputable def B155 (K:Nat):Bd PP:=⟨⟨[vo (.i .i64) 0],[ro (.sl (.i .u8)) 2],[],u1 (x_ba K),false⟩,cn o25 tt,hn [1,9,137,4,1033,9,9,4],K,Tryz.f155,[.tmp 2]⟩
noncomputable def x_ba.g0 (K:Nat) (a0:Int) (n:Nat) (q0:Int) (q1:y0):Option y29:=
 lq (B155 K) (dirs 5 1281) n ⟨[vi q0, .dead, .dead,vl (.i .u8) 2 q1]++dd 21,dn 26⟩
theorem x_ba.ok0 (K:Nat) (a0:Int):x_ba.g0 K a0=x_ba.l0 K a0:=
 funext (lpe2 (fun _ _=>by kernel_rfl) fun _ _ _=>by kernel_rfl)
theorem o155 (K:Nat):FOk PP 155 (B155 K).F:=bok mixed Tryz.func155 fun v=>by
 have e:(B155 K).run v=x_ba.b K v.1 (x_ba.g0 K v.1 K):=by kernel_rfl
 rw [x_ba.ok0] at e
 exact e.trans (by kernel_rfl)
noncomputable def B156 (K:Nat):Bd PP:=⟨⟨[vo (.sl (.i .i64)) 1],[ro (.sl (.i .u8)) 2],[],u1 (x_bq K),false⟩,cn (o155 K) tt,hn [1,9,25,537,25,25,4],K,Tryz.f156,[.tmp 2]⟩
noncomputable def x_bq.g0 (K:Nat) (a0:y0) (n:Nat) (q0:y0) (q1:Int):Option y29:=
 lq (B156 K) (dirs 5 1381) n ⟨[vl (.i .i64) 1 a0, .dead, .dead,vl (.i .u8) 2 q0,vi q1]++dd 15,dn 21⟩
theorem x_bq.ok0 (K:Nat) (a0:y0):x_bq.g0 K a0=x_bq.l0 K a0:=
 funext (lpe2 (fun _ _=>by kernel_rfl) fun _ _ _=>by kernel_rfl)
theorem o156 (K:Nat):FOk PP 156 (B156 K).F:=bok mixed Tryz.func156 fun v=>by
 have e:(B156 K).run v=x_bq.b K v.1 (x_bq.g0 K v.1 K):=by kernel_rfl
 rw [x_bq.ok0] at e
 exact e.trans (by kernel_rfl)
noncomputable def B157 (K:Nat):Bd PP:=⟨⟨[vo .s 0],[ro (.sl (.i .u8)) 2],[],u1 (x_d9 K),false⟩,cn (o155 K) tt,hn [1,4],K,Tryz.f157,[.tmp 2]⟩
theorem o157 (K:Nat):FOk PP 157 (B157 K).F:=bok mixed Tryz.func157
noncomputable def B224 (K:Nat):Bd PP:=⟨⟨[va eCmd 0],[ro (.sl (.i .u8)) 2],[],u1 (x_jc K),false⟩,cn (o110 K)<|cn (o156 K)<|cn (o157 K) tt,hn [2,66,4,10,10,4],K,Tryz.f224,[.tmp 2]⟩
theorem o224 (K:Nat):FOk PP 224 (B224 K).F:=bok mixed Tryz.func224
noncomputable def B189 (K:Nat):Bd PP:=⟨⟨[va x_js 81],[ro (.sl (.i .u8)) 2],[],u1 (x_da K),false⟩,cn (o155 K)<|cn (o224 K)<|cn (o157 K) tt,hn [2,10,10,10,10,26,17179869210,26,58,58,26,4],K,Tryz.f189,[.tmp 2]⟩
noncomputable def x_da.g0 (K:Nat) (a0:x_cw) (n:Nat) (q0:y0) (q1:Int):Option y29:=
 lq (B189 K) (dirs 8 172656) n ⟨[.dead,vt 1 1 0, .dead,vl (.i .u8) 2 q0,vi q1]++dd 52,[none,bv x_js 81 a0]++dn 56⟩
theorem x_da.ok0 (K:Nat) (a0:x_cw):x_da.g0 K a0=x_da.l0 K a0:=
 funext (lpe2 (fun _ _=>by kernel_rfl) fun _ _ _=>by kernel_rfl)
theorem o189 (K:Nat):FOk PP 189 (B189 K).F:=bok mixed Tryz.func189 fun v=>by
 have e:(B189 K).run v=x_da.b K v.1 (x_da.g0 K v.1 K):=by kernel_rfl
 rw [x_da.ok0] at e
 exact e.trans (by kernel_rfl)
noncomputable def B206 (K:Nat):Bd PP:=⟨⟨[vo (.sl (.i .u8)) 1],[ro (.i .i64) 0],[],u1 (x_dn K),false⟩,tt,hn [1,25,57,569,57,57,57,4],K,Tryz.f206,[.tmp 2]⟩
noncomputable def x_dn.g0 (K:Nat) (a0:y0) (n:Nat) (q0:Int) (q1:Int) (q2:Int):Option y6:=
 lq (B206 K) (dirs 5 1381) n ⟨[vl (.i .u8) 1 a0, .dead, .dead,vi q0,vi q1,vi q2]++dd 22,dn 29⟩
theorem x_dn.ok0 (K:Nat) (a0:y0):x_dn.g0 K a0=x_dn.l0 K a0:=
 funext (lpe3 (fun _ _ _=>by kernel_rfl) fun _ _ _ _=>by kernel_rfl)
theorem o206 (K:Nat):FOk PP 206 (B206 K).F:=bok mixed Tryz.func206 fun v=>by
 have e:(B206 K).run v=x_dn.b K v.1 (x_dn.g0 K v.1 K):=by kernel_rfl
 rw [x_dn.ok0] at e
 exact e.trans (by kernel_rfl)
noncomputable def B174 (K:Nat):Bd PP:=⟨⟨[vo (.sl (.i .u8)) 1],[ro (.sl (.i .u8)) 2],[],u1 (x_ne K),false⟩,cn (o206 K) tt,hn [1,8,4],K,Tryz.f174,[.tmp 2]⟩
theorem o174 (K:Nat):FOk PP 174 (B174 K).F:=bok mixed Tryz.func174
noncomputable def B152 (K:Nat):Bd PP:=⟨⟨[va x_js 81],[ro (.sl (.i .u8)) 2],[],u1 (x_eo K),false⟩,cn (o133 K)<|cn (o189 K)<|cn (o155 K)<|cn (o174 K) tt,hn [2,130,4,8,24,4],K,Tryz.f152,[.tmp 2]⟩
theorem o152 (K:Nat):FOk PP 152 (B152 K).F:=bok mixed Tryz.func152
noncomputable def B275:Bd PP:=⟨⟨[va x_vb 1,vo (.sl (.i .u8)) 1],[ra x_vb 2,ro .b 0],[],u2 x_pl,false⟩,cn o94<|cn o44 tt,hn [22,86,1048658,48,80,48],0,Tryz.f275,[.cell 4 42, .tmp 5]⟩
theorem o275:FOk PP 275 B275.F:=bok mixed Tryz.func275
noncomputable def B211:Bd PP:=⟨⟨[va eLog 9,vo (.i .i64) 0],[ro (.i .i64) 0],[],u2 x_vp,false⟩,tt,hn [6,262150,16,36,268435488,16,16],0,Tryz.f211,[.tmp 4]⟩
theorem o211:FOk PP 211 B211.F:=bok mixed Tryz.func211
noncomputable def B178:Bd PP:=⟨⟨[va eLog 9,vo (.i .i64) 0],[ro (.i .i64) 0],[],u2 x_fw,false⟩,cn o211 tt,hn [6,518,16,36,65572,16,16],0,Tryz.f178,[.tmp 4]⟩
theorem o178:FOk PP 178 B178.F:=bok mixed Tryz.func178
noncomputable def B176 (K:Nat):Bd PP:=⟨⟨[va eLog 9,vo (.i .i64) 0,vo (.i .i64) 0,vo (.sl x_cv) 1],[ra eLog 18,ro .b 0],[],u4 (x_c2 K),false⟩,cn (o77 K)<|cn o139<|cn o178 tt,hn [286,33054,768,1310,134219034,768,3354,4294970650,3354,7450,35184372096282,144115188075863322,3354,3354,75557863725914323420432,768,768],K,Tryz.f176,[.cell 8 30, .tmp 9]⟩
noncomputable def x_c2.g0 (K:Nat) (a0:TLog) (a1:Int) (a2:Int) (a3:y13) (n:Nat) (q0:Int) (v2:y15) (q1:y13):Option y36:=
 lq (B176 K) (dirs 7 34531) n ⟨[.dead,vi a1, .dead,vl x_cv 1 a3,vt 4 1 0]++dd 3++[vt 8 1 0, .dead,vt 10 1 0,vi q0]++dd 68,dn 4++[bv eLog 9 a0]++dn 3++[bv eLog 18 (0,0,[]),none,bv eLog 18 (v2.1.1,v2.1.2.1,q1)]++dn 73⟩
theorem x_c2.ok0 (K:Nat) (a0:TLog) (a1:Int) (a2:Int) (a3:y13):x_c2.g0 K a0 a1 a2 a3=x_c2.l0 K a0 a1 a2 a3:=
 funext (lpe3 (fun _ _ _=>by kernel_rfl) fun _ _ _ _=>by kernel_rfl)
theorem o176 (K:Nat):FOk PP 176 (B176 K).F:=bok mixed Tryz.func176 fun v=>by
 have e:(B176 K).run v=x_c2.b K v.1 v.2.1 v.2.2.1 v.2.2.2.1 (x_c2.g0 K v.1 v.2.1 v.2.2.1 v.2.2.2.1 K):=by kernel_rfl
 rw [x_c2.ok0] at e
 exact e.trans (by kernel_rfl)
noncomputable def B173 (K:Nat):Bd PP:=⟨⟨[vo (.sl (.i .u8)) 1,vo (.i .i64) 0],[ro (.i .i64) 0,ro (.i .i64) 0,ro .b 0],[],u2 (x_bw K),false⟩,tt,hn [3,131,387,2435,387,8388995,112,899,899,549755814787,562949953421698,112,112,112],K,Tryz.f173,[.tmp 4, .tmp 5, .tmp 6]⟩
noncomputable def x_bw.g0 (K:Nat) (a0:y0) (a1:Int) (n:Nat) (q0:Int) (q1:Int):Option y69:=
 lq (B173 K) (dirs 5 1381) n ⟨[vl (.i .u8) 1 a0,vi a1]++dd 5++[vi q0,vi q1]++dd 46,dn 57⟩
theorem x_bw.ok0 (K:Nat) (a0:y0) (a1:Int):x_bw.g0 K a0 a1=x_bw.l0 K a0 a1:=
 funext (lpe2 (fun _ _=>by kernel_rfl) fun _ _ _=>by kernel_rfl)
theorem o173 (K:Nat):FOk PP 173 (B173 K).F:=bok mixed Tryz.func173 fun v=>by
 have e:(B173 K).run v=x_bw.b K v.1 v.2.1 (x_bw.g0 K v.1 v.2.1 K):=by kernel_rfl
 rw [x_bw.ok0] at e
 exact e.trans (by kernel_rfl)
noncomputable def B207 (K:Nat):Bd PP:=⟨⟨[vp x_cr 0],[ro (.i .i64) 0],[],u1 (x_bk K),false⟩,cn (o173 K) tt,hn [1,57,134217753,1,5,9,5],K,Tryz.f207,[.tmp 2]⟩
theorem o207 (K:Nat):FOk PP 207 (B207 K).F:=bok mixed Tryz.func207
noncomputable def B229 (K:Nat):Bd PP:=⟨⟨[vo (.sl (.i .u8)) 1,vo (.i .i64) 0],[ro .s 0,ro (.i .i64) 0,ro .b 0],[],u2 (x_if K),false⟩,cn (o173 K) tt,hn [3,897,67109249,112,112],K,Tryz.f229,[.tmp 4, .tmp 5, .tmp 6]⟩
theorem o229 (K:Nat):FOk PP 229 (B229 K).F:=bok mixed Tryz.func229
noncomputable def B209 (K:Nat):Bd PP:=⟨⟨[vp x_cr 0],[ro .s 0],[],u1 (x_ed K),false⟩,cn (o229 K) tt,hn [1,57,134217753,1,5,9,5],K,Tryz.f209,[.tmp 2]⟩
theorem o209 (K:Nat):FOk PP 209 (B209 K).F:=bok mixed Tryz.func209
end Go.Proofs.YtoiamgohjmjbiaaGreat.Pe
