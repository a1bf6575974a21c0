/- The functions compute what is told of them. -/
import Derived.Test.YtoiamgohjmjbiaaGreatPeOk6
set_option linter.all false
set_option maxRecDepth 100000
namespace Go.Proofs.YtoiamgohjmjbiaaGreat.Pe
open Go Go.Kn
noncomputable def B259 (K:Nat):Bd PP:=⟨⟨[vp x_ee 21160907109180,va x_js 81],[],[],u2 (x_ex K),false⟩,cn (o258 K) tt,hn [9,1033,49,17,1],K,Tryz.f259,[]⟩
theorem o259 (K:Nat):FOk PP 259 (B259 K).F:=bok mixed Tryz.func259
noncomputable def B252 (K:Nat):Bd PP:=⟨⟨[vp x_ee 21160907109180,vo (.i .i64) 0],[],[],u2 (x_fh K),false⟩,cn (o259 K) tt,hn [2051,1,1],K,Tryz.f252,[]⟩
theorem o252 (K:Nat):FOk PP 252 (B252 K).F:=bok mixed Tryz.func252
noncomputable def B268:Bd PP:=⟨⟨[va eLog 9,vo (.i .i64) 0,vo (.i .i64) 0],[ro .b 0],[],u3 x_re,false⟩,cn o41 tt,hn [14,390,64],0,Tryz.f268,[.tmp 6]⟩
theorem o268:FOk PP 268 B268.F:=bok mixed Tryz.func268
noncomputable def B276 (K:Nat):Bd PP:=⟨⟨[va x_gj 984972995316,va eRpc 2187],[ra x_gj 1969945990632,ro .b 0],[],u2 (s_Tell K),false⟩,cn (o55 K)<|cn o143 tt,hn [28,92,4184,48,80,48],K,Tryz.f276,[.cell 4 45, .tmp 5]⟩
theorem o276 (K:Nat):FOk PP 276 (B276 K).F:=bok mixed Tryz.func276
noncomputable def B260 (K:Nat):Bd PP:=⟨⟨[vp x_ee 21160907109180,va eRpc 2187],[],[],u2 (x_ea K),false⟩,cn (o276 K)<|cn (o42 K) tt,hn [9,1033,9,9,57,17,1],K,Tryz.f260,[]⟩
theorem o260 (K:Nat):FOk PP 260 (B260 K).F:=bok mixed Tryz.func260
noncomputable def B253 (K:Nat):Bd PP:=⟨⟨[vp x_ee 21160907109180,va eRpc 2187],[],[],u2 (x_ez K),false⟩,cn o268<|cn (o259 K)<|cn (o260 K) tt,hn [9,25,57,4398046511161,41,1],K,Tryz.f253,[]⟩
theorem o253 (K:Nat):FOk PP 253 (B253 K).F:=bok mixed Tryz.func253
noncomputable def B269:Bd PP:=⟨⟨[vo .b 0],[ro (.i .i64) 0],[],u1 x_p9,false⟩,tt,hn [1,9,4,4],0,Tryz.f269,[.tmp 2]⟩
theorem o269:FOk PP 269 B269.F:=bok mixed Tryz.func269
noncomputable def B16:Bd PP:=⟨⟨[vo (.i .i64) 0],[ro (.i .i64) 0],[],u1 x_nn,false⟩,tt,hn [1,4],0,Tryz.f16,[.tmp 2]⟩
theorem o16:FOk PP 16 B16.F:=bok mixed Tryz.func16
noncomputable def B261 (K:Nat):Bd PP:=⟨⟨[vp x_ee 21151609017444],[],[],u1 (x_jd K),false⟩,cn (o55 K)<|cn o41<|cn (o27 K)<|cn (o259 K) tt,hn [5,29,29,29,29,5,302231454903657293676549,1,1,1],K,Tryz.f261,[]⟩
theorem o261 (K:Nat):FOk PP 261 (B261 K).F:=bok mixed Tryz.func261
noncomputable def B254 (K:Nat):Bd PP:=⟨⟨[vp x_ee 21151609017444,va eRpc 2187],[],[],u2 (x_bu K),false⟩,cn o269<|cn o16<|cn (o261 K) tt,hn [9,134217737,1,17,49,2199023255601,49,49,2305843009213693953,1],K,Tryz.f254,[]⟩
noncomputable def x_bu.g0 (K:Nat) (a0:y1) (a1:TRpc) (n:Nat) (q0:Int) (q1:Int):Option y25:=
 lq (B254 K) (dirs 7 34531) n ⟨[vt 0 0 0]++dd 3++[vi q0,vi q1]++dd 58,[some (0,[.val .f (.i .i64) a0.1.1, .val .f (.i .i64) a0.1.2.1, .val .f (.i .i64) a0.1.2.2.1, .val .f (.i .i64) a0.1.2.2.2, .val .f (.i .i64) a0.2.1, .val .f (.i .i64) a0.2.2.1.1, .val .f (.i .i64) a0.2.2.1.2.1.1, .val .f (.i .i64) a0.2.2.1.2.1.2.1, .val .f (.i .i64) a0.2.2.1.2.1.2.2.1.1, .val .f (.i .i64) a0.2.2.1.2.1.2.2.1.2.1, .val .f (.sl x_cv) a0.2.2.1.2.1.2.2.1.2.2, .val .f (.sl eRow) a0.2.2.1.2.1.2.2.2.1, .val .f (.sl x_bf) a0.2.2.1.2.1.2.2.2.2.1, .val .f (.sl x_a2) a0.2.2.1.2.1.2.2.2.2.2.1, .val .f (.i .i64) a0.2.2.1.2.1.2.2.2.2.2.2.1, .val .f (.sl (.i .i64)) a0.2.2.1.2.1.2.2.2.2.2.2.2.1, .val .f (.sl x_bl) a0.2.2.1.2.1.2.2.2.2.2.2.2.2, .val .f (.i .i64) a0.2.2.1.2.2.1, .val (.x 0) (.sl .b) (a0.2.2.1.2.2.2.1.set a1.2.1.toNat true), .val .f (.sl (.i .i64)) a0.2.2.1.2.2.2.2.1, .val .f (.sl (.i .i64)) a0.2.2.1.2.2.2.2.2.1, .val .f (.i .i64) a0.2.2.1.2.2.2.2.2.2.1, .val (.x 0) (.sl eRow) a0.2.2.1.2.2.2.2.2.2.2.1.1, .val (.x 0) (.sl x_bf) a0.2.2.1.2.2.2.2.2.2.2.1.2.1, .val (.x 0) (.sl x_a2) a0.2.2.1.2.2.2.2.2.2.2.1.2.2.1, .val .f (.i .i64) a0.2.2.1.2.2.2.2.2.2.2.1.2.2.2.1, .val (.x 0) (.sl (.i .i64)) a0.2.2.1.2.2.2.2.2.2.2.1.2.2.2.2.1, .val (.x 0) (.sl x_bl) a0.2.2.1.2.2.2.2.2.2.2.1.2.2.2.2.2, .val .f (.sl (.i .u8)) a0.2.2.1.2.2.2.2.2.2.2.2.1.1, .val .f (.i .i64) a0.2.2.1.2.2.2.2.2.2.2.2.1.2, .val .f (.sl eRpc) a0.2.2.1.2.2.2.2.2.2.2.2.2, .val .f .b a0.2.2.2])]++dn 65⟩
theorem x_bu.ok0 (K:Nat) (a0:y1) (a1:TRpc):x_bu.g0 K a0 a1=x_bu.l0 K a0 a1:=
 funext (lpe2 (fun _ _=>by kernel_rfl) fun _ _ _=>by kernel_rfl)
theorem o254 (K:Nat):FOk PP 254 (B254 K).F:=bok mixed Tryz.func254 fun v=>by
 have e:(B254 K).run v=x_bu.b K v.1 v.2.1 (x_bu.g0 K v.1 v.2.1 K):=by kernel_rfl
 rw [x_bu.ok0] at e
 exact e.trans (by kernel_rfl)
noncomputable def B270 (K:Nat):Bd PP:=⟨⟨[vp x_ee 21160907109180,vo (.i .i64) 0,vo .b 0,vo (.i .i64) 0],[],[],u4 (x_d6 K),false⟩,cn (o260 K) tt,hn [1],K,Tryz.f270,[]⟩
theorem o270 (K:Nat):FOk PP 270 (B270 K).F:=bok mixed Tryz.func270
noncomputable def B271 (K:Nat):Bd PP:=⟨⟨[va x_gj 984972995316,va eLog 9],[ro .b 0],[],u2 (x_ci K),false⟩,cn o41<|cn o178 tt,hn [12,44,65548,16,140,33554572,140,68719476876,16,16],K,Tryz.f271,[.tmp 4]⟩
noncomputable def x_ci.g0 (K:Nat) (a0:x_cg) (a1:TLog) (n:Nat) (q0:Int):Option y11:=
 lq (B271 K) (dirs 6 6906) n ⟨[.dead, .dead,vt 2 1 0,vt 3 1 0]++dd 3++[vi q0]++dd 29,[none,none,bv x_gj 984972995316 a0,bv eLog 9 a1]++dn 35⟩
theorem x_ci.ok0 (K:Nat) (a0:x_cg) (a1:TLog):x_ci.g0 K a0 a1=x_ci.l0 K a0 a1:=
 funext (lpe1 (fun _=>by kernel_rfl) fun _ _=>by kernel_rfl)
theorem o271 (K:Nat):FOk PP 271 (B271 K).F:=bok mixed Tryz.func271 fun v=>by
 have e:(B271 K).run v=x_ci.b K v.1 v.2.1 (x_ci.g0 K v.1 v.2.1 K):=by kernel_rfl
 rw [x_ci.ok0] at e
 exact e.trans (by kernel_rfl)
noncomputable def B249:Bd PP:=⟨⟨[vo (.i .i64) 0,vo (.i .i64) 0],[ro (.i .i64) 0],[],u2 x_gr,false⟩,tt,hn [3,131,19,19],0,Tryz.f249,[.tmp 4]⟩
theorem o249:FOk PP 249 B249.F:=bok mixed Tryz.func249
noncomputable def B87 (K:Nat):Bd PP:=⟨⟨[vo (.sl x_cv) 1,vo (.sl x_cv) 1],[ro .b 0],[],u2 (x_af K),false⟩,tt,hn [3,35,32803,35,67108899,16,16],K,Tryz.f87,[.tmp 4]⟩
noncomputable def x_af.g0 (K:Nat) (a0:y13) (a1:y13) (n:Nat) (q0:Int):Option y11:=
 lq (B87 K) (dirs 4 276) n ⟨[vl x_cv 1 a0,vl x_cv 1 a1]++dd 3++[vi q0]++dd 26,dn 34⟩
theorem x_af.ok0 (K:Nat) (a0:y13) (a1:y13):x_af.g0 K a0 a1=x_af.l0 K a0 a1:=
 funext (lpe1 (fun _=>by kernel_rfl) fun _ _=>by kernel_rfl)
theorem o87 (K:Nat):FOk PP 87 (B87 K).F:=bok mixed Tryz.func87 fun v=>by
 have e:(B87 K).run v=x_af.b K v.1 v.2.1 (x_af.g0 K v.1 v.2.1 K):=by kernel_rfl
 rw [x_af.ok0] at e
 exact e.trans (by kernel_rfl)
noncomputable def B272 (K:Nat):Bd PP:=⟨⟨[vp x_ee 21160907109180,vo (.i .i64) 0],[],[],u2 (x_bi K),false⟩,cn o249 tt,hn [19,1043,19,19,19],K,Tryz.f272,[]⟩
noncomputable def x_bi.g0 (K:Nat) (a0:y1) (a1:Int) (n:Nat) (q0:Int) (q1:y0) (q2:y0):Option y25:=
 lq (B272 K) (dirs 2 11) n ⟨[vt 0 0 0,vi a1, .dead, .dead,vi q0]++dd 43,[some (0,[.val .f (.i .i64) a0.1.1, .val .f (.i .i64) a0.1.2.1, .val .f (.i .i64) a0.1.2.2.1, .val .f (.i .i64) a0.1.2.2.2, .val .f (.i .i64) a0.2.1, .val .f (.i .i64) a0.2.2.1.1, .val .f (.i .i64) a0.2.2.1.2.1.1, .val .f (.i .i64) a0.2.2.1.2.1.2.1, .val .f (.i .i64) a0.2.2.1.2.1.2.2.1.1, .val .f (.i .i64) a0.2.2.1.2.1.2.2.1.2.1, .val .f (.sl x_cv) a0.2.2.1.2.1.2.2.1.2.2, .val .f (.sl eRow) a0.2.2.1.2.1.2.2.2.1, .val .f (.sl x_bf) a0.2.2.1.2.1.2.2.2.2.1, .val .f (.sl x_a2) a0.2.2.1.2.1.2.2.2.2.2.1, .val .f (.i .i64) a0.2.2.1.2.1.2.2.2.2.2.2.1, .val .f (.sl (.i .i64)) a0.2.2.1.2.1.2.2.2.2.2.2.2.1, .val .f (.sl x_bl) a0.2.2.1.2.1.2.2.2.2.2.2.2.2, .val .f (.i .i64) a0.2.2.1.2.2.1, .val (.x 0) (.sl .b) a0.2.2.1.2.2.2.1, .val (.x 0) (.sl (.i .i64)) q1, .val (.x 0) (.sl (.i .i64)) q2, .val .f (.i .i64) a0.2.2.1.2.2.2.2.2.2.1, .val (.x 0) (.sl eRow) a0.2.2.1.2.2.2.2.2.2.2.1.1, .val (.x 0) (.sl x_bf) a0.2.2.1.2.2.2.2.2.2.2.1.2.1, .val (.x 0) (.sl x_a2) a0.2.2.1.2.2.2.2.2.2.2.1.2.2.1, .val .f (.i .i64) a0.2.2.1.2.2.2.2.2.2.2.1.2.2.2.1, .val (.x 0) (.sl (.i .i64)) a0.2.2.1.2.2.2.2.2.2.2.1.2.2.2.2.1, .val (.x 0) (.sl x_bl) a0.2.2.1.2.2.2.2.2.2.2.1.2.2.2.2.2, .val .f (.sl (.i .u8)) a0.2.2.1.2.2.2.2.2.2.2.2.1.1, .val .f (.i .i64) a0.2.2.1.2.2.2.2.2.2.2.2.1.2, .val .f (.sl eRpc) a0.2.2.1.2.2.2.2.2.2.2.2.2, .val .f .b a0.2.2.2])]++dn 49⟩
theorem x_bi.ok0 (K:Nat) (a0:y1) (a1:Int):x_bi.g0 K a0 a1=x_bi.l0 K a0 a1:=
 funext (lpe3 (fun _ _ _=>by kernel_rfl) fun _ _ _ _=>by kernel_rfl)
theorem o272 (K:Nat):FOk PP 272 (B272 K).F:=bok mixed Tryz.func272 fun v=>by
 have e:(B272 K).run v=x_bi.b K v.1 v.2.1 (x_bi.g0 K v.1 v.2.1 K):=by kernel_rfl
 rw [x_bi.ok0] at e
 exact e.trans (by kernel_rfl)
noncomputable def B246:Bd PP:=⟨⟨[va x_a2 39,vo (.i .i64) 0],[ra x_a2 78],[],u2 x_dy,false⟩,cn o142 tt,hn [22,54,54,33554486,48,16],0,Tryz.f246,[.cell 4 88]⟩
theorem o246:FOk PP 246 B246.F:=bok mixed Tryz.func246
noncomputable def B247:Bd PP:=⟨⟨[vo (.i .i64) 0],[ro (.i .i64) 0],[],u1 x_vf,false⟩,tt,hn [1,17,5,5],0,Tryz.f247,[.tmp 2]⟩
theorem o247:FOk PP 247 B247.F:=bok mixed Tryz.func247
end Go.Proofs.YtoiamgohjmjbiaaGreat.Pe
