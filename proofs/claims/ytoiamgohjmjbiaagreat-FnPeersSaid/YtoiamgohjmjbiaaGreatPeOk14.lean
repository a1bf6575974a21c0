/- The functions compute what is told of them. -/
import Derived.Test.YtoiamgohjmjbiaaGreatPeOk13
set_option linter.all false
set_option maxRecDepth 100000
namespace Go.Proofs.YtoiamgohjmjbiaaGreat.Pe
open Go Go.Kn
noncomputable def B151 (K:Nat):Bd PP:=⟨⟨[vp x_dt 0],[ra x_a2 78,ro (.i .i64) 0],[],u1 (x_mi K),false⟩,cn (o188 K)<|cn o19<|cn o31 tt,hn [5,53,4149,12341,53,528437,53,268439605,53,274877911093,53,4398046511157,53,13],K,Tryz.f151,[.cell 2 88, .tmp 3]⟩
theorem o151 (K:Nat):FOk PP 151 (B151 K).F:=bok mixed Tryz.func151
noncomputable def B98 (K:Nat):Bd PP:=⟨⟨[vp x_dt 0],[ra x_a6 0,ra x_c7 674],[],u1 (x_og K),false⟩,cn (o101 K)<|cn o19<|cn o18<|cn (o149 K)<|cn (o150 K)<|cn (o151 K)<|cn o31 tt,hn [13,61,4157,12349,61,135229,61,16781373,61,8589938749,61,8796093026365,61,2251799813689405,61,9223372036854775869,61,13],K,Tryz.f98,[.cell 2 25, .cell 3 37]⟩
theorem o98 (K:Nat):FOk PP 98 (B98 K).F:=bok mixed Tryz.func98
noncomputable def B56 (K:Nat):Bd PP:=⟨⟨[vp x_dt 0],[ra x_a6 0,ra x_il 163944],[],u1 (x_k2 K),false⟩,cn (o96 K)<|cn o19<|cn o31<|cn (o97 K)<|cn (o98 K) tt,hn [13,61,4157,12349,61,528445,61,33558589,61,1073741885,61,13],K,Tryz.f56,[.cell 2 25, .cell 3 39]⟩
theorem o56 (K:Nat):FOk PP 56 (B56 K).F:=bok mixed Tryz.func56
noncomputable def B153 (K:Nat):Bd PP:=⟨⟨[vp x_dt 0],[ra x_js 162],[],u1 (x_f7 K),false⟩,cn o19<|cn (o101 K)<|cn (o102 K)<|cn (o100 K) tt,hn [5,69,197,5,32773,21,5,5],K,Tryz.f153,[.cell 2 136]⟩
theorem o153 (K:Nat):FOk PP 153 (B153 K).F:=bok mixed Tryz.func153
noncomputable def B99 (K:Nat):Bd PP:=⟨⟨[vp x_dt 0],[ro (.sl (.i .u8)) 2],[],u1 (x_aq K),false⟩,cn o19<|cn (o153 K)<|cn (o152 K) tt,hn [1,9,25,537,25,25,5],K,Tryz.f99,[.tmp 2]⟩
noncomputable def x_aq.g0 (K:Nat) (a0:x_z) (n:Nat) (q0:y0) (q1:Int) (q2:x_z):Option y89:=
 lq (B99 K) (dirs 5 1381) n ⟨[vt 0 0 0, .dead, .dead,vl (.i .u8) 2 q0,vi q1]++dd 13,[some (0,[.val .f (.sl (.i .u8)) q2.1, .val .f (.i .i64) q2.2.1, .val .f (.i .i64) q2.2.2])]++dn 18⟩
theorem x_aq.ok0 (K:Nat) (a0:x_z):x_aq.g0 K a0=x_aq.l0 K a0:=
 funext (lpe3 (fun _ _ _=>by kernel_rfl) fun _ _ _ _=>by kernel_rfl)
theorem o99 (K:Nat):FOk PP 99 (B99 K).F:=bok mixed Tryz.func99 fun v=>by
 have e:(B99 K).run v=x_aq.b K v.1 (x_aq.g0 K v.1 K):=by kernel_rfl
 rw [x_aq.ok0] at e
 exact e.trans (by kernel_rfl)
noncomputable def B57 (K:Nat):Bd PP:=⟨⟨[vp x_dt 0],[ra x_vb 2],[],u1 (x_lo K),false⟩,cn (o99 K)<|cn o19<|cn o31 tt,hn [5,13,29,32797,98333,21,33554453,21,5],K,Tryz.f57,[.cell 2 42]⟩
theorem o57 (K:Nat):FOk PP 57 (B57 K).F:=bok mixed Tryz.func57
noncomputable def B58 (K:Nat):Bd PP:=⟨⟨[vp x_dt 0],[ra eRpc 4374],[],u1 (x_dl K),false⟩,cn o19<|cn o30<|cn (o100 K)<|cn (o101 K)<|cn (o102 K) tt,hn [5,13,67108877,13,4294967309,45,13,5],K,Tryz.f58,[.cell 2 76]⟩
theorem o58 (K:Nat):FOk PP 58 (B58 K).F:=bok mixed Tryz.func58
noncomputable def B29 (K:Nat):Bd PP:=⟨⟨[vp x_dt 0],[ra x_a6 0,ra x_gj 1969945990632,ro (.i .i64) 0],[],u1 (x_jj K),false⟩,cn (o54 K)<|cn o19<|cn (o55 K)<|cn o31<|cn (o56 K)<|cn (o57 K)<|cn (o58 K) tt,hn [13,45,4141,29,109,134217837,402653293,109,17314087021,109,4398180728941,109,281475110928493,109,72057594172145773,109,2305843009347911789,109,147573952589676413037,109,29],K,Tryz.f29,[.cell 2 25, .cell 3 45, .tmp 4]⟩
theorem o29 (K:Nat):FOk PP 29 (B29 K).F:=bok mixed Tryz.func29
noncomputable def B8 (K:Nat):Bd PP:=⟨⟨[vo (.sl (.i .u8)) 0],[ra x_a6 0,ra x_gj 1969945990632,ro (.i .i64) 0],[],u1 (x_g7 K),false⟩,cn (o17 K)<|cn (o29 K)<|cn o30<|cn o31 tt,hn [13,1068,1516,263660,460,28],K,Tryz.f8,[.cell 2 25, .cell 3 45, .tmp 4]⟩
theorem o8 (K:Nat):FOk PP 8 (B8 K).F:=bok mixed Tryz.func8
noncomputable def B9 (K:Nat):Bd PP:=⟨⟨[vo (.sl (.i .u8)) 0],[ra x_a6 0,ra x_gj 1969945990632],[],u1 (x_je K),false⟩,cn (o17 K)<|cn (o29 K) tt,hn [13,60,12],K,Tryz.f9,[.cell 2 25, .cell 3 45]⟩
theorem o9 (K:Nat):FOk PP 9 (B9 K).F:=bok mixed Tryz.func9
noncomputable def B10 (K:Nat):Bd PP:=⟨⟨[vo (.sl (.i .u8)) 0],[ro (.i .i64) 0],[],u1 (x_jv K),false⟩,cn (o17 K)<|cn o19 tt,hn [1,4],K,Tryz.f10,[.tmp 2]⟩
theorem o10 (K:Nat):FOk PP 10 (B10 K).F:=bok mixed Tryz.func10
noncomputable def B158 (K:Nat):Bd PP:=⟨⟨[vo (.sl (.i .u8)) 1,vo (.i .i64) 0],[ro (.i .i64) 0,ro (.i .i64) 0,ro .b 0],[],u2 (x_cy K),false⟩,tt,hn [3,1027,112,131,387,2097539,387,387,2199023255939,36028797018964354,112,112,112],K,Tryz.f158,[.tmp 4, .tmp 5, .tmp 6]⟩
noncomputable def x_cy.g0 (K:Nat) (a0:y0) (a1:Int) (n:Nat) (q0:Int) (q1:Int):Option y69:=
 lq (B158 K) (dirs 6 6906) n ⟨[vl (.i .u8) 1 a0,vi a1]++dd 5++[vi q0,vi q1]++dd 50,dn 61⟩
theorem x_cy.ok0 (K:Nat) (a0:y0) (a1:Int):x_cy.g0 K a0 a1=x_cy.l0 K a0 a1:=
 funext (lpe2 (fun _ _=>by kernel_rfl) fun _ _ _=>by kernel_rfl)
theorem o158 (K:Nat):FOk PP 158 (B158 K).F:=bok mixed Tryz.func158 fun v=>by
 have e:(B158 K).run v=x_cy.b K v.1 v.2.1 (x_cy.g0 K v.1 v.2.1 K):=by kernel_rfl
 rw [x_cy.ok0] at e
 exact e.trans (by kernel_rfl)
noncomputable def B171 (K:Nat):Bd PP:=⟨⟨[vp x_cr 0],[ro (.i .i64) 0],[],u1 (x_y K),false⟩,cn (o158 K) tt,hn [1,57,67108889,1,5,9,5],K,Tryz.f171,[.tmp 2]⟩
theorem o171 (K:Nat):FOk PP 171 (B171 K).F:=bok mixed Tryz.func171
noncomputable def B205 (K:Nat):Bd PP:=⟨⟨[vo (.sl (.i .u8)) 1,vo (.i .i64) 0],[ro .s 0,ro (.i .i64) 0,ro .b 0],[],u2 (x_lc K),false⟩,cn (o158 K) tt,hn [3,897,67109249,112,112],K,Tryz.f205,[.tmp 4, .tmp 5, .tmp 6]⟩
theorem o205 (K:Nat):FOk PP 205 (B205 K).F:=bok mixed Tryz.func205
noncomputable def B172 (K:Nat):Bd PP:=⟨⟨[vp x_cr 0],[ro .s 0],[],u1 (x_cq K),false⟩,cn (o205 K) tt,hn [1,57,67108889,1,5,9,5],K,Tryz.f172,[.tmp 2]⟩
theorem o172 (K:Nat):FOk PP 172 (B172 K).F:=bok mixed Tryz.func172
noncomputable def B192 (K:Nat):Bd PP:=⟨⟨[vp x_cr 0],[ra eCmd 0],[],u1 (x_g3 K),false⟩,cn (o171 K)<|cn (o172 K)<|cn (o76 K) tt,hn [5,13,13,13,13,13,13,13,13,13,13,5],K,Tryz.f192,[.cell 2 123]⟩
theorem o192 (K:Nat):FOk PP 192 (B192 K).F:=bok mixed Tryz.func192
noncomputable def B191 (K:Nat):Bd PP:=⟨⟨[.via 2,vp x_js 162,vp x_cr 0],[],[.one, .one, .gh 0],u2 (x_mm K),false⟩,sf 1<|cn (o171 K)<|cn (o192 K) tt,hn [15,15,7],K,Tryz.f191,[]⟩
theorem o191 (K:Nat):FOk PP 191 (B191 K).F:=bok mixed Tryz.func191
noncomputable def B164 (K:Nat):Bd PP:=⟨⟨[vp x_cr 0, .via 0,vp x_js 162],[],[.one, .fn 191 2],u2 (x_q K),false⟩,sf 1<|cn (o171 K)<|cn (o191 K) tt,hn [23,55,131127,55,55],K,Tryz.f164,[]⟩
noncomputable def x_q.g0 (K:Nat) (a0:x_g) (a2:x_cw) (n:Nat) (v1:y47) (q0:Int) (q1:y24) (q2:x_cw):Option y63:=
 lq (B164 K) (dirs 3 56) n ⟨[vt 0 0 0, .fn 191 [.one (.ptr 1 0 0), .one (.ptr 2 0 0)], .dead, .dead,vi v1.1,vi q0]++dd 16,[some (0,[.val .f (.sl (.i .u8)) q1.1.1, .val .f (.i .i64) q1.1.2.1, .val .f .b q1.1.2.2]),some (0,[.ptr 0 0 0]),some (0,[.val .f (.i .i64) q2.1, .val .f (.i .i64) q2.2.1, .val .f (.i .i64) q2.2.2.1, .val .f (.i .i64) q2.2.2.2.1, .val (.x 0) (.sl x_cv) q2.2.2.2.2.1, .val .f .s q2.2.2.2.2.2])]++dn 22⟩
theorem x_q.ok0 (K:Nat) (a0:x_g) (a2:x_cw):x_q.g0 K a0 a2=x_q.l0 K a0 a2:=
 funext (lpe4 (fun _ _ _ _=>by kernel_rfl) fun _ _ _ _ _=>by kernel_rfl)
theorem o164 (K:Nat):FOk PP 164 (B164 K).F:=bok mixed Tryz.func164 fun v=>by
 have e:(B164 K).run v=x_q.b K v.1 v.2.1 (x_q.g0 K v.1 v.2.1 K):=by kernel_rfl
 rw [x_q.ok0] at e
 exact e.trans (by kernel_rfl)
noncomputable def B161 (K:Nat):Bd PP:=⟨⟨[va x_cv 0],[ro .b 0],[],u1 (x_mh K),false⟩,cn o20<|cn (o76 K) tt,hn [2,4],K,Tryz.f161,[.tmp 2]⟩
theorem o161 (K:Nat):FOk PP 161 (B161 K).F:=bok mixed Tryz.func161
noncomputable def B109a (K:Nat):Bd PP:=⟨⟨[vo (.sl x_cv) 1],[ro (.i .i64) 0],[.one, .fn 161 0],u1 (x_r K),false⟩,cn (o161 K) tt,hn [3,387,899,419,65955,16,387,16],K,Tryz.f109,[.tmp 4]⟩
noncomputable def x_r.g0 (K:Nat) (a0:y13) (n:Nat) (q0:Int):Option y6:=
 lq (B109a K) (dirs 4 276) n ⟨[vl x_cv 1 a0, .fn 161 []]++dd 5++[vi (a0.length:Int),vi q0]++dd 10,dn 20⟩
theorem x_r.ok0 (K:Nat) (a0:y13):x_r.g0 K a0=x_r.l0 K a0:=
 funext (lpe1 (fun _=>by kernel_rfl) fun _ _=>by kernel_rfl)
theorem o109a (K:Nat):FOk PP 109 (B109a K).F:=bok mixed Tryz.func109 fun v=>by
 have e:(B109a K).run v=x_r.b K v.1 (x_r.g0 K v.1 K):=by kernel_rfl
 rw [x_r.ok0] at e
 exact e.trans (by kernel_rfl)
noncomputable def B74a (K:Nat):Bd PP:=⟨⟨[vo (.sl x_cv) 1],[ro .b 0],[.one, .fn 161 0],u1 (x_b2 K),false⟩,cg 161 (o109a K) tt,hn [3,16],K,Tryz.f74,[.tmp 4]⟩
theorem o74a (K:Nat):FOk PP 74 (B74a K).F:=bok mixed Tryz.func74
noncomputable def B126 (K:Nat):Bd PP:=⟨⟨[va x_js 81],[ro .b 0],[],u1 (x_j3 K),false⟩,cn o20<|cg 161 (o74a K) tt,hn [2,16777218,4,134217730,4,536870914,1610612738,4,2251800350556162,4,2305843009213693954,4,4],K,Tryz.f126,[.tmp 2]⟩
theorem o126 (K:Nat):FOk PP 126 (B126 K).F:=bok mixed Tryz.func126
end Go.Proofs.YtoiamgohjmjbiaaGreat.Pe
