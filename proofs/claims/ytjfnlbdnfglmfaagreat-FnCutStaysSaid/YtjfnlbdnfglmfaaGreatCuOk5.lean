/- The functions compute what is told of them. -/
import Derived.Test.YtjfnlbdnfglmfaaGreatCuOk4
set_option linter.all false
set_option maxRecDepth 100000
namespace Go.Proofs.YtjfnlbdnfglmfaaGreat.Cu
open Go Go.Kn
noncomputable def B257 (K:Nat):Bd PP:=⟨⟨[vp x_e7 21151609017444],[],[],u1 (x_lg K),false⟩,cn (o66 K)<|cn o113<|cn (o264 K)<|cn (o254 K) tt,hn [5,29,29,29,29,5,302231454903657293676549,1,1,1],K,Tryz.f257,[]⟩
theorem o257 (K:Nat):FOk PP 257 (B257 K).F:=bok mixed Tryz.func257
noncomputable def B249 (K:Nat):Bd PP:=⟨⟨[vp x_e7 21151609017444,va eRpc 2187],[],[],u2 (x_cf K),false⟩,cn o297<|cn o256<|cn (o257 K) tt,hn [9,134217737,1,17,49,2199023255601,49,49,2305843009213693953,1],K,Tryz.f249,[]⟩
noncomputable def x_cf.g0 (K:Nat) (a0:y1) (a1:TRpc) (n:Nat) (q0:Int) (q1:Int):Option y27:=
 lq (B249 K) (dirs 7 34531) n ⟨[vt 0 0 0]++dd 3++[vi q0,vi q1]++dd 58,[some (0,[.val .f (.i .i64) a0.1.1, .val .f (.i .i64) a0.1.2.1, .val .f (.i .i64) a0.1.2.2.1, .val .f (.i .i64) a0.1.2.2.2, .val .f (.i .i64) a0.2.1, .val .f (.i .i64) a0.2.2.1.1, .val .f (.i .i64) a0.2.2.1.2.1.1, .val .f (.i .i64) a0.2.2.1.2.1.2.1, .val .f (.i .i64) a0.2.2.1.2.1.2.2.1.1, .val .f (.i .i64) a0.2.2.1.2.1.2.2.1.2.1, .val .f (.sl x_dp) a0.2.2.1.2.1.2.2.1.2.2, .val .f (.sl eRow) a0.2.2.1.2.1.2.2.2.1, .val .f (.sl x_bs) a0.2.2.1.2.1.2.2.2.2.1, .val .f (.sl x_bh) a0.2.2.1.2.1.2.2.2.2.2.1, .val .f (.i .i64) a0.2.2.1.2.1.2.2.2.2.2.2.1, .val .f (.sl (.i .i64)) a0.2.2.1.2.1.2.2.2.2.2.2.2.1, .val .f (.sl x_bz) a0.2.2.1.2.1.2.2.2.2.2.2.2.2, .val .f (.i .i64) a0.2.2.1.2.2.1, .val (.x 0) (.sl .b) (a0.2.2.1.2.2.2.1.set a1.2.1.toNat true), .val .f (.sl (.i .i64)) a0.2.2.1.2.2.2.2.1, .val .f (.sl (.i .i64)) a0.2.2.1.2.2.2.2.2.1, .val .f (.i .i64) a0.2.2.1.2.2.2.2.2.2.1, .val (.x 0) (.sl eRow) a0.2.2.1.2.2.2.2.2.2.2.1.1, .val (.x 0) (.sl x_bs) a0.2.2.1.2.2.2.2.2.2.2.1.2.1, .val (.x 0) (.sl x_bh) a0.2.2.1.2.2.2.2.2.2.2.1.2.2.1, .val .f (.i .i64) a0.2.2.1.2.2.2.2.2.2.2.1.2.2.2.1, .val (.x 0) (.sl (.i .i64)) a0.2.2.1.2.2.2.2.2.2.2.1.2.2.2.2.1, .val (.x 0) (.sl x_bz) a0.2.2.1.2.2.2.2.2.2.2.1.2.2.2.2.2, .val .f (.sl (.i .u8)) a0.2.2.1.2.2.2.2.2.2.2.2.1.1, .val .f (.i .i64) a0.2.2.1.2.2.2.2.2.2.2.2.1.2, .val .f (.sl eRpc) a0.2.2.1.2.2.2.2.2.2.2.2.2, .val .f .b a0.2.2.2])]++dn 65⟩
theorem x_cf.ok0 (K:Nat) (a0:y1) (a1:TRpc):x_cf.g0 K a0 a1=x_cf.l0 K a0 a1:=
 funext (lpe2 (fun _ _=>by kernel_rfl) fun _ _ _=>by kernel_rfl)
theorem o249 (K:Nat):FOk PP 249 (B249 K).F:=bok mixed Tryz.func249 fun v=>by
 have e:(B249 K).run v=x_cf.b K v.1 v.2.1 (x_cf.g0 K v.1 v.2.1 K):=by kernel_rfl
 rw [x_cf.ok0] at e
 exact e.trans (by kernel_rfl)
noncomputable def B298 (K:Nat):Bd PP:=⟨⟨[vp x_e7 21160907109180,vo (.i .i64) 0,vo .b 0,vo (.i .i64) 0],[],[],u4 (x_ey K),false⟩,cn (o255 K) tt,hn [1],K,Tryz.f298,[]⟩
theorem o298 (K:Nat):FOk PP 298 (B298 K).F:=bok mixed Tryz.func298
noncomputable def B300 (K:Nat):Bd PP:=⟨⟨[va x_gb 984972995316,va eLog 9],[ro .b 0],[],u2 (x_da K),false⟩,cn o113<|cn o259 tt,hn [12,44,65548,16,140,33554572,140,68719476876,16,16],K,Tryz.f300,[.tmp 4]⟩
noncomputable def x_da.g0 (K:Nat) (a0:x_bq) (a1:TLog) (n:Nat) (q0:Int):Option y11:=
 lq (B300 K) (dirs 6 6906) n ⟨[.dead, .dead,vt 2 1 0,vt 3 1 0]++dd 3++[vi q0]++dd 29,[none,none,bv x_gb 984972995316 a0,bv eLog 9 a1]++dn 35⟩
theorem x_da.ok0 (K:Nat) (a0:x_bq) (a1:TLog):x_da.g0 K a0 a1=x_da.l0 K a0 a1:=
 funext (lpe1 (fun _=>by kernel_rfl) fun _ _=>by kernel_rfl)
theorem o300 (K:Nat):FOk PP 300 (B300 K).F:=bok mixed Tryz.func300 fun v=>by
 have e:(B300 K).run v=x_da.b K v.1 v.2.1 (x_da.g0 K v.1 v.2.1 K):=by kernel_rfl
 rw [x_da.ok0] at e
 exact e.trans (by kernel_rfl)
noncomputable def B261:Bd PP:=⟨⟨[vo (.i .i64) 0,vo (.i .i64) 0],[ro (.i .i64) 0],[],u2 x_hg,false⟩,tt,hn [3,131,19,19],0,Tryz.f261,[.tmp 4]⟩
theorem o261:FOk PP 261 B261.F:=bok mixed Tryz.func261
noncomputable def B301 (K:Nat):Bd PP:=⟨⟨[vo (.sl x_dp) 1,vo (.sl x_dp) 1],[ro .b 0],[],u2 (x_bd K),false⟩,tt,hn [3,35,32803,35,67108899,16,16],K,Tryz.f301,[.tmp 4]⟩
noncomputable def x_bd.g0 (K:Nat) (a0:y14) (a1:y14) (n:Nat) (q0:Int):Option y11:=
 lq (B301 K) (dirs 4 276) n ⟨[vl x_dp 1 a0,vl x_dp 1 a1]++dd 3++[vi q0]++dd 26,dn 34⟩
theorem x_bd.ok0 (K:Nat) (a0:y14) (a1:y14):x_bd.g0 K a0 a1=x_bd.l0 K a0 a1:=
 funext (lpe1 (fun _=>by kernel_rfl) fun _ _=>by kernel_rfl)
theorem o301 (K:Nat):FOk PP 301 (B301 K).F:=bok mixed Tryz.func301 fun v=>by
 have e:(B301 K).run v=x_bd.b K v.1 v.2.1 (x_bd.g0 K v.1 v.2.1 K):=by kernel_rfl
 rw [x_bd.ok0] at e
 exact e.trans (by kernel_rfl)
noncomputable def B302 (K:Nat):Bd PP:=⟨⟨[vp x_e7 21160907109180,vo (.i .i64) 0],[],[],u2 (x_b1 K),false⟩,cn o261 tt,hn [19,1043,19,19,19],K,Tryz.f302,[]⟩
noncomputable def x_b1.g0 (K:Nat) (a0:y1) (a1:Int) (n:Nat) (q0:Int) (q1:y0) (q2:y0):Option y27:=
 lq (B302 K) (dirs 2 11) n ⟨[vt 0 0 0,vi a1, .dead, .dead,vi q0]++dd 43,[some (0,[.val .f (.i .i64) a0.1.1, .val .f (.i .i64) a0.1.2.1, .val .f (.i .i64) a0.1.2.2.1, .val .f (.i .i64) a0.1.2.2.2, .val .f (.i .i64) a0.2.1, .val .f (.i .i64) a0.2.2.1.1, .val .f (.i .i64) a0.2.2.1.2.1.1, .val .f (.i .i64) a0.2.2.1.2.1.2.1, .val .f (.i .i64) a0.2.2.1.2.1.2.2.1.1, .val .f (.i .i64) a0.2.2.1.2.1.2.2.1.2.1, .val .f (.sl x_dp) a0.2.2.1.2.1.2.2.1.2.2, .val .f (.sl eRow) a0.2.2.1.2.1.2.2.2.1, .val .f (.sl x_bs) a0.2.2.1.2.1.2.2.2.2.1, .val .f (.sl x_bh) a0.2.2.1.2.1.2.2.2.2.2.1, .val .f (.i .i64) a0.2.2.1.2.1.2.2.2.2.2.2.1, .val .f (.sl (.i .i64)) a0.2.2.1.2.1.2.2.2.2.2.2.2.1, .val .f (.sl x_bz) a0.2.2.1.2.1.2.2.2.2.2.2.2.2, .val .f (.i .i64) a0.2.2.1.2.2.1, .val (.x 0) (.sl .b) a0.2.2.1.2.2.2.1, .val (.x 0) (.sl (.i .i64)) q1, .val (.x 0) (.sl (.i .i64)) q2, .val .f (.i .i64) a0.2.2.1.2.2.2.2.2.2.1, .val (.x 0) (.sl eRow) a0.2.2.1.2.2.2.2.2.2.2.1.1, .val (.x 0) (.sl x_bs) a0.2.2.1.2.2.2.2.2.2.2.1.2.1, .val (.x 0) (.sl x_bh) a0.2.2.1.2.2.2.2.2.2.2.1.2.2.1, .val .f (.i .i64) a0.2.2.1.2.2.2.2.2.2.2.1.2.2.2.1, .val (.x 0) (.sl (.i .i64)) a0.2.2.1.2.2.2.2.2.2.2.1.2.2.2.2.1, .val (.x 0) (.sl x_bz) a0.2.2.1.2.2.2.2.2.2.2.1.2.2.2.2.2, .val .f (.sl (.i .u8)) a0.2.2.1.2.2.2.2.2.2.2.2.1.1, .val .f (.i .i64) a0.2.2.1.2.2.2.2.2.2.2.2.1.2, .val .f (.sl eRpc) a0.2.2.1.2.2.2.2.2.2.2.2.2, .val .f .b a0.2.2.2])]++dn 49⟩
theorem x_b1.ok0 (K:Nat) (a0:y1) (a1:Int):x_b1.g0 K a0 a1=x_b1.l0 K a0 a1:=
 funext (lpe3 (fun _ _ _=>by kernel_rfl) fun _ _ _ _=>by kernel_rfl)
theorem o302 (K:Nat):FOk PP 302 (B302 K).F:=bok mixed Tryz.func302 fun v=>by
 have e:(B302 K).run v=x_b1.b K v.1 v.2.1 (x_b1.g0 K v.1 v.2.1 K):=by kernel_rfl
 rw [x_b1.ok0] at e
 exact e.trans (by kernel_rfl)
noncomputable def B329:Bd PP:=⟨⟨[va x_bh 39,vo (.i .i64) 0],[ra x_bh 78],[],u2 x_es,false⟩,cn o199 tt,hn [22,54,54,33554486,48,16],0,Tryz.f329,[.cell 4 121]⟩
theorem o329:FOk PP 329 B329.F:=bok mixed Tryz.func329
noncomputable def B330:Bd PP:=⟨⟨[vo (.i .i64) 0],[ro (.i .i64) 0],[],u1 x_xc,false⟩,tt,hn [1,17,5,5],0,Tryz.f330,[.tmp 2]⟩
theorem o330:FOk PP 330 B330.F:=bok mixed Tryz.func330
noncomputable def B313 (K:Nat):Bd PP:=⟨⟨[va x_bh 39,vo (.i .i64) 0],[ra x_bh 78],[],u2 (x_bl K),false⟩,cn o199<|cn o329<|cn o330 tt,hn [22,54,118,246,33014,246,2251799813685494,182,246,36028797018964020,48,16],K,Tryz.f313,[.cell 4 121]⟩
noncomputable def x_bl.g0 (K:Nat) (a0:x_ar) (a1:Int) (n:Nat) (q0:Bool) (q1:Int) (q2:y23):Option y23:=
 lq (B313 K) (dirs 6 6906) n ⟨[.dead,vi a1,vt 2 1 0, .dead,vt 4 1 0,vt 5 1 0,vb q0,vi q1]++dd 53,[none,none,bv x_bh 39 a0,none,bv x_bh 78 (0,[],[],[]),bv x_bh 78 q2.1]++dn 57⟩
theorem x_bl.ok0 (K:Nat) (a0:x_ar) (a1:Int):x_bl.g0 K a0 a1=x_bl.l0 K a0 a1:=
 funext (lpe3 (fun _ _ _=>by kernel_rfl) fun _ _ _ _=>by kernel_rfl)
theorem o313 (K:Nat):FOk PP 313 (B313 K).F:=bok mixed Tryz.func313 fun v=>by
 have e:(B313 K).run v=x_bl.b K v.1 v.2.1 (x_bl.g0 K v.1 v.2.1 K):=by kernel_rfl
 rw [x_bl.ok0] at e
 exact e.trans (by kernel_rfl)
noncomputable def B336 (K:Nat):Bd PP:=⟨⟨[va x_bh 39,vo (.i .i64) 0],[ro (.i .i64) 0],[],u2 (x_hb K),false⟩,tt,hn [6,38,1062,38,524326,16,16],K,Tryz.f336,[.tmp 4]⟩
noncomputable def x_hb.g0 (K:Nat) (a0:x_ar) (a1:Int) (n:Nat) (q0:Int):Option y7:=
 lq (B336 K) (dirs 4 276) n ⟨[.dead,vi a1,vt 2 1 0, .dead, .dead,vi q0]++dd 15,[none,none,bv x_bh 39 a0]++dn 20⟩
theorem x_hb.ok0 (K:Nat) (a0:x_ar) (a1:Int):x_hb.g0 K a0 a1=x_hb.l0 K a0 a1:=
 funext (lpe1 (fun _=>by kernel_rfl) fun _ _=>by kernel_rfl)
theorem o336 (K:Nat):FOk PP 336 (B336 K).F:=bok mixed Tryz.func336 fun v=>by
 have e:(B336 K).run v=x_hb.b K v.1 v.2.1 (x_hb.g0 K v.1 v.2.1 K):=by kernel_rfl
 rw [x_hb.ok0] at e
 exact e.trans (by kernel_rfl)
end Go.Proofs.YtjfnlbdnfglmfaaGreat.Cu
