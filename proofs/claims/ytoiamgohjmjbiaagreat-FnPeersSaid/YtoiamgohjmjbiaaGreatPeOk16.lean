/- The functions compute what is told of them. -/
import Derived.Test.YtoiamgohjmjbiaaGreatPeOk15
set_option linter.all false
set_option maxRecDepth 100000
namespace Go.Proofs.YtoiamgohjmjbiaaGreat.Pe
open Go Go.Kn
noncomputable def B163 (K:Nat):Bd PP:=⟨⟨[va x_c7 337],[ra x_c7 674],[],u1 (x_ad K),false⟩,cn o198<|cn o199<|cn (o200 K)<|cn o201 tt,hn [6,30,30,229398,491542,229462,229398,229398,3758096390,8053063686,3758096646,3758096390,3758096390,6,6,6,4],K,Tryz.f163,[.cell 2 37]⟩
noncomputable def x_ad.g0 (K:Nat) (a0:x_as) (n:Nat) (q0:Int) (q1:y3):Option y17:=
 lq (B163 K) (dirs 6 6906) n ⟨[.dead,vt 1 1 0,vt 2 1 0, .dead,vl x_a2 1 a0.2.2.1]++dd 10++[vl eRow 1 a0.1,vi (a0.1.length:Int),vi q0]++dd 38,[none,bv x_c7 347 (q1,a0.2.1,[],a0.2.2.2),bv x_c7 674 ([],[],[],0,[],[])]++dn 54⟩
noncomputable def x_ad.g1 (K:Nat) (a0:x_as) (n:Nat) (q2:Int) (q1:y3) (q3:y12):Option y17:=
 lq (B163 K) (dirs 7 34531) n ⟨[.dead,vt 1 1 0,vt 2 1 0]++dd 26++[vl x_a2 1 a0.2.2.1,vi (a0.2.2.1.length:Int),vi q2]++dd 24,[none,bv x_c7 347 (q1,a0.2.1,q3,a0.2.2.2),bv x_c7 674 ([],[],[],0,[],[])]++dn 54⟩
theorem x_ad.ok1 (K:Nat) (a0:x_as):x_ad.g1 K a0=x_ad.l1 K a0:=
 funext (lpe3 (fun _ _ _=>by kernel_rfl) fun _ _ _ _=>by kernel_rfl)
theorem x_ad.ok0 (K:Nat) (a0:x_as):x_ad.g0 K a0=x_ad.l0 K a0:=
 funext (lpe2 (fun _ _=>by kernel_rfl) fun n q0 q1=>(show x_ad.g0 K a0 (n+1) q0 q1=x_ad.l0b K a0 (x_ad.g0 K a0 n) (x_ad.g1 K a0 K) q0 q1 by kernel_rfl).trans (by rw [x_ad.ok1]<;>rfl))
theorem o163 (K:Nat):FOk PP 163 (B163 K).F:=bok mixed Tryz.func163 fun v=>by
 have e:(B163 K).run v=x_ad.b K v.1 (x_ad.g0 K v.1 K):=by kernel_rfl
 rw [x_ad.ok0] at e
 exact e.trans (by kernel_rfl)
noncomputable def B127 (K:Nat):Bd PP:=⟨⟨[va x_il 81972],[ra x_il 163944],[],u1 (x_e9 K),false⟩,cn o162<|cn (o163 K) tt,hn [6,6,4],K,Tryz.f127,[.cell 2 39]⟩
theorem o127 (K:Nat):FOk PP 127 (B127 K).F:=bok mixed Tryz.func127
noncomputable def B130:Bd PP:=⟨⟨[va eLog 9,vo (.i .i64) 0],[ro (.i .i64) 0],[],u2 x_lz,false⟩,cn o20 tt,hn [6,262,16,1073741830,16,16],0,Tryz.f130,[.tmp 4]⟩
theorem o130:FOk PP 130 B130.F:=bok mixed Tryz.func130
noncomputable def B128 (K:Nat):Bd PP:=⟨⟨[va eLog 9,vo (.i .i64) 0,vo (.i .i64) 0,vo (.sl x_cv) 1],[ra eLog 18,ro .b 0],[],u4 (x_dd K),false⟩,cn (o60 K)<|cn o162<|cn o130 tt,hn [286,65822,768,1310,268436762,768,7516194074,16106128666,7516200218,7516206362,288230383667918106,7516194074,7516194074,2361183241434822608144,768,768],K,Tryz.f128,[.cell 8 30, .tmp 9]⟩
noncomputable def x_dd.g0 (K:Nat) (a0:TLog) (a1:Int) (a2:Int) (a3:y13) (n:Nat) (q0:Int) (v2:y15) (q1:y13):Option y36:=
 lq (B128 K) (dirs 7 34531) n ⟨[.dead,vi a1, .dead,vl x_cv 1 a3,vt 4 1 0]++dd 3++[vt 8 1 0, .dead,vt 10 1 0]++dd 19++[vl x_cv 1 a3,vi (a3.length:Int),vi q0]++dd 42,dn 4++[bv eLog 9 a0]++dn 3++[bv eLog 18 (0,0,[]),none,bv eLog 18 (v2.1.1,v2.1.2.1,q1)]++dn 68⟩
theorem x_dd.ok0 (K:Nat) (a0:TLog) (a1:Int) (a2:Int) (a3:y13):x_dd.g0 K a0 a1 a2 a3=x_dd.l0 K a0 a1 a2 a3:=
 funext (lpe3 (fun _ _ _=>by kernel_rfl) fun _ _ _ _=>by kernel_rfl)
theorem o128 (K:Nat):FOk PP 128 (B128 K).F:=bok mixed Tryz.func128 fun v=>by
 have e:(B128 K).run v=x_dd.b K v.1 v.2.1 v.2.2.1 v.2.2.2.1 (x_dd.g0 K v.1 v.2.1 v.2.2.1 v.2.2.2.1 K):=by kernel_rfl
 rw [x_dd.ok0] at e
 exact e.trans (by kernel_rfl)
noncomputable def B202 (K:Nat):Bd PP:=⟨⟨[.via 2,vp eRow 18,vp x_cr 0],[],[.one, .one, .gh 0],u2 (x_g6 K),false⟩,sf 1<|cn (o171 K)<|cn (o172 K) tt,hn [15,15,15,15,15,15,7],K,Tryz.f202,[]⟩
theorem o202 (K:Nat):FOk PP 202 (B202 K).F:=bok mixed Tryz.func202
noncomputable def B164a (K:Nat):Bd PP:=⟨⟨[vp x_cr 0, .via 0,vp eRow 18],[],[.one, .fn 202 2],u2 (x_f K),false⟩,sf 1<|cn (o171 K)<|cn (o202 K) tt,hn [23,55,131127,55,55],K,Tryz.f164,[]⟩
noncomputable def x_f.g0 (K:Nat) (a0:x_g) (a2:TRow) (n:Nat) (v1:y47) (q0:Int) (q1:y24) (q2:TRow):Option y52:=
 lq (B164a K) (dirs 3 56) n ⟨[vt 0 0 0, .fn 202 [.one (.ptr 1 0 0), .one (.ptr 2 0 0)], .dead, .dead,vi v1.1,vi q0]++dd 16,[some (0,[.val .f (.sl (.i .u8)) q1.1.1, .val .f (.i .i64) q1.1.2.1, .val .f .b q1.1.2.2]),some (0,[.ptr 0 0 0]),some (0,[.val .f (.i .i64) q2.1, .val .f (.i .i64) q2.2.1, .val (.x 0) (.sl x_sp) q2.2.2])]++dn 22⟩
theorem x_f.ok0 (K:Nat) (a0:x_g) (a2:TRow):x_f.g0 K a0 a2=x_f.l0 K a0 a2:=
 funext (lpe4 (fun _ _ _ _=>by kernel_rfl) fun _ _ _ _ _=>by kernel_rfl)
theorem o164a (K:Nat):FOk PP 164 (B164a K).F:=bok mixed Tryz.func164 fun v=>by
 have e:(B164a K).run v=x_f.b K v.1 v.2.1 (x_f.g0 K v.1 v.2.1 K):=by kernel_rfl
 rw [x_f.ok0] at e
 exact e.trans (by kernel_rfl)
noncomputable def B166 (K:Nat):Bd PP:=⟨⟨[vp x_cr 0],[ra eRow 18],[],u1 (x_g1 K),false⟩,cn (o171 K)<|cg 202 (o164a K) tt,hn [7,15,15,13,5],K,Tryz.f166,[.cell 2 111]⟩
theorem o166 (K:Nat):FOk PP 166 (B166 K).F:=bok mixed Tryz.func166
noncomputable def B165 (K:Nat):Bd PP:=⟨⟨[vp x_c7 674, .via 2,vp x_cr 0],[],[.one, .one, .gh 1],u2 (x_my K),false⟩,sf 1<|cn (o166 K) tt,hn [7],K,Tryz.f165,[]⟩
theorem o165 (K:Nat):FOk PP 165 (B165 K).F:=bok mixed Tryz.func165
noncomputable def B164b (K:Nat):Bd PP:=⟨⟨[vp x_cr 0,vp x_c7 674, .via 0],[],[.one, .fn 165 2],u2 (x_o K),false⟩,sf 1<|cn (o171 K)<|cn (o165 K) tt,hn [23,55,131127,55,55],K,Tryz.f164,[]⟩
noncomputable def x_o.g0 (K:Nat) (a0:x_g) (a1:x_as) (n:Nat) (v1:y47) (q0:Int) (q1:y24) (q2:x_as):Option y64:=
 lq (B164b K) (dirs 3 56) n ⟨[vt 0 0 0, .fn 165 [.one (.ptr 1 0 0), .one (.ptr 2 0 0)], .dead, .dead,vi v1.1,vi q0]++dd 16,[some (0,[.val .f (.sl (.i .u8)) q1.1.1, .val .f (.i .i64) q1.1.2.1, .val .f .b q1.1.2.2]),some (0,[.val (.x 0) (.sl eRow) q2.1, .val (.x 0) (.sl x_bf) q2.2.1, .val (.x 0) (.sl x_a2) q2.2.2.1, .val .f (.i .i64) q2.2.2.2.1, .val (.x 0) (.sl (.i .i64)) q2.2.2.2.2.1, .val (.x 0) (.sl x_bl) q2.2.2.2.2.2]),some (0,[.ptr 0 0 0])]++dn 22⟩
theorem x_o.ok0 (K:Nat) (a0:x_g) (a1:x_as):x_o.g0 K a0 a1=x_o.l0 K a0 a1:=
 funext (lpe4 (fun _ _ _ _=>by kernel_rfl) fun _ _ _ _ _=>by kernel_rfl)
theorem o164b (K:Nat):FOk PP 164 (B164b K).F:=bok mixed Tryz.func164 fun v=>by
 have e:(B164b K).run v=x_o.b K v.1 v.2.1 (x_o.g0 K v.1 v.2.1 K):=by kernel_rfl
 rw [x_o.ok0] at e
 exact e.trans (by kernel_rfl)
noncomputable def B203 (K:Nat):Bd PP:=⟨⟨[.via 2,vp x_bf 162,vp x_cr 0],[],[.one, .one, .gh 0],u2 (x_fj K),false⟩,sf 1<|cn (o171 K) tt,hn [15,15,7],K,Tryz.f203,[]⟩
theorem o203 (K:Nat):FOk PP 203 (B203 K).F:=bok mixed Tryz.func203
noncomputable def B164c (K:Nat):Bd PP:=⟨⟨[vp x_cr 0, .via 0,vp x_bf 162],[],[.one, .fn 203 2],u2 (x_d K),false⟩,sf 1<|cn (o171 K)<|cn (o203 K) tt,hn [23,55,131127,55,55],K,Tryz.f164,[]⟩
noncomputable def x_d.g0 (K:Nat) (a0:x_g) (a2:x_am) (n:Nat) (v1:y47) (q0:Int) (q1:y24) (q2:x_am):Option y75:=
 lq (B164c K) (dirs 3 56) n ⟨[vt 0 0 0, .fn 203 [.one (.ptr 1 0 0), .one (.ptr 2 0 0)], .dead, .dead,vi v1.1,vi q0]++dd 16,[some (0,[.val .f (.sl (.i .u8)) q1.1.1, .val .f (.i .i64) q1.1.2.1, .val .f .b q1.1.2.2]),some (0,[.ptr 0 0 0]),some (0,[.val .f (.i .i64) q2.1, .val .f (.i .i64) q2.2.1, .val .f (.i .i64) q2.2.2.1, .val .f (.i .i64) q2.2.2.2.1, .val (.x 0) (.sl x_rp) q2.2.2.2.2])]++dn 22⟩
theorem x_d.ok0 (K:Nat) (a0:x_g) (a2:x_am):x_d.g0 K a0 a2=x_d.l0 K a0 a2:=
 funext (lpe4 (fun _ _ _ _=>by kernel_rfl) fun _ _ _ _ _=>by kernel_rfl)
theorem o164c (K:Nat):FOk PP 164 (B164c K).F:=bok mixed Tryz.func164 fun v=>by
 have e:(B164c K).run v=x_d.b K v.1 v.2.1 (x_d.g0 K v.1 v.2.1 K):=by kernel_rfl
 rw [x_d.ok0] at e
 exact e.trans (by kernel_rfl)
noncomputable def B168 (K:Nat):Bd PP:=⟨⟨[vp x_cr 0],[ra x_bf 162],[],u1 (x_fg K),false⟩,cn (o171 K)<|cg 203 (o164c K) tt,hn [7,15,15,15,15,15,13,5],K,Tryz.f168,[.cell 2 106]⟩
theorem o168 (K:Nat):FOk PP 168 (B168 K).F:=bok mixed Tryz.func168
noncomputable def B167 (K:Nat):Bd PP:=⟨⟨[vp x_c7 674, .via 2,vp x_cr 0],[],[.one, .one, .gh 1],u2 (x_nf K),false⟩,sf 1<|cn (o168 K) tt,hn [7],K,Tryz.f167,[]⟩
theorem o167 (K:Nat):FOk PP 167 (B167 K).F:=bok mixed Tryz.func167
end Go.Proofs.YtoiamgohjmjbiaaGreat.Pe
