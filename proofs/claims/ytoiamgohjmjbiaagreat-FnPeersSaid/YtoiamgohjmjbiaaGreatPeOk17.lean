/- The functions compute what is told of them. -/
import Derived.Test.YtoiamgohjmjbiaaGreatPeOk16
set_option linter.all false
set_option maxRecDepth 100000
namespace Go.Proofs.YtoiamgohjmjbiaaGreat.Pe
open Go Go.Kn
noncomputable def B164d (K:Nat):Bd PP:=⟨⟨[vp x_cr 0,vp x_c7 674, .via 0],[],[.one, .fn 167 2],u2 (x_n K),false⟩,sf 1<|cn (o171 K)<|cn (o167 K) tt,hn [23,55,131127,55,55],K,Tryz.f164,[]⟩
noncomputable def x_n.g0 (K:Nat) (a0:x_g) (a1:x_as) (n:Nat) (v1:y47) (q0:Int) (q1:y24) (q2:x_as):Option y64:=
 lq (B164d K) (dirs 3 56) n ⟨[vt 0 0 0, .fn 167 [.one (.ptr 1 0 0), .one (.ptr 2 0 0)], .dead, .dead,vi v1.1,vi q0]++dd 16,[some (0,[.val .f (.sl (.i .u8)) q1.1.1, .val .f (.i .i64) q1.1.2.1, .val .f .b q1.1.2.2]),some (0,[.val (.x 0) (.sl eRow) q2.1, .val (.x 0) (.sl x_bf) q2.2.1, .val (.x 0) (.sl x_a2) q2.2.2.1, .val .f (.i .i64) q2.2.2.2.1, .val (.x 0) (.sl (.i .i64)) q2.2.2.2.2.1, .val (.x 0) (.sl x_bl) q2.2.2.2.2.2]),some (0,[.ptr 0 0 0])]++dn 22⟩
theorem x_n.ok0 (K:Nat) (a0:x_g) (a1:x_as):x_n.g0 K a0 a1=x_n.l0 K a0 a1:=
 funext (lpe4 (fun _ _ _ _=>by kernel_rfl) fun _ _ _ _ _=>by kernel_rfl)
theorem o164d (K:Nat):FOk PP 164 (B164d K).F:=bok mixed Tryz.func164 fun v=>by
 have e:(B164d K).run v=x_n.b K v.1 v.2.1 (x_n.g0 K v.1 v.2.1 K):=by kernel_rfl
 rw [x_n.ok0] at e
 exact e.trans (by kernel_rfl)
noncomputable def B204 (K:Nat):Bd PP:=⟨⟨[vp x_a2 78, .via 2,vp x_cr 0],[],[.one, .one, .gh 1],u2 (x_fu K),false⟩,sf 1<|cn (o171 K) tt,hn [7,7],K,Tryz.f204,[]⟩
theorem o204 (K:Nat):FOk PP 204 (B204 K).F:=bok mixed Tryz.func204
noncomputable def B164e (K:Nat):Bd PP:=⟨⟨[vp x_cr 0,vp x_a2 78, .via 0],[],[.one, .fn 204 2],u2 (x_c K),false⟩,sf 1<|cn (o171 K)<|cn (o204 K) tt,hn [23,55,131127,55,55],K,Tryz.f164,[]⟩
noncomputable def x_c.g0 (K:Nat) (a0:x_g) (a1:x_ag) (n:Nat) (v1:y47) (q0:Int) (q1:y24) (q2:x_ag):Option y76:=
 lq (B164e K) (dirs 3 56) n ⟨[vt 0 0 0, .fn 204 [.one (.ptr 1 0 0), .one (.ptr 2 0 0)], .dead, .dead,vi v1.1,vi q0]++dd 16,[some (0,[.val .f (.sl (.i .u8)) q1.1.1, .val .f (.i .i64) q1.1.2.1, .val .f .b q1.1.2.2]),some (0,[.val .f (.i .i64) q2.1, .val (.x 0) (.sl (.i .i64)) q2.2.1, .val (.x 0) (.sl (.i .i64)) q2.2.2.1, .val (.x 0) (.sl (.i .i64)) q2.2.2.2]),some (0,[.ptr 0 0 0])]++dn 22⟩
theorem x_c.ok0 (K:Nat) (a0:x_g) (a1:x_ag):x_c.g0 K a0 a1=x_c.l0 K a0 a1:=
 funext (lpe4 (fun _ _ _ _=>by kernel_rfl) fun _ _ _ _ _=>by kernel_rfl)
theorem o164e (K:Nat):FOk PP 164 (B164e K).F:=bok mixed Tryz.func164 fun v=>by
 have e:(B164e K).run v=x_c.b K v.1 v.2.1 (x_c.g0 K v.1 v.2.1 K):=by kernel_rfl
 rw [x_c.ok0] at e
 exact e.trans (by kernel_rfl)
noncomputable def B170 (K:Nat):Bd PP:=⟨⟨[vp x_cr 0,vo (.i .i64) 0],[ra x_a2 78],[],u2 (x_ab K),false⟩,cn (o171 K)<|cg 204 (o164e K) tt,hn [23,55,55,119,32887,119,119,17],K,Tryz.f170,[.cell 4 88]⟩
noncomputable def x_ab.g0 (K:Nat) (a0:x_g) (a1:Int) (n:Nat) (q0:Int) (q1:x_g) (v2:y76) (q2:y0):Option y72:=
 lq (B170 K) (dirs 6 6906) n ⟨[vt 0 0 0,vi a1,vt 2 1 0, .dead,vt 4 1 0,vt 5 1 0,vi q0]++dd 19,[some (0,[.val .f (.sl (.i .u8)) q1.1, .val .f (.i .i64) q1.2.1, .val .f .b q1.2.2]),none,some (1,[.ptr 0 0 0]),none,bv x_a2 78 (0,[],[],[]),bv x_a2 78 (v2.2.1.1,v2.2.1.2.1,v2.2.1.2.2.1,q2)]++dn 22⟩
theorem x_ab.ok0 (K:Nat) (a0:x_g) (a1:Int):x_ab.g0 K a0 a1=x_ab.l0 K a0 a1:=
 funext (lpe4 (fun _ _ _ _=>by kernel_rfl) fun _ _ _ _ _=>by kernel_rfl)
theorem o170 (K:Nat):FOk PP 170 (B170 K).F:=bok mixed Tryz.func170 fun v=>by
 have e:(B170 K).run v=x_ab.b K v.1 v.2.1 (x_ab.g0 K v.1 v.2.1 K):=by kernel_rfl
 rw [x_ab.ok0] at e
 exact e.trans (by kernel_rfl)
noncomputable def B169 (K:Nat):Bd PP:=⟨⟨[vp x_c7 674, .via 3,vp x_a6 0,vp x_cr 0],[],[.one, .one, .one, .gh 1],u3 (x_l5 K),false⟩,sf 1<|cn (o170 K) tt,hn [15],K,Tryz.f169,[]⟩
theorem o169 (K:Nat):FOk PP 169 (B169 K).F:=bok mixed Tryz.func169
noncomputable def B164f (K:Nat):Bd PP:=⟨⟨[vp x_cr 0,vp x_c7 674, .via 0,vp x_a6 0],[],[.one, .fn 169 3],u3 (x_p K),false⟩,sf 2<|cn (o171 K)<|cn (o169 K) tt,hn [31,63,131135,63,63],K,Tryz.f164,[]⟩
noncomputable def x_p.g0 (K:Nat) (a0:x_g) (a1:x_as) (a3:x_e) (n:Nat) (v1:y47) (q0:Int) (q1:y24) (q2:x_as) (q3:x_e):Option y111:=
 lq (B164f K) (dirs 3 56) n ⟨[vt 0 0 0, .fn 169 [.one (.ptr 1 0 0), .one (.ptr 2 0 0), .one (.ptr 3 0 0)], .dead, .dead,vi v1.1,vi q0]++dd 16,[some (0,[.val .f (.sl (.i .u8)) q1.1.1, .val .f (.i .i64) q1.1.2.1, .val .f .b q1.1.2.2]),some (0,[.val (.x 0) (.sl eRow) q2.1, .val (.x 0) (.sl x_bf) q2.2.1, .val (.x 0) (.sl x_a2) q2.2.2.1, .val .f (.i .i64) q2.2.2.2.1, .val (.x 0) (.sl (.i .i64)) q2.2.2.2.2.1, .val (.x 0) (.sl x_bl) q2.2.2.2.2.2]),some (0,[.ptr 0 0 0]),some (0,[.val .f (.i .i64) q3.1, .val .f (.i .i64) q3.2.1, .val .f (.i .i64) q3.2.2.1, .val .f (.i .i64) q3.2.2.2])]++dn 22⟩
theorem x_p.ok0 (K:Nat) (a0:x_g) (a1:x_as) (a3:x_e):x_p.g0 K a0 a1 a3=x_p.l0 K a0 a1 a3:=
 funext (lpe5 (fun _ _ _ _ _=>by kernel_rfl) fun _ _ _ _ _ _=>by kernel_rfl)
theorem o164f (K:Nat):FOk PP 164 (B164f K).F:=bok mixed Tryz.func164 fun v=>by
 have e:(B164f K).run v=x_p.b K v.1 v.2.1 v.2.2.1 (x_p.g0 K v.1 v.2.1 v.2.2.1 K):=by kernel_rfl
 rw [x_p.ok0] at e
 exact e.trans (by kernel_rfl)
noncomputable def B129 (K:Nat):Bd PP:=⟨⟨[va x_a6 0,vo (.sl (.i .u8)) 0],[ra x_c7 674,ro .b 0],[],u2 (x_cz K),false⟩,cn o51<|cg 165 (o164b K)<|cg 167 (o164d K)<|cg 169 (o164f K)<|cn (o171 K)<|cn (o172 K)<|cn (o35 K) tt,hn [22,4118,48,65622,65750,65750,65750,65750,65750,66006,1073807830,66006,66006,66518,66518,66518,66518,66006,151115727451828646838416,48,48],K,Tryz.f129,[.cell 4 37, .tmp 5]⟩
noncomputable def x_cz.g0 (K:Nat) (a0:x_e) (a1:y0) (n:Nat) (q0:Int) (v4:y111) (v5:y47) (q1:y0) (q2:y19) (q3:y24):Option y42:=
 lq (B129 K) (dirs 11 21582031) n ⟨[.dead,vl (.i .u8) 0 a1,vt 2 1 0, .dead,vt 4 1 0, .dead,vt 6 1 0,vt 7 1 0,vi q0]++dd 7++[vt 16 1 0]++dd 63,[none,none,bv x_a6 0 v4.2.2.1,none,bv x_c7 674 ([],[],[],0,[],[]),none,some (1,[.ptr 16 1 0]),bv x_c7 674 (v4.2.1.1,v4.2.1.2.1,v4.2.1.2.2.1,v5.1,q1,q2)]++dn 8++[bv x_cr 0 q3.1]++dn 65⟩
theorem x_cz.ok0 (K:Nat) (a0:x_e) (a1:y0):x_cz.g0 K a0 a1=x_cz.l0 K a0 a1:=
 funext (lpe6 (fun _ _ _ _ _ _=>by kernel_rfl) fun _ _ _ _ _ _ _=>by kernel_rfl)
theorem o129 (K:Nat):FOk PP 129 (B129 K).F:=bok mixed Tryz.func129 fun v=>by
 have e:(B129 K).run v=x_cz.b K v.1 v.2.1 (x_cz.g0 K v.1 v.2.1 K):=by kernel_rfl
 rw [x_cz.ok0] at e
 exact e.trans (by kernel_rfl)
noncomputable def B131:Bd PP:=⟨⟨[va eLog 9,vo (.i .i64) 0],[ra eLog 18],[],u2 x_ov,false⟩,cn o20<|cn o162 tt,hn [22,536870934,16,16],0,Tryz.f131,[.cell 4 30]⟩
theorem o131:FOk PP 131 B131.F:=bok mixed Tryz.func131
noncomputable def B86 (K:Nat):Bd PP:=⟨⟨[va x_a6 0,va x_il 81972,va x_js 81],[ra x_il 163944],[],u3 (x_fk K),false⟩,cn (o32 K)<|cn (o126 K)<|cn (o127 K)<|cn (o128 K)<|cn (o129 K)<|cn o130<|cn o131 tt,hn [120,1048696,64,248,67109112,3320,17592186045688,64,1272,576460752303424760,1240,216,295147905179419934968,216,75557863725914323419384,984,1237940039285380274899124696,216,79228162514264337593543950544,64,64],K,Tryz.f86,[.cell 6 39]⟩
theorem o86 (K:Nat):FOk PP 86 (B86 K).F:=bok mixed Tryz.func86
noncomputable def B46 (K:Nat):Bd PP:=⟨⟨[va x_a6 0,vo (.sl (.i .u8)) 0],[ra x_il 163944],[],u2 (x_dc K),false⟩,cn (o21 K)<|cn (o85 K)<|cn (o86 K) tt,hn [22,54,116,917620,1966196,918132,917620,917620,16],K,Tryz.f46,[.cell 4 39]⟩
noncomputable def x_dc.g0 (K:Nat) (a0:x_e) (a1:y0) (n:Nat) (v2:y84) (q0:Int) (q1:y18):Option y18:=
 lq (B46 K) (dirs 6 6906) n ⟨[.dead, .dead,vt 2 1 0, .dead,vt 4 1 0,vt 5 1 0,vl x_js 2 v2.1]++dd 10++[.one (.ref ⟨false,6,0⟩ 0),vi (v2.1.length:Int),vi q0]++dd 9,[none,none,bv x_a6 0 a0,none,bv x_il 163944 (0,0,(0,0,[]),[],[],[],0,[],[]),bv x_il 163944 q1.1]++dn 25⟩
theorem x_dc.ok0 (K:Nat) (a0:x_e) (a1:y0):x_dc.g0 K a0 a1=x_dc.l0 K a0 a1:=
 funext (lpe3 (fun _ _ _=>by kernel_rfl) fun _ _ _ _=>by kernel_rfl)
theorem o46 (K:Nat):FOk PP 46 (B46 K).F:=bok mixed Tryz.func46 fun v=>by
 have e:(B46 K).run v=x_dc.b K v.1 v.2.1 (x_dc.g0 K v.1 v.2.1 K):=by kernel_rfl
 rw [x_dc.ok0] at e
 exact e.trans (by kernel_rfl)
end Go.Proofs.YtoiamgohjmjbiaaGreat.Pe
