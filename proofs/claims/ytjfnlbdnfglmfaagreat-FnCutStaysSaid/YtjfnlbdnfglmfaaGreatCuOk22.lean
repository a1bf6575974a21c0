/- The functions compute what is told of them. -/
import Derived.Test.YtjfnlbdnfglmfaaGreatCuOk21
set_option linter.all false
set_option maxRecDepth 100000
namespace Go.Proofs.YtjfnlbdnfglmfaaGreat.Cu
open Go Go.Kn
noncomputable def B206e (K:Nat):Bd PP:=⟨⟨[vp x_dn 0,vp x_bh 78, .via 0],[],[.one, .fn 276 2],u2 (x_f K),false⟩,sf 1<|cn (o213 K)<|cn (o276 K) tt,hn [23,55,131127,55,55],K,Tryz.f206,[]⟩
noncomputable def x_f.g0 (K:Nat) (a0:x_h) (a1:x_ar) (n:Nat) (v1:y50) (q0:Int) (q1:y26) (q2:x_ar):Option y79:=
 lq (B206e K) (dirs 3 56) n ⟨[vt 0 0 0, .fn 276 [.one (.ptr 1 0 0), .one (.ptr 2 0 0)], .dead, .dead,vi v1.1,vi q0]++dd 16,[some (0,[.val .f (.sl (.i .u8)) q1.1.1, .val .f (.i .i64) q1.1.2.1, .val .f .b q1.1.2.2]),some (0,[.val .f (.i .i64) q2.1, .val (.x 0) (.sl (.i .i64)) q2.2.1, .val (.x 0) (.sl (.i .i64)) q2.2.2.1, .val (.x 0) (.sl (.i .i64)) q2.2.2.2]),some (0,[.ptr 0 0 0])]++dn 22⟩
theorem x_f.ok0 (K:Nat) (a0:x_h) (a1:x_ar):x_f.g0 K a0 a1=x_f.l0 K a0 a1:=
 funext (lpe4 (fun _ _ _ _=>by kernel_rfl) fun _ _ _ _ _=>by kernel_rfl)
theorem o206e (K:Nat):FOk PP 206 (B206e K).F:=bok mixed Tryz.func206 fun v=>by
 have e:(B206e K).run v=x_f.b K v.1 v.2.1 (x_f.g0 K v.1 v.2.1 K):=by kernel_rfl
 rw [x_f.ok0] at e
 exact e.trans (by kernel_rfl)
noncomputable def B212 (K:Nat):Bd PP:=⟨⟨[vp x_dn 0,vo (.i .i64) 0],[ra x_bh 78],[],u2 (x_aq K),false⟩,cn (o213 K)<|cg 276 (o206e K) tt,hn [23,55,55,119,32887,119,119,17],K,Tryz.f212,[.cell 4 121]⟩
noncomputable def x_aq.g0 (K:Nat) (a0:x_h) (a1:Int) (n:Nat) (q0:Int) (q1:x_h) (v2:y79) (q2:y0):Option y75:=
 lq (B212 K) (dirs 6 6906) n ⟨[vt 0 0 0,vi a1,vt 2 1 0, .dead,vt 4 1 0,vt 5 1 0,vi q0]++dd 19,[some (0,[.val .f (.sl (.i .u8)) q1.1, .val .f (.i .i64) q1.2.1, .val .f .b q1.2.2]),none,some (1,[.ptr 0 0 0]),none,bv x_bh 78 (0,[],[],[]),bv x_bh 78 (v2.2.1.1,v2.2.1.2.1,v2.2.1.2.2.1,q2)]++dn 22⟩
theorem x_aq.ok0 (K:Nat) (a0:x_h) (a1:Int):x_aq.g0 K a0 a1=x_aq.l0 K a0 a1:=
 funext (lpe4 (fun _ _ _ _=>by kernel_rfl) fun _ _ _ _ _=>by kernel_rfl)
theorem o212 (K:Nat):FOk PP 212 (B212 K).F:=bok mixed Tryz.func212 fun v=>by
 have e:(B212 K).run v=x_aq.b K v.1 v.2.1 (x_aq.g0 K v.1 v.2.1 K):=by kernel_rfl
 rw [x_aq.ok0] at e
 exact e.trans (by kernel_rfl)
noncomputable def B211 (K:Nat):Bd PP:=⟨⟨[vp x_dg 674, .via 3,vp x_bt 0,vp x_dn 0],[],[.one, .one, .one, .gh 1],u3 (x_oz K),false⟩,sf 1<|cn (o212 K) tt,hn [15],K,Tryz.f211,[]⟩
theorem o211 (K:Nat):FOk PP 211 (B211 K).F:=bok mixed Tryz.func211
noncomputable def B206f (K:Nat):Bd PP:=⟨⟨[vp x_dn 0,vp x_dg 674, .via 0,vp x_bt 0],[],[.one, .fn 211 3],u3 (x_p K),false⟩,sf 2<|cn (o213 K)<|cn (o211 K) tt,hn [31,63,131135,63,63],K,Tryz.f206,[]⟩
noncomputable def x_p.g0 (K:Nat) (a0:x_h) (a1:x_ai) (a3:x_d) (n:Nat) (v1:y50) (q0:Int) (q1:y26) (q2:x_ai) (q3:x_d):Option y115:=
 lq (B206f K) (dirs 3 56) n ⟨[vt 0 0 0, .fn 211 [.one (.ptr 1 0 0), .one (.ptr 2 0 0), .one (.ptr 3 0 0)], .dead, .dead,vi v1.1,vi q0]++dd 16,[some (0,[.val .f (.sl (.i .u8)) q1.1.1, .val .f (.i .i64) q1.1.2.1, .val .f .b q1.1.2.2]),some (0,[.val (.x 0) (.sl eRow) q2.1, .val (.x 0) (.sl x_bs) q2.2.1, .val (.x 0) (.sl x_bh) q2.2.2.1, .val .f (.i .i64) q2.2.2.2.1, .val (.x 0) (.sl (.i .i64)) q2.2.2.2.2.1, .val (.x 0) (.sl x_bz) q2.2.2.2.2.2]),some (0,[.ptr 0 0 0]),some (0,[.val .f (.i .i64) q3.1, .val .f (.i .i64) q3.2.1, .val .f (.i .i64) q3.2.2.1, .val .f (.i .i64) q3.2.2.2])]++dn 22⟩
theorem x_p.ok0 (K:Nat) (a0:x_h) (a1:x_ai) (a3:x_d):x_p.g0 K a0 a1 a3=x_p.l0 K a0 a1 a3:=
 funext (lpe5 (fun _ _ _ _ _=>by kernel_rfl) fun _ _ _ _ _ _=>by kernel_rfl)
theorem o206f (K:Nat):FOk PP 206 (B206f K).F:=bok mixed Tryz.func206 fun v=>by
 have e:(B206f K).run v=x_p.b K v.1 v.2.1 v.2.2.1 (x_p.g0 K v.1 v.2.1 v.2.2.1 K):=by kernel_rfl
 rw [x_p.ok0] at e
 exact e.trans (by kernel_rfl)
noncomputable def B143 (K:Nat):Bd PP:=⟨⟨[va x_bt 0,vo (.sl (.i .u8)) 0],[ra x_dg 674,ro .b 0],[],u2 (x_dr K),false⟩,cn o39<|cg 207 (o206b K)<|cg 209 (o206d K)<|cg 211 (o206f K)<|cn (o213 K)<|cn (o214 K)<|cn (o89 K) tt,hn [22,4118,48,65622,65750,65750,65750,65750,65750,66006,1073807830,66006,66006,66518,66518,66518,66518,66006,151115727451828646838416,48,48],K,Tryz.f143,[.cell 4 51, .tmp 5]⟩
noncomputable def x_dr.g0 (K:Nat) (a0:x_d) (a1:y0) (n:Nat) (q0:Int) (v4:y115) (v5:y50) (q1:y0) (q2:y21) (q3:y26):Option y43:=
 lq (B143 K) (dirs 11 21582031) n ⟨[.dead,vl (.i .u8) 0 a1,vt 2 1 0, .dead,vt 4 1 0, .dead,vt 6 1 0,vt 7 1 0,vi q0]++dd 7++[vt 16 1 0]++dd 63,[none,none,bv x_bt 0 v4.2.2.1,none,bv x_dg 674 ([],[],[],0,[],[]),none,some (1,[.ptr 16 1 0]),bv x_dg 674 (v4.2.1.1,v4.2.1.2.1,v4.2.1.2.2.1,v5.1,q1,q2)]++dn 8++[bv x_dn 0 q3.1]++dn 65⟩
theorem x_dr.ok0 (K:Nat) (a0:x_d) (a1:y0):x_dr.g0 K a0 a1=x_dr.l0 K a0 a1:=
 funext (lpe6 (fun _ _ _ _ _ _=>by kernel_rfl) fun _ _ _ _ _ _ _=>by kernel_rfl)
theorem o143 (K:Nat):FOk PP 143 (B143 K).F:=bok mixed Tryz.func143 fun v=>by
 have e:(B143 K).run v=x_dr.b K v.1 v.2.1 (x_dr.g0 K v.1 v.2.1 K):=by kernel_rfl
 rw [x_dr.ok0] at e
 exact e.trans (by kernel_rfl)
noncomputable def B75 (K:Nat):Bd PP:=⟨⟨[va x_bt 0,va x_it 81972,va x_ld 81],[ra x_it 163944],[],u3 (x_gt K),false⟩,cn (o87 K)<|cn (o140 K)<|cn (o141 K)<|cn (o142 K)<|cn (o143 K)<|cn o144<|cn o145 tt,hn [120,1048696,64,248,67109112,3320,17592186045688,64,1272,576460752303424760,1240,216,295147905179419934968,216,75557863725914323419384,984,1237940039285380274899124696,216,79228162514264337593543950544,64,64],K,Tryz.f75,[.cell 6 53]⟩
theorem o75 (K:Nat):FOk PP 75 (B75 K).F:=bok mixed Tryz.func75
noncomputable def B28 (K:Nat):Bd PP:=⟨⟨[va x_bt 0,vo (.sl (.i .u8)) 0],[ra x_it 163944],[],u2 (x_d4 K),false⟩,cn (o73 K)<|cn (o74 K)<|cn (o75 K) tt,hn [22,54,116,917620,1966196,918132,917620,917620,16],K,Tryz.f28,[.cell 4 53]⟩
noncomputable def x_d4.g0 (K:Nat) (a0:x_d) (a1:y0) (n:Nat) (v2:y87) (q0:Int) (q1:y19):Option y19:=
 lq (B28 K) (dirs 6 6906) n ⟨[.dead, .dead,vt 2 1 0, .dead,vt 4 1 0,vt 5 1 0,vl x_ld 2 v2.1]++dd 10++[.one (.ref ⟨false,6,0⟩ 0),vi (v2.1.length:Int),vi q0]++dd 9,[none,none,bv x_bt 0 a0,none,bv x_it 163944 (0,0,(0,0,[]),[],[],[],0,[],[]),bv x_it 163944 q1.1]++dn 25⟩
theorem x_d4.ok0 (K:Nat) (a0:x_d) (a1:y0):x_d4.g0 K a0 a1=x_d4.l0 K a0 a1:=
 funext (lpe3 (fun _ _ _=>by kernel_rfl) fun _ _ _ _=>by kernel_rfl)
theorem o28 (K:Nat):FOk PP 28 (B28 K).F:=bok mixed Tryz.func28 fun v=>by
 have e:(B28 K).run v=x_d4.b K v.1 v.2.1 (x_d4.g0 K v.1 v.2.1 K):=by kernel_rfl
 rw [x_d4.ok0] at e
 exact e.trans (by kernel_rfl)
noncomputable def B127 (K:Nat):Bd PP:=⟨⟨[vo (.sl x_dp) 1,vo (.sl x_dp) 1],[ro .b 0],[],u2 (x_dz K),false⟩,tt,hn [3,1027,16,12291,28675,12323,16789507,16,12291,16],K,Tryz.f127,[.tmp 4]⟩
noncomputable def x_dz.g0 (K:Nat) (a0:y14) (a1:y14) (n:Nat) (q0:Int):Option y11:=
 lq (B127 K) (dirs 5 1381) n ⟨[vl x_dp 1 a0,vl x_dp 1 a1]++dd 10++[vi (a0.length:Int),vi q0]++dd 12,dn 28⟩
theorem x_dz.ok0 (K:Nat) (a0:y14) (a1:y14):x_dz.g0 K a0 a1=x_dz.l0 K a0 a1:=
 funext (lpe1 (fun _=>by kernel_rfl) fun _ _=>by kernel_rfl)
theorem o127 (K:Nat):FOk PP 127 (B127 K).F:=bok mixed Tryz.func127 fun v=>by
 have e:(B127 K).run v=x_dz.b K v.1 v.2.1 (x_dz.g0 K v.1 v.2.1 K):=by kernel_rfl
 rw [x_dz.ok0] at e
 exact e.trans (by kernel_rfl)
noncomputable def B71 (K:Nat):Bd PP:=⟨⟨[va eLog 9,va eLog 9],[ro .b 0],[],u2 (x_ne K),false⟩,cn (o127 K) tt,hn [12,16],K,Tryz.f71,[.tmp 4]⟩
theorem o71 (K:Nat):FOk PP 71 (B71 K).F:=bok mixed Tryz.func71
noncomputable def B130 (K:Nat):Bd PP:=⟨⟨[vo (.sl x_sl) 1,vo (.sl x_sl) 1],[ro .b 0],[],u2 (x_c4 K),false⟩,tt,hn [3,1027,16,12291,28675,12323,16789507,16,12291,16],K,Tryz.f130,[.tmp 4]⟩
noncomputable def x_c4.g0 (K:Nat) (a0:y8) (a1:y8) (n:Nat) (q0:Int):Option y11:=
 lq (B130 K) (dirs 5 1381) n ⟨[vl x_sl 1 a0,vl x_sl 1 a1]++dd 10++[vi (a0.length:Int),vi q0]++dd 12,dn 28⟩
theorem x_c4.ok0 (K:Nat) (a0:y8) (a1:y8):x_c4.g0 K a0 a1=x_c4.l0 K a0 a1:=
 funext (lpe1 (fun _=>by kernel_rfl) fun _ _=>by kernel_rfl)
theorem o130 (K:Nat):FOk PP 130 (B130 K).F:=bok mixed Tryz.func130 fun v=>by
 have e:(B130 K).run v=x_c4.b K v.1 v.2.1 (x_c4.g0 K v.1 v.2.1 K):=by kernel_rfl
 rw [x_c4.ok0] at e
 exact e.trans (by kernel_rfl)
noncomputable def B129 (K:Nat):Bd PP:=⟨⟨[va eRow 9,va eRow 9],[ro .b 0],[],u2 (x_h0 K),false⟩,cn (o130 K) tt,hn [12,16],K,Tryz.f129,[.tmp 4]⟩
theorem o129 (K:Nat):FOk PP 129 (B129 K).F:=bok mixed Tryz.func129
end Go.Proofs.YtjfnlbdnfglmfaaGreat.Cu
