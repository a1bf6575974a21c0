/- The functions compute what is told of them. -/
import Derived.Test.YtoiamgohjmjbiaaGreatPeOk5
set_option linter.all false
set_option maxRecDepth 100000
namespace Go.Proofs.YtoiamgohjmjbiaaGreat.Pe
open Go Go.Kn
noncomputable def B230 (K:Nat):Bd PP:=⟨⟨[vp x_cr 0],[ra eRow 18],[],u1 (x_c6 K),false⟩,cn (o207 K)<|cn (o209 K) tt,hn [5,13,13,13,29,61,16777277,61,125,125,125,125,125,125,61,5],K,Tryz.f230,[.cell 2 111]⟩
noncomputable def x_c6.g0 (K:Nat) (a0:x_g) (n:Nat) (v3:y47) (q0:Int) (q1:y47) (v1:y47) (v2:y47) (q2:y8):Option y51:=
 lq (B230 K) (dirs 8 172656) n ⟨[vt 0 0 0, .dead,vt 2 1 0,vt 3 1 0,vi v3.1,vi q0]++dd 44,[some (0,[.val .f (.sl (.i .u8)) q1.2.1.1, .val .f (.i .i64) q1.2.1.2.1, .val .f .b q1.2.1.2.2]),none,bv eRow 18 (0,0,[]),bv eRow 18 (v1.1,v2.1,q2)]++dn 47⟩
theorem x_c6.ok0 (K:Nat) (a0:x_g):x_c6.g0 K a0=x_c6.l0 K a0:=
 funext (lpe6 (fun _ _ _ _ _ _=>by kernel_rfl) fun _ _ _ _ _ _ _=>by kernel_rfl)
theorem o230 (K:Nat):FOk PP 230 (B230 K).F:=bok mixed Tryz.func230 fun v=>by
 have e:(B230 K).run v=x_c6.b K v.1 (x_c6.g0 K v.1 K):=by kernel_rfl
 rw [x_c6.ok0] at e
 exact e.trans (by kernel_rfl)
noncomputable def B231 (K:Nat):Bd PP:=⟨⟨[vp x_cr 0],[ra x_bf 162],[],u1 (x_a9 K),false⟩,cn (o207 K) tt,hn [5,13,13,13,13,13,29,61,2147483709,61,125,125,125,61,5],K,Tryz.f231,[.cell 2 106]⟩
noncomputable def x_a9.g0 (K:Nat) (a0:x_g) (n:Nat) (v5:y47) (q0:Int) (q1:y47) (v1:y47) (v2:y47) (v3:y47) (v4:y47) (q2:y9):Option y71:=
 lq (B231 K) (dirs 10 4316406) n ⟨[vt 0 0 0, .dead,vt 2 1 0,vt 3 1 0,vi v5.1,vi q0]++dd 42,[some (0,[.val .f (.sl (.i .u8)) q1.2.1.1, .val .f (.i .i64) q1.2.1.2.1, .val .f .b q1.2.1.2.2]),none,bv x_bf 162 (0,0,0,0,[]),bv x_bf 162 (v1.1,v2.1,v3.1,i6 (v4.1-1),q2)]++dn 45⟩
theorem x_a9.ok0 (K:Nat) (a0:x_g):x_a9.g0 K a0=x_a9.l0 K a0:=
 funext (lpe8 (fun _ _ _ _ _ _ _ _=>by kernel_rfl) fun _ _ _ _ _ _ _ _ _=>by kernel_rfl)
theorem o231 (K:Nat):FOk PP 231 (B231 K).F:=bok mixed Tryz.func231 fun v=>by
 have e:(B231 K).run v=x_a9.b K v.1 (x_a9.g0 K v.1 K):=by kernel_rfl
 rw [x_a9.ok0] at e
 exact e.trans (by kernel_rfl)
noncomputable def B232 (K:Nat):Bd PP:=⟨⟨[vp x_cr 0,vo (.i .i64) 0],[ra x_a2 78],[],u2 (x_1 K),false⟩,cn (o207 K) tt,hn [19,51,51,115,243,67109107,243,499,1011,755,243,1075,140737488356403,1075,3123,1075,17],K,Tryz.f232,[.cell 4 88]⟩
noncomputable def x_1.g0 (K:Nat) (a0:x_g) (a1:Int) (n:Nat) (v2:y47) (q0:Int) (q1:y47) (v1:y47) (q2:y0) (q3:y0):Option y72:=
 lq (B232 K) (dirs 7 34531) n ⟨[vt 0 0 0,vi a1, .dead, .dead,vt 4 1 0,vt 5 1 0,vi v2.1,vi q0]++dd 51,[some (0,[.val .f (.sl (.i .u8)) q1.2.1.1, .val .f (.i .i64) q1.2.1.2.1, .val .f .b q1.2.1.2.2])]++dn 3++[bv x_a2 78 (0,[],[],[]),bv x_a2 78 (v1.1,q2,q3,[])]++dn 55⟩
noncomputable def x_1.g1 (K:Nat) (a0:x_g) (a1:Int) (n:Nat) (q7:Int) (q8:y47) (v1:y47) (q2:y0) (q3:y0) (q9:y0):Option y72:=
 lq (B232 K) (dirs 8 172656) n ⟨[vt 0 0 0,vi a1, .dead, .dead,vt 4 1 0,vt 5 1 0]++dd 4++[vi q7]++dd 48,[some (0,[.val .f (.sl (.i .u8)) q8.2.1.1, .val .f (.i .i64) q8.2.1.2.1, .val .f .b q8.2.1.2.2])]++dn 3++[bv x_a2 78 (0,[],[],[]),bv x_a2 78 (v1.1,q2,q3,q9)]++dn 55⟩
theorem x_1.ok1 (K:Nat) (a0:x_g) (a1:Int):x_1.g1 K a0 a1=x_1.l1 K a0 a1:=
 funext (lpe6 (fun _ _ _ _ _ _=>by kernel_rfl) fun _ _ _ _ _ _ _=>by kernel_rfl)
theorem x_1.ok0 (K:Nat) (a0:x_g) (a1:Int):x_1.g0 K a0 a1=x_1.l0 K a0 a1:=
 funext (lpe6 (fun _ _ _ _ _ _=>by kernel_rfl) fun n v2 q0 q1 v1 q2 q3=>(show x_1.g0 K a0 a1 (n+1) v2 q0 q1 v1 q2 q3=x_1.l0b K a0 a1 (x_1.g0 K a0 a1 n) (x_1.g1 K a0 a1 K) v2 q0 q1 v1 q2 q3 by kernel_rfl).trans (by rw [x_1.ok1]<;>rfl))
theorem o232 (K:Nat):FOk PP 232 (B232 K).F:=bok mixed Tryz.func232 fun v=>by
 have e:(B232 K).run v=x_1.b K v.1 v.2.1 (x_1.g0 K v.1 v.2.1 K):=by kernel_rfl
 rw [x_1.ok0] at e
 exact e.trans (by kernel_rfl)
noncomputable def B210 (K:Nat):Bd PP:=⟨⟨[vp x_cr 0,vo (.i .i64) 0],[ra x_c7 674],[],u2 (x_h K),false⟩,cn (o207 K)<|cn (o230 K)<|cn (o231 K)<|cn (o232 K)<|cn (o209 K) tt,hn [19,51,115,243,134217971,243,499,243,115,627,281474976711283,627,1651,627,115,2163,590295810358705653875,2163,6259,2163,49,8241,38685626227668133590605873,8241,24625,57393,57393,57393,57393,57393,41009,8241,17],K,Tryz.f210,[.cell 4 37]⟩
noncomputable def x_h.g0 (K:Nat) (a0:x_g) (a1:Int) (n:Nat) (v1:y47) (q0:Int) (q1:y24) (q2:y3):Option y58:=
 lq (B210 K) (dirs 6 6906) n ⟨[vt 0 0 0,vi a1, .dead, .dead,vt 4 1 0,vt 5 1 0,vi v1.1,vi q0]++dd 109,[some (0,[.val .f (.sl (.i .u8)) q1.1.1, .val .f (.i .i64) q1.1.2.1, .val .f .b q1.1.2.2])]++dn 3++[bv x_c7 674 ([],[],[],0,[],[]),bv x_c7 674 (q2,[],[],0,[],[])]++dn 113⟩
noncomputable def x_h.g1 (K:Nat) (a0:x_g) (a1:Int) (n:Nat) (v3:y47) (q28:Int) (q29:y24) (q2:y3) (q30:y14):Option y58:=
 lq (B210 K) (dirs 8 172656) n ⟨[vt 0 0 0,vi a1, .dead, .dead,vt 4 1 0,vt 5 1 0,vi v3.1, .dead, .dead,vi q28]++dd 107,[some (0,[.val .f (.sl (.i .u8)) q29.1.1, .val .f (.i .i64) q29.1.2.1, .val .f .b q29.1.2.2])]++dn 3++[bv x_c7 674 ([],[],[],0,[],[]),bv x_c7 674 (q2,q30,[],0,[],[])]++dn 113⟩
noncomputable def x_h.g2 (K:Nat) (a0:x_g) (a1:Int) (n:Nat) (v5:y47) (q42:Int) (q43:y24) (q2:y3) (q30:y14) (q44:y12):Option y58:=
 lq (B210 K) (dirs 10 4316406) n ⟨[vt 0 0 0,vi a1, .dead, .dead,vt 4 1 0,vt 5 1 0,vi v5.1]++dd 4++[vi q42]++dd 105,[some (0,[.val .f (.sl (.i .u8)) q43.1.1, .val .f (.i .i64) q43.1.2.1, .val .f .b q43.1.2.2])]++dn 3++[bv x_c7 674 ([],[],[],0,[],[]),bv x_c7 674 (q2,q30,q44,0,[],[])]++dn 113⟩
noncomputable def x_h.g3 (K:Nat) (a0:x_g) (a1:Int) (n:Nat) (q49:Int) (q50:y24) (q2:y3) (q30:y14) (q44:y12) (v7:y47) (q51:y0) (q52:y19):Option y58:=
 lq (B210 K) (dirs 12 107910156) n ⟨[vt 0 0 0]++dd 3++[vt 4 1 0,vt 5 1 0]++dd 7++[vi q49]++dd 103,[some (0,[.val .f (.sl (.i .u8)) q50.1.1, .val .f (.i .i64) q50.1.2.1, .val .f .b q50.1.2.2])]++dn 3++[bv x_c7 674 ([],[],[],0,[],[]),bv x_c7 674 (q2,q30,q44,v7.1,q51,q52)]++dn 113⟩
theorem x_h.ok3 (K:Nat) (a0:x_g) (a1:Int):x_h.g3 K a0 a1=x_h.l3 K a0 a1:=
 funext (lpe8 (fun _ _ _ _ _ _ _ _=>by kernel_rfl) fun _ _ _ _ _ _ _ _ _=>by kernel_rfl)
theorem x_h.ok2 (K:Nat) (a0:x_g) (a1:Int):x_h.g2 K a0 a1=x_h.l2 K a0 a1:=
 funext (lpe6 (fun _ _ _ _ _ _=>by kernel_rfl) fun n v5 q42 q43 q2 q30 q44=>(show x_h.g2 K a0 a1 (n+1) v5 q42 q43 q2 q30 q44=x_h.l2b K a0 a1 (x_h.g2 K a0 a1 n) (x_h.g3 K a0 a1 K) v5 q42 q43 q2 q30 q44 by kernel_rfl).trans (by rw [x_h.ok3]<;>rfl))
theorem x_h.ok1 (K:Nat) (a0:x_g) (a1:Int):x_h.g1 K a0 a1=x_h.l1 K a0 a1:=
 funext (lpe5 (fun _ _ _ _ _=>by kernel_rfl) fun n v3 q28 q29 q2 q30=>(show x_h.g1 K a0 a1 (n+1) v3 q28 q29 q2 q30=x_h.l1b K a0 a1 (x_h.g1 K a0 a1 n) (x_h.g2 K a0 a1 K) v3 q28 q29 q2 q30 by kernel_rfl).trans (by rw [x_h.ok2]<;>rfl))
theorem x_h.ok0 (K:Nat) (a0:x_g) (a1:Int):x_h.g0 K a0 a1=x_h.l0 K a0 a1:=
 funext (lpe4 (fun _ _ _ _=>by kernel_rfl) fun n v1 q0 q1 q2=>(show x_h.g0 K a0 a1 (n+1) v1 q0 q1 q2=x_h.l0b K a0 a1 (x_h.g0 K a0 a1 n) (x_h.g1 K a0 a1 K) v1 q0 q1 q2 by kernel_rfl).trans (by rw [x_h.ok1]<;>rfl))
theorem o210 (K:Nat):FOk PP 210 (B210 K).F:=bok mixed Tryz.func210 fun v=>by
 have e:(B210 K).run v=x_h.b K v.1 v.2.1 (x_h.g0 K v.1 v.2.1 K):=by kernel_rfl
 rw [x_h.ok0] at e
 exact e.trans (by kernel_rfl)
noncomputable def B177 (K:Nat):Bd PP:=⟨⟨[va x_a6 0,vo (.sl (.i .u8)) 0],[ra x_c7 674,ro .b 0],[],u2 (x_ix K),false⟩,cn o24<|cn (o210 K)<|cn (o43 K) tt,hn [22,1046,48,16470,16598,274877907088,48,48],K,Tryz.f177,[.cell 4 37, .tmp 5]⟩
theorem o177 (K:Nat):FOk PP 177 (B177 K).F:=bok mixed Tryz.func177
noncomputable def B179:Bd PP:=⟨⟨[va eLog 9,vo (.i .i64) 0],[ra eLog 18],[],u2 x_m3,false⟩,cn o139<|cn o211 tt,hn [22,54,118,8310,16,16],0,Tryz.f179,[.cell 4 30]⟩
theorem o179:FOk PP 179 B179.F:=bok mixed Tryz.func179
noncomputable def B134 (K:Nat):Bd PP:=⟨⟨[va x_a6 0,va x_il 163944,va x_js 81],[ra x_il 163944],[],u3 (x_n2 K),false⟩,cn (o176 K)<|cn (o177 K)<|cn o178<|cn o179 tt,hn [120,4216,12408,112,80,2101368,464,34359738576,80,274877907064,1648,144115188075856496,64,73786976294838207088,592,592,80,64],K,Tryz.f134,[.cell 6 39]⟩
theorem o134 (K:Nat):FOk PP 134 (B134 K).F:=bok mixed Tryz.func134
noncomputable def B90 (K:Nat):Bd PP:=⟨⟨[va x_a6 0,va x_il 81972,va x_js 81],[ra x_il 163944],[],u3 (x_fa K),false⟩,cn (o40 K)<|cn (o133 K)<|cn (o92 K)<|cn (o134 K) tt,hn [120,65656,64,216,134217936,64,64],K,Tryz.f90,[.cell 6 39]⟩
theorem o90 (K:Nat):FOk PP 90 (B90 K).F:=bok mixed Tryz.func90
noncomputable def B258 (K:Nat):Bd PP:=⟨⟨[va x_a6 0,va x_gj 984972995316,va x_js 81],[ra x_gj 1969945990632,ro .b 0],[],u3 (x_gq K),false⟩,cn (o55 K)<|cn (o152 K)<|cn o275<|cn (o90 K)<|cn (o133 K)<|cn (o12 K) tt,hn [120,376,1912,1912,1400,17592186044752,192,192],K,Tryz.f258,[.cell 6 45, .tmp 7]⟩
theorem o258 (K:Nat):FOk PP 258 (B258 K).F:=bok mixed Tryz.func258
end Go.Proofs.YtoiamgohjmjbiaaGreat.Pe
