/- The functions compute what is told of them. -/
import Derived.Test.YtjfnlbdnfglmfaaGreatCuOk3
set_option linter.all false
set_option maxRecDepth 100000
namespace Go.Proofs.YtjfnlbdnfglmfaaGreat.Cu
open Go Go.Kn
noncomputable def B344 (K:Nat):Bd PP:=⟨⟨[vp x_dn 0,vo (.i .i64) 0],[ra x_bh 78],[],u2 (x_ab K),false⟩,cn (o341 K) tt,hn [19,51,51,115,243,67109107,243,499,1011,755,243,1075,140737488356403,1075,3123,1075,17],K,Tryz.f344,[.cell 4 121]⟩
noncomputable def x_ab.g0 (K:Nat) (a0:x_h) (a1:Int) (n:Nat) (v2:y50) (q0:Int) (q1:y50) (v1:y50) (q2:y0) (q3:y0):Option y75:=
 lq (B344 K) (dirs 7 34531) n ⟨[vt 0 0 0,vi a1, .dead, .dead,vt 4 1 0,vt 5 1 0,vi v2.1,vi q0]++dd 51,[some (0,[.val .f (.sl (.i .u8)) q1.2.1.1, .val .f (.i .i64) q1.2.1.2.1, .val .f .b q1.2.1.2.2])]++dn 3++[bv x_bh 78 (0,[],[],[]),bv x_bh 78 (v1.1,q2,q3,[])]++dn 55⟩
noncomputable def x_ab.g1 (K:Nat) (a0:x_h) (a1:Int) (n:Nat) (q7:Int) (q8:y50) (v1:y50) (q2:y0) (q3:y0) (q9:y0):Option y75:=
 lq (B344 K) (dirs 8 172656) n ⟨[vt 0 0 0,vi a1, .dead, .dead,vt 4 1 0,vt 5 1 0]++dd 4++[vi q7]++dd 48,[some (0,[.val .f (.sl (.i .u8)) q8.2.1.1, .val .f (.i .i64) q8.2.1.2.1, .val .f .b q8.2.1.2.2])]++dn 3++[bv x_bh 78 (0,[],[],[]),bv x_bh 78 (v1.1,q2,q3,q9)]++dn 55⟩
theorem x_ab.ok1 (K:Nat) (a0:x_h) (a1:Int):x_ab.g1 K a0 a1=x_ab.l1 K a0 a1:=
 funext (lpe6 (fun _ _ _ _ _ _=>by kernel_rfl) fun _ _ _ _ _ _ _=>by kernel_rfl)
theorem x_ab.ok0 (K:Nat) (a0:x_h) (a1:Int):x_ab.g0 K a0 a1=x_ab.l0 K a0 a1:=
 funext (lpe6 (fun _ _ _ _ _ _=>by kernel_rfl) fun n v2 q0 q1 v1 q2 q3=>(show x_ab.g0 K a0 a1 (n+1) v2 q0 q1 v1 q2 q3=x_ab.l0b K a0 a1 (x_ab.g0 K a0 a1 n) (x_ab.g1 K a0 a1 K) v2 q0 q1 v1 q2 q3 by kernel_rfl).trans (by rw [x_ab.ok1]<;>rfl))
theorem o344 (K:Nat):FOk PP 344 (B344 K).F:=bok mixed Tryz.func344 fun v=>by
 have e:(B344 K).run v=x_ab.b K v.1 v.2.1 (x_ab.g0 K v.1 v.2.1 K):=by kernel_rfl
 rw [x_ab.ok0] at e
 exact e.trans (by kernel_rfl)
noncomputable def B326 (K:Nat):Bd PP:=⟨⟨[vp x_dn 0,vo (.i .i64) 0],[ra x_dg 674],[],u2 (x_j K),false⟩,cn (o341 K)<|cn (o342 K)<|cn (o343 K)<|cn (o344 K)<|cn (o345 K) tt,hn [19,51,115,243,134217971,243,499,243,115,627,281474976711283,627,1651,627,115,2163,590295810358705653875,2163,6259,2163,49,8241,38685626227668133590605873,8241,24625,57393,57393,57393,57393,57393,41009,8241,17],K,Tryz.f326,[.cell 4 51]⟩
noncomputable def x_j.g0 (K:Nat) (a0:x_h) (a1:Int) (n:Nat) (v1:y50) (q0:Int) (q1:y26) (q2:y4):Option y60:=
 lq (B326 K) (dirs 6 6906) n ⟨[vt 0 0 0,vi a1, .dead, .dead,vt 4 1 0,vt 5 1 0,vi v1.1,vi q0]++dd 109,[some (0,[.val .f (.sl (.i .u8)) q1.1.1, .val .f (.i .i64) q1.1.2.1, .val .f .b q1.1.2.2])]++dn 3++[bv x_dg 674 ([],[],[],0,[],[]),bv x_dg 674 (q2,[],[],0,[],[])]++dn 113⟩
noncomputable def x_j.g1 (K:Nat) (a0:x_h) (a1:Int) (n:Nat) (v3:y50) (q28:Int) (q29:y26) (q2:y4) (q30:y13):Option y60:=
 lq (B326 K) (dirs 8 172656) n ⟨[vt 0 0 0,vi a1, .dead, .dead,vt 4 1 0,vt 5 1 0,vi v3.1, .dead, .dead,vi q28]++dd 107,[some (0,[.val .f (.sl (.i .u8)) q29.1.1, .val .f (.i .i64) q29.1.2.1, .val .f .b q29.1.2.2])]++dn 3++[bv x_dg 674 ([],[],[],0,[],[]),bv x_dg 674 (q2,q30,[],0,[],[])]++dn 113⟩
noncomputable def x_j.g2 (K:Nat) (a0:x_h) (a1:Int) (n:Nat) (v5:y50) (q42:Int) (q43:y26) (q2:y4) (q30:y13) (q44:y12):Option y60:=
 lq (B326 K) (dirs 10 4316406) n ⟨[vt 0 0 0,vi a1, .dead, .dead,vt 4 1 0,vt 5 1 0,vi v5.1]++dd 4++[vi q42]++dd 105,[some (0,[.val .f (.sl (.i .u8)) q43.1.1, .val .f (.i .i64) q43.1.2.1, .val .f .b q43.1.2.2])]++dn 3++[bv x_dg 674 ([],[],[],0,[],[]),bv x_dg 674 (q2,q30,q44,0,[],[])]++dn 113⟩
noncomputable def x_j.g3 (K:Nat) (a0:x_h) (a1:Int) (n:Nat) (q49:Int) (q50:y26) (q2:y4) (q30:y13) (q44:y12) (v7:y50) (q51:y0) (q52:y21):Option y60:=
 lq (B326 K) (dirs 12 107910156) n ⟨[vt 0 0 0]++dd 3++[vt 4 1 0,vt 5 1 0]++dd 7++[vi q49]++dd 103,[some (0,[.val .f (.sl (.i .u8)) q50.1.1, .val .f (.i .i64) q50.1.2.1, .val .f .b q50.1.2.2])]++dn 3++[bv x_dg 674 ([],[],[],0,[],[]),bv x_dg 674 (q2,q30,q44,v7.1,q51,q52)]++dn 113⟩
theorem x_j.ok3 (K:Nat) (a0:x_h) (a1:Int):x_j.g3 K a0 a1=x_j.l3 K a0 a1:=
 funext (lpe8 (fun _ _ _ _ _ _ _ _=>by kernel_rfl) fun _ _ _ _ _ _ _ _ _=>by kernel_rfl)
theorem x_j.ok2 (K:Nat) (a0:x_h) (a1:Int):x_j.g2 K a0 a1=x_j.l2 K a0 a1:=
 funext (lpe6 (fun _ _ _ _ _ _=>by kernel_rfl) fun n v5 q42 q43 q2 q30 q44=>(show x_j.g2 K a0 a1 (n+1) v5 q42 q43 q2 q30 q44=x_j.l2b K a0 a1 (x_j.g2 K a0 a1 n) (x_j.g3 K a0 a1 K) v5 q42 q43 q2 q30 q44 by kernel_rfl).trans (by rw [x_j.ok3]<;>rfl))
theorem x_j.ok1 (K:Nat) (a0:x_h) (a1:Int):x_j.g1 K a0 a1=x_j.l1 K a0 a1:=
 funext (lpe5 (fun _ _ _ _ _=>by kernel_rfl) fun n v3 q28 q29 q2 q30=>(show x_j.g1 K a0 a1 (n+1) v3 q28 q29 q2 q30=x_j.l1b K a0 a1 (x_j.g1 K a0 a1 n) (x_j.g2 K a0 a1 K) v3 q28 q29 q2 q30 by kernel_rfl).trans (by rw [x_j.ok2]<;>rfl))
theorem x_j.ok0 (K:Nat) (a0:x_h) (a1:Int):x_j.g0 K a0 a1=x_j.l0 K a0 a1:=
 funext (lpe4 (fun _ _ _ _=>by kernel_rfl) fun n v1 q0 q1 q2=>(show x_j.g0 K a0 a1 (n+1) v1 q0 q1 q2=x_j.l0b K a0 a1 (x_j.g0 K a0 a1 n) (x_j.g1 K a0 a1 K) v1 q0 q1 q2 by kernel_rfl).trans (by rw [x_j.ok1]<;>rfl))
theorem o326 (K:Nat):FOk PP 326 (B326 K).F:=bok mixed Tryz.func326 fun v=>by
 have e:(B326 K).run v=x_j.b K v.1 v.2.1 (x_j.g0 K v.1 v.2.1 K):=by kernel_rfl
 rw [x_j.ok0] at e
 exact e.trans (by kernel_rfl)
noncomputable def B304 (K:Nat):Bd PP:=⟨⟨[va x_bt 0,vo (.sl (.i .u8)) 0],[ra x_dg 674,ro .b 0],[],u2 (x_kd K),false⟩,cn o58<|cn (o326 K)<|cn (o114 K) tt,hn [22,1046,48,16470,16598,274877907088,48,48],K,Tryz.f304,[.cell 4 51, .tmp 5]⟩
theorem o304 (K:Nat):FOk PP 304 (B304 K).F:=bok mixed Tryz.func304
noncomputable def B265:Bd PP:=⟨⟨[va eLog 9,vo (.i .i64) 0],[ra eLog 18],[],u2 x_o4,false⟩,cn o196<|cn o308 tt,hn [22,54,118,8310,16,16],0,Tryz.f265,[.cell 4 45]⟩
theorem o265:FOk PP 265 B265.F:=bok mixed Tryz.func265
noncomputable def B281 (K:Nat):Bd PP:=⟨⟨[va x_bt 0,va x_it 163944,va x_ld 81],[ra x_it 163944],[],u3 (x_pr K),false⟩,cn (o299 K)<|cn (o304 K)<|cn o259<|cn o265 tt,hn [120,4216,12408,112,80,2101368,464,34359738576,80,274877907064,1648,144115188075856496,64,73786976294838207088,592,592,80,64],K,Tryz.f281,[.cell 6 53]⟩
theorem o281 (K:Nat):FOk PP 281 (B281 K).F:=bok mixed Tryz.func281
noncomputable def B220 (K:Nat):Bd PP:=⟨⟨[va x_bt 0,va x_it 81972,va x_ld 81],[ra x_it 163944],[],u3 (x_g8 K),false⟩,cn (o112 K)<|cn (o280 K)<|cn (o123 K)<|cn (o281 K) tt,hn [120,65656,64,216,134217936,64,64],K,Tryz.f220,[.cell 6 53]⟩
theorem o220 (K:Nat):FOk PP 220 (B220 K).F:=bok mixed Tryz.func220
noncomputable def B253 (K:Nat):Bd PP:=⟨⟨[va x_bt 0,va x_gb 984972995316,va x_ld 81],[ra x_gb 1969945990632,ro .b 0],[],u3 (x_hh K),false⟩,cn (o66 K)<|cn (o226 K)<|cn o306<|cn (o220 K)<|cn (o280 K)<|cn (o60 K) tt,hn [120,376,1912,1912,1400,17592186044752,192,192],K,Tryz.f253,[.cell 6 58, .tmp 7]⟩
theorem o253 (K:Nat):FOk PP 253 (B253 K).F:=bok mixed Tryz.func253
noncomputable def B254 (K:Nat):Bd PP:=⟨⟨[vp x_e7 21160907109180,va x_ld 81],[],[],u2 (x_fk K),false⟩,cn (o253 K) tt,hn [9,1033,49,17,1],K,Tryz.f254,[]⟩
theorem o254 (K:Nat):FOk PP 254 (B254 K).F:=bok mixed Tryz.func254
noncomputable def B247 (K:Nat):Bd PP:=⟨⟨[vp x_e7 21160907109180,vo (.i .i64) 0],[],[],u2 (x_gk K),false⟩,cn (o254 K) tt,hn [2051,1,1],K,Tryz.f247,[]⟩
theorem o247 (K:Nat):FOk PP 247 (B247 K).F:=bok mixed Tryz.func247
noncomputable def B296:Bd PP:=⟨⟨[va eLog 9,vo (.i .i64) 0,vo (.i .i64) 0],[ro .b 0],[],u3 x_ta,false⟩,cn o113 tt,hn [14,390,64],0,Tryz.f296,[.tmp 6]⟩
theorem o296:FOk PP 296 B296.F:=bok mixed Tryz.func296
noncomputable def B307 (K:Nat):Bd PP:=⟨⟨[va x_gb 984972995316,va eRpc 2187],[ra x_gb 1969945990632,ro .b 0],[],u2 (s_Tell K),false⟩,cn (o66 K)<|cn o122 tt,hn [28,92,4184,48,80,48],K,Tryz.f307,[.cell 4 58, .tmp 5]⟩
theorem o307 (K:Nat):FOk PP 307 (B307 K).F:=bok mixed Tryz.func307
noncomputable def B255 (K:Nat):Bd PP:=⟨⟨[vp x_e7 21160907109180,va eRpc 2187],[],[],u2 (x_e5 K),false⟩,cn (o307 K)<|cn (o61 K) tt,hn [9,1033,9,9,57,17,1],K,Tryz.f255,[]⟩
theorem o255 (K:Nat):FOk PP 255 (B255 K).F:=bok mixed Tryz.func255
noncomputable def B248 (K:Nat):Bd PP:=⟨⟨[vp x_e7 21160907109180,va eRpc 2187],[],[],u2 (x_f3 K),false⟩,cn o296<|cn (o254 K)<|cn (o255 K) tt,hn [9,25,57,4398046511161,41,1],K,Tryz.f248,[]⟩
theorem o248 (K:Nat):FOk PP 248 (B248 K).F:=bok mixed Tryz.func248
noncomputable def B297:Bd PP:=⟨⟨[vo .b 0],[ro (.i .i64) 0],[],u1 x_r6,false⟩,tt,hn [1,9,4,4],0,Tryz.f297,[.tmp 2]⟩
theorem o297:FOk PP 297 B297.F:=bok mixed Tryz.func297
noncomputable def B256:Bd PP:=⟨⟨[vo (.i .i64) 0],[ro (.i .i64) 0],[],u1 x_uw,false⟩,tt,hn [1,4],0,Tryz.f256,[.tmp 2]⟩
theorem o256:FOk PP 256 B256.F:=bok mixed Tryz.func256
end Go.Proofs.YtjfnlbdnfglmfaaGreat.Cu
