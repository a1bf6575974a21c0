/- The functions compute what is told of them. -/
import Derived.Test.YtjfnlbdnfglmfaaGreatCuOk14
set_option linter.all false
set_option maxRecDepth 100000
namespace Go.Proofs.YtjfnlbdnfglmfaaGreat.Cu
open Go Go.Kn
noncomputable def B97 (K:Nat):Bd PP:=⟨⟨[vo (.sl eCmd) 1],[ro (.i .i64) 0],[.one, .fn 51 0],u1 (x_x K),false⟩,cn (o51 K) tt,hn [3,387,899,419,65955,16,387,16],K,Tryz.f97,[.tmp 4]⟩
noncomputable def x_x.g0 (K:Nat) (a0:y5) (n:Nat) (q0:Int):Option y7:=
 lq (B97 K) (dirs 4 276) n ⟨[vl eCmd 1 a0, .fn 51 []]++dd 5++[vi (a0.length:Int),vi q0]++dd 10,dn 20⟩
theorem x_x.ok0 (K:Nat) (a0:y5):x_x.g0 K a0=x_x.l0 K a0:=
 funext (lpe1 (fun _=>by kernel_rfl) fun _ _=>by kernel_rfl)
theorem o97 (K:Nat):FOk PP 97 (B97 K).F:=bok mixed Tryz.func97 fun v=>by
 have e:(B97 K).run v=x_x.b K v.1 (x_x.g0 K v.1 K):=by kernel_rfl
 rw [x_x.ok0] at e
 exact e.trans (by kernel_rfl)
noncomputable def B50 (K:Nat):Bd PP:=⟨⟨[vo (.sl eCmd) 1],[ro .b 0],[.one, .fn 51 0],u1 (x_cj K),false⟩,cg 51 (o97 K) tt,hn [3,16],K,Tryz.f50,[.tmp 4]⟩
theorem o50 (K:Nat):FOk PP 50 (B50 K).F:=bok mixed Tryz.func50
noncomputable def B16 (K:Nat):Bd PP:=⟨⟨[va x_be 0],[ro .b 0],[],u1 (x_a2 K),false⟩,cn o39<|cn o17<|cn (o40 K)<|cn (o41 K)<|cn (o42 K)<|cg 44 (o43a K)<|cg 47 (o46 K)<|cg 51 (o50 K) tt,hn [2,9223372036854775810,4,258254417031933722626,553402322211286548482,258254417031933722650,19343071368251098729021442,4,258254417031933722626,1083197534374707740536733698,2321137573660088015435857922,1083197534374707740536733794,162260360026747738099318547021826,4,1083197534374707740536733698,130,386,896,4],K,Tryz.f16,[.tmp 2]⟩
noncomputable def x_a2.g0 (K:Nat) (a0:x_u) (n:Nat) (q0:Int):Option y11:=
 lq (B16 K) (dirs 5 1381) n ⟨[.dead,vt 1 1 0]++dd 63++[vl x_gb 0 a0.2.2.1,vi (a0.2.2.1.length:Int),vi q0]++dd 61,[none,bv x_be 0 a0]++dn 128⟩
noncomputable def x_a2.g1 (K:Nat) (a0:x_u) (n:Nat) (q1:Int):Option y11:=
 lq (B16 K) (dirs 6 6906) n ⟨[.dead,vt 1 1 0]++dd 85++[vl eCmd 0 a0.2.2.2.2.1,vi (a0.2.2.2.2.1.length:Int),vi q1]++dd 39,[none,bv x_be 0 a0]++dn 128⟩
theorem x_a2.ok1 (K:Nat) (a0:x_u):x_a2.g1 K a0=x_a2.l1 K a0:=
 funext (lpe1 (fun _=>by kernel_rfl) fun _ _=>by kernel_rfl)
theorem x_a2.ok0 (K:Nat) (a0:x_u):x_a2.g0 K a0=x_a2.l0 K a0:=
 funext (lpe1 (fun _=>by kernel_rfl) fun n q0=>(show x_a2.g0 K a0 (n+1) q0=x_a2.l0b K a0 (x_a2.g0 K a0 n) (x_a2.g1 K a0 K) q0 by kernel_rfl).trans (by rw [x_a2.ok1]<;>rfl))
theorem o16 (K:Nat):FOk PP 16 (B16 K).F:=bok mixed Tryz.func16 fun v=>by
 have e:(B16 K).run v=x_a2.b K v.1 (x_a2.g0 K v.1 K):=by kernel_rfl
 rw [x_a2.ok0] at e
 exact e.trans (by kernel_rfl)
noncomputable def B52 (K:Nat):Bd PP:=⟨⟨[va x_be 88452,va x_o8 0],[ro .b 0],[],u2 (x_h5 K),false⟩,cn o17<|cn o48 tt,h2 [12,76,204,204,204,16,524364,16,137438953548,137438953548,137438953484,16,16] [] [7,37],K,Tryz.f52,[.tmp 4]⟩
theorem o52 (K:Nat):FOk PP 52 (B52 K).F:=bok mixed Tryz.func52
noncomputable def B205:Bd PP:=⟨⟨[va eLog 9],[ra eLog 18],[],u1 x_fs,false⟩,tt,hn [6,6,4],0,Tryz.f205,[.cell 2 45]⟩
theorem o205:FOk PP 205 B205.F:=bok mixed Tryz.func205
noncomputable def B231:Bd PP:=⟨⟨[va eRow 9],[ra eRow 18],[],u1 x_mv,false⟩,tt,hn [6,6,4],0,Tryz.f231,[.cell 2 114]⟩
theorem o231:FOk PP 231 B231.F:=bok mixed Tryz.func231
noncomputable def B100:Bd PP:=⟨⟨[vo (.sl (.i .i64)) 1],[ro (.sl (.i .i64)) 2],[],u1 x_e2,false⟩,tt,hn [1,4],0,Tryz.f100,[.tmp 2]⟩
theorem o100:FOk PP 100 B100.F:=bok mixed Tryz.func100
noncomputable def B232:Bd PP:=⟨⟨[va x_bh 39],[ra x_bh 78],[],u1 x_i5,false⟩,cn o100 tt,hn [6,6,4],0,Tryz.f232,[.cell 2 121]⟩
theorem o232:FOk PP 232 B232.F:=bok mixed Tryz.func232
noncomputable def B288:Bd PP:=⟨⟨[va x_bs 81],[ra x_bs 162],[],u1 x_jj,false⟩,tt,hn [6,6,4],0,Tryz.f288,[.cell 2 118]⟩
theorem o288:FOk PP 288 B288.F:=bok mixed Tryz.func288
noncomputable def B233 (K:Nat):Bd PP:=⟨⟨[vo (.sl x_bs) 1],[ro (.sl x_bs) 2],[],u1 (x_bg K),false⟩,cn o288 tt,hn [1,9,457,969,489,457,457,4],K,Tryz.f233,[.tmp 2]⟩
noncomputable def x_bg.g0 (K:Nat) (a0:y13) (n:Nat) (q0:y13) (q1:Int):Option y51:=
 lq (B233 K) (dirs 5 1381) n ⟨[vl x_bs 1 a0, .dead, .dead,vl x_bs 2 q0, .dead, .dead,vl x_bs 1 a0,vi (a0.length:Int),vi q1]++dd 10,dn 20⟩
theorem x_bg.ok0 (K:Nat) (a0:y13):x_bg.g0 K a0=x_bg.l0 K a0:=
 funext (lpe2 (fun _ _=>by kernel_rfl) fun _ _ _=>by kernel_rfl)
theorem o233 (K:Nat):FOk PP 233 (B233 K).F:=bok mixed Tryz.func233 fun v=>by
 have e:(B233 K).run v=x_bg.b K v.1 (x_bg.g0 K v.1 K):=by kernel_rfl
 rw [x_bg.ok0] at e
 exact e.trans (by kernel_rfl)
noncomputable def B170 (K:Nat):Bd PP:=⟨⟨[va x_dg 337],[ra x_dg 674],[],u1 (x_an K),false⟩,cn o231<|cn o232<|cn (o233 K)<|cn o100 tt,hn [6,30,30,229398,491542,229462,229398,229398,3758096390,8053063686,3758096646,3758096390,3758096390,6,6,6,4],K,Tryz.f170,[.cell 2 51]⟩
noncomputable def x_an.g0 (K:Nat) (a0:x_ai) (n:Nat) (q0:Int) (q1:y4):Option y18:=
 lq (B170 K) (dirs 6 6906) n ⟨[.dead,vt 1 1 0,vt 2 1 0, .dead,vl x_bh 1 a0.2.2.1]++dd 10++[vl eRow 1 a0.1,vi (a0.1.length:Int),vi q0]++dd 38,[none,bv x_dg 347 (q1,a0.2.1,[],a0.2.2.2),bv x_dg 674 ([],[],[],0,[],[])]++dn 54⟩
noncomputable def x_an.g1 (K:Nat) (a0:x_ai) (n:Nat) (q2:Int) (q1:y4) (q3:y12):Option y18:=
 lq (B170 K) (dirs 7 34531) n ⟨[.dead,vt 1 1 0,vt 2 1 0]++dd 26++[vl x_bh 1 a0.2.2.1,vi (a0.2.2.1.length:Int),vi q2]++dd 24,[none,bv x_dg 347 (q1,a0.2.1,q3,a0.2.2.2),bv x_dg 674 ([],[],[],0,[],[])]++dn 54⟩
theorem x_an.ok1 (K:Nat) (a0:x_ai):x_an.g1 K a0=x_an.l1 K a0:=
 funext (lpe3 (fun _ _ _=>by kernel_rfl) fun _ _ _ _=>by kernel_rfl)
theorem x_an.ok0 (K:Nat) (a0:x_ai):x_an.g0 K a0=x_an.l0 K a0:=
 funext (lpe2 (fun _ _=>by kernel_rfl) fun n q0 q1=>(show x_an.g0 K a0 (n+1) q0 q1=x_an.l0b K a0 (x_an.g0 K a0 n) (x_an.g1 K a0 K) q0 q1 by kernel_rfl).trans (by rw [x_an.ok1]<;>rfl))
theorem o170 (K:Nat):FOk PP 170 (B170 K).F:=bok mixed Tryz.func170 fun v=>by
 have e:(B170 K).run v=x_an.b K v.1 (x_an.g0 K v.1 K):=by kernel_rfl
 rw [x_an.ok0] at e
 exact e.trans (by kernel_rfl)
noncomputable def B141 (K:Nat):Bd PP:=⟨⟨[va x_it 81972],[ra x_it 163944],[],u1 (x_fw K),false⟩,cn o205<|cn (o170 K) tt,hn [6,6,4],K,Tryz.f141,[.cell 2 53]⟩
theorem o141 (K:Nat):FOk PP 141 (B141 K).F:=bok mixed Tryz.func141
noncomputable def B171:Bd PP:=⟨⟨[va x_ty 1],[ra x_ty 2],[],u1 x_ku,false⟩,tt,hn [6,6,4],0,Tryz.f171,[.cell 2 56]⟩
theorem o171:FOk PP 171 B171.F:=bok mixed Tryz.func171
noncomputable def B99 (K:Nat):Bd PP:=⟨⟨[vo (.sl eRpc) 1],[ro (.sl eRpc) 2],[],u1 (x_b4 K),false⟩,tt,hn [1,9,457,969,489,489,457,457,4],K,Tryz.f99,[.tmp 2]⟩
noncomputable def x_b4.g0 (K:Nat) (a0:y3) (n:Nat) (q0:y3) (q1:Int):Option y38:=
 lq (B99 K) (dirs 5 1381) n ⟨[vl eRpc 1 a0, .dead, .dead,vl eRpc 2 q0, .dead, .dead,vl eRpc 1 a0,vi (a0.length:Int),vi q1]++dd 13,dn 23⟩
theorem x_b4.ok0 (K:Nat) (a0:y3):x_b4.g0 K a0=x_b4.l0 K a0:=
 funext (lpe2 (fun _ _=>by kernel_rfl) fun _ _ _=>by kernel_rfl)
theorem o99 (K:Nat):FOk PP 99 (B99 K).F:=bok mixed Tryz.func99 fun v=>by
 have e:(B99 K).run v=x_b4.b K v.1 (x_b4.g0 K v.1 K):=by kernel_rfl
 rw [x_b4.ok0] at e
 exact e.trans (by kernel_rfl)
noncomputable def B98 (K:Nat):Bd PP:=⟨⟨[va x_gb 984972995316],[ra x_gb 1969945990632],[],u1 (x_km K),false⟩,cn (o141 K)<|cn (o170 K)<|cn o171<|cn (o99 K)<|cn o100 tt,hn [6,6,6,4],K,Tryz.f98,[.cell 2 58]⟩
theorem o98 (K:Nat):FOk PP 98 (B98 K).F:=bok mixed Tryz.func98
noncomputable def B53 (K:Nat):Bd PP:=⟨⟨[va x_be 88452],[ra x_be 176904],[],u1 (x_bc K),false⟩,cn (o98 K)<|cn (o99 K)<|cn o100 tt,hn [6,14,14,3590,7686,3622,3590,3590,6,6,6,6,4],K,Tryz.f53,[.cell 2 32]⟩
noncomputable def x_bc.g0 (K:Nat) (a0:x_u) (n:Nat) (q0:Int) (q1:y6):Option y25:=
 lq (B53 K) (dirs 6 6906) n ⟨[.dead,vt 1 1 0,vt 2 1 0]++dd 6++[vl x_gb 1 a0.2.2.1,vi (a0.2.2.1.length:Int),vi q0]++dd 32,[none,bv x_be 88695 (a0.1,a0.2.1,q1,a0.2.2.2),bv x_be 176904 ((0,0,0,0),0,[],[],[],[],[],[])]++dn 42⟩
theorem x_bc.ok0 (K:Nat) (a0:x_u):x_bc.g0 K a0=x_bc.l0 K a0:=
 funext (lpe2 (fun _ _=>by kernel_rfl) fun _ _ _=>by kernel_rfl)
theorem o53 (K:Nat):FOk PP 53 (B53 K).F:=bok mixed Tryz.func53 fun v=>by
 have e:(B53 K).run v=x_bc.b K v.1 (x_bc.g0 K v.1 K):=by kernel_rfl
 rw [x_bc.ok0] at e
 exact e.trans (by kernel_rfl)
noncomputable def B145:Bd PP:=⟨⟨[va eLog 9,vo (.i .i64) 0],[ra eLog 18],[],u2 x_ow,false⟩,cn o17<|cn o205 tt,hn [22,536870934,16,16],0,Tryz.f145,[.cell 4 45]⟩
theorem o145:FOk PP 145 B145.F:=bok mixed Tryz.func145
noncomputable def B204 (K:Nat):Bd PP:=⟨⟨[va x_dp 0],[ro .b 0],[],u1 (x_og K),false⟩,cn o17<|cn (o42 K) tt,hn [2,4],K,Tryz.f204,[.tmp 2]⟩
theorem o204 (K:Nat):FOk PP 204 (B204 K).F:=bok mixed Tryz.func204
end Go.Proofs.YtjfnlbdnfglmfaaGreat.Cu
