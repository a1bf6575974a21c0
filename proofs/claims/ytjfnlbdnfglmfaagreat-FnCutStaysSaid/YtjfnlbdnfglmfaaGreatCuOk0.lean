/- The functions compute what is told of them. -/
import Derived.Test.YtjfnlbdnfglmfaaGreatCuSh
import Derived.Test.YtjfnlbdnfglmfaaGreatCuLib
import Derived.Test.YtjfnlbdnfglmfaaGreatKc
set_option linter.all false
set_option maxRecDepth 100000
namespace Go.Proofs.YtjfnlbdnfglmfaaGreat.Cu
open Go Go.Kn
def tys:List (TypeId×TInf):=[
 (3, { agg:=false,e:=(.i .i64),bytes:=8 }),
 (4, { agg:=false,e:= .b,bytes:=1 }),
 (5, { agg:=false,e:=(.i .u8),bytes:=1 }),
 (9, { agg:=false,e:= .s,bytes:=16 }),
 (22, { agg:=false,e:=(.sl (.i .u8)),bytes:=24,el:=5 }),
 (25, { agg:=true,e:=x_bt,bytes:=32,fs:=[(0,1,false),(1,1,false),(2,1,false),(3,1,false)] }),
 (26, { agg:=false,e:=(.sl x_gb),bytes:=24,el:=58 }),
 (27, { agg:=false,e:=(.sl eRpc),bytes:=24,el:=83 }),
 (28, { agg:=false,e:=(.sl eCmd),bytes:=24,el:=34 }),
 (29, { agg:=false,e:=(.sl (.i .i64)),bytes:=24,el:=3 }),
 (30, { agg:=false,e:=(.sl x_mg),bytes:=24,el:=75 }),
 (32, { agg:=true,e:=x_be,bytes:=184,fs:=[(0,4,true),(4,1,false),(5,1,false),(6,1,false),(7,1,false),(8,1,false),(9,1,false),(10,1,false)] }),
 (34, { agg:=true,e:=eCmd,bytes:=80,fs:=[(0,1,false),(1,1,false),(2,1,false),(3,1,false),(4,1,false),(5,1,false),(6,1,false),(7,1,false)],eq:=true }),
 (36, { agg:=true,e:=x_o8,bytes:=104,fs:=[(0,1,false),(1,1,false),(2,1,false),(3,8,true)] }),
 (43, { agg:=false,e:=(.sl x_dp),bytes:=24,el:=109 }),
 (45, { agg:=true,e:=eLog,bytes:=40,fs:=[(0,1,false),(1,1,false),(2,1,false)] }),
 (46, { agg:=false,e:=(.sl eRow),bytes:=24,el:=114 }),
 (47, { agg:=false,e:=(.sl x_bs),bytes:=24,el:=118 }),
 (48, { agg:=false,e:=(.sl x_bh),bytes:=24,el:=121 }),
 (49, { agg:=false,e:=(.sl x_bz),bytes:=24,el:=73 }),
 (51, { agg:=true,e:=x_dg,bytes:=128,fs:=[(0,1,false),(1,1,false),(2,1,false),(3,1,false),(4,1,false),(5,1,false)] }),
 (53, { agg:=true,e:=x_it,bytes:=184,fs:=[(0,1,false),(1,1,false),(2,3,true),(5,6,true)] }),
 (54, { agg:=false,e:=(.sl .b),bytes:=24,el:=4 }),
 (56, { agg:=true,e:=x_ty,bytes:=32,fs:=[(0,1,false),(1,1,false)] }),
 (58, { agg:=true,e:=x_gb,bytes:=464,fs:=[(0,1,false),(1,11,true),(12,1,false),(13,1,false),(14,1,false),(15,1,false),(16,1,false),(17,6,true),(23,2,true),(25,1,false)] }),
 (73, { agg:=true,e:=x_bz,bytes:=48,fs:=[(0,1,false),(1,1,false),(2,1,false),(3,1,false)],eq:=true }),
 (75, { agg:=true,e:=x_mg,bytes:=80,fs:=[(0,1,false),(1,1,false),(2,4,true),(6,1,false),(7,1,false)],eq:=true }),
 (80, { agg:=true,e:=x_ei,bytes:=40,fs:=[(0,1,false),(1,1,false),(2,1,false)] }),
 (83, { agg:=true,e:=eRpc,bytes:=104,fs:=[(0,1,false),(1,1,false),(2,1,false),(3,1,false),(4,1,false),(5,1,false),(6,1,false),(7,1,false),(8,1,false),(9,1,false)] }),
 (109, { agg:=true,e:=x_dp,bytes:=88,fs:=[(0,1,false),(1,8,true)],eq:=true }),
 (112, { agg:=false,e:=(.sl x_sl),bytes:=24,el:=177 }),
 (114, { agg:=true,e:=eRow,bytes:=40,fs:=[(0,1,false),(1,1,false),(2,1,false)] }),
 (116, { agg:=false,e:=(.sl x_rv),bytes:=24,el:=179 }),
 (118, { agg:=true,e:=x_bs,bytes:=56,fs:=[(0,1,false),(1,1,false),(2,1,false),(3,1,false),(4,1,false)] }),
 (121, { agg:=true,e:=x_bh,bytes:=80,fs:=[(0,1,false),(1,1,false),(2,1,false),(3,1,false)] }),
 (124, { agg:=false,e:=(.sl x_ld),bytes:=24,el:=128 }),
 (128, { agg:=true,e:=x_ld,bytes:=72,fs:=[(0,1,false),(1,1,false),(2,1,false),(3,1,false),(4,1,false),(5,1,false)] }),
 (130, { agg:=false,e:=(.sl x_o8),bytes:=24,el:=36 }),
 (139, { agg:=false,e:=(.sl .s),bytes:=24,el:=9 }),
 (177, { agg:=true,e:=x_sl,bytes:=56,fs:=[(0,1,false),(1,1,false),(2,1,false),(3,1,false),(4,1,false)],eq:=true }),
 (179, { agg:=true,e:=x_rv,bytes:=16,fs:=[(0,1,false),(1,1,false)],eq:=true }),
 (239, { agg:=false,e:= .u,bytes:=8,ptr:=true }),
 (241, { agg:=true,e:=x_dn,bytes:=40,fs:=[(0,1,false),(1,1,false),(2,1,false)] }),
 (270, { agg:=true,e:=x_e7,bytes:=512,fs:=[(0,4,true),(4,1,false),(5,26,true),(31,1,false)] }),
 (299, { agg:=false,e:=(.sl (.sl (.i .u8))),bytes:=24,el:=22 }),
 (312, { agg:=true,e:=x_dn,bytes:=40,fs:=[(0,1,false),(1,1,false),(2,1,false)] })]
theorem tys_ok:x_fu Tryz.prog (tiOf tys):=tabOk_of (by kernel_rfl)
theorem mixed:Tryz.prog.follows .mixedOrders=true:=by kernel_rfl
noncomputable abbrev PP:Program:=Tryz.prog
noncomputable def tt:TT PP:=t0 tys_ok
noncomputable def B4:Bd PP:=⟨⟨[vo (.sl (.i .u8)) 1],[ro .b 0],[],u1 l_big,false⟩,tt,hn [1,4],0,Tryz.f4,[.tmp 2]⟩
theorem o4:FOk PP 4 B4.F:=bok mixed Tryz.func4
noncomputable def B12 (K:Nat):Bd PP:=⟨⟨[.val false (.sl (.i .u8)) [.f]],[ra x_ei 0],[],u1 (x_fe K),true⟩,tt,hn [1,9,25,32793,25,25,2147483652],K,Tryz.f12,[.tmp 2]⟩
noncomputable def x_fe.g0 (K:Nat) (a0:y0) (n:Nat) (q0:Int) (q1:Int):Option y22:=
 lq (B12 K) (dirs 5 1381) n ⟨[vl (.i .u8) 0 a0, .dead, .dead,vi q0,vi q1]++dd 27,dn 33⟩
theorem x_fe.ok0 (K:Nat) (a0:y0):x_fe.g0 K a0=x_fe.l0 K a0:=
 funext (lpe2 (fun _ _=>by kernel_rfl) fun _ _ _=>by kernel_rfl)
theorem o12 (K:Nat):FOk PP 12 (B12 K).F:=bokn mixed Tryz.func12 fun v=>by
 have e:(B12 K).run v=x_fe.b K v.1 (x_fe.g0 K v.1 K):=by kernel_rfl
 rw [x_fe.ok0] at e
 exact e.trans (by kernel_rfl)
noncomputable def B77:Bd PP:=⟨⟨[vp x_ei 0],[ro (.i .i64) 0],[],u1 x_i2,false⟩,tt,hn [1,1,9,17179869193,9,9,5],0,Tryz.f77,[.tmp 2]⟩
theorem o77:FOk PP 77 B77.F:=bok mixed Tryz.func77
noncomputable def B30:Bd PP:=⟨⟨[vp x_ei 0,vo (.i .i64) 0],[ro (.i .i64) 0],[],u2 x_k,false⟩,cn o77 tt,hn [3,1027,17,4099,17,35,99,227,483,17],0,Tryz.f30,[.tmp 4]⟩
theorem o30:FOk PP 30 B30.F:=bok mixed Tryz.func30
noncomputable def B35:Bd PP:=⟨⟨[vp x_ei 0,vo (.sl (.i .i64)) 1],[ro (.i .i64) 0],[],u2 x_7,false⟩,cn o30 tt,hn [3,17],0,Tryz.f35,[.tmp 4]⟩
theorem o35:FOk PP 35 B35.F:=bok mixed Tryz.func35
noncomputable def B147:Bd PP:=⟨⟨[vp x_ei 0],[ra x_bt 0],[],u1 x_eq,false⟩,cn o30<|cn o35 tt,hn [5,5],0,Tryz.f147,[.cell 2 25]⟩
theorem o147:FOk PP 147 B147.F:=bok mixed Tryz.func147
noncomputable def B20:Bd PP:=⟨⟨[vo (.i .i64) 0,vo (.i .i64) 0,vo (.i .i64) 0],[ro .b 0],[],u3 x_bj,false⟩,tt,hn [7,64],0,Tryz.f20,[.tmp 6]⟩
theorem o20:FOk PP 20 B20.F:=bok mixed Tryz.func20
noncomputable def B58:Bd PP:=⟨⟨[va x_bt 0],[ro .b 0],[],u1 x_ft,false⟩,cn o20 tt,hn [2,4],0,Tryz.f58,[.tmp 2]⟩
theorem o58:FOk PP 58 B58.F:=bok mixed Tryz.func58
noncomputable def B278:Bd PP:=⟨⟨[vo (.i .i64) 0],[ra x_bh 78],[],u1 x_im,false⟩,cn o20 tt,hn [5,37,4,4],0,Tryz.f278,[.cell 2 121]⟩
theorem o278:FOk PP 278 B278.F:=bok mixed Tryz.func278
noncomputable def B216 (K:Nat):Bd PP:=⟨⟨[va x_bt 0],[ra x_dg 674],[],u1 (x_ci K),false⟩,cn o58<|cn o278 tt,hn [6,134,4,14,30,65566,30,30,4],K,Tryz.f216,[.cell 2 51]⟩
noncomputable def x_ci.g0 (K:Nat) (a0:x_d) (n:Nat) (q0:Int) (q1:y12):Option y18:=
 lq (B216 K) (dirs 6 6906) n ⟨[.dead,vt 1 1 0,vt 2 1 0,vt 3 1 0,vi q0]++dd 23,[none,bv x_bt 0 a0,bv x_dg 674 ([],[],[],0,[],[]),bv x_dg 674 (List.replicate a0.1.toNat zRow,[],q1,0,List.replicate 4 0,List.replicate 4 x_b7)]++dn 25⟩
theorem x_ci.ok0 (K:Nat) (a0:x_d):x_ci.g0 K a0=x_ci.l0 K a0:=
 funext (lpe2 (fun _ _=>by kernel_rfl) fun _ _ _=>by kernel_rfl)
theorem o216 (K:Nat):FOk PP 216 (B216 K).F:=bok mixed Tryz.func216 fun v=>by
 have e:(B216 K).run v=x_ci.b K v.1 (x_ci.g0 K v.1 K):=by kernel_rfl
 rw [x_ci.ok0] at e
 exact e.trans (by kernel_rfl)
noncomputable def B218 (K:Nat):Bd PP:=⟨⟨[va x_bt 0],[ra x_it 163944],[],u1 (x_g6 K),false⟩,cn o58<|cn (o216 K) tt,hn [6,38,4,4],K,Tryz.f218,[.cell 2 53]⟩
theorem o218 (K:Nat):FOk PP 218 (B218 K).F:=bok mixed Tryz.func218
noncomputable def B264 (K:Nat):Bd PP:=⟨⟨[vo (.i .i64) 0,vo (.i .i64) 0],[ro (.sl (.i .i64)) 2],[],u2 (x_ck K),false⟩,tt,hn [3,35,99,1123,99,99,16],K,Tryz.f264,[.tmp 4]⟩
noncomputable def x_ck.g0 (K:Nat) (a0:Int) (a1:Int) (n:Nat) (q0:y0) (q1:Int):Option y31:=
 lq (B264 K) (dirs 5 1381) n ⟨[vi a0,vi a1]++dd 3++[vl (.i .i64) 2 q0,vi q1]++dd 11,dn 20⟩
theorem x_ck.ok0 (K:Nat) (a0:Int) (a1:Int):x_ck.g0 K a0 a1=x_ck.l0 K a0 a1:=
 funext (lpe2 (fun _ _=>by kernel_rfl) fun _ _ _=>by kernel_rfl)
theorem o264 (K:Nat):FOk PP 264 (B264 K).F:=bok mixed Tryz.func264 fun v=>by
 have e:(B264 K).run v=x_ck.b K v.1 v.2.1 (x_ck.g0 K v.1 v.2.1 K):=by kernel_rfl
 rw [x_ck.ok0] at e
 exact e.trans (by kernel_rfl)
noncomputable def B113:Bd PP:=⟨⟨[va eLog 9],[ro (.i .i64) 0,ro (.i .i64) 0],[],u1 x_ed,false⟩,tt,hn [2,18,530,12,12],0,Tryz.f113,[.tmp 2, .tmp 3]⟩
theorem o113:FOk PP 113 B113.F:=bok mixed Tryz.func113
noncomputable def B117 (K:Nat):Bd PP:=⟨⟨[vo .s 0],[ro .b 0],[],u1 (x_de K),false⟩,tt,hn [1,9,265,9,25,4294967305,4,4],K,Tryz.f117,[.tmp 2]⟩
noncomputable def x_de.g0 (K:Nat) (a0:y2) (n:Nat) (q0:Int):Option y11:=
 lq (B117 K) (dirs 4 276) n ⟨[vs a0, .dead, .dead,vi q0]++dd 32,dn 37⟩
theorem x_de.ok0 (K:Nat) (a0:y2):x_de.g0 K a0=x_de.l0 K a0:=
 funext (lpe1 (fun _=>by kernel_rfl) fun _ _=>by kernel_rfl)
theorem o117 (K:Nat):FOk PP 117 (B117 K).F:=bok mixed Tryz.func117 fun v=>by
 have e:(B117 K).run v=x_de.b K v.1 (x_de.g0 K v.1 K):=by kernel_rfl
 rw [x_de.ok0] at e
 exact e.trans (by kernel_rfl)
noncomputable def B62 (K:Nat):Bd PP:=⟨⟨[va eCmd 0],[ro .b 0],[],u1 (x_jv K),false⟩,cn o20<|cn (o117 K) tt,hn [2,34,4,4],K,Tryz.f62,[.tmp 2]⟩
theorem o62 (K:Nat):FOk PP 62 (B62 K).F:=bok mixed Tryz.func62
noncomputable def B182 (K:Nat):Bd PP:=⟨⟨[va eLog 9],[ro .b 0],[],u1 (x_ev K),false⟩,cn o20<|cn (o62 K) tt,hn [2,8388610,4,10,26,1073741850,26,2251799813685266,4,26,4],K,Tryz.f182,[.tmp 2]⟩
noncomputable def x_ev.g0 (K:Nat) (a0:TLog) (n:Nat) (q0:Int) (q1:Int):Option y11:=
 lq (B182 K) (dirs 6 6906) n ⟨[.dead,vt 1 1 0, .dead,vi q0,vi q1]++dd 53,[none,bv eLog 9 a0]++dn 57⟩
theorem x_ev.ok0 (K:Nat) (a0:TLog):x_ev.g0 K a0=x_ev.l0 K a0:=
 funext (lpe2 (fun _ _=>by kernel_rfl) fun _ _ _=>by kernel_rfl)
theorem o182 (K:Nat):FOk PP 182 (B182 K).F:=bok mixed Tryz.func182 fun v=>by
 have e:(B182 K).run v=x_ev.b K v.1 (x_ev.g0 K v.1 K):=by kernel_rfl
 rw [x_ev.ok0] at e
 exact e.trans (by kernel_rfl)
noncomputable def B245 (K:Nat):Bd PP:=⟨⟨[va x_bs 81,vo (.i .i64) 0],[ro .b 0],[],u2 (x_by K),false⟩,cn o20 tt,hn [6,38,1062,38,288230376151711782,16,9671406556917033397649412,16,16],K,Tryz.f245,[.tmp 4]⟩
noncomputable def x_by.g0 (K:Nat) (a0:x_at) (a1:Int) (n:Nat) (q0:Int):Option y11:=
 lq (B245 K) (dirs 4 276) n ⟨[.dead,vi a1,vt 2 1 0, .dead, .dead,vi q0]++dd 96,[none,none,bv x_bs 81 a0]++dn 101⟩
theorem x_by.ok0 (K:Nat) (a0:x_at) (a1:Int):x_by.g0 K a0 a1=x_by.l0 K a0 a1:=
 funext (lpe1 (fun _=>by kernel_rfl) fun _ _=>by kernel_rfl)
theorem o245 (K:Nat):FOk PP 245 (B245 K).F:=bok mixed Tryz.func245 fun v=>by
 have e:(B245 K).run v=x_by.b K v.1 v.2.1 (x_by.g0 K v.1 v.2.1 K):=by kernel_rfl
 rw [x_by.ok0] at e
 exact e.trans (by kernel_rfl)
noncomputable def B183 (K:Nat):Bd PP:=⟨⟨[va x_bt 0,vo (.sl x_bs) 1],[ro .b 0],[],u2 (x_b0 K),false⟩,cn (o245 K) tt,hn [6,38,1062,38,102,268435558,16,9223372036854775846,16,16],K,Tryz.f183,[.tmp 4]⟩
noncomputable def x_b0.g0 (K:Nat) (a0:x_d) (a1:y13) (n:Nat) (q0:Int):Option y11:=
 lq (B183 K) (dirs 4 276) n ⟨[.dead,vl x_bs 1 a1,vt 2 1 0, .dead, .dead,vi q0]++dd 58,[none,none,bv x_bt 0 a0]++dn 63⟩
theorem x_b0.ok0 (K:Nat) (a0:x_d) (a1:y13):x_b0.g0 K a0 a1=x_b0.l0 K a0 a1:=
 funext (lpe1 (fun _=>by kernel_rfl) fun _ _=>by kernel_rfl)
theorem o183 (K:Nat):FOk PP 183 (B183 K).F:=bok mixed Tryz.func183 fun v=>by
 have e:(B183 K).run v=x_b0.b K v.1 v.2.1 (x_b0.g0 K v.1 v.2.1 K):=by kernel_rfl
 rw [x_b0.ok0] at e
 exact e.trans (by kernel_rfl)
noncomputable def B246 (K:Nat):Bd PP:=⟨⟨[va x_sl 0],[ro .b 0],[],u1 (x_ra K),false⟩,cn (o117 K)<|cn o20 tt,hn [2,4],K,Tryz.f246,[.tmp 2]⟩
theorem o246 (K:Nat):FOk PP 246 (B246 K).F:=bok mixed Tryz.func246
noncomputable def B184 (K:Nat):Bd PP:=⟨⟨[va eRow 9],[ro .b 0],[],u1 (x_ec K),false⟩,cn (o246 K)<|cn o20 tt,hn [2,10,266,10,4503599627370506,4,4],K,Tryz.f184,[.tmp 2]⟩
noncomputable def x_ec.g0 (K:Nat) (a0:TRow) (n:Nat) (q0:Int):Option y11:=
 lq (B184 K) (dirs 4 276) n ⟨[.dead,vt 1 1 0, .dead,vi q0]++dd 65,[none,bv eRow 9 a0]++dn 68⟩
theorem x_ec.ok0 (K:Nat) (a0:TRow):x_ec.g0 K a0=x_ec.l0 K a0:=
 funext (lpe1 (fun _=>by kernel_rfl) fun _ _=>by kernel_rfl)
theorem o184 (K:Nat):FOk PP 184 (B184 K).F:=bok mixed Tryz.func184 fun v=>by
 have e:(B184 K).run v=x_ec.b K v.1 (x_ec.g0 K v.1 K):=by kernel_rfl
 rw [x_ec.ok0] at e
 exact e.trans (by kernel_rfl)
end Go.Proofs.YtjfnlbdnfglmfaaGreat.Cu
