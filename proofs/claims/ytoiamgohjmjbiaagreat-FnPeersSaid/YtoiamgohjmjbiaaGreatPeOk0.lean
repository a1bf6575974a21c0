/- The functions compute what is told of them. -/
import Derived.Test.YtoiamgohjmjbiaaGreatPeSh
import Derived.Test.YtoiamgohjmjbiaaGreatPeLib
import Derived.Test.YtoiamgohjmjbiaaGreatKc
set_option linter.all false
set_option maxRecDepth 100000
namespace Go.Proofs.YtoiamgohjmjbiaaGreat.Pe
open Go Go.Kn
def tys:List (TypeId×TInf):=[
 (3, { agg:=false,e:=(.i .i64),bytes:=8 }),
 (4, { agg:=false,e:= .b,bytes:=1 }),
 (5, { agg:=false,e:=(.i .u8),bytes:=1 }),
 (9, { agg:=false,e:= .s,bytes:=16 }),
 (22, { agg:=false,e:=(.sl (.i .u8)),bytes:=24,el:=5 }),
 (25, { agg:=true,e:=x_a6,bytes:=32,fs:=[(0,1,false),(1,1,false),(2,1,false),(3,1,false)] }),
 (28, { agg:=false,e:=(.sl x_cv),bytes:=24,el:=125 }),
 (30, { agg:=true,e:=eLog,bytes:=40,fs:=[(0,1,false),(1,1,false),(2,1,false)] }),
 (31, { agg:=false,e:=(.sl eRow),bytes:=24,el:=111 }),
 (32, { agg:=false,e:=(.sl x_bf),bytes:=24,el:=106 }),
 (33, { agg:=false,e:=(.sl x_a2),bytes:=24,el:=88 }),
 (34, { agg:=false,e:=(.sl (.i .i64)),bytes:=24,el:=3 }),
 (35, { agg:=false,e:=(.sl x_bl),bytes:=24,el:=118 }),
 (37, { agg:=true,e:=x_c7,bytes:=128,fs:=[(0,1,false),(1,1,false),(2,1,false),(3,1,false),(4,1,false),(5,1,false)] }),
 (39, { agg:=true,e:=x_il,bytes:=184,fs:=[(0,1,false),(1,1,false),(2,3,true),(5,6,true)] }),
 (40, { agg:=false,e:=(.sl .b),bytes:=24,el:=4 }),
 (42, { agg:=true,e:=x_vb,bytes:=32,fs:=[(0,1,false),(1,1,false)] }),
 (43, { agg:=false,e:=(.sl eRpc),bytes:=24,el:=76 }),
 (45, { agg:=true,e:=x_gj,bytes:=464,fs:=[(0,1,false),(1,11,true),(12,1,false),(13,1,false),(14,1,false),(15,1,false),(16,1,false),(17,6,true),(23,2,true),(25,1,false)] }),
 (76, { agg:=true,e:=eRpc,bytes:=104,fs:=[(0,1,false),(1,1,false),(2,1,false),(3,1,false),(4,1,false),(5,1,false),(6,1,false),(7,1,false),(8,1,false),(9,1,false)] }),
 (85, { agg:=true,e:=x_dt,bytes:=40,fs:=[(0,1,false),(1,1,false),(2,1,false)] }),
 (88, { agg:=true,e:=x_a2,bytes:=80,fs:=[(0,1,false),(1,1,false),(2,1,false),(3,1,false)] }),
 (90, { agg:=false,e:=(.sl x_gj),bytes:=24,el:=45 }),
 (91, { agg:=false,e:=(.sl eCmd),bytes:=24,el:=123 }),
 (92, { agg:=false,e:=(.sl eHeard),bytes:=24,el:=262 }),
 (94, { agg:=true,e:=x_c0,bytes:=184,fs:=[(0,4,true),(4,1,false),(5,1,false),(6,1,false),(7,1,false),(8,1,false),(9,1,false),(10,1,false)] }),
 (104, { agg:=false,e:=(.sl x_rp),bytes:=24,el:=154 }),
 (106, { agg:=true,e:=x_bf,bytes:=56,fs:=[(0,1,false),(1,1,false),(2,1,false),(3,1,false),(4,1,false)] }),
 (109, { agg:=false,e:=(.sl x_sp),bytes:=24,el:=157 }),
 (111, { agg:=true,e:=eRow,bytes:=40,fs:=[(0,1,false),(1,1,false),(2,1,false)] }),
 (118, { agg:=true,e:=x_bl,bytes:=48,fs:=[(0,1,false),(1,1,false),(2,1,false),(3,1,false)],eq:=true }),
 (123, { agg:=true,e:=eCmd,bytes:=80,fs:=[(0,1,false),(1,1,false),(2,1,false),(3,1,false),(4,1,false),(5,1,false),(6,1,false),(7,1,false)],eq:=true }),
 (125, { agg:=true,e:=x_cv,bytes:=88,fs:=[(0,1,false),(1,8,true)],eq:=true }),
 (132, { agg:=false,e:=(.sl x_js),bytes:=24,el:=136 }),
 (136, { agg:=true,e:=x_js,bytes:=72,fs:=[(0,1,false),(1,1,false),(2,1,false),(3,1,false),(4,1,false),(5,1,false)] }),
 (139, { agg:=false,e:=(.sl x_vq),bytes:=24,el:=185 }),
 (154, { agg:=true,e:=x_rp,bytes:=16,fs:=[(0,1,false),(1,1,false)],eq:=true }),
 (157, { agg:=true,e:=x_sp,bytes:=56,fs:=[(0,1,false),(1,1,false),(2,1,false),(3,1,false),(4,1,false)],eq:=true }),
 (185, { agg:=true,e:=x_vq,bytes:=104,fs:=[(0,1,false),(1,1,false),(2,1,false),(3,8,true)] }),
 (214, { agg:=false,e:= .u,bytes:=8,ptr:=true }),
 (216, { agg:=true,e:=x_cr,bytes:=40,fs:=[(0,1,false),(1,1,false),(2,1,false)] }),
 (225, { agg:=true,e:=x_cr,bytes:=40,fs:=[(0,1,false),(1,1,false),(2,1,false)] }),
 (229, { agg:=false,e:=(.sl .s),bytes:=24,el:=9 }),
 (254, { agg:=false,e:=(.sl (.sl (.i .u8))),bytes:=24,el:=22 }),
 (262, { agg:=true,e:=eHeard,bytes:=80,fs:=[(0,1,false),(1,1,false),(2,4,true),(6,1,false),(7,1,false)] }),
 (275, { agg:=true,e:=x_ee,bytes:=512,fs:=[(0,4,true),(4,1,false),(5,26,true),(31,1,false)] })]
theorem tys_ok:x_ew Tryz.prog (tiOf tys):=tabOk_of (by kernel_rfl)
theorem mixed:Tryz.prog.follows .mixedOrders=true:=by kernel_rfl
noncomputable abbrev PP:Program:=Tryz.prog
noncomputable def tt:TT PP:=t0 tys_ok
noncomputable def B4:Bd PP:=⟨⟨[vo (.sl (.i .u8)) 1],[ro .b 0],[],u1 l_big,false⟩,tt,hn [1,4],0,Tryz.f4,[.tmp 2]⟩
theorem o4:FOk PP 4 B4.F:=bok mixed Tryz.func4
noncomputable def B17 (K:Nat):Bd PP:=⟨⟨[.val false (.sl (.i .u8)) [.f]],[ra x_dt 0],[],u1 (x_dx K),true⟩,tt,hn [1,9,25,32793,25,25,2147483652],K,Tryz.f17,[.tmp 2]⟩
noncomputable def x_dx.g0 (K:Nat) (a0:y0) (n:Nat) (q0:Int) (q1:Int):Option y20:=
 lq (B17 K) (dirs 5 1381) n ⟨[vl (.i .u8) 0 a0, .dead, .dead,vi q0,vi q1]++dd 27,dn 33⟩
theorem x_dx.ok0 (K:Nat) (a0:y0):x_dx.g0 K a0=x_dx.l0 K a0:=
 funext (lpe2 (fun _ _=>by kernel_rfl) fun _ _ _=>by kernel_rfl)
theorem o17 (K:Nat):FOk PP 17 (B17 K).F:=bokn mixed Tryz.func17 fun v=>by
 have e:(B17 K).run v=x_dx.b K v.1 (x_dx.g0 K v.1 K):=by kernel_rfl
 rw [x_dx.ok0] at e
 exact e.trans (by kernel_rfl)
noncomputable def B50:Bd PP:=⟨⟨[vp x_dt 0],[ro (.i .i64) 0],[],u1 x_hu,false⟩,tt,hn [1,1,9,17179869193,9,9,5],0,Tryz.f50,[.tmp 2]⟩
theorem o50:FOk PP 50 B50.F:=bok mixed Tryz.func50
noncomputable def B19:Bd PP:=⟨⟨[vp x_dt 0,vo (.i .i64) 0],[ro (.i .i64) 0],[],u2 x_j,false⟩,cn o50 tt,hn [3,1027,17,4099,17,35,99,227,483,17],0,Tryz.f19,[.tmp 4]⟩
theorem o19:FOk PP 19 B19.F:=bok mixed Tryz.func19
noncomputable def B31:Bd PP:=⟨⟨[vp x_dt 0,vo (.sl (.i .i64)) 1],[ro (.i .i64) 0],[],u2 x_0,false⟩,cn o19 tt,hn [3,17],0,Tryz.f31,[.tmp 4]⟩
theorem o31:FOk PP 31 B31.F:=bok mixed Tryz.func31
noncomputable def B49:Bd PP:=⟨⟨[vp x_dt 0],[ra x_a6 0],[],u1 x_dv,false⟩,cn o19<|cn o31 tt,hn [5,5],0,Tryz.f49,[.cell 2 25]⟩
theorem o49:FOk PP 49 B49.F:=bok mixed Tryz.func49
noncomputable def B18:Bd PP:=⟨⟨[vp x_dt 0],[ra x_a6 0],[],u1 x_na,false⟩,cn o49<|cn o19<|cn o31 tt,hn [5,13,141,397,13,16525,13,1048717,13,67108877,13,5],0,Tryz.f18,[.cell 2 25]⟩
theorem o18:FOk PP 18 B18.F:=bok mixed Tryz.func18
noncomputable def B5 (K:Nat):Bd PP:=⟨⟨[vo (.sl (.i .u8)) 0],[ra x_a6 0,ro (.i .i64) 0,ro (.i .i64) 0],[],u1 (x_f6 K),false⟩,cn (o17 K)<|cn o18<|cn o19 tt,hn [5,292,356,28],K,Tryz.f5,[.cell 2 25, .tmp 3, .tmp 4]⟩
theorem o5 (K:Nat):FOk PP 5 (B5 K).F:=bok mixed Tryz.func5
noncomputable def B20:Bd PP:=⟨⟨[vo (.i .i64) 0,vo (.i .i64) 0,vo (.i .i64) 0],[ro .b 0],[],u3 x_6,false⟩,tt,hn [7,64],0,Tryz.f20,[.tmp 6]⟩
theorem o20:FOk PP 20 B20.F:=bok mixed Tryz.func20
noncomputable def B51:Bd PP:=⟨⟨[va x_a6 0],[ro .b 0],[],u1 x_g4,false⟩,cn o20 tt,hn [2,4],0,Tryz.f51,[.tmp 2]⟩
theorem o51:FOk PP 51 B51.F:=bok mixed Tryz.func51
noncomputable def B52:Bd PP:=⟨⟨[vo (.i .i64) 0],[ra x_a2 78],[],u1 x_jx,false⟩,cn o20 tt,hn [5,37,4,4],0,Tryz.f52,[.cell 2 88]⟩
theorem o52:FOk PP 52 B52.F:=bok mixed Tryz.func52
noncomputable def B23 (K:Nat):Bd PP:=⟨⟨[va x_a6 0],[ra x_c7 674],[],u1 (x_bo K),false⟩,cn o51<|cn o52 tt,hn [6,134,4,14,30,65566,30,30,4],K,Tryz.f23,[.cell 2 37]⟩
noncomputable def x_bo.g0 (K:Nat) (a0:x_e) (n:Nat) (q0:Int) (q1:y12):Option y17:=
 lq (B23 K) (dirs 6 6906) n ⟨[.dead,vt 1 1 0,vt 2 1 0,vt 3 1 0,vi q0]++dd 23,[none,bv x_a6 0 a0,bv x_c7 674 ([],[],[],0,[],[]),bv x_c7 674 (List.replicate a0.1.toNat zRow,[],q1,0,List.replicate 4 0,List.replicate 4 x_cc)]++dn 25⟩
theorem x_bo.ok0 (K:Nat) (a0:x_e):x_bo.g0 K a0=x_bo.l0 K a0:=
 funext (lpe2 (fun _ _=>by kernel_rfl) fun _ _ _=>by kernel_rfl)
theorem o23 (K:Nat):FOk PP 23 (B23 K).F:=bok mixed Tryz.func23 fun v=>by
 have e:(B23 K).run v=x_bo.b K v.1 (x_bo.g0 K v.1 K):=by kernel_rfl
 rw [x_bo.ok0] at e
 exact e.trans (by kernel_rfl)
noncomputable def B21 (K:Nat):Bd PP:=⟨⟨[va x_a6 0],[ra x_il 163944],[],u1 (x_hc K),false⟩,cn o51<|cn (o23 K) tt,hn [6,38,4,4],K,Tryz.f21,[.cell 2 39]⟩
theorem o21 (K:Nat):FOk PP 21 (B21 K).F:=bok mixed Tryz.func21
noncomputable def B22 (K:Nat):Bd PP:=⟨⟨[vo (.i .i64) 0],[ro (.sl (.i .i64)) 2],[],u1 (x_gy K),false⟩,tt,hn [1,9,25,153,25,25,4],K,Tryz.f22,[.tmp 2]⟩
noncomputable def x_gy.g0 (K:Nat) (a0:Int) (n:Nat) (q0:y0) (q1:Int):Option y29:=
 lq (B22 K) (dirs 5 1381) n ⟨[vi a0, .dead, .dead,vl (.i .i64) 2 q0,vi q1]++dd 9,dn 15⟩
theorem x_gy.ok0 (K:Nat) (a0:Int):x_gy.g0 K a0=x_gy.l0 K a0:=
 funext (lpe2 (fun _ _=>by kernel_rfl) fun _ _ _=>by kernel_rfl)
theorem o22 (K:Nat):FOk PP 22 (B22 K).F:=bok mixed Tryz.func22 fun v=>by
 have e:(B22 K).run v=x_gy.b K v.1 (x_gy.g0 K v.1 K):=by kernel_rfl
 rw [x_gy.ok0] at e
 exact e.trans (by kernel_rfl)
noncomputable def B59:Bd PP:=⟨⟨[va eLog 9],[ro (.i .i64) 0,ro (.i .i64) 0],[],u1 x_pm,false⟩,tt,hn [2,18,530,12,12],0,Tryz.f59,[.tmp 2, .tmp 3]⟩
theorem o59:FOk PP 59 B59.F:=bok mixed Tryz.func59
noncomputable def B105 (K:Nat):Bd PP:=⟨⟨[vo .s 0],[ro .b 0],[],u1 (x_a3 K),false⟩,tt,hn [1,9,265,9,25,2147483657,4,4],K,Tryz.f105,[.tmp 2]⟩
noncomputable def x_a3.g0 (K:Nat) (a0:y2) (n:Nat) (q0:Int):Option y11:=
 lq (B105 K) (dirs 4 276) n ⟨[vs a0, .dead, .dead,vi q0]++dd 31,dn 36⟩
theorem x_a3.ok0 (K:Nat) (a0:y2):x_a3.g0 K a0=x_a3.l0 K a0:=
 funext (lpe1 (fun _=>by kernel_rfl) fun _ _=>by kernel_rfl)
theorem o105 (K:Nat):FOk PP 105 (B105 K).F:=bok mixed Tryz.func105 fun v=>by
 have e:(B105 K).run v=x_a3.b K v.1 (x_a3.g0 K v.1 K):=by kernel_rfl
 rw [x_a3.ok0] at e
 exact e.trans (by kernel_rfl)
noncomputable def B76 (K:Nat):Bd PP:=⟨⟨[va eCmd 0],[ro .b 0],[],u1 (x_ks K),false⟩,cn o20<|cn (o105 K) tt,hn [2,34,4,4],K,Tryz.f76,[.tmp 2]⟩
theorem o76 (K:Nat):FOk PP 76 (B76 K).F:=bok mixed Tryz.func76
noncomputable def B60 (K:Nat):Bd PP:=⟨⟨[va eLog 9],[ro .b 0],[],u1 (x_d1 K),false⟩,cn o20<|cn (o76 K) tt,hn [2,16777218,4,10,1879048200,4026531848,1879048232,17594065092640,4,1879048200,1879048200,4],K,Tryz.f60,[.tmp 2]⟩
noncomputable def x_d1.g0 (K:Nat) (a0:TLog) (n:Nat) (q0:Int) (q1:Int):Option y11:=
 lq (B60 K) (dirs 6 6906) n ⟨dd 3++[vi q0]++dd 24++[vl x_cv 1 a0.2.2,vi (a0.2.2.length:Int),vi q1]++dd 17,dn 49⟩
theorem x_d1.ok0 (K:Nat) (a0:TLog):x_d1.g0 K a0=x_d1.l0 K a0:=
 funext (lpe2 (fun _ _=>by kernel_rfl) fun _ _ _=>by kernel_rfl)
theorem o60 (K:Nat):FOk PP 60 (B60 K).F:=bok mixed Tryz.func60 fun v=>by
 have e:(B60 K).run v=x_d1.b K v.1 (x_d1.g0 K v.1 K):=by kernel_rfl
 rw [x_d1.ok0] at e
 exact e.trans (by kernel_rfl)
noncomputable def B62:Bd PP:=⟨⟨[vo (.i .i64) 0,vp (.i .i64) 0,vp (.i .i64) 0],[ro .b 0],[],u3 x_hv,false⟩,cn o20 tt,hn [7,22],0,Tryz.f62,[.tmp 4]⟩
theorem o62:FOk PP 62 B62.F:=bok mixed Tryz.func62
noncomputable def B103 (K:Nat):Bd PP:=⟨⟨[vo (.sl (.i .i64)) 1,vp (.i .i64) 0,vp (.i .i64) 0],[ro (.i .i64) 0],[.one, .fn 62 2],u3 (x_i K),false⟩,sf 1<|cn o62 tt,hn [7,391,903,423,65959,22,391,22],K,Tryz.f103,[.tmp 4]⟩
noncomputable def x_i.g0 (K:Nat) (a0:y0) (a1:Int) (a2:Int) (n:Nat) (q0:Int) (q1:Int) (q2:Int):Option y57:=
 lq (B103 K) (dirs 4 276) n ⟨[vl (.i .i64) 1 a0, .fn 62 [.one (.ptr 1 0 0), .one (.ptr 2 0 0)]]++dd 5++[vi (a0.length:Int),vi q0]++dd 10,[none,some (0,[.val .f (.i .i64) q1]),some (0,[.val .f (.i .i64) q2])]++dn 19⟩
theorem x_i.ok0 (K:Nat) (a0:y0) (a1:Int) (a2:Int):x_i.g0 K a0 a1 a2=x_i.l0 K a0 a1 a2:=
 funext (lpe3 (fun _ _ _=>by kernel_rfl) fun _ _ _ _=>by kernel_rfl)
theorem o103 (K:Nat):FOk PP 103 (B103 K).F:=bok mixed Tryz.func103 fun v=>by
 have e:(B103 K).run v=x_i.b K v.1 v.2.1 v.2.2.1 (x_i.g0 K v.1 v.2.1 v.2.2.1 K):=by kernel_rfl
 rw [x_i.ok0] at e
 exact e.trans (by kernel_rfl)
noncomputable def B61 (K:Nat):Bd PP:=⟨⟨[vo (.sl (.i .i64)) 1,vp (.i .i64) 0,vp (.i .i64) 0],[ro .b 0],[.one, .fn 62 2],u3 (x_cp K),false⟩,sf 1<|cg 62 (o103 K) tt,hn [7,22],K,Tryz.f61,[.tmp 4]⟩
theorem o61 (K:Nat):FOk PP 61 (B61 K).F:=bok mixed Tryz.func61
noncomputable def B34 (K:Nat):Bd PP:=⟨⟨[vo (.sl (.i .i64)) 1,vo (.i .i64) 0,vo (.i .i64) 0],[ro .b 0],[],u3 (x_el K),false⟩,cg 62 (o61 K) tt,hn [49,64],K,Tryz.f34,[.tmp 6]⟩
theorem o34 (K:Nat):FOk PP 34 (B34 K).F:=bok mixed Tryz.func34
noncomputable def B63 (K:Nat):Bd PP:=⟨⟨[va x_bf 81,vo (.i .i64) 0],[ro .b 0],[],u2 (x_b5 K),false⟩,cn o20 tt,hn [6,35184372088836,16,985162418487300,2111062325329924,985162418487396,154742504911657696780877828,16,985162418487300,16],K,Tryz.f63,[.tmp 4]⟩
noncomputable def x_b5.g0 (K:Nat) (a0:x_am) (a1:Int) (n:Nat) (q0:Int):Option y11:=
 lq (B63 K) (dirs 5 1381) n ⟨[.dead, .dead,vt 2 1 0]++dd 44++[vl x_rp 1 a0.2.2.2.2,vi (a0.2.2.2.2.length:Int),vi q0]++dd 39,[none,none,bv x_bf 81 a0]++dn 88⟩
theorem x_b5.ok0 (K:Nat) (a0:x_am) (a1:Int):x_b5.g0 K a0 a1=x_b5.l0 K a0 a1:=
 funext (lpe1 (fun _=>by kernel_rfl) fun _ _=>by kernel_rfl)
theorem o63 (K:Nat):FOk PP 63 (B63 K).F:=bok mixed Tryz.func63 fun v=>by
 have e:(B63 K).run v=x_b5.b K v.1 v.2.1 (x_b5.g0 K v.1 v.2.1 K):=by kernel_rfl
 rw [x_b5.ok0] at e
 exact e.trans (by kernel_rfl)
end Go.Proofs.YtoiamgohjmjbiaaGreat.Pe
