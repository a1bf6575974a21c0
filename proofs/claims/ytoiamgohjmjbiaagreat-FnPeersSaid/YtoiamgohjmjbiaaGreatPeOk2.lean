/- The functions compute what is told of them. -/
import Derived.Test.YtoiamgohjmjbiaaGreatPeOk1
set_option linter.all false
set_option maxRecDepth 100000
namespace Go.Proofs.YtoiamgohjmjbiaaGreat.Pe
open Go Go.Kn
noncomputable def B74 (K:Nat):Bd PP:=⟨⟨[vo (.sl x_cv) 1,vp eRpc 0],[ro .b 0],[.one, .fn 75 1],u2 (x_cj K),false⟩,cg 75 (o109 K) tt,hn [3,18],K,Tryz.f74,[.tmp 4]⟩
theorem o74 (K:Nat):FOk PP 74 (B74 K).F:=bok mixed Tryz.func74
noncomputable def B39 (K:Nat):Bd PP:=⟨⟨[va eRpc 0,vo (.i .i64) 0],[ro .b 0],[],u2 (x_th K),false⟩,cn o20<|cg 75 (o74 K) tt,hn [6,68719476740,16,1180591620717411303428,16,16],K,Tryz.f39,[.tmp 4]⟩
theorem o39 (K:Nat):FOk PP 39 (B39 K).F:=bok mixed Tryz.func39
noncomputable def B38 (K:Nat):Bd PP:=⟨⟨[va eRpc 0,vp (.i .i64) 0,vp x_gj 0],[ro .b 0],[],u3 (x_mo K),false⟩,cn (o39 K) tt,hn [14,22],K,Tryz.f38,[.tmp 4]⟩
theorem o38 (K:Nat):FOk PP 38 (B38 K).F:=bok mixed Tryz.func38
noncomputable def B73 (K:Nat):Bd PP:=⟨⟨[vo (.sl eRpc) 1,vp (.i .i64) 0,vp x_gj 0],[ro (.i .i64) 0],[.one, .fn 38 2],u3 (x_t K),false⟩,sf 1<|cn (o38 K) tt,hn [7,391,903,423,65959,22,391,22],K,Tryz.f73,[.tmp 4]⟩
noncomputable def x_t.g0 (K:Nat) (a0:y4) (a1:Int) (a2:x_cg) (n:Nat) (q0:Int) (q1:Int) (q2:x_cg):Option y78:=
 lq (B73 K) (dirs 4 276) n ⟨[vl eRpc 1 a0, .fn 38 [.one (.ptr 1 0 0), .one (.ptr 2 0 0)]]++dd 5++[vi (a0.length:Int),vi q0]++dd 10,[none,some (0,[.val .f (.i .i64) q1]),some (0,[.val .f (.i .i64) q2.1, .val .f (.i .i64) q2.2.1.1, .val .f (.i .i64) q2.2.1.2.1, .val .f (.i .i64) q2.2.1.2.2.1.1, .val .f (.i .i64) q2.2.1.2.2.1.2.1, .val .f (.sl x_cv) q2.2.1.2.2.1.2.2, .val .f (.sl eRow) q2.2.1.2.2.2.1, .val .f (.sl x_bf) q2.2.1.2.2.2.2.1, .val .f (.sl x_a2) q2.2.1.2.2.2.2.2.1, .val .f (.i .i64) q2.2.1.2.2.2.2.2.2.1, .val .f (.sl (.i .i64)) q2.2.1.2.2.2.2.2.2.2.1, .val .f (.sl x_bl) q2.2.1.2.2.2.2.2.2.2.2, .val .f (.i .i64) q2.2.2.1, .val .f (.sl .b) q2.2.2.2.1, .val .f (.sl (.i .i64)) q2.2.2.2.2.1, .val .f (.sl (.i .i64)) q2.2.2.2.2.2.1, .val .f (.i .i64) q2.2.2.2.2.2.2.1, .val .f (.sl eRow) q2.2.2.2.2.2.2.2.1.1, .val .f (.sl x_bf) q2.2.2.2.2.2.2.2.1.2.1, .val .f (.sl x_a2) q2.2.2.2.2.2.2.2.1.2.2.1, .val .f (.i .i64) q2.2.2.2.2.2.2.2.1.2.2.2.1, .val .f (.sl (.i .i64)) q2.2.2.2.2.2.2.2.1.2.2.2.2.1, .val .f (.sl x_bl) q2.2.2.2.2.2.2.2.1.2.2.2.2.2, .val .f (.sl (.i .u8)) q2.2.2.2.2.2.2.2.2.1.1, .val .f (.i .i64) q2.2.2.2.2.2.2.2.2.1.2, .val .f (.sl eRpc) q2.2.2.2.2.2.2.2.2.2])]++dn 19⟩
theorem x_t.ok0 (K:Nat) (a0:y4) (a1:Int) (a2:x_cg):x_t.g0 K a0 a1 a2=x_t.l0 K a0 a1 a2:=
 funext (lpe3 (fun _ _ _=>by kernel_rfl) fun _ _ _ _=>by kernel_rfl)
theorem o73 (K:Nat):FOk PP 73 (B73 K).F:=bok mixed Tryz.func73 fun v=>by
 have e:(B73 K).run v=x_t.b K v.1 v.2.1 v.2.2.1 (x_t.g0 K v.1 v.2.1 v.2.2.1 K):=by kernel_rfl
 rw [x_t.ok0] at e
 exact e.trans (by kernel_rfl)
noncomputable def B37 (K:Nat):Bd PP:=⟨⟨[vo (.sl eRpc) 1,vp (.i .i64) 0,vp x_gj 0],[ro .b 0],[.one, .fn 38 2],u3 (x_b7 K),false⟩,sf 1<|cg 38 (o73 K) tt,hn [7,22],K,Tryz.f37,[.tmp 4]⟩
theorem o37 (K:Nat):FOk PP 37 (B37 K).F:=bok mixed Tryz.func37
noncomputable def B11 (K:Nat):Bd PP:=⟨⟨[va x_a6 0,va x_gj 0,vo (.i .i64) 0],[ro .b 0],[],u3 (x_kd K),false⟩,cn o20<|cn (o32 K)<|cn o33<|cn (o34 K)<|cn (o35 K)<|cn o36<|cg 38 (o37 K) tt,hn [56,274877907000,64,184,75557863725914323419320,64,20282409603651670423947251286064,64,64],K,Tryz.f11,[.tmp 6]⟩
theorem o11 (K:Nat):FOk PP 11 (B11 K).F:=bok mixed Tryz.func11
noncomputable def B6 (K:Nat):Bd PP:=⟨⟨[va x_a6 0,vo (.i .i64) 0,vo (.i .i64) 0],[ra x_gj 0,ro .b 0],[],u3 (x_li K),false⟩,cn o20<|cn (o21 K)<|cn (o22 K)<|cn (o23 K)<|cn (o11 K) tt,hn [78,2126,192,332,536871232,192,192],K,Tryz.f6,[.cell 6 45, .tmp 7]⟩
theorem o6 (K:Nat):FOk PP 6 (B6 K).F:=bok mixed Tryz.func6
noncomputable def B25:Bd PP:=⟨⟨[vo (.i .i64) 0,vo (.i .i64) 0,vo (.i .i64) 0],[ro .b 0],[],u3 x_bb,false⟩,tt,hn [7,64],0,Tryz.f25,[.tmp 6]⟩
theorem o25:FOk PP 25 B25.F:=bok mixed Tryz.func25
noncomputable def B24:Bd PP:=⟨⟨[va x_a6 0],[ro .b 0],[],u1 x_e6,false⟩,cn o25 tt,hn [2,4],0,Tryz.f24,[.tmp 2]⟩
theorem o24:FOk PP 24 B24.F:=bok mixed Tryz.func24
noncomputable def B53:Bd PP:=⟨⟨[vo (.i .i64) 0],[ra x_a2 78],[],u1 x_hr,false⟩,cn o25 tt,hn [5,37,4,4],0,Tryz.f53,[.cell 2 88]⟩
theorem o53:FOk PP 53 B53.F:=bok mixed Tryz.func53
noncomputable def B28 (K:Nat):Bd PP:=⟨⟨[va x_a6 0],[ra x_c7 674],[],u1 (x_br K),false⟩,cn o24<|cn o53 tt,hn [6,134,4,14,30,65566,30,30,4],K,Tryz.f28,[.cell 2 37]⟩
noncomputable def x_br.g0 (K:Nat) (a0:x_e) (n:Nat) (q0:Int) (q1:y12):Option y17:=
 lq (B28 K) (dirs 6 6906) n ⟨[.dead,vt 1 1 0,vt 2 1 0,vt 3 1 0,vi q0]++dd 23,[none,bv x_a6 0 a0,bv x_c7 674 ([],[],[],0,[],[]),bv x_c7 674 (List.replicate a0.1.toNat zRow,[],q1,0,List.replicate 4 0,List.replicate 4 x_cc)]++dn 25⟩
theorem x_br.ok0 (K:Nat) (a0:x_e):x_br.g0 K a0=x_br.l0 K a0:=
 funext (lpe2 (fun _ _=>by kernel_rfl) fun _ _ _=>by kernel_rfl)
theorem o28 (K:Nat):FOk PP 28 (B28 K).F:=bok mixed Tryz.func28 fun v=>by
 have e:(B28 K).run v=x_br.b K v.1 (x_br.g0 K v.1 K):=by kernel_rfl
 rw [x_br.ok0] at e
 exact e.trans (by kernel_rfl)
noncomputable def B26 (K:Nat):Bd PP:=⟨⟨[va x_a6 0],[ra x_il 163944],[],u1 (x_f5 K),false⟩,cn o24<|cn (o28 K) tt,hn [6,38,4,4],K,Tryz.f26,[.cell 2 39]⟩
theorem o26 (K:Nat):FOk PP 26 (B26 K).F:=bok mixed Tryz.func26
noncomputable def B27 (K:Nat):Bd PP:=⟨⟨[vo (.i .i64) 0,vo (.i .i64) 0],[ro (.sl (.i .i64)) 2],[],u2 (x_bt K),false⟩,tt,hn [3,35,99,1123,99,99,16],K,Tryz.f27,[.tmp 4]⟩
noncomputable def x_bt.g0 (K:Nat) (a0:Int) (a1:Int) (n:Nat) (q0:y0) (q1:Int):Option y29:=
 lq (B27 K) (dirs 5 1381) n ⟨[vi a0,vi a1]++dd 3++[vl (.i .i64) 2 q0,vi q1]++dd 11,dn 20⟩
theorem x_bt.ok0 (K:Nat) (a0:Int) (a1:Int):x_bt.g0 K a0 a1=x_bt.l0 K a0 a1:=
 funext (lpe2 (fun _ _=>by kernel_rfl) fun _ _ _=>by kernel_rfl)
theorem o27 (K:Nat):FOk PP 27 (B27 K).F:=bok mixed Tryz.func27 fun v=>by
 have e:(B27 K).run v=x_bt.b K v.1 v.2.1 (x_bt.g0 K v.1 v.2.1 K):=by kernel_rfl
 rw [x_bt.ok0] at e
 exact e.trans (by kernel_rfl)
noncomputable def B41:Bd PP:=⟨⟨[va eLog 9],[ro (.i .i64) 0,ro (.i .i64) 0],[],u1 x_dk,false⟩,tt,hn [2,18,530,12,12],0,Tryz.f41,[.tmp 2, .tmp 3]⟩
theorem o41:FOk PP 41 B41.F:=bok mixed Tryz.func41
noncomputable def B113 (K:Nat):Bd PP:=⟨⟨[vo .s 0],[ro .b 0],[],u1 (x_cm K),false⟩,tt,hn [1,9,265,9,25,4294967305,4,4],K,Tryz.f113,[.tmp 2]⟩
noncomputable def x_cm.g0 (K:Nat) (a0:y2) (n:Nat) (q0:Int):Option y11:=
 lq (B113 K) (dirs 4 276) n ⟨[vs a0, .dead, .dead,vi q0]++dd 32,dn 37⟩
theorem x_cm.ok0 (K:Nat) (a0:y2):x_cm.g0 K a0=x_cm.l0 K a0:=
 funext (lpe1 (fun _=>by kernel_rfl) fun _ _=>by kernel_rfl)
theorem o113 (K:Nat):FOk PP 113 (B113 K).F:=bok mixed Tryz.func113 fun v=>by
 have e:(B113 K).run v=x_cm.b K v.1 (x_cm.g0 K v.1 K):=by kernel_rfl
 rw [x_cm.ok0] at e
 exact e.trans (by kernel_rfl)
noncomputable def B110 (K:Nat):Bd PP:=⟨⟨[va eCmd 0],[ro .b 0],[],u1 (x_km K),false⟩,cn o25<|cn (o113 K) tt,hn [2,34,4,4],K,Tryz.f110,[.tmp 2]⟩
theorem o110 (K:Nat):FOk PP 110 (B110 K).F:=bok mixed Tryz.func110
noncomputable def B77 (K:Nat):Bd PP:=⟨⟨[va eLog 9],[ro .b 0],[],u1 (x_d3 K),false⟩,cn o25<|cn (o110 K) tt,hn [2,8388610,4,10,26,1073741850,26,2251799813685266,4,26,4],K,Tryz.f77,[.tmp 2]⟩
noncomputable def x_d3.g0 (K:Nat) (a0:TLog) (n:Nat) (q0:Int) (q1:Int):Option y11:=
 lq (B77 K) (dirs 6 6906) n ⟨[.dead,vt 1 1 0, .dead,vi q0,vi q1]++dd 53,[none,bv eLog 9 a0]++dn 57⟩
theorem x_d3.ok0 (K:Nat) (a0:TLog):x_d3.g0 K a0=x_d3.l0 K a0:=
 funext (lpe2 (fun _ _=>by kernel_rfl) fun _ _ _=>by kernel_rfl)
theorem o77 (K:Nat):FOk PP 77 (B77 K).F:=bok mixed Tryz.func77 fun v=>by
 have e:(B77 K).run v=x_d3.b K v.1 (x_d3.g0 K v.1 K):=by kernel_rfl
 rw [x_d3.ok0] at e
 exact e.trans (by kernel_rfl)
noncomputable def B111 (K:Nat):Bd PP:=⟨⟨[va x_bf 81,vo (.i .i64) 0],[ro .b 0],[],u2 (x_be K),false⟩,cn o25 tt,hn [6,38,1062,38,288230376151711782,16,9671406556917033397649412,16,16],K,Tryz.f111,[.tmp 4]⟩
noncomputable def x_be.g0 (K:Nat) (a0:x_am) (a1:Int) (n:Nat) (q0:Int):Option y11:=
 lq (B111 K) (dirs 4 276) n ⟨[.dead,vi a1,vt 2 1 0, .dead, .dead,vi q0]++dd 96,[none,none,bv x_bf 81 a0]++dn 101⟩
theorem x_be.ok0 (K:Nat) (a0:x_am) (a1:Int):x_be.g0 K a0 a1=x_be.l0 K a0 a1:=
 funext (lpe1 (fun _=>by kernel_rfl) fun _ _=>by kernel_rfl)
theorem o111 (K:Nat):FOk PP 111 (B111 K).F:=bok mixed Tryz.func111 fun v=>by
 have e:(B111 K).run v=x_be.b K v.1 v.2.1 (x_be.g0 K v.1 v.2.1 K):=by kernel_rfl
 rw [x_be.ok0] at e
 exact e.trans (by kernel_rfl)
end Go.Proofs.YtoiamgohjmjbiaaGreat.Pe
