/- The functions compute what is told of them. -/
import Derived.Test.YtjfnlbdnfglmfaaGreatCuOk11
set_option linter.all false
set_option maxRecDepth 100000
namespace Go.Proofs.YtjfnlbdnfglmfaaGreat.Cu
open Go Go.Kn
noncomputable def B285 (K:Nat):Bd PP:=⟨⟨[vp x_ei 0],[ra x_bh 78,ro (.i .i64) 0],[],u1 (x_a6 K),false⟩,cn o30<|cn o278<|cn o35<|cn (o319 K)<|cn (o313 K)<|cn o320<|cn (o321 K) tt,hn [5,21,53,117,245,65781,245,245,33554677,245,2181038325,245,137472508149,245,4398046511349,245,13],K,Tryz.f285,[.cell 2 121, .tmp 3]⟩
noncomputable def x_a6.g0 (K:Nat) (a0:x_6) (n:Nat) (v1:y41) (q0:Int) (q1:Int) (q2:y41) (q3:x_ar):Option y96:=
 lq (B285 K) (dirs 7 34531) n ⟨[vt 0 0 0, .dead,vt 2 1 0, .dead,vi (i6 (1+v1.1)),vt 5 1 0,vi q0,vi q1]++dd 52,[some (0,[.val .f (.sl (.i .u8)) q2.2.1.1, .val .f (.i .i64) q2.2.1.2.1, .val .f (.i .i64) q2.2.1.2.2]),none,bv x_bh 78 (0,[],[],[]),none,none,bv x_bh 78 q3]++dn 55⟩
theorem x_a6.ok0 (K:Nat) (a0:x_6):x_a6.g0 K a0=x_a6.l0 K a0:=
 funext (lpe5 (fun _ _ _ _ _=>by kernel_rfl) fun _ _ _ _ _ _=>by kernel_rfl)
theorem o285 (K:Nat):FOk PP 285 (B285 K).F:=bok mixed Tryz.func285 fun v=>by
 have e:(B285 K).run v=x_a6.b K v.1 (x_a6.g0 K v.1 K):=by kernel_rfl
 rw [x_a6.ok0] at e
 exact e.trans (by kernel_rfl)
noncomputable def B225 (K:Nat):Bd PP:=⟨⟨[vp x_ei 0],[ra x_bh 78,ro (.i .i64) 0],[],u1 (x_oc K),false⟩,cn (o285 K)<|cn o30<|cn o35 tt,hn [5,53,4149,12341,53,528437,53,268439605,53,274877911093,53,4398046511157,53,13],K,Tryz.f225,[.cell 2 121, .tmp 3]⟩
theorem o225 (K:Nat):FOk PP 225 (B225 K).F:=bok mixed Tryz.func225
noncomputable def B155 (K:Nat):Bd PP:=⟨⟨[vp x_ei 0],[ra x_bt 0,ra x_dg 674],[],u1 (x_qm K),false⟩,cn (o79 K)<|cn o30<|cn o222<|cn (o223 K)<|cn (o224 K)<|cn (o225 K)<|cn o35 tt,hn [13,61,4157,12349,61,135229,61,16781373,61,8589938749,61,8796093026365,61,2251799813689405,61,9223372036854775869,61,13],K,Tryz.f155,[.cell 2 25, .cell 3 51]⟩
theorem o155 (K:Nat):FOk PP 155 (B155 K).F:=bok mixed Tryz.func155
noncomputable def B82 (K:Nat):Bd PP:=⟨⟨[vp x_ei 0],[ra x_bt 0,ra x_it 163944],[],u1 (x_mt K),false⟩,cn (o153 K)<|cn o30<|cn o35<|cn (o154 K)<|cn (o155 K) tt,hn [13,61,4157,12349,61,528445,61,33558589,61,1073741885,61,13],K,Tryz.f82,[.cell 2 25, .cell 3 53]⟩
theorem o82 (K:Nat):FOk PP 82 (B82 K).F:=bok mixed Tryz.func82
noncomputable def B227 (K:Nat):Bd PP:=⟨⟨[vp x_ei 0],[ra x_ld 162],[],u1 (x_g5 K),false⟩,cn o30<|cn (o79 K)<|cn (o80 K)<|cn (o78 K) tt,hn [5,69,197,5,32773,21,5,5],K,Tryz.f227,[.cell 2 128]⟩
theorem o227 (K:Nat):FOk PP 227 (B227 K).F:=bok mixed Tryz.func227
noncomputable def B156 (K:Nat):Bd PP:=⟨⟨[vp x_ei 0],[ro (.sl (.i .u8)) 2],[],u1 (x_a7 K),false⟩,cn o30<|cn (o227 K)<|cn (o226 K) tt,hn [1,9,25,537,25,25,5],K,Tryz.f156,[.tmp 2]⟩
noncomputable def x_a7.g0 (K:Nat) (a0:x_6) (n:Nat) (q0:y0) (q1:Int) (q2:x_6):Option y92:=
 lq (B156 K) (dirs 5 1381) n ⟨[vt 0 0 0, .dead, .dead,vl (.i .u8) 2 q0,vi q1]++dd 13,[some (0,[.val .f (.sl (.i .u8)) q2.1, .val .f (.i .i64) q2.2.1, .val .f (.i .i64) q2.2.2])]++dn 18⟩
theorem x_a7.ok0 (K:Nat) (a0:x_6):x_a7.g0 K a0=x_a7.l0 K a0:=
 funext (lpe3 (fun _ _ _=>by kernel_rfl) fun _ _ _ _=>by kernel_rfl)
theorem o156 (K:Nat):FOk PP 156 (B156 K).F:=bok mixed Tryz.func156 fun v=>by
 have e:(B156 K).run v=x_a7.b K v.1 (x_a7.g0 K v.1 K):=by kernel_rfl
 rw [x_a7.ok0] at e
 exact e.trans (by kernel_rfl)
noncomputable def B83 (K:Nat):Bd PP:=⟨⟨[vp x_ei 0],[ra x_ty 2],[],u1 (x_mx K),false⟩,cn (o156 K)<|cn o30<|cn o35 tt,hn [5,13,29,32797,98333,21,33554453,21,5],K,Tryz.f83,[.cell 2 56]⟩
theorem o83 (K:Nat):FOk PP 83 (B83 K).F:=bok mixed Tryz.func83
noncomputable def B34 (K:Nat):Bd PP:=⟨⟨[vp x_ei 0],[ra x_bt 0,ra x_gb 1969945990632,ro (.i .i64) 0],[],u1 (x_m3 K),false⟩,cn (o29 K)<|cn o30<|cn (o66 K)<|cn o35<|cn (o82 K)<|cn (o83 K)<|cn (o31 K) tt,hn [13,45,4141,29,109,134217837,402653293,109,17314087021,109,4398180728941,109,281475110928493,109,72057594172145773,109,2305843009347911789,109,147573952589676413037,109,29],K,Tryz.f34,[.cell 2 25, .cell 3 58, .tmp 4]⟩
theorem o34 (K:Nat):FOk PP 34 (B34 K).F:=bok mixed Tryz.func34
noncomputable def B13 (K:Nat):Bd PP:=⟨⟨[vp x_ei 0],[ra x_be 176904],[],u1 (x_m6 K),false⟩,cn (o29 K)<|cn o30<|cn (o31 K)<|cn o33<|cn o32<|cn (o34 K)<|cn o35 tt,hn [5,13,1037,3085,13,66573,13,33555469,13,549755814925,13,281474976711693,13,576460752303424525,45,13,2361183241434822606861,13,5],K,Tryz.f13,[.cell 2 32]⟩
theorem o13 (K:Nat):FOk PP 13 (B13 K).F:=bok mixed Tryz.func13
noncomputable def B14:Bd PP:=⟨⟨[vp x_ei 0,va x_o8 0],[ra x_o8 0],[],u2 x_kt,false⟩,cn o30<|cn o35<|cn o33<|cn o32 tt,hn [25,89,217,25,8281,25,524377,25,33554457,25,17],0,Tryz.f14,[.cell 4 36]⟩
theorem o14:FOk PP 14 B14.F:=bok mixed Tryz.func14
noncomputable def B5 (K:Nat):Bd PP:=⟨⟨[vo (.sl (.i .u8)) 0],[ra x_be 176904,ra x_o8 0],[],u1 (x_qo K),false⟩,cn (o12 K)<|cn (o13 K)<|cn (o15 K)<|cn o14 tt,hn [13,156,188,12],K,Tryz.f5,[.cell 2 32, .cell 3 36]⟩
theorem o5 (K:Nat):FOk PP 5 (B5 K).F:=bok mixed Tryz.func5
noncomputable def B6:Bd PP:=⟨⟨[vo (.sl (.i .u8)) 1,vo (.i .i64) 0],[ro (.i .i64) 0],[],u2 l_at,false⟩,tt,hn [3,259,16,16],0,Tryz.f6,[.tmp 4]⟩
theorem o6:FOk PP 6 B6.F:=bok mixed Tryz.func6
noncomputable def B17:Bd PP:=⟨⟨[vo (.i .i64) 0,vo (.i .i64) 0,vo (.i .i64) 0],[ro .b 0],[],u3 x_aa,false⟩,tt,hn [7,64],0,Tryz.f17,[.tmp 6]⟩
theorem o17:FOk PP 17 B17.F:=bok mixed Tryz.func17
noncomputable def B39:Bd PP:=⟨⟨[va x_bt 0],[ro .b 0],[],u1 x_g4,false⟩,cn o17 tt,hn [2,4],0,Tryz.f39,[.tmp 2]⟩
theorem o39:FOk PP 39 B39.F:=bok mixed Tryz.func39
noncomputable def B86:Bd PP:=⟨⟨[vo (.i .i64) 0,vp (.i .i64) 0,vp (.i .i64) 0],[ro .b 0],[],u3 x_ih,false⟩,cn o17 tt,hn [7,22],0,Tryz.f86,[.tmp 4]⟩
theorem o86:FOk PP 86 B86.F:=bok mixed Tryz.func86
noncomputable def B157 (K:Nat):Bd PP:=⟨⟨[vo (.sl (.i .i64)) 1,vp (.i .i64) 0,vp (.i .i64) 0],[ro (.i .i64) 0],[.one, .fn 86 2],u3 (x_l K),false⟩,sf 1<|cn o86 tt,hn [7,391,903,423,65959,22,391,22],K,Tryz.f157,[.tmp 4]⟩
noncomputable def x_l.g0 (K:Nat) (a0:y0) (a1:Int) (a2:Int) (n:Nat) (q0:Int) (q1:Int) (q2:Int):Option y65:=
 lq (B157 K) (dirs 4 276) n ⟨[vl (.i .i64) 1 a0, .fn 86 [.one (.ptr 1 0 0), .one (.ptr 2 0 0)]]++dd 5++[vi (a0.length:Int),vi q0]++dd 10,[none,some (0,[.val .f (.i .i64) q1]),some (0,[.val .f (.i .i64) q2])]++dn 19⟩
theorem x_l.ok0 (K:Nat) (a0:y0) (a1:Int) (a2:Int):x_l.g0 K a0 a1 a2=x_l.l0 K a0 a1 a2:=
 funext (lpe3 (fun _ _ _=>by kernel_rfl) fun _ _ _ _=>by kernel_rfl)
theorem o157 (K:Nat):FOk PP 157 (B157 K).F:=bok mixed Tryz.func157 fun v=>by
 have e:(B157 K).run v=x_l.b K v.1 v.2.1 v.2.2.1 (x_l.g0 K v.1 v.2.1 v.2.2.1 K):=by kernel_rfl
 rw [x_l.ok0] at e
 exact e.trans (by kernel_rfl)
noncomputable def B85 (K:Nat):Bd PP:=⟨⟨[vo (.sl (.i .i64)) 1,vp (.i .i64) 0,vp (.i .i64) 0],[ro .b 0],[.one, .fn 86 2],u3 (x_dj K),false⟩,sf 1<|cg 86 (o157 K) tt,hn [7,22],K,Tryz.f85,[.tmp 4]⟩
theorem o85 (K:Nat):FOk PP 85 (B85 K).F:=bok mixed Tryz.func85
noncomputable def B40 (K:Nat):Bd PP:=⟨⟨[vo (.sl (.i .i64)) 1,vo (.i .i64) 0,vo (.i .i64) 0],[ro .b 0],[],u3 (x_er K),false⟩,cg 86 (o85 K) tt,hn [49,64],K,Tryz.f40,[.tmp 6]⟩
theorem o40 (K:Nat):FOk PP 40 (B40 K).F:=bok mixed Tryz.func40
noncomputable def B158:Bd PP:=⟨⟨[va eLog 9],[ro (.i .i64) 0,ro (.i .i64) 0],[],u1 x_qy,false⟩,tt,hn [2,18,530,12,12],0,Tryz.f158,[.tmp 2, .tmp 3]⟩
theorem o158:FOk PP 158 B158.F:=bok mixed Tryz.func158
noncomputable def B92 (K:Nat):Bd PP:=⟨⟨[vo .s 0],[ro .b 0],[],u1 (x_bo K),false⟩,tt,hn [1,9,265,9,25,2147483657,4,4],K,Tryz.f92,[.tmp 2]⟩
noncomputable def x_bo.g0 (K:Nat) (a0:y2) (n:Nat) (q0:Int):Option y11:=
 lq (B92 K) (dirs 4 276) n ⟨[vs a0, .dead, .dead,vi q0]++dd 31,dn 36⟩
theorem x_bo.ok0 (K:Nat) (a0:y2):x_bo.g0 K a0=x_bo.l0 K a0:=
 funext (lpe1 (fun _=>by kernel_rfl) fun _ _=>by kernel_rfl)
theorem o92 (K:Nat):FOk PP 92 (B92 K).F:=bok mixed Tryz.func92 fun v=>by
 have e:(B92 K).run v=x_bo.b K v.1 (x_bo.g0 K v.1 K):=by kernel_rfl
 rw [x_bo.ok0] at e
 exact e.trans (by kernel_rfl)
noncomputable def B42 (K:Nat):Bd PP:=⟨⟨[va eCmd 0],[ro .b 0],[],u1 (x_jt K),false⟩,cn o17<|cn (o92 K) tt,hn [2,34,4,4],K,Tryz.f42,[.tmp 2]⟩
theorem o42 (K:Nat):FOk PP 42 (B42 K).F:=bok mixed Tryz.func42
end Go.Proofs.YtjfnlbdnfglmfaaGreat.Cu
