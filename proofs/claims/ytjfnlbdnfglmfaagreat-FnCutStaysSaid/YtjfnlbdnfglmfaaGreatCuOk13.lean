/- The functions compute what is told of them. -/
import Derived.Test.YtjfnlbdnfglmfaaGreatCuOk12
set_option linter.all false
set_option maxRecDepth 100000
namespace Go.Proofs.YtjfnlbdnfglmfaaGreat.Cu
open Go Go.Kn
noncomputable def B159 (K:Nat):Bd PP:=⟨⟨[va eLog 9],[ro .b 0],[],u1 (x_et K),false⟩,cn o17<|cn (o42 K) tt,hn [2,16777218,4,10,1879048200,4026531848,1879048232,17594065092640,4,1879048200,1879048200,4],K,Tryz.f159,[.tmp 2]⟩
noncomputable def x_et.g0 (K:Nat) (a0:TLog) (n:Nat) (q0:Int) (q1:Int):Option y11:=
 lq (B159 K) (dirs 6 6906) n ⟨dd 3++[vi q0]++dd 24++[vl x_dp 1 a0.2.2,vi (a0.2.2.length:Int),vi q1]++dd 17,dn 49⟩
theorem x_et.ok0 (K:Nat) (a0:TLog):x_et.g0 K a0=x_et.l0 K a0:=
 funext (lpe2 (fun _ _=>by kernel_rfl) fun _ _ _=>by kernel_rfl)
theorem o159 (K:Nat):FOk PP 159 (B159 K).F:=bok mixed Tryz.func159 fun v=>by
 have e:(B159 K).run v=x_et.b K v.1 (x_et.g0 K v.1 K):=by kernel_rfl
 rw [x_et.ok0] at e
 exact e.trans (by kernel_rfl)
noncomputable def B160 (K:Nat):Bd PP:=⟨⟨[va x_bs 81,vo (.i .i64) 0],[ro .b 0],[],u2 (x_c0 K),false⟩,cn o17 tt,hn [6,35184372088836,16,985162418487300,2111062325329924,985162418487396,154742504911657696780877828,16,985162418487300,16],K,Tryz.f160,[.tmp 4]⟩
noncomputable def x_c0.g0 (K:Nat) (a0:x_at) (a1:Int) (n:Nat) (q0:Int):Option y11:=
 lq (B160 K) (dirs 5 1381) n ⟨[.dead, .dead,vt 2 1 0]++dd 44++[vl x_rv 1 a0.2.2.2.2,vi (a0.2.2.2.2.length:Int),vi q0]++dd 39,[none,none,bv x_bs 81 a0]++dn 88⟩
theorem x_c0.ok0 (K:Nat) (a0:x_at) (a1:Int):x_c0.g0 K a0 a1=x_c0.l0 K a0 a1:=
 funext (lpe1 (fun _=>by kernel_rfl) fun _ _=>by kernel_rfl)
theorem o160 (K:Nat):FOk PP 160 (B160 K).F:=bok mixed Tryz.func160 fun v=>by
 have e:(B160 K).run v=x_c0.b K v.1 v.2.1 (x_c0.g0 K v.1 v.2.1 K):=by kernel_rfl
 rw [x_c0.ok0] at e
 exact e.trans (by kernel_rfl)
noncomputable def B163 (K:Nat):Bd PP:=⟨⟨[va eRow 9],[ro .b 0],[],u1 (x_e0 K),false⟩,cn o17<|cn (o92 K) tt,hn [2,2097154,4,58720258,125829122,58720282,302231454903657352396802,4,58720258,4],K,Tryz.f163,[.tmp 2]⟩
noncomputable def x_e0.g0 (K:Nat) (a0:TRow) (n:Nat) (q0:Int):Option y11:=
 lq (B163 K) (dirs 5 1381) n ⟨[.dead,vt 1 1 0]++dd 21++[vl x_sl 1 a0.2.2,vi (a0.2.2.length:Int),vi q0]++dd 54,[none,bv eRow 9 a0]++dn 79⟩
theorem x_e0.ok0 (K:Nat) (a0:TRow):x_e0.g0 K a0=x_e0.l0 K a0:=
 funext (lpe1 (fun _=>by kernel_rfl) fun _ _=>by kernel_rfl)
theorem o163 (K:Nat):FOk PP 163 (B163 K).F:=bok mixed Tryz.func163 fun v=>by
 have e:(B163 K).run v=x_e0.b K v.1 (x_e0.g0 K v.1 K):=by kernel_rfl
 rw [x_e0.ok0] at e
 exact e.trans (by kernel_rfl)
noncomputable def B162 (K:Nat):Bd PP:=⟨⟨[va eRow 9],[ro .b 0],[],u1 (x_n0 K),false⟩,cn (o163 K) tt,hn [2,4],K,Tryz.f162,[.tmp 2]⟩
theorem o162 (K:Nat):FOk PP 162 (B162 K).F:=bok mixed Tryz.func162
noncomputable def B228 (K:Nat):Bd PP:=⟨⟨[vo (.sl eRow) 1],[ro (.i .i64) 0],[.one, .fn 162 0],u1 (x_3 K),false⟩,cn (o162 K) tt,hn [3,387,899,419,65955,16,387,16],K,Tryz.f228,[.tmp 4]⟩
noncomputable def x_3.g0 (K:Nat) (a0:y4) (n:Nat) (q0:Int):Option y7:=
 lq (B228 K) (dirs 4 276) n ⟨[vl eRow 1 a0, .fn 162 []]++dd 5++[vi (a0.length:Int),vi q0]++dd 10,dn 20⟩
theorem x_3.ok0 (K:Nat) (a0:y4):x_3.g0 K a0=x_3.l0 K a0:=
 funext (lpe1 (fun _=>by kernel_rfl) fun _ _=>by kernel_rfl)
theorem o228 (K:Nat):FOk PP 228 (B228 K).F:=bok mixed Tryz.func228 fun v=>by
 have e:(B228 K).run v=x_3.b K v.1 (x_3.g0 K v.1 K):=by kernel_rfl
 rw [x_3.ok0] at e
 exact e.trans (by kernel_rfl)
noncomputable def B161 (K:Nat):Bd PP:=⟨⟨[vo (.sl eRow) 1],[ro .b 0],[.one, .fn 162 0],u1 (x_cu K),false⟩,cg 162 (o228 K) tt,hn [3,16],K,Tryz.f161,[.tmp 4]⟩
theorem o161 (K:Nat):FOk PP 161 (B161 K).F:=bok mixed Tryz.func161
noncomputable def B48:Bd PP:=⟨⟨[vo (.i .i64) 0],[ro .b 0],[],u1 x_f8,false⟩,cn o17 tt,hn [1,4],0,Tryz.f48,[.tmp 2]⟩
theorem o48:FOk PP 48 B48.F:=bok mixed Tryz.func48
noncomputable def B166 (K:Nat):Bd PP:=⟨⟨[va x_bh 39,vo (.i .i64) 0],[ro .b 0],[],u2 (x_cw K),false⟩,cn o48<|cn o17<|cn (o40 K) tt,hn [6,1798,3846,1894,2147485446,16,1798,16],K,Tryz.f166,[.tmp 4]⟩
noncomputable def x_cw.g0 (K:Nat) (a0:x_ar) (a1:Int) (n:Nat) (q0:Int):Option y11:=
 lq (B166 K) (dirs 4 276) n ⟨[.dead,vi a1,vt 2 1 0]++dd 5++[vl (.i .i64) 1 a0.2.1,vi (a0.2.1.length:Int),vi q0]++dd 51,[none,none,bv x_bh 39 a0]++dn 61⟩
theorem x_cw.ok0 (K:Nat) (a0:x_ar) (a1:Int):x_cw.g0 K a0 a1=x_cw.l0 K a0 a1:=
 funext (lpe1 (fun _=>by kernel_rfl) fun _ _=>by kernel_rfl)
theorem o166 (K:Nat):FOk PP 166 (B166 K).F:=bok mixed Tryz.func166 fun v=>by
 have e:(B166 K).run v=x_cw.b K v.1 v.2.1 (x_cw.g0 K v.1 v.2.1 K):=by kernel_rfl
 rw [x_cw.ok0] at e
 exact e.trans (by kernel_rfl)
noncomputable def B165 (K:Nat):Bd PP:=⟨⟨[va x_bh 39,vp x_bt 0],[ro .b 0],[],u2 (x_nm K),false⟩,cn (o166 K) tt,hn [6,10],K,Tryz.f165,[.tmp 3]⟩
theorem o165 (K:Nat):FOk PP 165 (B165 K).F:=bok mixed Tryz.func165
noncomputable def B229 (K:Nat):Bd PP:=⟨⟨[vo (.sl x_bh) 1,vp x_bt 0],[ro (.i .i64) 0],[.one, .fn 165 1],u2 (x_z K),false⟩,cn (o165 K) tt,hn [3,387,899,419,65955,18,387,18],K,Tryz.f229,[.tmp 4]⟩
noncomputable def x_z.g0 (K:Nat) (a0:y12) (a1:x_d) (n:Nat) (q0:Int) (q1:x_d):Option y45:=
 lq (B229 K) (dirs 4 276) n ⟨[vl x_bh 1 a0, .fn 165 [.one (.ptr 1 0 0)]]++dd 5++[vi (a0.length:Int),vi q0]++dd 10,[none,some (0,[.val .f (.i .i64) q1.1, .val .f (.i .i64) q1.2.1, .val .f (.i .i64) q1.2.2.1, .val .f (.i .i64) q1.2.2.2])]++dn 19⟩
theorem x_z.ok0 (K:Nat) (a0:y12) (a1:x_d):x_z.g0 K a0 a1=x_z.l0 K a0 a1:=
 funext (lpe2 (fun _ _=>by kernel_rfl) fun _ _ _=>by kernel_rfl)
theorem o229 (K:Nat):FOk PP 229 (B229 K).F:=bok mixed Tryz.func229 fun v=>by
 have e:(B229 K).run v=x_z.b K v.1 v.2.1 (x_z.g0 K v.1 v.2.1 K):=by kernel_rfl
 rw [x_z.ok0] at e
 exact e.trans (by kernel_rfl)
noncomputable def B164 (K:Nat):Bd PP:=⟨⟨[vo (.sl x_bh) 1,vp x_bt 0],[ro .b 0],[.one, .fn 165 1],u2 (x_c1 K),false⟩,cg 165 (o229 K) tt,hn [3,18],K,Tryz.f164,[.tmp 4]⟩
theorem o164 (K:Nat):FOk PP 164 (B164 K).F:=bok mixed Tryz.func164
noncomputable def B49 (K:Nat):Bd PP:=⟨⟨[va x_bz 0],[ro .b 0],[],u1 (x_in K),false⟩,cn o17<|cn (o92 K) tt,hn [2,4],K,Tryz.f49,[.tmp 2]⟩
theorem o49 (K:Nat):FOk PP 49 (B49 K).F:=bok mixed Tryz.func49
noncomputable def B168 (K:Nat):Bd PP:=⟨⟨[va x_bz 0],[ro .b 0],[],u1 (x_nz K),false⟩,cn (o49 K) tt,hn [2,4],K,Tryz.f168,[.tmp 2]⟩
theorem o168 (K:Nat):FOk PP 168 (B168 K).F:=bok mixed Tryz.func168
noncomputable def B230 (K:Nat):Bd PP:=⟨⟨[vo (.sl x_bz) 1],[ro (.i .i64) 0],[.one, .fn 168 0],u1 (x_0 K),false⟩,cn (o168 K) tt,hn [3,387,899,419,65955,16,387,16],K,Tryz.f230,[.tmp 4]⟩
noncomputable def x_0.g0 (K:Nat) (a0:y21) (n:Nat) (q0:Int):Option y7:=
 lq (B230 K) (dirs 4 276) n ⟨[vl x_bz 1 a0, .fn 168 []]++dd 5++[vi (a0.length:Int),vi q0]++dd 10,dn 20⟩
theorem x_0.ok0 (K:Nat) (a0:y21):x_0.g0 K a0=x_0.l0 K a0:=
 funext (lpe1 (fun _=>by kernel_rfl) fun _ _=>by kernel_rfl)
theorem o230 (K:Nat):FOk PP 230 (B230 K).F:=bok mixed Tryz.func230 fun v=>by
 have e:(B230 K).run v=x_0.b K v.1 (x_0.g0 K v.1 K):=by kernel_rfl
 rw [x_0.ok0] at e
 exact e.trans (by kernel_rfl)
noncomputable def B167 (K:Nat):Bd PP:=⟨⟨[vo (.sl x_bz) 1],[ro .b 0],[.one, .fn 168 0],u1 (x_cr K),false⟩,cg 168 (o230 K) tt,hn [3,16],K,Tryz.f167,[.tmp 4]⟩
theorem o167 (K:Nat):FOk PP 167 (B167 K).F:=bok mixed Tryz.func167
noncomputable def B89 (K:Nat):Bd PP:=⟨⟨[va x_bt 0,va x_dg 337],[ro .b 0],[],u2 (x_di K),false⟩,cn o39<|cn o17<|cn (o40 K)<|cn (o160 K)<|cg 162 (o161 K)<|cg 165 (o164 K)<|cg 168 (o167 K) tt,hn [12,1125899906842636,16,31525197391593484,67553994410557452,31525197391593580,1180623145914802897004,16,324518553658426758308353412169740,16,31525197391593484,140,392,896,16],K,Tryz.f89,[.tmp 4]⟩
noncomputable def x_di.g0 (K:Nat) (a0:x_d) (a1:x_ai) (n:Nat) (q0:Int):Option y11:=
 lq (B89 K) (dirs 5 1381) n ⟨[.dead, .dead,vt 2 1 0,vt 3 1 0]++dd 48++[vl x_bs 1 a1.2.1,vi (a1.2.1.length:Int),vi q0]++dd 75,[none,none,bv x_bt 0 a0,bv x_dg 337 a1]++dn 128⟩
theorem x_di.ok0 (K:Nat) (a0:x_d) (a1:x_ai):x_di.g0 K a0 a1=x_di.l0 K a0 a1:=
 funext (lpe1 (fun _=>by kernel_rfl) fun _ _=>by kernel_rfl)
theorem o89 (K:Nat):FOk PP 89 (B89 K).F:=bok mixed Tryz.func89 fun v=>by
 have e:(B89 K).run v=x_di.b K v.1 v.2.1 (x_di.g0 K v.1 v.2.1 K):=by kernel_rfl
 rw [x_di.ok0] at e
 exact e.trans (by kernel_rfl)
noncomputable def B87 (K:Nat):Bd PP:=⟨⟨[va x_bt 0,va x_it 81972],[ro .b 0],[],u2 (x_iw K),false⟩,cn o158<|cn o17<|cn (o159 K)<|cn (o89 K) tt,hn [12,76,16],K,Tryz.f87,[.tmp 4]⟩
theorem o87 (K:Nat):FOk PP 87 (B87 K).F:=bok mixed Tryz.func87
end Go.Proofs.YtjfnlbdnfglmfaaGreat.Cu
