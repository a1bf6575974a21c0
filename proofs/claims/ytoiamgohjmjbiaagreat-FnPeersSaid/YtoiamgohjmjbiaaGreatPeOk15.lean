/- The functions compute what is told of them. -/
import Derived.Test.YtoiamgohjmjbiaaGreatPeOk14
set_option linter.all false
set_option maxRecDepth 100000
namespace Go.Proofs.YtoiamgohjmjbiaaGreat.Pe
open Go Go.Kn
noncomputable def B159 (K:Nat):Bd PP:=⟨⟨[vo (.sl (.i .u8)) 0],[ra x_js 162,ro .b 0],[],u1 (x_o1 K),false⟩,cn (o171 K)<|cg 191 (o164 K)<|cn (o172 K)<|cn (o126 K) tt,hn [5,277,309,309,309,309,309,309,309,12],K,Tryz.f159,[.cell 2 136, .tmp 3]⟩
theorem o159 (K:Nat):FOk PP 159 (B159 K).F:=bok mixed Tryz.func159
noncomputable def B226 (K:Nat):Bd PP:=⟨⟨[vo (.i .i64) 0],[ro (.sl (.i .u8)) 2],[],u1 (x_c5 K),false⟩,cn o20 tt,hn [1,65,4,9,265,9,9,4],K,Tryz.f226,[.tmp 2]⟩
noncomputable def x_c5.g0 (K:Nat) (a0:Int) (n:Nat) (q0:Int) (q1:y0):Option y29:=
 lq (B226 K) (dirs 5 1281) n ⟨[vi q0, .dead, .dead,vl (.i .u8) 2 q1]++dd 19,dn 24⟩
theorem x_c5.ok0 (K:Nat) (a0:Int):x_c5.g0 K a0=x_c5.l0 K a0:=
 funext (lpe2 (fun _ _=>by kernel_rfl) fun _ _ _=>by kernel_rfl)
theorem o226 (K:Nat):FOk PP 226 (B226 K).F:=bok mixed Tryz.func226 fun v=>by
 have e:(B226 K).run v=x_c5.b K v.1 (x_c5.g0 K v.1 K):=by kernel_rfl
 rw [x_c5.ok0] at e
 exact e.trans (by kernel_rfl)
noncomputable def B193 (K:Nat):Bd PP:=⟨⟨[vo (.sl (.i .i64)) 1],[ro (.sl (.i .u8)) 2],[],u1 (x_fo K),false⟩,cn (o226 K) tt,hn [1,9,457,969,489,457,457,4],K,Tryz.f193,[.tmp 2]⟩
noncomputable def x_fo.g0 (K:Nat) (a0:y0) (n:Nat) (q0:y0) (q1:Int):Option y29:=
 lq (B193 K) (dirs 5 1381) n ⟨[vl (.i .i64) 1 a0, .dead, .dead,vl (.i .u8) 2 q0, .dead, .dead,vl (.i .i64) 1 a0,vi (a0.length:Int),vi q1]++dd 9,dn 19⟩
theorem x_fo.ok0 (K:Nat) (a0:y0):x_fo.g0 K a0=x_fo.l0 K a0:=
 funext (lpe2 (fun _ _=>by kernel_rfl) fun _ _ _=>by kernel_rfl)
theorem o193 (K:Nat):FOk PP 193 (B193 K).F:=bok mixed Tryz.func193 fun v=>by
 have e:(B193 K).run v=x_fo.b K v.1 (x_fo.g0 K v.1 K):=by kernel_rfl
 rw [x_fo.ok0] at e
 exact e.trans (by kernel_rfl)
noncomputable def B196 (K:Nat):Bd PP:=⟨⟨[vo .s 0],[ro (.sl (.i .u8)) 2],[],u1 (x_h5 K),false⟩,cn (o226 K) tt,hn [1,4],K,Tryz.f196,[.tmp 2]⟩
theorem o196 (K:Nat):FOk PP 196 (B196 K).F:=bok mixed Tryz.func196
noncomputable def B227:Bd PP:=⟨⟨[.nl (.i .u8),vo (.i .i64) 0],[ro (.sl (.i .u8)) 2],[],u1 x_x8,false⟩,tt,hn [3,67,3,3,65539,1,17],0,Tryz.f227,[.tmp 4]⟩
theorem o227:FOk PP 227 B227.F:=bok mixed Tryz.func227
noncomputable def B194 (K:Nat):Bd PP:=⟨⟨[vo (.sl (.sl (.i .u8))) 1],[ro (.sl (.i .u8)) 2],[],u1 (x_ah K),false⟩,cn o227 tt,hn [1,9,3593,7689,3625,3593,1052169,3593,3593,65,234881089,503316545,234881345,234881089,234881089,4],K,Tryz.f194,[.tmp 2]⟩
noncomputable def x_ah.g0 (K:Nat) (a0:y26) (n:Nat) (q0:Int) (q1:Int):Option y29:=
 lq (B194 K) (dirs 5 1381) n ⟨[vl (.sl (.i .u8)) 1 a0, .dead, .dead,vi q0]++dd 5++[vl (.sl (.i .u8)) 1 a0,vi (a0.length:Int),vi q1]++dd 24,dn 37⟩
noncomputable def x_ah.g1 (K:Nat) (a0:y26) (n:Nat) (q2:y0) (q3:Int):Option y29:=
 lq (B194 K) (dirs 7 34531) n ⟨[vl (.sl (.i .u8)) 1 a0]++dd 5++[vl (.i .u8) 2 q2]++dd 18++[vl (.sl (.i .u8)) 1 a0,vi (a0.length:Int),vi q3]++dd 8,dn 37⟩
theorem x_ah.ok1 (K:Nat) (a0:y26):x_ah.g1 K a0=x_ah.l1 K a0:=
 funext (lpe2 (fun _ _=>by kernel_rfl) fun _ _ _=>by kernel_rfl)
theorem x_ah.ok0 (K:Nat) (a0:y26):x_ah.g0 K a0=x_ah.l0 K a0:=
 funext (lpe2 (fun _ _=>by kernel_rfl) fun n q0 q1=>(show x_ah.g0 K a0 (n+1) q0 q1=x_ah.l0b K a0 (x_ah.g0 K a0 n) (x_ah.g1 K a0 K) q0 q1 by kernel_rfl).trans (by rw [x_ah.ok1]<;>rfl))
theorem o194 (K:Nat):FOk PP 194 (B194 K).F:=bok mixed Tryz.func194 fun v=>by
 have e:(B194 K).run v=x_ah.b K v.1 (x_ah.g0 K v.1 K):=by kernel_rfl
 rw [x_ah.ok0] at e
 exact e.trans (by kernel_rfl)
noncomputable def B195 (K:Nat):Bd PP:=⟨⟨[va eCmd 0],[ro (.sl (.i .u8)) 2],[],u1 (x_jn K),false⟩,cn (o76 K)<|cn (o193 K)<|cn (o196 K)<|cn (o194 K) tt,hn [2,34,4,4],K,Tryz.f195,[.tmp 2]⟩
theorem o195 (K:Nat):FOk PP 195 (B195 K).F:=bok mixed Tryz.func195
noncomputable def B197 (K:Nat):Bd PP:=⟨⟨[vo (.sl (.i .u8)) 1],[ro (.i .i64) 0],[],u1 (x_ek K),false⟩,tt,hn [1,25,921,1945,985,921,921,921,4],K,Tryz.f197,[.tmp 2]⟩
noncomputable def x_ek.g0 (K:Nat) (a0:y0) (n:Nat) (q0:Int) (q1:Int) (q2:Int):Option y6:=
 lq (B197 K) (dirs 5 1381) n ⟨[vl (.i .u8) 1 a0, .dead, .dead,vi q0,vi q1, .dead, .dead,vl (.i .u8) 1 a0,vi (a0.length:Int),vi q2]++dd 17,dn 28⟩
theorem x_ek.ok0 (K:Nat) (a0:y0):x_ek.g0 K a0=x_ek.l0 K a0:=
 funext (lpe3 (fun _ _ _=>by kernel_rfl) fun _ _ _ _=>by kernel_rfl)
theorem o197 (K:Nat):FOk PP 197 (B197 K).F:=bok mixed Tryz.func197 fun v=>by
 have e:(B197 K).run v=x_ek.b K v.1 (x_ek.g0 K v.1 K):=by kernel_rfl
 rw [x_ek.ok0] at e
 exact e.trans (by kernel_rfl)
noncomputable def B160 (K:Nat):Bd PP:=⟨⟨[va x_js 81],[ro (.sl (.i .u8)) 2],[],u1 (x_a8 K),false⟩,cn (o126 K)<|cn (o193 K)<|cn (o195 K)<|cn (o194 K)<|cn (o196 K)<|cn (o197 K) tt,hn [2,514,4,10,234881034,503316490,234881066,234881034,234881034,8,72,4],K,Tryz.f160,[.tmp 2]⟩
noncomputable def x_a8.g0 (K:Nat) (a0:x_cw) (n:Nat) (q0:y29) (q1:Int):Option y29:=
 lq (B160 K) (dirs 6 6906) n ⟨[.dead,vt 1 1 0, .dead,vl (.i .u8) 2 q0.1]++dd 21++[vl x_cv 1 a0.2.2.2.2.1,vi (a0.2.2.2.2.1.length:Int),vi q1]++dd 40,[none,bv x_js 81 a0]++dn 67⟩
theorem x_a8.ok0 (K:Nat) (a0:x_cw):x_a8.g0 K a0=x_a8.l0 K a0:=
 funext (lpe2 (fun _ _=>by kernel_rfl) fun _ _ _=>by kernel_rfl)
theorem o160 (K:Nat):FOk PP 160 (B160 K).F:=bok mixed Tryz.func160 fun v=>by
 have e:(B160 K).run v=x_a8.b K v.1 (x_a8.g0 K v.1 K):=by kernel_rfl
 rw [x_a8.ok0] at e
 exact e.trans (by kernel_rfl)
noncomputable def B125 (K:Nat):Bd PP:=⟨⟨[vo (.sl (.i .u8)) 0,vo (.i .i64) 0],[ra x_js 162,ro (.i .i64) 0,ro .b 0],[],u2 (x_pu K),false⟩,cn (o158 K)<|cn (o159 K)<|cn (o160 K) tt,hn [19,915,1073742227,112,1427,7187,288230376151714832,112,112],K,Tryz.f125,[.cell 4 136, .tmp 5, .tmp 6]⟩
theorem o125 (K:Nat):FOk PP 125 (B125 K).F:=bok mixed Tryz.func125
noncomputable def B85 (K:Nat):Bd PP:=⟨⟨[vo (.sl (.i .u8)) 0],[ro (.sl x_js) 2,ro (.i .i64) 0],[],u1 (x_ep K),false⟩,cn (o125 K) tt,hn [1,17,49,497,131313,12,145,49],K,Tryz.f85,[.tmp 2, .tmp 3]⟩
noncomputable def x_ep.g0 (K:Nat) (a0:y0) (n:Nat) (q0:y10) (q1:Int):Option y84:=
 lq (B85 K) (dirs 4 281) n ⟨[vl (.i .u8) 0 a0]++dd 3++[vl x_js 2 q0,vi q1]++dd 19,dn 26⟩
theorem x_ep.ok0 (K:Nat) (a0:y0):x_ep.g0 K a0=x_ep.l0 K a0:=
 funext (lpe2 (fun _ _=>by kernel_rfl) fun _ _ _=>by kernel_rfl)
theorem o85 (K:Nat):FOk PP 85 (B85 K).F:=bok mixed Tryz.func85 fun v=>by
 have e:(B85 K).run v=x_ep.b K v.1 (x_ep.g0 K v.1 K):=by kernel_rfl
 rw [x_ep.ok0] at e
 exact e.trans (by kernel_rfl)
noncomputable def B162:Bd PP:=⟨⟨[va eLog 9],[ra eLog 18],[],u1 x_eu,false⟩,tt,hn [6,6,4],0,Tryz.f162,[.cell 2 30]⟩
theorem o162:FOk PP 162 B162.F:=bok mixed Tryz.func162
noncomputable def B198:Bd PP:=⟨⟨[va eRow 9],[ra eRow 18],[],u1 x_ld,false⟩,tt,hn [6,6,4],0,Tryz.f198,[.cell 2 111]⟩
theorem o198:FOk PP 198 B198.F:=bok mixed Tryz.func198
noncomputable def B201:Bd PP:=⟨⟨[vo (.sl (.i .i64)) 1],[ro (.sl (.i .i64)) 2],[],u1 x_fx,false⟩,tt,hn [1,4],0,Tryz.f201,[.tmp 2]⟩
theorem o201:FOk PP 201 B201.F:=bok mixed Tryz.func201
noncomputable def B199:Bd PP:=⟨⟨[va x_a2 39],[ra x_a2 78],[],u1 x_h7,false⟩,cn o201 tt,hn [6,6,4],0,Tryz.f199,[.cell 2 88]⟩
theorem o199:FOk PP 199 B199.F:=bok mixed Tryz.func199
noncomputable def B228:Bd PP:=⟨⟨[va x_bf 81],[ra x_bf 162],[],u1 x_ia,false⟩,tt,hn [6,6,4],0,Tryz.f228,[.cell 2 106]⟩
theorem o228:FOk PP 228 B228.F:=bok mixed Tryz.func228
noncomputable def B200 (K:Nat):Bd PP:=⟨⟨[vo (.sl x_bf) 1],[ro (.sl x_bf) 2],[],u1 (x_ax K),false⟩,cn o228 tt,hn [1,9,457,969,489,457,457,4],K,Tryz.f200,[.tmp 2]⟩
noncomputable def x_ax.g0 (K:Nat) (a0:y14) (n:Nat) (q0:y14) (q1:Int):Option y48:=
 lq (B200 K) (dirs 5 1381) n ⟨[vl x_bf 1 a0, .dead, .dead,vl x_bf 2 q0, .dead, .dead,vl x_bf 1 a0,vi (a0.length:Int),vi q1]++dd 10,dn 20⟩
theorem x_ax.ok0 (K:Nat) (a0:y14):x_ax.g0 K a0=x_ax.l0 K a0:=
 funext (lpe2 (fun _ _=>by kernel_rfl) fun _ _ _=>by kernel_rfl)
theorem o200 (K:Nat):FOk PP 200 (B200 K).F:=bok mixed Tryz.func200 fun v=>by
 have e:(B200 K).run v=x_ax.b K v.1 (x_ax.g0 K v.1 K):=by kernel_rfl
 rw [x_ax.ok0] at e
 exact e.trans (by kernel_rfl)
end Go.Proofs.YtoiamgohjmjbiaaGreat.Pe
