/- The functions compute what is told of them. -/
import Derived.Test.YtjfnlbdnfglmfaaGreatCuOk7
set_option linter.all false
set_option maxRecDepth 100000
namespace Go.Proofs.YtjfnlbdnfglmfaaGreat.Cu
open Go Go.Kn
noncomputable def B305 (K:Nat):Bd PP:=⟨⟨[vp x_e7 21160907109180],[],[],u1 (x_al K),false⟩,cn o113<|cn o297<|cn o259<|cn o256<|cn (o303 K) tt,hn [5,17,4294967313,17,49,113,1099511627889,113,113,604462909807314587353105,1],K,Tryz.f305,[]⟩
noncomputable def x_al.g0 (K:Nat) (a0:y1) (n:Nat) (q2:Int):Option y27:=
 lq (B305 K) (dirs 3 56) n ⟨[vt 0 0 0]++dd 3++[vi q2]++dd 78,[some (0,[.val .f (.i .i64) a0.1.1, .val .f (.i .i64) a0.1.2.1, .val .f (.i .i64) a0.1.2.2.1, .val .f (.i .i64) a0.1.2.2.2, .val .f (.i .i64) a0.2.1, .val .f (.i .i64) a0.2.2.1.1, .val .f (.i .i64) a0.2.2.1.2.1.1, .val .f (.i .i64) a0.2.2.1.2.1.2.1, .val .f (.i .i64) a0.2.2.1.2.1.2.2.1.1, .val .f (.i .i64) a0.2.2.1.2.1.2.2.1.2.1, .val .f (.sl x_dp) a0.2.2.1.2.1.2.2.1.2.2, .val .f (.sl eRow) a0.2.2.1.2.1.2.2.2.1, .val .f (.sl x_bs) a0.2.2.1.2.1.2.2.2.2.1, .val .f (.sl x_bh) a0.2.2.1.2.1.2.2.2.2.2.1, .val .f (.i .i64) a0.2.2.1.2.1.2.2.2.2.2.2.1, .val .f (.sl (.i .i64)) a0.2.2.1.2.1.2.2.2.2.2.2.2.1, .val .f (.sl x_bz) a0.2.2.1.2.1.2.2.2.2.2.2.2.2, .val .f (.i .i64) a0.2.2.1.2.2.1, .val (.x 0) (.sl .b) a0.2.2.1.2.2.2.1, .val (.x 0) (.sl (.i .i64)) a0.2.2.1.2.2.2.2.1, .val (.x 0) (.sl (.i .i64)) a0.2.2.1.2.2.2.2.2.1, .val .f (.i .i64) a0.2.2.1.2.2.2.2.2.2.1, .val (.x 0) (.sl eRow) a0.2.2.1.2.2.2.2.2.2.2.1.1, .val (.x 0) (.sl x_bs) a0.2.2.1.2.2.2.2.2.2.2.1.2.1, .val (.x 0) (.sl x_bh) a0.2.2.1.2.2.2.2.2.2.2.1.2.2.1, .val .f (.i .i64) a0.2.2.1.2.2.2.2.2.2.2.1.2.2.2.1, .val (.x 0) (.sl (.i .i64)) a0.2.2.1.2.2.2.2.2.2.2.1.2.2.2.2.1, .val (.x 0) (.sl x_bz) a0.2.2.1.2.2.2.2.2.2.2.1.2.2.2.2.2, .val .f (.sl (.i .u8)) a0.2.2.1.2.2.2.2.2.2.2.2.1.1, .val .f (.i .i64) a0.2.2.1.2.2.2.2.2.2.2.2.1.2, .val .f (.sl eRpc) a0.2.2.1.2.2.2.2.2.2.2.2.2, .val .f .b a0.2.2.2])]++dn 83⟩
noncomputable def x_al.g1 (K:Nat) (a0:y1) (n0:Nat) (n:Nat) (q2:Int) (q3:Int) (q4:Int):Option y27:=
 lq (B305 K) [.r, .r, .b, .lp n0, .r, .l, .b, .r, .l, .r, .b] n ⟨[vt 0 0 0]++dd 3++[vi q2,vi q3,vi q4]++dd 76,[some (0,[.val .f (.i .i64) a0.1.1, .val .f (.i .i64) a0.1.2.1, .val .f (.i .i64) a0.1.2.2.1, .val .f (.i .i64) a0.1.2.2.2, .val .f (.i .i64) a0.2.1, .val .f (.i .i64) a0.2.2.1.1, .val .f (.i .i64) a0.2.2.1.2.1.1, .val .f (.i .i64) a0.2.2.1.2.1.2.1, .val .f (.i .i64) a0.2.2.1.2.1.2.2.1.1, .val .f (.i .i64) a0.2.2.1.2.1.2.2.1.2.1, .val .f (.sl x_dp) a0.2.2.1.2.1.2.2.1.2.2, .val .f (.sl eRow) a0.2.2.1.2.1.2.2.2.1, .val .f (.sl x_bs) a0.2.2.1.2.1.2.2.2.2.1, .val .f (.sl x_bh) a0.2.2.1.2.1.2.2.2.2.2.1, .val .f (.i .i64) a0.2.2.1.2.1.2.2.2.2.2.2.1, .val .f (.sl (.i .i64)) a0.2.2.1.2.1.2.2.2.2.2.2.2.1, .val .f (.sl x_bz) a0.2.2.1.2.1.2.2.2.2.2.2.2.2, .val .f (.i .i64) a0.2.2.1.2.2.1, .val (.x 0) (.sl .b) a0.2.2.1.2.2.2.1, .val (.x 0) (.sl (.i .i64)) a0.2.2.1.2.2.2.2.1, .val (.x 0) (.sl (.i .i64)) a0.2.2.1.2.2.2.2.2.1, .val .f (.i .i64) a0.2.2.1.2.2.2.2.2.2.1, .val (.x 0) (.sl eRow) a0.2.2.1.2.2.2.2.2.2.2.1.1, .val (.x 0) (.sl x_bs) a0.2.2.1.2.2.2.2.2.2.2.1.2.1, .val (.x 0) (.sl x_bh) a0.2.2.1.2.2.2.2.2.2.2.1.2.2.1, .val .f (.i .i64) a0.2.2.1.2.2.2.2.2.2.2.1.2.2.2.1, .val (.x 0) (.sl (.i .i64)) a0.2.2.1.2.2.2.2.2.2.2.1.2.2.2.2.1, .val (.x 0) (.sl x_bz) a0.2.2.1.2.2.2.2.2.2.2.1.2.2.2.2.2, .val .f (.sl (.i .u8)) a0.2.2.1.2.2.2.2.2.2.2.2.1.1, .val .f (.i .i64) a0.2.2.1.2.2.2.2.2.2.2.2.1.2, .val .f (.sl eRpc) a0.2.2.1.2.2.2.2.2.2.2.2.2, .val .f .b a0.2.2.2])]++dn 83⟩
theorem x_al.ok1 (K:Nat) (a0:y1) (n0:Nat):x_al.g1 K a0 n0=x_al.l1 K a0 (x_al.g0 K a0 n0):=
 funext (lpe3 (fun _ _ _=>by kernel_rfl) fun _ _ _ _=>by kernel_rfl)
theorem x_al.ok0 (K:Nat) (a0:y1):x_al.g0 K a0=x_al.l0 K a0:=
 funext (lpe1 (fun _=>by kernel_rfl) fun n q2=>(show x_al.g0 K a0 (n+1) q2=x_al.l0b K a0 (x_al.g1 K a0 n K) q2 by kernel_rfl).trans (by rw [x_al.ok1]<;>rfl))
theorem o305 (K:Nat):FOk PP 305 (B305 K).F:=bok mixed Tryz.func305 fun v=>by
 have e:(B305 K).run v=x_al.b K v.1 (x_al.g0 K v.1 K):=by kernel_rfl
 rw [x_al.ok0] at e
 exact e.trans (by kernel_rfl)
noncomputable def B252 (K:Nat):Bd PP:=⟨⟨[vp x_e7 21160907109180,va eRpc 2187],[],[],u2 (x_ep K),false⟩,cn o113<|cn o261<|cn o36<|cn (o305 K) tt,hn [9,8388617,25,89,274877907033,1,19342813113834066795298889,65,1,1],K,Tryz.f252,[]⟩
theorem o252 (K:Nat):FOk PP 252 (B252 K).F:=bok mixed Tryz.func252
noncomputable def B186 (K:Nat):Bd PP:=⟨⟨[va x_bt 0,va x_gb 984972995316,vo (.i .i64) 0,va eRpc 2187],[ra x_gb 87043658508,ro .b 0],[],u4 (x_jq K),false⟩,cn (o60 K)<|cn (o61 K)<|cn (o66 K)<|cn (o247 K)<|cn (o248 K)<|cn (o249 K)<|cn (o250 K)<|cn (o251 K)<|cn (o252 K) tt,hn [436,268435892,768,68719478196,4466765989300,68719478196,281543696188852,68719478068,4785143323559348,68719478068,144396731772044724,68719478068,4611967562123576756,68719478068,147573952658395891124,68719478068,77371252455336335900673312,768,768],K,Tryz.f186,[.cell 8 58, .tmp 9]⟩
theorem o186 (K:Nat):FOk PP 186 (B186 K).F:=bok mixed Tryz.func186
noncomputable def B118 (K:Nat):Bd PP:=⟨⟨[va x_be 176904,va x_o8 0],[ra x_be 176904,ro (.i .i64) 0],[],u2 (x_q6 K),false⟩,cn o20<|cn o122<|cn (o186 K) tt,hn [28,65564,48,92,67108956,1073741908,48,20,48,92,144115188075855956,468,9444732965739290427604,20,48],K,Tryz.f118,[.cell 4 32, .tmp 5]⟩
theorem o118 (K:Nat):FOk PP 118 (B118 K).F:=bok mixed Tryz.func118
noncomputable def B187 (K:Nat):Bd PP:=⟨⟨[va x_be 88452,vo (.i .i64) 0,vo (.i .i64) 0],[ro .b 0],[],u3 (x_hc K),false⟩,tt,hn [14,142,4238,142,4294967438,64,64],K,Tryz.f187,[.tmp 6]⟩
noncomputable def x_hc.g0 (K:Nat) (a0:x_u) (a1:Int) (a2:Int) (n:Nat) (q0:Int):Option y11:=
 lq (B187 K) (dirs 4 276) n ⟨[.dead,vi a1,vi a2,vt 3 1 0]++dd 3++[vi q0]++dd 25,dn 3++[bv x_be 88452 a0]++dn 32⟩
theorem x_hc.ok0 (K:Nat) (a0:x_u) (a1:Int) (a2:Int):x_hc.g0 K a0 a1 a2=x_hc.l0 K a0 a1 a2:=
 funext (lpe1 (fun _=>by kernel_rfl) fun _ _=>by kernel_rfl)
theorem o187 (K:Nat):FOk PP 187 (B187 K).F:=bok mixed Tryz.func187 fun v=>by
 have e:(B187 K).run v=x_hc.b K v.1 v.2.1 v.2.2.1 (x_hc.g0 K v.1 v.2.1 v.2.2.1 K):=by kernel_rfl
 rw [x_hc.ok0] at e
 exact e.trans (by kernel_rfl)
noncomputable def B119 (K:Nat):Bd PP:=⟨⟨[va x_be 176904,va x_o8 0],[ra x_be 176904,ro (.i .i64) 0],[],u2 (x_na K),false⟩,cn (o187 K) tt,hn [28,92,220,4398046511324,48,140737488355548,48,20,48],K,Tryz.f119,[.cell 4 32, .tmp 5]⟩
theorem o119 (K:Nat):FOk PP 119 (B119 K).F:=bok mixed Tryz.func119
noncomputable def B188 (K:Nat):Bd PP:=⟨⟨[va x_bt 0,va x_gb 984972995316,vo (.i .i64) 0,va eCmd 0],[ra x_gb 1969945990632,ro .b 0],[],u4 (x_ji K),false⟩,cn (o60 K)<|cn (o62 K)<|cn (o66 K)<|cn o113<|cn (o253 K) tt,hn [436,268435888,768,3504,12576,147573952589676417312,768,768],K,Tryz.f188,[.cell 8 58, .tmp 9]⟩
theorem o188 (K:Nat):FOk PP 188 (B188 K).F:=bok mixed Tryz.func188
noncomputable def B120 (K:Nat):Bd PP:=⟨⟨[va x_be 176904,va x_o8 0],[ra x_be 176904,ro (.i .i64) 0],[],u2 (x_ia K),false⟩,cn (o187 K)<|cn (o188 K) tt,hn [28,92,220,524508,2147483868,48,220,220,156,924,9223372036854776220,48,156,9444732965739290427548,28,20,48],K,Tryz.f120,[.cell 4 32, .tmp 5]⟩
theorem o120 (K:Nat):FOk PP 120 (B120 K).F:=bok mixed Tryz.func120
noncomputable def B189 (K:Nat):Bd PP:=⟨⟨[va x_bt 0,va x_gb 984972995316,vo (.i .i64) 0],[ra x_gb 87043658508,ro .b 0],[],u3 (x_ph K),false⟩,cn (o60 K)<|cn (o66 K)<|cn (o254 K)<|cn o113<|cn (o255 K)<|cn o256<|cn (o257 K) tt,hn [92,134217820,192,34359738708,34359738708,34359738708,34359738708,34359738708,34359740244,34359742292,4722366482904004955988,34359742292,302231454903691653418836,34359742292,618970019642690171809300820,192,19807040628566084432745726272,34359738688,192],K,Tryz.f189,[.cell 6 58, .tmp 7]⟩
noncomputable def x_ph.g0 (K:Nat) (a0:x_d) (a1:x_bq) (a2:Int) (n:Nat) (v7:y29) (q0:Int) (q1:y27) (q2:Int) (q3:List Bool):Option y42:=
 lq (B189 K) (dirs 11 21582031) n ⟨[.dead, .dead,vi a2, .dead,vt 4 1 0, .dead,vt 6 1 0, .dead,vt 35 1 0,vi v7.1,vi v7.2.1,vi q0]++dd 23++[vt 35 1 0]++dd 65,dn 4++[bv x_gb 984972995316 a1,none,bv x_gb 1969945990632 (0,(0,0,(0,0,[]),[],[],[],0,[],[]),0,[],[],[],0,([],[],[],0,[],[]),([],0),[])]++dn 28++[bv x_e7 21160907109180 (q1.1.1,q1.1.2.1,(q1.1.2.2.1.1,q1.1.2.2.1.2.1,q2,q3,q1.1.2.2.1.2.2.2.2),q1.1.2.2.2)]++dn 68⟩
theorem x_ph.ok0 (K:Nat) (a0:x_d) (a1:x_bq) (a2:Int):x_ph.g0 K a0 a1 a2=x_ph.l0 K a0 a1 a2:=
 funext (lpe5 (fun _ _ _ _ _=>by kernel_rfl) fun _ _ _ _ _ _=>by kernel_rfl)
theorem o189 (K:Nat):FOk PP 189 (B189 K).F:=bok mixed Tryz.func189 fun v=>by
 have e:(B189 K).run v=x_ph.b K v.1 v.2.1 v.2.2.1 (x_ph.g0 K v.1 v.2.1 v.2.2.1 K):=by kernel_rfl
 rw [x_ph.ok0] at e
 exact e.trans (by kernel_rfl)
noncomputable def B190:Bd PP:=⟨⟨[va x_be 176904,va x_gb 0,vo .b 0],[ra x_be 176904,ro (.i .i64) 0],[],u3 x_no,false⟩,tt,hn [92,600,192,72,192],0,Tryz.f190,[.cell 6 32, .tmp 7]⟩
theorem o190:FOk PP 190 B190.F:=bok mixed Tryz.func190
end Go.Proofs.YtjfnlbdnfglmfaaGreat.Cu
