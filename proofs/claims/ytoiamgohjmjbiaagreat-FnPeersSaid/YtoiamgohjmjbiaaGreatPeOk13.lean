/- The functions compute what is told of them. -/
import Derived.Test.YtoiamgohjmjbiaaGreatPeOk12
set_option linter.all false
set_option maxRecDepth 100000
namespace Go.Proofs.YtoiamgohjmjbiaaGreat.Pe
open Go Go.Kn
noncomputable def B154 (K:Nat):Bd PP:=⟨⟨[va x_a6 0,vo (.sl eCmd) 1],[ra x_c7 674,ro (.sl x_bl) 2],[],u2 (x_b3 K),false⟩,cn (o28 K)<|cn o24<|cn (o110 K)<|cn (o190 K) tt,hn [22,86,214,470,262614,470,982,1073742806,4054,3030,982,470,48],K,Tryz.f154,[.cell 4 37, .tmp 5]⟩
noncomputable def x_b3.g0 (K:Nat) (a0:x_e) (a1:y5) (n:Nat) (q0:y19) (q1:Int) (q2:x_as):Option y99:=
 lq (B154 K) (dirs 6 6906) n ⟨[.dead,vl eCmd 1 a1,vt 2 1 0, .dead,vt 4 1 0, .dead,vl x_bl 2 q0,vt 7 1 0,vi q1]++dd 40,[none,none,bv x_a6 0 a0,none,bv x_c7 674 ([],[],[],0,[],[]),none,none,bv x_c7 674 q2]++dn 43⟩
theorem x_b3.ok0 (K:Nat) (a0:x_e) (a1:y5):x_b3.g0 K a0 a1=x_b3.l0 K a0 a1:=
 funext (lpe3 (fun _ _ _=>by kernel_rfl) fun _ _ _ _=>by kernel_rfl)
theorem o154 (K:Nat):FOk PP 154 (B154 K).F:=bok mixed Tryz.func154 fun v=>by
 have e:(B154 K).run v=x_b3.b K v.1 v.2.1 (x_b3.g0 K v.1 v.2.1 K):=by kernel_rfl
 rw [x_b3.ok0] at e
 exact e.trans (by kernel_rfl)
noncomputable def B145 (K:Nat):Bd PP:=⟨⟨[va x_a6 0,vo (.sl eCmd) 1],[ra x_c7 674],[],u2 (x_ti K),false⟩,cn (o154 K) tt,hn [22,48,16],K,Tryz.f145,[.cell 4 37]⟩
theorem o145 (K:Nat):FOk PP 145 (B145 K).F:=bok mixed Tryz.func145
noncomputable def B96 (K:Nat):Bd PP:=⟨⟨[vp x_dt 0],[ra x_a6 0,ra x_il 163944],[],u1 (x_4 K),false⟩,cn o49<|cn (o26 K)<|cn o19<|cn o41<|cn o144<|cn o30<|cn (o146 K)<|cn (o145 K)<|cn (o102 K)<|cn (o90 K) tt,hn [13,29,61,125,131197,125,509,1021,68719477757,206158431229,637,281474976711677,36028797018964989,637,125,13],K,Tryz.f96,[.cell 2 25, .cell 3 39]⟩
noncomputable def x_4.g0 (K:Nat) (a0:x_z) (n:Nat) (q0:Int) (q1:y20) (v1:y54) (q2:y18):Option y104:=
 lq (B96 K) (dirs 6 6906) n ⟨[vt 0 0 0, .dead,vt 2 1 0,vt 3 1 0,vt 4 1 0,vt 5 1 0,vi q0]++dd 64,[some (0,[.val .f (.sl (.i .u8)) q1.1.1, .val .f (.i .i64) q1.1.2.1, .val .f (.i .i64) q1.1.2.2]),none,bv x_a6 0 (0,0,0,0),bv x_il 163944 (0,0,(0,0,[]),[],[],[],0,[],[]),bv x_a6 0 v1.1,bv x_il 163944 q2.1]++dn 66⟩
theorem x_4.ok0 (K:Nat) (a0:x_z):x_4.g0 K a0=x_4.l0 K a0:=
 funext (lpe4 (fun _ _ _ _=>by kernel_rfl) fun _ _ _ _ _=>by kernel_rfl)
theorem o96 (K:Nat):FOk PP 96 (B96 K).F:=bok mixed Tryz.func96 fun v=>by
 have e:(B96 K).run v=x_4.b K v.1 (x_4.g0 K v.1 K):=by kernel_rfl
 rw [x_4.ok0] at e
 exact e.trans (by kernel_rfl)
noncomputable def B100 (K:Nat):Bd PP:=⟨⟨[vp x_dt 0,vo (.i .i64) 0,vo (.i .i64) 0],[ro (.sl x_cv) 2],[],u3 (x_7 K),false⟩,cn o19<|cn o144 tt,hn [7,135,387,899,131971,899,899,899,65],K,Tryz.f100,[.tmp 6]⟩
noncomputable def x_7.g0 (K:Nat) (a0:x_z) (a1:Int) (a2:Int) (n:Nat) (q0:Int) (q1:y13) (v1:y39) (q2:Int) (q3:y20):Option y100:=
 lq (B100 K) (dirs 6 6906) n ⟨[vt 0 0 0,vi q0]++dd 5++[vl x_cv 2 q1,vi v1.1,vi q2]++dd 22,[some (0,[.val .f (.sl (.i .u8)) q3.1.1, .val .f (.i .i64) q3.1.2.1, .val .f (.i .i64) q3.1.2.2])]++dn 34⟩
theorem x_7.ok0 (K:Nat) (a0:x_z) (a1:Int) (a2:Int):x_7.g0 K a0 a1 a2=x_7.l0 K a0 a1 a2:=
 funext (lpe5 (fun _ _ _ _ _=>by kernel_rfl) fun _ _ _ _ _ _=>by kernel_rfl)
theorem o100 (K:Nat):FOk PP 100 (B100 K).F:=bok mixed Tryz.func100 fun v=>by
 have e:(B100 K).run v=x_7.b K v.1 v.2.1 v.2.2.1 (x_7.g0 K v.1 v.2.1 v.2.2.1 K):=by kernel_rfl
 rw [x_7.ok0] at e
 exact e.trans (by kernel_rfl)
noncomputable def B147 (K:Nat):Bd PP:=⟨⟨[vp x_dt 0],[ra eLog 18],[],u1 (x_hm K),false⟩,cn o19<|cn (o100 K) tt,hn [5,13,13,5],K,Tryz.f147,[.cell 2 30]⟩
theorem o147 (K:Nat):FOk PP 147 (B147 K).F:=bok mixed Tryz.func147
noncomputable def B148:Bd PP:=⟨⟨[vp x_dt 0,va eCmd 0],[ra eCmd 0],[],u2 x_kz,false⟩,cn o19<|cn o31<|cn o184 tt,hn [25,89,217,25,8281,25,524377,25,33554521,25,2147483673,25,17],0,Tryz.f148,[.cell 4 123]⟩
theorem o148:FOk PP 148 B148.F:=bok mixed Tryz.func148
noncomputable def B97 (K:Nat):Bd PP:=⟨⟨[vp x_dt 0],[ra eLog 18],[],u1 (x_pq K),false⟩,cn (o147 K)<|cn o19<|cn o31<|cn o144<|cn o148 tt,hn [5,13,141,397,13,16525,13,1048589,13,5],K,Tryz.f97,[.cell 2 30]⟩
theorem o97 (K:Nat):FOk PP 97 (B97 K).F:=bok mixed Tryz.func97
noncomputable def B101 (K:Nat):Bd PP:=⟨⟨[vp x_dt 0],[ra x_a6 0,ra x_c7 674],[],u1 (x_em K),false⟩,cn o49<|cn (o146 K)<|cn (o154 K) tt,hn [13,29,61,13],K,Tryz.f101,[.cell 2 25, .cell 3 37]⟩
theorem o101 (K:Nat):FOk PP 101 (B101 K).F:=bok mixed Tryz.func101
noncomputable def B185 (K:Nat):Bd PP:=⟨⟨[vp x_dt 0],[ra eRow 18],[],u1 (x_ak K),false⟩,cn o19<|cn o212<|cn (o186 K)<|cn (o217 K)<|cn (o218 K) tt,hn [5,13,29,61,2109,61,61,268435517,805306429,61,274877907005,61,5],K,Tryz.f185,[.cell 2 111]⟩
noncomputable def x_ak.g0 (K:Nat) (a0:x_z) (n:Nat) (v1:y39) (q0:Int) (q1:y39) (q2:Int) (q3:Int) (q4:y8):Option y49:=
 lq (B185 K) (dirs 6 6906) n ⟨[vt 0 0 0, .dead,vt 2 1 0,vt 3 1 0,vi v1.1,vi q0]++dd 40,[some (0,[.val .f (.sl (.i .u8)) q1.2.1.1, .val .f (.i .i64) q1.2.1.2.1, .val .f (.i .i64) q1.2.1.2.2]),none,bv eRow 18 (0,0,[]),bv eRow 18 (q2,q3,q4)]++dn 43⟩
theorem x_ak.ok0 (K:Nat) (a0:x_z):x_ak.g0 K a0=x_ak.l0 K a0:=
 funext (lpe6 (fun _ _ _ _ _ _=>by kernel_rfl) fun _ _ _ _ _ _ _=>by kernel_rfl)
theorem o185 (K:Nat):FOk PP 185 (B185 K).F:=bok mixed Tryz.func185 fun v=>by
 have e:(B185 K).run v=x_ak.b K v.1 (x_ak.g0 K v.1 K):=by kernel_rfl
 rw [x_ak.ok0] at e
 exact e.trans (by kernel_rfl)
noncomputable def B149 (K:Nat):Bd PP:=⟨⟨[vp x_dt 0],[ra eRow 18],[],u1 (x_c3 K),false⟩,cn (o185 K)<|cn o19<|cn o31<|cn o184<|cn (o186 K) tt,hn [5,13,141,397,13,16525,13,1048717,13,8589934605,274877906957,13,5],K,Tryz.f149,[.cell 2 111]⟩
noncomputable def x_c3.g0 (K:Nat) (a0:x_z) (n:Nat) (v2:y39) (q0:TRow):Option y49:=
 lq (B149 K) (dirs 14 3265379506) n ⟨[vt 0 0 0, .dead,vt 2 1 0,vt 3 1 0]++dd 42,[some (0,[.val .f (.sl (.i .u8)) v2.2.1.1, .val .f (.i .i64) v2.2.1.2.1, .val .f (.i .i64) v2.2.1.2.2]),none,bv eRow 18 (0,0,[]),bv eRow 18 q0]++dn 43⟩
theorem x_c3.ok0 (K:Nat) (a0:x_z):x_c3.g0 K a0=x_c3.l0 K a0:=
 funext (lpe2 (fun _ _=>by kernel_rfl) fun _ _ _=>by kernel_rfl)
theorem o149 (K:Nat):FOk PP 149 (B149 K).F:=bok mixed Tryz.func149 fun v=>by
 have e:(B149 K).run v=x_c3.b K v.1 (x_c3.g0 K v.1 K):=by kernel_rfl
 rw [x_c3.ok0] at e
 exact e.trans (by kernel_rfl)
noncomputable def B187 (K:Nat):Bd PP:=⟨⟨[vp x_dt 0],[ra x_bf 162],[],u1 (x_al K),false⟩,cn o19<|cn (o219 K) tt,hn [5,13,29,32797,29,61,125,1073741949,125,29,5],K,Tryz.f187,[.cell 2 106]⟩
noncomputable def x_al.g0 (K:Nat) (a0:x_z) (n:Nat) (q0:Int) (q1:y39) (q2:Int) (q3:Int) (q4:Int) (q5:Int) (q6:y9):Option y62:=
 lq (B187 K) (dirs 5 1381) n ⟨[vt 0 0 0, .dead,vt 2 1 0,vt 3 1 0,vi q0]++dd 36,[some (0,[.val .f (.sl (.i .u8)) q1.2.1.1, .val .f (.i .i64) q1.2.1.2.1, .val .f (.i .i64) q1.2.1.2.2]),none,bv x_bf 162 (0,0,0,0,[]),bv x_bf 162 (q2,q3,q4,q5,q6)]++dn 38⟩
theorem x_al.ok0 (K:Nat) (a0:x_z):x_al.g0 K a0=x_al.l0 K a0:=
 funext (lpe7 (fun _ _ _ _ _ _ _=>by kernel_rfl) fun _ _ _ _ _ _ _ _=>by kernel_rfl)
theorem o187 (K:Nat):FOk PP 187 (B187 K).F:=bok mixed Tryz.func187 fun v=>by
 have e:(B187 K).run v=x_al.b K v.1 (x_al.g0 K v.1 K):=by kernel_rfl
 rw [x_al.ok0] at e
 exact e.trans (by kernel_rfl)
noncomputable def B150 (K:Nat):Bd PP:=⟨⟨[vp x_dt 0],[ra x_bf 162],[],u1 (x_ps K),false⟩,cn (o187 K)<|cn o19<|cn o31 tt,hn [5,13,141,397,13,16525,13,1048717,13,4294967309,13,5],K,Tryz.f150,[.cell 2 106]⟩
theorem o150 (K:Nat):FOk PP 150 (B150 K).F:=bok mixed Tryz.func150
noncomputable def B188 (K:Nat):Bd PP:=⟨⟨[vp x_dt 0],[ra x_a2 78,ro (.i .i64) 0],[],u1 (x_ar K),false⟩,cn o19<|cn o53<|cn o31<|cn (o220 K)<|cn (o221 K)<|cn o222<|cn (o223 K) tt,hn [5,21,53,117,245,65781,245,245,33554677,245,2181038325,245,137472508149,245,4398046511349,245,13],K,Tryz.f188,[.cell 2 88, .tmp 3]⟩
noncomputable def x_ar.g0 (K:Nat) (a0:x_z) (n:Nat) (v1:y39) (q0:Int) (q1:Int) (q2:y39) (q3:x_ag):Option y91:=
 lq (B188 K) (dirs 7 34531) n ⟨[vt 0 0 0, .dead,vt 2 1 0, .dead,vi (i6 (1+v1.1)),vt 5 1 0,vi q0,vi q1]++dd 52,[some (0,[.val .f (.sl (.i .u8)) q2.2.1.1, .val .f (.i .i64) q2.2.1.2.1, .val .f (.i .i64) q2.2.1.2.2]),none,bv x_a2 78 (0,[],[],[]),none,none,bv x_a2 78 q3]++dn 55⟩
theorem x_ar.ok0 (K:Nat) (a0:x_z):x_ar.g0 K a0=x_ar.l0 K a0:=
 funext (lpe5 (fun _ _ _ _ _=>by kernel_rfl) fun _ _ _ _ _ _=>by kernel_rfl)
theorem o188 (K:Nat):FOk PP 188 (B188 K).F:=bok mixed Tryz.func188 fun v=>by
 have e:(B188 K).run v=x_ar.b K v.1 (x_ar.g0 K v.1 K):=by kernel_rfl
 rw [x_ar.ok0] at e
 exact e.trans (by kernel_rfl)
end Go.Proofs.YtoiamgohjmjbiaaGreat.Pe
