/- The functions compute what is told of them. -/
import Derived.Test.YtkdamnchchhjeaaGreatDoorFsOk10
set_option linter.all false
set_option maxRecDepth 100000
namespace Go.Proofs.YtkdamnchchhjeaaGreatDoor.Fs
open Go Go.Kn
noncomputable def x_d2 (K : Nat) : FSp := { ps := [.ptr x_dn [.f, .f, .f], .val false (.i .i64) [.f]], rs := [(true, x_d8, [.r, .r, .r, .r, .r, .r, .r, .r, .r, .r, .r]), (false, (.sl eDeed), [.x 0]), (true, x_d8, [.f, .f, .f, .f, .f, .x 0, .x 0, .x 0, .x 0, .x 0, .x 0])], fn := fun v => x_af K v.1 v.2.1 }
noncomputable def x_fx (K : Nat) : Tab := x_ai (tiOf tys) [(86, x_eh), (35, x_as), (85, x_gb K), (34, x_ad), (87, x_cv K), (89, x_hg K), (88, x_x7 K)]
def x_k3 : Hint := ⟨msk [83, 467, 979, 2003, 4049, 8145, 68719484881, 8145, 16337, 16337, 57297, 18014398509506513, 8145, 113], fun _ _ => false, fun _ => false, fun r => if r = 2 then some fun n => [7].contains n else none⟩
noncomputable def x_kz : Code := Tryz.f61.body.getD .skip
noncomputable def x_af.g0 (K : Nat) (a0 : x_c) (a1 : Int) (n : Nat) (v3 : x_r × Bool × Unit) (q0 : List x_i9) (v4 : Int × x_c × Unit) (q1 : Int) (q2 : x_c × Unit) (q3 : x_r) : Option (x_r × (List x_i9) × x_r × x_c × Unit) :=
 lpg (x_fx K) x_k3 K x_kz [.r, .r, .r, .r, .r, .l, .r, .b] n ⟨[.one (.ptr 0 0 0), .dead, .dead, .dead, .one (.ptr 4 1 0), .dead, .one (.ptr 6 1 0), .one (.ptr 7 1 0), .one (.val .f .b v3.2.1), .one (.ptr 9 1 0), .one (.val (.x 0) (.sl eDeed) q0), .one (.val .f (.i .i64) v4.1), .one (.val .f (.i .i64) q1)] ++ List.replicate 46 .dead, [some (0, [.val .f (.sl (.i .u8)) q2.1.1, .val .f (.i .i64) q2.1.2.1, .val .f (.i .i64) q2.1.2.2]), none, none, none, some (1, [.val .f (.i .i64) 0, .val .f (.i .i64) 0, .val .f (.i .i64) 0, .val .f (.i .i64) 0, .val .f (.i .i64) 0, .val (.x 0) (.sl x_hh) [], .val (.x 0) (.sl eRpc) [], .val (.x 0) (.sl eCmd) [], .val (.x 0) (.sl (.i .i64)) [], .val (.x 0) (.sl x_j8) [], .val (.x 0) (.sl eCmd) []]), none, some (1, [.val .f (.i .i64) 0, .val .f (.i .i64) 0, .val .f (.i .i64) 0, .val .f (.i .i64) 0, .val .f (.i .i64) 0, .val (.x 0) (.sl x_hh) [], .val (.x 0) (.sl eRpc) [], .val (.x 0) (.sl eCmd) [], .val (.x 0) (.sl (.i .i64)) [], .val (.x 0) (.sl x_j8) [], .val (.x 0) (.sl eCmd) []]), some (1, [.val .f .u (), .val .f .u (), .val .f .u (), .val .f .u (), .val .f .u (), .val .f .u (), .val .f .u (), .val .f .u (), .val .f .u (), .val .f .u (), .val .f .u ()]), none, some (1, [.val .f (.i .i64) q3.1.1, .val .f (.i .i64) q3.1.2.1, .val .f (.i .i64) q3.1.2.2.1, .val .f (.i .i64) q3.1.2.2.2, .val .f (.i .i64) q3.2.1, .val (.x 0) (.sl x_hh) q3.2.2.1, .val (.x 0) (.sl eRpc) q3.2.2.2.1, .val (.x 0) (.sl eCmd) q3.2.2.2.2.1, .val (.x 0) (.sl (.i .i64)) q3.2.2.2.2.2.1, .val (.x 0) (.sl x_j8) q3.2.2.2.2.2.2.1, .val (.x 0) (.sl eCmd) q3.2.2.2.2.2.2.2])] ++ List.replicate 49 none⟩ (endK (x_fx K).toEnv (x_d2 K) [.cell 4 59, .tmp 5, .cell 6 59])
theorem x_af.ok0 (K : Nat) (a0 : x_c) (a1 : Int) (n : Nat) : x_af.g0 K a0 a1 n = x_af.l0 K a0 a1 n := by
 induction n with
 | zero =>
  funext v3 q0 v4 q1 q2 q3
  kernel_rfl
 | succ n ih =>
  funext v3 q0 v4 q1 q2 q3
  have e : x_af.g0 K a0 a1 (n + 1) v3 q0 v4 q1 q2 q3 = x_af.l0b K a0 a1 (x_af.g0 K a0 a1 n) v3 q0 v4 q1 q2 q3 := by kernel_rfl
  rw [ih] at e
  refine e.trans ?_
  kernel_rfl
theorem x_wn (K : Nat) : FOk Tryz.prog 61 (x_d2 K) :=
 x_a (T := x_fx K) (H := x_k3) (K := K) (c := x_kz) (ts := [.cell 4 59, .tmp 5, .cell 6 59]) Tryz.func61 (by kernel_rfl) (by kernel_rfl) (by kernel_rfl) rfl
  (tokc (x_fi) (tokc (x_aq) (tokc (x_1l K) (tokc (x_1) (tokc (x_vy K) (tokc (x_41 K) (tokc (x_4h K) (tok0 x_k)))))))) mixed
  (fun v => by
  have k0 := x_af.ok0 K v.1 v.2.1 K
  have e : run (x_fx K) x_k3 K x_kz (x_ax (x_d2 K).pk (x_d2 K).ps Tryz.f61.ntmps (lv _ v)) (endK (x_fx K).toEnv (x_d2 K) [.cell 4 59, .tmp 5, .cell 6 59]) = x_af.b K v.1 v.2.1 (x_af.g0 K v.1 v.2.1 K) := by kernel_rfl
  rw [k0] at e
  refine e.trans ?_
  kernel_rfl)
noncomputable def x_ic (K : Nat) : FSp := { ps := [.ptr x_dn [.f, .f, .f]], rs := [(true, x_d8, [.f, .f, .f, .f, .f, .x 0, .x 0, .x 0, .x 0, .x 0, .x 0])], fn := fun v => x_fv K v.1 }
noncomputable def x_un (K : Nat) : Tab := x_ai (tiOf tys) [(61, x_d2 K)]
def x_uu : Hint := ⟨msk [5, 37, 5], fun _ _ => false, fun _ => false, fun _ => none⟩
noncomputable def x_uh : Code := Tryz.f39.body.getD .skip
theorem x_lb (K : Nat) : FOk Tryz.prog 39 (x_ic K) :=
 x_a (T := x_un K) (H := x_uu) (K := K) (c := x_uh) (ts := [.cell 2 59]) Tryz.func39 (by kernel_rfl) (by kernel_rfl) (by kernel_rfl) rfl
  (tokc (x_wn K) (tok0 x_k)) mixed
  (fun v => by kernel_rfl)
noncomputable def x_dj : FSp := { ps := [.ptr x_dn [.f, .f, .f]], rs := [(true, eCmd, [.f, .f, .f, .f, .f, .f, .f, .f])], fn := fun v => x_cp v.1 }
noncomputable def x_xb (K : Nat) : Tab := x_ai (tiOf tys) [(70, x_jl), (74, x_k1), (34, x_ad)]
def x_wz : Hint := ⟨msk [5, 37, 5, 13, 13, 13, 5], fun _ _ => false, fun _ => false, fun _ => none⟩
noncomputable def x_w7 : Code := Tryz.f45.body.getD .skip
theorem x_dt : FOk Tryz.prog 45 (x_dj) := by
 let K := 0
 exact
 x_a (T := x_xb K) (H := x_wz) (K := K) (c := x_w7) (ts := [.cell 2 100]) Tryz.func45 (by kernel_rfl) (by kernel_rfl) (by kernel_rfl) rfl
  (tokc (x_jo) (tokc (x_ny) (tokc (x_1) (tok0 x_k)))) mixed
  (fun v => by kernel_rfl)
noncomputable def x_c8 (K : Nat) : FSp := { ps := [.ptr x_dn [.f, .f, .f], .val false (.i .i64) [.f]], rs := [(false, (.sl eCmd), [.x 0])], fn := fun v => x_ae K v.1 v.2.1 }
noncomputable def x_fg (K : Nat) : Tab := x_ai (tiOf tys) [(34, x_ad), (45, x_dj), (70, x_jl)]
def x_k8 : Hint := ⟨msk [3, 35, 97, 225, 65761, 225, 481, 268435937, 481, 225, 17], fun _ _ => false, fun _ => false, fun _ => none⟩
noncomputable def x_k7 : Code := Tryz.f95.body.getD .skip
noncomputable def x_ae.g0 (K : Nat) (a0 : x_c) (a1 : Int) (n : Nat) (q0 : List TCmd) (v1 : Int × x_c × Unit) (q1 : Int) (q2 : x_c × Unit) : Option ((List TCmd) × x_c × Unit) :=
 lpg (x_fg K) x_k8 K x_k7 [.r, .r, .r, .l, .r, .b] n ⟨[.one (.ptr 0 0 0)] ++ List.replicate 4 .dead ++ [.one (.val (.x 0) (.sl eCmd) q0), .one (.val .f (.i .i64) v1.1), .one (.val .f (.i .i64) q1)] ++ List.replicate 29 .dead, [some (0, [.val .f (.sl (.i .u8)) q2.1.1, .val .f (.i .i64) q2.1.2.1, .val .f (.i .i64) q2.1.2.2])] ++ List.replicate 36 none⟩ (endK (x_fg K).toEnv (x_c8 K) [.tmp 4])
theorem x_ae.ok0 (K : Nat) (a0 : x_c) (a1 : Int) (n : Nat) : x_ae.g0 K a0 a1 n = x_ae.l0 K a0 a1 n := by
 induction n with
 | zero =>
  funext q0 v1 q1 q2
  kernel_rfl
 | succ n ih =>
  funext q0 v1 q1 q2
  have e : x_ae.g0 K a0 a1 (n + 1) q0 v1 q1 q2 = x_ae.l0b K a0 a1 (x_ae.g0 K a0 a1 n) q0 v1 q1 q2 := by kernel_rfl
  rw [ih] at e
  refine e.trans ?_
  kernel_rfl
theorem x_nz (K : Nat) : FOk Tryz.prog 95 (x_c8 K) :=
 x_a (T := x_fg K) (H := x_k8) (K := K) (c := x_k7) (ts := [.tmp 4]) Tryz.func95 (by kernel_rfl) (by kernel_rfl) (by kernel_rfl) rfl
  (tokc (x_1) (tokc (x_dt) (tokc (x_jo) (tok0 x_k)))) mixed
  (fun v => by
  have k0 := x_ae.ok0 K v.1 v.2.1 K
  have e : run (x_fg K) x_k8 K x_k7 (x_ax (x_c8 K).pk (x_c8 K).ps Tryz.f95.ntmps (lv _ v)) (endK (x_fg K).toEnv (x_c8 K) [.tmp 4]) = x_ae.b K v.1 v.2.1 (x_ae.g0 K v.1 v.2.1 K) := by kernel_rfl
  rw [k0] at e
  refine e.trans ?_
  kernel_rfl)
noncomputable def x_f5 (K : Nat) : FSp := { ps := [.val true x_da [.f, .f, .f, .f], .val false (.sl eCmd) [.r]], rs := [(true, x_p8, [.x 0, .x 0, .x 0, .f, .x 0, .x 0]), (false, (.sl x_2), [.x 0])], fn := fun v => x_bl K v.1 v.2.1 }
noncomputable def x_j1 (K : Nat) : Tab := x_ai (tiOf tys) [(115, x_e1 K), (110, x_e7), (122, x_mw K), (123, x_54 K)]
def x_rk : Hint := ⟨msk [22, 86, 214, 470, 262614, 470, 982, 1073742806, 4054, 3030, 982, 470, 48], fun _ _ => false, fun _ => false, fun _ => none⟩
noncomputable def x_qe : Code := Tryz.f102.body.getD .skip
noncomputable def x_bl.g0 (K : Nat) (a0 : x_n) (a1 : List TCmd) (n : Nat) (q0 : List x_a2) (q1 : Int) (q2 : x_ao) : Option (x_ao × (List x_a2) × Unit) :=
 lpg (x_j1 K) x_rk K x_qe [.r, .r, .r, .l, .r, .b] n ⟨[.dead, .one (.val .r (.sl eCmd) a1), .one (.ptr 2 1 0), .dead, .one (.ptr 4 1 0), .dead, .one (.val (.x 0) (.sl x_2) q0), .one (.ptr 7 1 0), .one (.val .f (.i .i64) q1)] ++ List.replicate 40 .dead, [none, none, some (1, [.val .f (.i .i64) a0.1, .val .f (.i .i64) a0.2.1, .val .f (.i .i64) a0.2.2.1, .val .f (.i .i64) a0.2.2.2]), none, some (1, [.val (.x 0) (.sl eRow) [], .val (.x 0) (.sl x_at) [], .val (.x 0) (.sl x_ar) [], .val .f (.i .i64) 0, .val (.x 0) (.sl (.i .i64)) [], .val (.x 0) (.sl x_2) []]), none, none, some (1, [.val (.x 0) (.sl eRow) q2.1, .val (.x 0) (.sl x_at) q2.2.1, .val (.x 0) (.sl x_ar) q2.2.2.1, .val .f (.i .i64) q2.2.2.2.1, .val (.x 0) (.sl (.i .i64)) q2.2.2.2.2.1, .val (.x 0) (.sl x_2) q2.2.2.2.2.2])] ++ List.replicate 41 none⟩ (endK (x_j1 K).toEnv (x_f5 K) [.cell 4 43, .tmp 5])
theorem x_bl.ok0 (K : Nat) (a0 : x_n) (a1 : List TCmd) (n : Nat) : x_bl.g0 K a0 a1 n = x_bl.l0 K a0 a1 n := by
 induction n with
 | zero =>
  funext q0 q1 q2
  kernel_rfl
 | succ n ih =>
  funext q0 q1 q2
  have e : x_bl.g0 K a0 a1 (n + 1) q0 q1 q2 = x_bl.l0b K a0 a1 (x_bl.g0 K a0 a1 n) q0 q1 q2 := by kernel_rfl
  rw [ih] at e
  refine e.trans ?_
  kernel_rfl
theorem x_uq (K : Nat) : FOk Tryz.prog 102 (x_f5 K) :=
 x_a (T := x_j1 K) (H := x_rk) (K := K) (c := x_qe) (ts := [.cell 4 43, .tmp 5]) Tryz.func102 (by kernel_rfl) (by kernel_rfl) (by kernel_rfl) rfl
  (tokc (x_oa K) (tokc (x_ev) (tokc (x_l1 K) (tokc (x_6w K) (tok0 x_k))))) mixed
  (fun v => by
  have k0 := x_bl.ok0 K v.1 v.2.1 K
  have e : run (x_j1 K) x_rk K x_qe (x_ax (x_f5 K).pk (x_f5 K).ps Tryz.f102.ntmps (lv _ v)) (endK (x_j1 K).toEnv (x_f5 K) [.cell 4 43, .tmp 5]) = x_bl.b K v.1 v.2.1 (x_bl.g0 K v.1 v.2.1 K) := by kernel_rfl
  rw [k0] at e
  refine e.trans ?_
  kernel_rfl)
noncomputable def x_6y (K : Nat) : FSp := { ps := [.val true x_da [.f, .f, .f, .f], .val false (.sl eCmd) [.r]], rs := [(true, x_p8, [.x 0, .x 0, .x 0, .f, .x 0, .x 0])], fn := fun v => x_7v K v.1 v.2.1 }
noncomputable def t_s_l6All (K : Nat) : Tab := x_ai (tiOf tys) [(102, x_f5 K)]
def h_s_l6All : Hint := ⟨msk [22, 48, 16], fun _ _ => false, fun _ => false, fun _ => none⟩
noncomputable def c_s_l6All : Code := Tryz.f94.body.getD .skip
theorem x_af9 (K : Nat) : FOk Tryz.prog 94 (x_6y K) :=
 x_a (T := t_s_l6All K) (H := h_s_l6All) (K := K) (c := c_s_l6All) (ts := [.cell 4 43]) Tryz.func94 (by kernel_rfl) (by kernel_rfl) (by kernel_rfl) rfl
  (tokc (x_uq K) (tok0 x_k)) mixed
  (fun v => by kernel_rfl)
noncomputable def x_c0 (K : Nat) : FSp := { ps := [.ptr x_dn [.f, .f, .f]], rs := [(true, x_da, [.f, .f, .f, .f]), (true, x_7y, [.f, .f, .f, .f, .x 0, .x 0, .x 0, .x 0, .f, .x 0, .x 0])], fn := fun v => x_s K v.1 }
noncomputable def x_dz (K : Nat) : Tab := x_ai (tiOf tys) [(86, x_eh), (93, x_m6 K), (34, x_ad), (32, x_cc), (45, x_dj), (70, x_jl), (95, x_c8 K), (94, x_6y K), (73, x_by K), (96, x_px K)]
def x_h2 : Hint := ⟨msk [13, 29, 61, 125, 131197, 125, 509, 1021, 68719477757, 206158431229, 637, 281474976711677, 36028797018964989, 637, 125, 13], fun _ _ => false, fun _ => false, fun _ => none⟩
noncomputable def x_hz : Code := Tryz.f66.body.getD .skip
noncomputable def x_s.g0 (K : Nat) (a0 : x_c) (n : Nat) (q0 : Int) (q1 : x_c × Unit) (v1 : x_n × x_c × Unit) (q2 : x_ff × Unit) : Option (x_n × x_ff × x_c × Unit) :=
 lpg (x_dz K) x_h2 K x_hz [.r, .r, .r, .l, .r, .b] n ⟨[.one (.ptr 0 0 0), .dead, .one (.ptr 2 1 0), .one (.ptr 3 1 0), .one (.ptr 4 1 0), .one (.ptr 5 1 0), .one (.val .f (.i .i64) q0)] ++ List.replicate 64 .dead, [some (0, [.val .f (.sl (.i .u8)) q1.1.1, .val .f (.i .i64) q1.1.2.1, .val .f (.i .i64) q1.1.2.2]), none, some (1, [.val .f (.i .i64) 0, .val .f (.i .i64) 0, .val .f (.i .i64) 0, .val .f (.i .i64) 0]), some (1, [.val .f (.i .i64) 0, .val .f (.i .i64) 0, .val .f (.i .i64) 0, .val .f (.i .i64) 0, .val (.x 0) (.sl x_ct) [], .val (.x 0) (.sl eRow) [], .val (.x 0) (.sl x_at) [], .val (.x 0) (.sl x_ar) [], .val .f (.i .i64) 0, .val (.x 0) (.sl (.i .i64)) [], .val (.x 0) (.sl x_2) []]), some (1, [.val .f (.i .i64) v1.1.1, .val .f (.i .i64) v1.1.2.1, .val .f (.i .i64) v1.1.2.2.1, .val .f (.i .i64) v1.1.2.2.2]), some (1, [.val .f (.i .i64) q2.1.1, .val .f (.i .i64) q2.1.2.1, .val .f (.i .i64) q2.1.2.2.1.1, .val .f (.i .i64) q2.1.2.2.1.2.1, .val (.x 0) (.sl x_ct) q2.1.2.2.1.2.2, .val (.x 0) (.sl eRow) q2.1.2.2.2.1, .val (.x 0) (.sl x_at) q2.1.2.2.2.2.1, .val (.x 0) (.sl x_ar) q2.1.2.2.2.2.2.1, .val .f (.i .i64) q2.1.2.2.2.2.2.2.1, .val (.x 0) (.sl (.i .i64)) q2.1.2.2.2.2.2.2.2.1, .val (.x 0) (.sl x_2) q2.1.2.2.2.2.2.2.2.2])] ++ List.replicate 65 none⟩ (endK (x_dz K).toEnv (x_c0 K) [.cell 2 54, .cell 3 45])
theorem x_s.ok0 (K : Nat) (a0 : x_c) (n : Nat) : x_s.g0 K a0 n = x_s.l0 K a0 n := by
 induction n with
 | zero =>
  funext q0 q1 v1 q2
  kernel_rfl
 | succ n ih =>
  funext q0 q1 v1 q2
  have e : x_s.g0 K a0 (n + 1) q0 q1 v1 q2 = x_s.l0b K a0 (x_s.g0 K a0 n) q0 q1 v1 q2 := by kernel_rfl
  rw [ih] at e
  refine e.trans ?_
  kernel_rfl
theorem x_sf (K : Nat) : FOk Tryz.prog 66 (x_c0 K) :=
 x_a (T := x_dz K) (H := x_h2) (K := K) (c := x_hz) (ts := [.cell 2 54, .cell 3 45]) Tryz.func66 (by kernel_rfl) (by kernel_rfl) (by kernel_rfl) rfl
  (tokc (x_fi) (tokc (x_o5 K) (tokc (x_1) (tokc (x_b1) (tokc (x_dt) (tokc (x_jo) (tokc (x_nz K) (tokc (x_af9 K) (tokc (x_hu K) (tokc (x_qr K) (tok0 x_k))))))))))) mixed
  (fun v => by
  have k0 := x_s.ok0 K v.1 K
  have e : run (x_dz K) x_h2 K x_hz (x_ax (x_c0 K).pk (x_c0 K).ps Tryz.f66.ntmps (lv _ v)) (endK (x_dz K).toEnv (x_c0 K) [.cell 2 54, .cell 3 45]) = x_s.b K v.1 (x_s.g0 K v.1 K) := by kernel_rfl
  rw [k0] at e
  refine e.trans ?_
  kernel_rfl)
noncomputable def x_bz (K : Nat) : FSp := { ps := [.ptr x_dn [.f, .f, .f], .val false (.i .i64) [.f], .val false (.i .i64) [.f]], rs := [(false, (.sl x_ct), [.x 0])], fn := fun v => x_t K v.1 v.2.1 v.2.2.1 }
noncomputable def x_dd (K : Nat) : Tab := x_ai (tiOf tys) [(34, x_ad), (45, x_dj)]
def x_g4 : Hint := ⟨msk [7, 135, 387, 899, 131971, 899, 899, 899, 65], fun _ _ => false, fun _ => false, fun _ => none⟩
noncomputable def x_g1 : Code := Tryz.f71.body.getD .skip
noncomputable def x_t.g0 (K : Nat) (a0 : x_c) (a1 : Int) (a2 : Int) (n : Nat) (q0 : Int) (q1 : List x_au) (v1 : Int × x_c × Unit) (q2 : Int) (q3 : x_c × Unit) : Option ((List x_au) × x_c × Unit) :=
 lpg (x_dd K) x_g4 K x_g1 [.r, .r, .r, .l, .r, .b] n ⟨[.one (.ptr 0 0 0), .one (.val .f (.i .i64) q0)] ++ List.replicate 5 .dead ++ [.one (.val (.x 0) (.sl x_ct) q1), .one (.val .f (.i .i64) v1.1), .one (.val .f (.i .i64) q2)] ++ List.replicate 22 .dead, [some (0, [.val .f (.sl (.i .u8)) q3.1.1, .val .f (.i .i64) q3.1.2.1, .val .f (.i .i64) q3.1.2.2])] ++ List.replicate 31 none⟩ (endK (x_dd K).toEnv (x_bz K) [.tmp 6])
theorem x_t.ok0 (K : Nat) (a0 : x_c) (a1 : Int) (a2 : Int) (n : Nat) : x_t.g0 K a0 a1 a2 n = x_t.l0 K a0 a1 a2 n := by
 induction n with
 | zero =>
  funext q0 q1 v1 q2 q3
  kernel_rfl
 | succ n ih =>
  funext q0 q1 v1 q2 q3
  have e : x_t.g0 K a0 a1 a2 (n + 1) q0 q1 v1 q2 q3 = x_t.l0b K a0 a1 a2 (x_t.g0 K a0 a1 a2 n) q0 q1 v1 q2 q3 := by kernel_rfl
  rw [ih] at e
  refine e.trans ?_
  kernel_rfl
theorem x_f6 (K : Nat) : FOk Tryz.prog 71 (x_bz K) :=
 x_a (T := x_dd K) (H := x_g4) (K := K) (c := x_g1) (ts := [.tmp 6]) Tryz.func71 (by kernel_rfl) (by kernel_rfl) (by kernel_rfl) rfl
  (tokc (x_1) (tokc (x_dt) (tok0 x_k))) mixed
  (fun v => by
  have k0 := x_t.ok0 K v.1 v.2.1 v.2.2.1 K
  have e : run (x_dd K) x_g4 K x_g1 (x_ax (x_bz K).pk (x_bz K).ps Tryz.f71.ntmps (lv _ v)) (endK (x_dd K).toEnv (x_bz K) [.tmp 6]) = x_t.b K v.1 v.2.1 v.2.2.1 (x_t.g0 K v.1 v.2.1 v.2.2.1 K) := by kernel_rfl
  rw [k0] at e
  refine e.trans ?_
  kernel_rfl)
noncomputable def x_n5 (K : Nat) : FSp := { ps := [.ptr x_dn [.f, .f, .f]], rs := [(true, eLog, [.f, .f, .x 0])], fn := fun v => x_iq K v.1 }
noncomputable def x_ww (K : Nat) : Tab := x_ai (tiOf tys) [(34, x_ad), (71, x_bz K)]
def x_wi : Hint := ⟨msk [5, 13, 13, 5], fun _ _ => false, fun _ => false, fun _ => none⟩
noncomputable def x_w9 : Code := Tryz.f97.body.getD .skip
theorem x_u6 (K : Nat) : FOk Tryz.prog 97 (x_n5 K) :=
 x_a (T := x_ww K) (H := x_wi) (K := K) (c := x_w9) (ts := [.cell 2 37]) Tryz.func97 (by kernel_rfl) (by kernel_rfl) (by kernel_rfl) rfl
  (tokc (x_1) (tokc (x_f6 K) (tok0 x_k))) mixed
  (fun v => by kernel_rfl)
noncomputable def x_p9 : FSp := { ps := [.ptr x_dn [.f, .f, .f], .val true eCmd [.f, .f, .f, .f, .f, .f, .f, .f]], rs := [(true, eCmd, [.f, .f, .f, .f, .f, .f, .f, .f])], fn := fun v => x_mz v.1 v.2.1 }
noncomputable def x_aa6 (K : Nat) : Tab := x_ai (tiOf tys) [(34, x_ad), (35, x_as), (36, x_mv)]
def x_abf : Hint := ⟨msk [25, 89, 217, 25, 8281, 25, 524377, 25, 33554521, 25, 2147483673, 25, 17], fun _ _ => false, fun _ => false, fun _ => none⟩
noncomputable def x_aaf : Code := Tryz.f44.body.getD .skip
theorem x_u1 : FOk Tryz.prog 44 (x_p9) := by
 let K := 0
 exact
 x_a (T := x_aa6 K) (H := x_abf) (K := K) (c := x_aaf) (ts := [.cell 4 100]) Tryz.func44 (by kernel_rfl) (by kernel_rfl) (by kernel_rfl) rfl
  (tokc (x_1) (tokc (x_aq) (tokc (x_nn) (tok0 x_k)))) mixed
  (fun v => by kernel_rfl)
noncomputable def x_2y (K : Nat) : FSp := { ps := [.ptr x_dn [.f, .f, .f]], rs := [(true, eLog, [.f, .f, .x 0])], fn := fun v => x_za K v.1 }
noncomputable def x_acw (K : Nat) : Tab := x_ai (tiOf tys) [(97, x_n5 K), (34, x_ad), (35, x_as), (45, x_dj), (44, x_p9)]
def x_adi : Hint := ⟨msk [5, 13, 141, 397, 13, 16525, 13, 1048589, 13, 5], fun _ _ => false, fun _ => false, fun _ => none⟩
noncomputable def x_acf : Code := Tryz.f67.body.getD .skip
theorem x_82 (K : Nat) : FOk Tryz.prog 67 (x_2y K) :=
 x_a (T := x_acw K) (H := x_adi) (K := K) (c := x_acf) (ts := [.cell 2 37]) Tryz.func67 (by kernel_rfl) (by kernel_rfl) (by kernel_rfl) rfl
  (tokc (x_u6 K) (tokc (x_1) (tokc (x_aq) (tokc (x_dt) (tokc (x_u1) (tok0 x_k)))))) mixed
  (fun v => by kernel_rfl)
noncomputable def x_gk (K : Nat) : FSp := { ps := [.ptr x_dn [.f, .f, .f]], rs := [(true, x_da, [.f, .f, .f, .f]), (true, x_p8, [.x 0, .x 0, .x 0, .f, .x 0, .x 0])], fn := fun v => x_fe K v.1 }
noncomputable def x_wk (K : Nat) : Tab := x_ai (tiOf tys) [(86, x_eh), (95, x_c8 K), (102, x_f5 K)]
def x_wx : Hint := ⟨msk [13, 29, 61, 13], fun _ _ => false, fun _ => false, fun _ => none⟩
noncomputable def x_wj : Code := Tryz.f72.body.getD .skip
theorem x_hm (K : Nat) : FOk Tryz.prog 72 (x_gk K) :=
 x_a (T := x_wk K) (H := x_wx) (K := K) (c := x_wj) (ts := [.cell 2 54, .cell 3 43]) Tryz.func72 (by kernel_rfl) (by kernel_rfl) (by kernel_rfl) rfl
  (tokc (x_fi) (tokc (x_nz K) (tokc (x_uq K) (tok0 x_k)))) mixed
  (fun v => by kernel_rfl)
noncomputable def x_3x : FSp := { ps := [.ptr x_dn [.f, .f, .f]], rs := [(true, x_da, [.f, .f, .f, .f])], fn := fun v => x_yv v.1 }
noncomputable def x_agm (K : Nat) : Tab := x_ai (tiOf tys) [(86, x_eh), (34, x_ad), (35, x_as)]
def x_ad7 : Hint := ⟨msk [5, 13, 141, 397, 13, 16525, 13, 1048717, 13, 67108877, 13, 5], fun _ _ => false, fun _ => false, fun _ => none⟩
noncomputable def x_adp : Code := Tryz.f98.body.getD .skip
theorem x_abx : FOk Tryz.prog 98 (x_3x) := by
 let K := 0
 exact
 x_a (T := x_agm K) (H := x_ad7) (K := K) (c := x_adp) (ts := [.cell 2 54]) Tryz.func98 (by kernel_rfl) (by kernel_rfl) (by kernel_rfl) rfl
  (tokc (x_fi) (tokc (x_1) (tokc (x_aq) (tok0 x_k)))) mixed
  (fun v => by kernel_rfl)
end Go.Proofs.YtkdamnchchhjeaaGreatDoor.Fs
