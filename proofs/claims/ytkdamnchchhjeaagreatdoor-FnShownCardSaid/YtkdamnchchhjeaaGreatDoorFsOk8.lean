/- The functions compute what is told of them. -/
import Derived.Test.YtkdamnchchhjeaaGreatDoorFsOk7
set_option linter.all false
set_option maxRecDepth 100000
namespace Go.Proofs.YtkdamnchchhjeaaGreatDoor.Fs
open Go Go.Kn
noncomputable def x_if (K : Nat) : FSp := { ps := [.ptr x_fp [.f, .f, .f, .f, .f, .f, .f, .f, .f, .f, .f, .f, .f, .f, .f, .f, .f, .f, .x 0, .x 0, .x 0, .f, .x 0, .x 0, .x 0, .f, .x 0, .x 0, .f, .f, .f, .f], .val false (.i .i64) [.f]], rs := [], fn := fun v => x_cw K v.1 v.2.1 }
noncomputable def x_pv (K : Nat) : Tab := x_ai (tiOf tys) [(32, x_cc), (168, x_ik), (214, x_1v K)]
def x_0e : Hint := ⟨msk [19, 16777235, 19, 19], fun _ _ => false, fun _ => false, fun _ => none⟩
noncomputable def x_z8 : Code := Tryz.f204.body.getD .skip
noncomputable def x_cw.g0 (K : Nat) (a0 : x_e) (a1 : Int) (n : Nat) (v1 : Int × Int × Unit) (q0 : Int) (q1 : x_ao) : Option (x_e × Unit) :=
 lpg (x_pv K) x_0e K x_z8 [.r, .b] n ⟨[.one (.ptr 0 0 0), .one (.val .f (.i .i64) a1), .dead, .dead, .one (.val .f (.i .i64) v1.1)] ++ List.replicate 67 .dead, [some (0, [.val .f (.i .i64) a0.1.1, .val .f (.i .i64) a0.1.2.1, .val .f (.i .i64) a0.1.2.2.1, .val .f (.i .i64) a0.1.2.2.2, .val .f (.i .i64) a0.2.1, .val .f (.i .i64) a0.2.2.1.1, .val .f (.i .i64) a0.2.2.1.2.1.1, .val .f (.i .i64) a0.2.2.1.2.1.2.1, .val .f (.i .i64) a0.2.2.1.2.1.2.2.1.1, .val .f (.i .i64) a0.2.2.1.2.1.2.2.1.2.1, .val .f (.sl x_ct) a0.2.2.1.2.1.2.2.1.2.2, .val .f (.sl eRow) a0.2.2.1.2.1.2.2.2.1, .val .f (.sl x_at) a0.2.2.1.2.1.2.2.2.2.1, .val .f (.sl x_ar) a0.2.2.1.2.1.2.2.2.2.2.1, .val .f (.i .i64) a0.2.2.1.2.1.2.2.2.2.2.2.1, .val .f (.sl (.i .i64)) a0.2.2.1.2.1.2.2.2.2.2.2.2.1, .val .f (.sl x_2) a0.2.2.1.2.1.2.2.2.2.2.2.2.2, .val .f (.i .i64) a0.2.2.1.2.2.1, .val (.x 0) (.sl .b) a0.2.2.1.2.2.2.1, .val (.x 0) (.sl (.i .i64)) a0.2.2.1.2.2.2.2.1, .val (.x 0) (.sl (.i .i64)) a0.2.2.1.2.2.2.2.2.1, .val .f (.i .i64) q0, .val (.x 0) (.sl eRow) q1.1, .val (.x 0) (.sl x_at) q1.2.1, .val (.x 0) (.sl x_ar) q1.2.2.1, .val .f (.i .i64) q1.2.2.2.1, .val (.x 0) (.sl (.i .i64)) q1.2.2.2.2.1, .val (.x 0) (.sl x_2) q1.2.2.2.2.2, .val .f (.sl (.i .u8)) a0.2.2.1.2.2.2.2.2.2.2.2.1.1, .val .f (.i .i64) a0.2.2.1.2.2.2.2.2.2.2.2.1.2, .val .f (.sl eRpc) a0.2.2.1.2.2.2.2.2.2.2.2.2, .val .f .b a0.2.2.2])] ++ List.replicate 71 none⟩ (endK (x_pv K).toEnv (x_if K) [])
theorem x_cw.ok0 (K : Nat) (a0 : x_e) (a1 : Int) (n : Nat) : x_cw.g0 K a0 a1 n = x_cw.l0 K a0 a1 n := by
 induction n with
 | zero =>
  funext v1 q0 q1
  kernel_rfl
 | succ n ih =>
  funext v1 q0 q1
  have e : x_cw.g0 K a0 a1 (n + 1) v1 q0 q1 = x_cw.l0b K a0 a1 (x_cw.g0 K a0 a1 n) v1 q0 q1 := by kernel_rfl
  rw [ih] at e
  refine e.trans ?_
  kernel_rfl
theorem x_vj (K : Nat) : FOk Tryz.prog 204 (x_if K) :=
 x_a (T := x_pv K) (H := x_0e) (K := K) (c := x_z8) (ts := []) Tryz.func204 (by kernel_rfl) (by kernel_rfl) (by kernel_rfl) rfl
  (tokc (x_b1) (tokc (x_id) (tokc (x_84 K) (tok0 x_k)))) mixed
  (fun v => by
  have k0 := x_cw.ok0 K v.1 v.2.1 K
  have e : run (x_pv K) x_0e K x_z8 (x_ax (x_if K).pk (x_if K).ps Tryz.f204.ntmps (lv _ v)) (endK (x_pv K).toEnv (x_if K) []) = x_cw.b K v.1 v.2.1 (x_cw.g0 K v.1 v.2.1 K) := by kernel_rfl
  rw [k0] at e
  refine e.trans ?_
  kernel_rfl)
noncomputable def x_2m (K : Nat) : FSp := { ps := [.ptr x_fp [.f, .f, .f, .f, .f, .f, .f, .f, .f, .f, .f, .f, .f, .f, .f, .f, .f, .f, .x 0, .x 0, .x 0, .f, .x 0, .x 0, .x 0, .f, .x 0, .x 0, .f, .f, .f, .f], .val true eRpc [.f, .f, .f, .f, .f, .f, .f, .r, .f, .f]], rs := [], fn := fun v => x_g3 K v.1 v.2.1 }
noncomputable def x_agc (K : Nat) : Tab := x_ai (tiOf tys) [(32, x_cc), (200, x_te K), (173, x_ii K), (137, x_hn K), (201, x_hj K), (168, x_ik), (112, x_no), (202, x_d6 K), (203, x_em K), (180, x_e0 K), (204, x_if K)]
def x_adx : Hint := ⟨msk [9, 25, 57, 2147483705, 1, 57, 35184372088889, 1, 441, 1977, 154742504910672534362391225, 1, 10141204801825835211973625643529, 9, 9, 2057, 42535295865117307932921825928971028489, 2057, 1], fun _ _ => false, fun _ => false, fun _ => none⟩
noncomputable def x_ahn : Code := Tryz.f176.body.getD .skip
theorem x_8z (K : Nat) : FOk Tryz.prog 176 (x_2m K) :=
 x_a (T := x_agc K) (H := x_adx) (K := K) (c := x_ahn) (ts := []) Tryz.func176 (by kernel_rfl) (by kernel_rfl) (by kernel_rfl) rfl
  (tokc (x_b1) (tokc (x_yi K) (tokc (x_k5 K) (tokc (x_yd K) (tokc (x_5d K) (tokc (x_id) (tokc (x_mg) (tokc (x_w5 K) (tokc (x_r8 K) (tokc (x_fd K) (tokc (x_vj K) (tok0 x_k)))))))))))) mixed
  (fun v => by kernel_rfl)
noncomputable def x_xd (K : Nat) : FSp := { ps := [.ptr x_fp [.f, .f, .f, .f, .f, .f, .f, .f, .f, .f, .f, .f, .f, .f, .f, .f, .f, .f, .x 0, .x 0, .x 0, .f, .x 0, .x 0, .x 0, .f, .x 0, .x 0, .f, .f, .f, .f], .val true eRpc [.f, .f, .f, .f, .f, .f, .f, .r, .f, .f]], rs := [], fn := fun v => x_nd K v.1 v.2.1 }
noncomputable def x_9g (K : Nat) : Tab := x_ai (tiOf tys) [(32, x_cc), (200, x_te K), (173, x_ii K), (139, x_h9), (204, x_if K), (138, x_u7 K), (203, x_em K), (180, x_e0 K)]
def x_95 : Hint := ⟨msk [9, 25, 57, 268435513, 1, 25, 35184372088857, 1, 2305843009213693961, 9, 1, 393, 39614081257132168796771975305, 137, 9, 9, 9, 1], fun _ _ => false, fun _ => false, fun _ => none⟩
noncomputable def x_80 : Code := Tryz.f177.body.getD .skip
theorem x_6h (K : Nat) : FOk Tryz.prog 177 (x_xd K) :=
 x_a (T := x_9g K) (H := x_95) (K := K) (c := x_80) (ts := []) Tryz.func177 (by kernel_rfl) (by kernel_rfl) (by kernel_rfl) rfl
  (tokc (x_b1) (tokc (x_yi K) (tokc (x_k5 K) (tokc (x_hf) (tokc (x_vj K) (tokc (x_xo K) (tokc (x_r8 K) (tokc (x_fd K) (tok0 x_k))))))))) mixed
  (fun v => by kernel_rfl)
noncomputable def x_d1 (K : Nat) : FSp := { ps := [.ptr x_fp [.f, .f, .f, .f, .f, .f, .f, .f, .f, .f, .f, .f, .f, .f, .f, .f, .f, .f, .x 0, .x 0, .x 0, .f, .x 0, .x 0, .x 0, .f, .x 0, .x 0, .f, .f, .f, .f]], rs := [], fn := fun v => x_u K v.1 }
noncomputable def x_et (K : Nat) : Tab := x_ai (tiOf tys) [(32, x_cc), (199, x_z6), (139, x_h9), (182, x_z2), (204, x_if K)]
def x_kj : Hint := ⟨msk [5, 17, 4294967313, 17, 49, 113, 1099511627889, 113, 113, 604462909807314587353105, 1], fun _ _ => false, fun _ => false, fun _ => none⟩
noncomputable def x_k4 : Code := Tryz.f205.body.getD .skip
noncomputable def x_u.g0 (K : Nat) (a0 : x_e) (n : Nat) (q2 : Int) : Option (x_e × Unit) :=
 lpg (x_et K) x_kj K x_k4 [.r, .r, .b] n ⟨[.one (.ptr 0 0 0), .dead, .dead, .dead, .one (.val .f (.i .i64) q2)] ++ List.replicate 78 .dead, [some (0, [.val .f (.i .i64) a0.1.1, .val .f (.i .i64) a0.1.2.1, .val .f (.i .i64) a0.1.2.2.1, .val .f (.i .i64) a0.1.2.2.2, .val .f (.i .i64) a0.2.1, .val .f (.i .i64) a0.2.2.1.1, .val .f (.i .i64) a0.2.2.1.2.1.1, .val .f (.i .i64) a0.2.2.1.2.1.2.1, .val .f (.i .i64) a0.2.2.1.2.1.2.2.1.1, .val .f (.i .i64) a0.2.2.1.2.1.2.2.1.2.1, .val .f (.sl x_ct) a0.2.2.1.2.1.2.2.1.2.2, .val .f (.sl eRow) a0.2.2.1.2.1.2.2.2.1, .val .f (.sl x_at) a0.2.2.1.2.1.2.2.2.2.1, .val .f (.sl x_ar) a0.2.2.1.2.1.2.2.2.2.2.1, .val .f (.i .i64) a0.2.2.1.2.1.2.2.2.2.2.2.1, .val .f (.sl (.i .i64)) a0.2.2.1.2.1.2.2.2.2.2.2.2.1, .val .f (.sl x_2) a0.2.2.1.2.1.2.2.2.2.2.2.2.2, .val .f (.i .i64) a0.2.2.1.2.2.1, .val (.x 0) (.sl .b) a0.2.2.1.2.2.2.1, .val (.x 0) (.sl (.i .i64)) a0.2.2.1.2.2.2.2.1, .val (.x 0) (.sl (.i .i64)) a0.2.2.1.2.2.2.2.2.1, .val .f (.i .i64) a0.2.2.1.2.2.2.2.2.2.1, .val (.x 0) (.sl eRow) a0.2.2.1.2.2.2.2.2.2.2.1.1, .val (.x 0) (.sl x_at) a0.2.2.1.2.2.2.2.2.2.2.1.2.1, .val (.x 0) (.sl x_ar) a0.2.2.1.2.2.2.2.2.2.2.1.2.2.1, .val .f (.i .i64) a0.2.2.1.2.2.2.2.2.2.2.1.2.2.2.1, .val (.x 0) (.sl (.i .i64)) a0.2.2.1.2.2.2.2.2.2.2.1.2.2.2.2.1, .val (.x 0) (.sl x_2) a0.2.2.1.2.2.2.2.2.2.2.1.2.2.2.2.2, .val .f (.sl (.i .u8)) a0.2.2.1.2.2.2.2.2.2.2.2.1.1, .val .f (.i .i64) a0.2.2.1.2.2.2.2.2.2.2.2.1.2, .val .f (.sl eRpc) a0.2.2.1.2.2.2.2.2.2.2.2.2, .val .f .b a0.2.2.2])] ++ List.replicate 82 none⟩ (endK (x_et K).toEnv (x_d1 K) [])
noncomputable def x_u.g1 (K : Nat) (a0 : x_e) (n0 : Nat) (n : Nat) (q2 : Int) (q3 : Int) (q4 : Int) : Option (x_e × Unit) :=
 lpg (x_et K) x_kj K x_k4 [.r, .r, .b, .lp n0, .r, .l, .b, .r, .l, .r, .b] n ⟨[.one (.ptr 0 0 0), .dead, .dead, .dead, .one (.val .f (.i .i64) q2), .one (.val .f (.i .i64) q3), .one (.val .f (.i .i64) q4)] ++ List.replicate 76 .dead, [some (0, [.val .f (.i .i64) a0.1.1, .val .f (.i .i64) a0.1.2.1, .val .f (.i .i64) a0.1.2.2.1, .val .f (.i .i64) a0.1.2.2.2, .val .f (.i .i64) a0.2.1, .val .f (.i .i64) a0.2.2.1.1, .val .f (.i .i64) a0.2.2.1.2.1.1, .val .f (.i .i64) a0.2.2.1.2.1.2.1, .val .f (.i .i64) a0.2.2.1.2.1.2.2.1.1, .val .f (.i .i64) a0.2.2.1.2.1.2.2.1.2.1, .val .f (.sl x_ct) a0.2.2.1.2.1.2.2.1.2.2, .val .f (.sl eRow) a0.2.2.1.2.1.2.2.2.1, .val .f (.sl x_at) a0.2.2.1.2.1.2.2.2.2.1, .val .f (.sl x_ar) a0.2.2.1.2.1.2.2.2.2.2.1, .val .f (.i .i64) a0.2.2.1.2.1.2.2.2.2.2.2.1, .val .f (.sl (.i .i64)) a0.2.2.1.2.1.2.2.2.2.2.2.2.1, .val .f (.sl x_2) a0.2.2.1.2.1.2.2.2.2.2.2.2.2, .val .f (.i .i64) a0.2.2.1.2.2.1, .val (.x 0) (.sl .b) a0.2.2.1.2.2.2.1, .val (.x 0) (.sl (.i .i64)) a0.2.2.1.2.2.2.2.1, .val (.x 0) (.sl (.i .i64)) a0.2.2.1.2.2.2.2.2.1, .val .f (.i .i64) a0.2.2.1.2.2.2.2.2.2.1, .val (.x 0) (.sl eRow) a0.2.2.1.2.2.2.2.2.2.2.1.1, .val (.x 0) (.sl x_at) a0.2.2.1.2.2.2.2.2.2.2.1.2.1, .val (.x 0) (.sl x_ar) a0.2.2.1.2.2.2.2.2.2.2.1.2.2.1, .val .f (.i .i64) a0.2.2.1.2.2.2.2.2.2.2.1.2.2.2.1, .val (.x 0) (.sl (.i .i64)) a0.2.2.1.2.2.2.2.2.2.2.1.2.2.2.2.1, .val (.x 0) (.sl x_2) a0.2.2.1.2.2.2.2.2.2.2.1.2.2.2.2.2, .val .f (.sl (.i .u8)) a0.2.2.1.2.2.2.2.2.2.2.2.1.1, .val .f (.i .i64) a0.2.2.1.2.2.2.2.2.2.2.2.1.2, .val .f (.sl eRpc) a0.2.2.1.2.2.2.2.2.2.2.2.2, .val .f .b a0.2.2.2])] ++ List.replicate 82 none⟩ (endK (x_et K).toEnv (x_d1 K) [])
theorem x_u.ok1 (K : Nat) (a0 : x_e) (n0 : Nat) (L0 : Int → Option (x_e × Unit)) (h0 : x_u.g0 K a0 n0 = L0) (n : Nat) : x_u.g1 K a0 n0 n = x_u.l1 K a0 L0 n := by
 induction n with
 | zero =>
  funext q2 q3 q4
  kernel_rfl
 | succ n ih =>
  funext q2 q3 q4
  have e : x_u.g1 K a0 n0 (n + 1) q2 q3 q4 = x_u.l1b K a0 (x_u.g0 K a0 n0) (x_u.g1 K a0 n0 n) q2 q3 q4 := by kernel_rfl
  rw [h0, ih] at e
  refine e.trans ?_
  kernel_rfl
theorem x_u.ok0 (K : Nat) (a0 : x_e) (n : Nat) : x_u.g0 K a0 n = x_u.l0 K a0 n := by
 induction n with
 | zero =>
  funext q2
  kernel_rfl
 | succ n ih =>
  have k1 := x_u.ok1 K a0 n (x_u.l0 K a0 n) ih K
  funext q2
  have e : x_u.g0 K a0 (n + 1) q2 = x_u.l0b K a0 (x_u.g1 K a0 n K) q2 := by kernel_rfl
  rw [k1] at e
  refine e.trans ?_
  kernel_rfl
theorem x_sc (K : Nat) : FOk Tryz.prog 205 (x_d1 K) :=
 x_a (T := x_et K) (H := x_kj) (K := K) (c := x_k4) (ts := []) Tryz.func205 (by kernel_rfl) (by kernel_rfl) (by kernel_rfl) rfl
  (tokc (x_b1) (tokc (x_2j) (tokc (x_hf) (tokc (x_y8) (tokc (x_vj K) (tok0 x_k)))))) mixed
  (fun v => by
  have k0 := x_u.ok0 K v.1 K
  have e : run (x_et K) x_kj K x_k4 (x_ax (x_d1 K).pk (x_d1 K).ps Tryz.f205.ntmps (lv _ v)) (endK (x_et K).toEnv (x_d1 K) []) = x_u.b K v.1 (x_u.g0 K v.1 K) := by kernel_rfl
  rw [k0] at e
  refine e.trans ?_
  kernel_rfl)
noncomputable def x_wc (K : Nat) : FSp := { ps := [.ptr x_fp [.f, .f, .f, .f, .f, .f, .f, .f, .f, .f, .f, .f, .f, .f, .f, .f, .f, .f, .x 0, .x 0, .x 0, .f, .x 0, .x 0, .x 0, .f, .x 0, .x 0, .f, .f, .f, .f], .val true eRpc [.f, .f, .f, .f, .f, .f, .f, .r, .f, .f]], rs := [], fn := fun v => x_dq K v.1 v.2.1 }
noncomputable def x_4i (K : Nat) : Tab := x_ai (tiOf tys) [(32, x_cc), (168, x_ik), (112, x_no), (205, x_d1 K)]
def x_4u : Hint := ⟨msk [9, 8388617, 25, 89, 274877907033, 1, 19342813113834066795298889, 65, 1, 1], fun _ _ => false, fun _ => false, fun _ => none⟩
noncomputable def x_4q : Code := Tryz.f178.body.getD .skip
theorem x_3m (K : Nat) : FOk Tryz.prog 178 (x_wc K) :=
 x_a (T := x_4i K) (H := x_4u) (K := K) (c := x_4q) (ts := []) Tryz.func178 (by kernel_rfl) (by kernel_rfl) (by kernel_rfl) rfl
  (tokc (x_b1) (tokc (x_id) (tokc (x_mg) (tokc (x_sc K) (tok0 x_k))))) mixed
  (fun v => by kernel_rfl)
noncomputable def x_af4 (K : Nat) : FSp := { ps := [.val true x_da [.f, .f, .f, .f], .val true x_hh [.f, .f, .f, .f, .f, .r, .r, .r, .r, .f, .r, .r, .f, .r, .r, .r, .f, .r, .r, .r, .f, .r, .r, .r, .f, .r], .val false (.i .i64) [.f], .val true eRpc [.f, .f, .f, .f, .f, .f, .f, .r, .f, .f]], rs := [(true, x_hh, [.f, .f, .f, .f, .f, .f, .f, .f, .f, .f, .f, .f, .f, .x 0, .f, .f, .f, .x 0, .x 0, .x 0, .f, .x 0, .x 0, .f, .f, .f]), (false, .b, [.f])], fn := fun v => x_nt K v.1 v.2.1 v.2.2.1 v.2.2.2.1 }
noncomputable def t_s_Hear (K : Nat) : Tab := x_ai (tiOf tys) [(129, x_cq K), (150, x_s5 K), (40, x_co K), (173, x_ii K), (174, x_2p K), (175, x_hc K), (176, x_2m K), (177, x_xd K), (178, x_wc K)]
def h_s_Hear : Hint := ⟨msk [436, 268435892, 768, 68719478196, 4466765989300, 68719478196, 281543696188852, 68719478068, 4785143323559348, 68719478068, 144396731772044724, 68719478068, 4611967562123576756, 68719478068, 147573952658395891124, 68719478068, 77371252455336335900673312, 768, 768], fun _ _ => false, fun _ => false, fun _ => none⟩
noncomputable def c_s_Hear : Code := Tryz.f152.body.getD .skip
theorem ok_s_Hear (K : Nat) : FOk Tryz.prog 152 (x_af4 K) :=
 x_a (T := t_s_Hear K) (H := h_s_Hear) (K := K) (c := c_s_Hear) (ts := [.cell 8 51, .tmp 9]) Tryz.func152 (by kernel_rfl) (by kernel_rfl) (by kernel_rfl) rfl
  (tokc (x_fb K) (tokc (x_v4 K) (tokc (x_cl K) (tokc (x_k5 K) (tokc (x_abk K) (tokc (x_42 K) (tokc (x_8z K) (tokc (x_6h K) (tokc (x_3m K) (tok0 x_k)))))))))) mixed
  (fun v => by kernel_rfl)
noncomputable def x_2w (K : Nat) : FSp := { ps := [.val true x_d8 [.f, .f, .f, .f, .f, .x 0, .x 0, .x 0, .x 0, .x 0, .x 0], .val true eDeed [.f, .f, .f, .f, .f, .f, .f, .f, .f, .f, .f]], rs := [(true, x_d8, [.f, .f, .f, .f, .f, .x 0, .x 0, .x 0, .x 0, .x 0, .x 0]), (false, (.i .i64), [.f])], fn := fun v => x_0l K v.1 v.2.1 }
noncomputable def x_ac9 (K : Nat) : Tab := x_ai (tiOf tys) [(30, x_bv), (92, x_pp), (152, x_af4 K)]
def x_ahw : Hint := ⟨msk [28, 65564, 48, 92, 67108956, 1073741908, 48, 20, 48, 92, 144115188075855956, 468, 9444732965739290427604, 20, 48], fun _ _ => false, fun _ => false, fun _ => none⟩
noncomputable def x_aiq : Code := Tryz.f130.body.getD .skip
theorem x_9q (K : Nat) : FOk Tryz.prog 130 (x_2w K) :=
 x_a (T := x_ac9 K) (H := x_ahw) (K := K) (c := x_aiq) (ts := [.cell 4 59, .tmp 5]) Tryz.func130 (by kernel_rfl) (by kernel_rfl) (by kernel_rfl) rfl
  (tokc (x_bc) (tokc (x_q4) (tokc (ok_s_Hear K) (tok0 x_k)))) mixed
  (fun v => by kernel_rfl)
noncomputable def x_of (K : Nat) : FSp := { ps := [.val true x_d8 [.f, .f, .f, .f, .f, .r, .r, .r, .r, .r, .r], .val false (.i .i64) [.f], .val false (.i .i64) [.f]], rs := [(false, .b, [.f])], fn := fun v => x_g0 K v.1 v.2.1 v.2.2.1 }
noncomputable def x_t3 (K : Nat) : Tab := x_ai (tiOf tys) []
def x_5o : Hint := ⟨msk [14, 142, 4238, 142, 4294967438, 64, 64], fun _ _ => false, fun _ => false, fun _ => none⟩
noncomputable def x_5b : Code := Tryz.f153.body.getD .skip
noncomputable def x_g0.g0 (K : Nat) (a0 : x_r) (a1 : Int) (a2 : Int) (n : Nat) (q0 : Int) : Option (Bool × Unit) :=
 lpg (x_t3 K) x_5o K x_5b [.r, .l, .r, .b] n ⟨[.dead, .one (.val .f (.i .i64) a1), .one (.val .f (.i .i64) a2), .one (.ptr 3 1 0), .dead, .dead, .dead, .one (.val .f (.i .i64) q0)] ++ List.replicate 25 .dead, [none, none, none, some (1, [.val .f (.i .i64) a0.1.1, .val .f (.i .i64) a0.1.2.1, .val .f (.i .i64) a0.1.2.2.1, .val .f (.i .i64) a0.1.2.2.2, .val .f (.i .i64) a0.2.1, .val .r (.sl x_hh) a0.2.2.1, .val .r (.sl eRpc) a0.2.2.2.1, .val .r (.sl eCmd) a0.2.2.2.2.1, .val .r (.sl (.i .i64)) a0.2.2.2.2.2.1, .val .r (.sl x_j8) a0.2.2.2.2.2.2.1, .val .r (.sl eCmd) a0.2.2.2.2.2.2.2])] ++ List.replicate 29 none⟩ (endK (x_t3 K).toEnv (x_of K) [.tmp 6])
theorem x_g0.ok0 (K : Nat) (a0 : x_r) (a1 : Int) (a2 : Int) (n : Nat) : x_g0.g0 K a0 a1 a2 n = x_g0.l0 K a0 a1 a2 n := by
 induction n with
 | zero =>
  funext q0
  kernel_rfl
 | succ n ih =>
  funext q0
  have e : x_g0.g0 K a0 a1 a2 (n + 1) q0 = x_g0.l0b K a0 a1 a2 (x_g0.g0 K a0 a1 a2 n) q0 := by kernel_rfl
  rw [ih] at e
  refine e.trans ?_
  kernel_rfl
theorem x_7u (K : Nat) : FOk Tryz.prog 153 (x_of K) :=
 x_a (T := x_t3 K) (H := x_5o) (K := K) (c := x_5b) (ts := [.tmp 6]) Tryz.func153 (by kernel_rfl) (by kernel_rfl) (by kernel_rfl) rfl
  (tok0 x_k) mixed
  (fun v => by
  have k0 := x_g0.ok0 K v.1 v.2.1 v.2.2.1 K
  have e : run (x_t3 K) x_5o K x_5b (x_ax (x_of K).pk (x_of K).ps Tryz.f153.ntmps (lv _ v)) (endK (x_t3 K).toEnv (x_of K) [.tmp 6]) = x_g0.b K v.1 v.2.1 v.2.2.1 (x_g0.g0 K v.1 v.2.1 v.2.2.1 K) := by kernel_rfl
  rw [k0] at e
  refine e.trans ?_
  kernel_rfl)
noncomputable def x_yb (K : Nat) : FSp := { ps := [.val true x_d8 [.f, .f, .f, .f, .f, .x 0, .x 0, .x 0, .x 0, .x 0, .x 0], .val true eDeed [.f, .f, .f, .f, .f, .f, .f, .f, .f, .f, .f]], rs := [(true, x_d8, [.f, .f, .f, .f, .f, .x 0, .x 0, .x 0, .x 0, .x 0, .x 0]), (false, (.i .i64), [.f])], fn := fun v => x_ta K v.1 v.2.1 }
noncomputable def x_abz (K : Nat) : Tab := x_ai (tiOf tys) [(153, x_of K)]
def x_abl : Hint := ⟨msk [28, 92, 220, 4398046511324, 48, 140737488355548, 48, 20, 48], fun _ _ => false, fun _ => false, fun _ => none⟩
noncomputable def x_abt : Code := Tryz.f131.body.getD .skip
theorem x_5i (K : Nat) : FOk Tryz.prog 131 (x_yb K) :=
 x_a (T := x_abz K) (H := x_abl) (K := K) (c := x_abt) (ts := [.cell 4 59, .tmp 5]) Tryz.func131 (by kernel_rfl) (by kernel_rfl) (by kernel_rfl) rfl
  (tokc (x_7u K) (tok0 x_k)) mixed
  (fun v => by kernel_rfl)
noncomputable def x_xu (K : Nat) : FSp := { ps := [.val true x_da [.f, .f, .f, .f], .val true x_hh [.f, .f, .f, .f, .f, .r, .r, .r, .r, .f, .r, .r, .f, .r, .r, .r, .f, .r, .r, .r, .f, .r, .r, .r, .f, .r], .val false (.i .i64) [.f], .val true eCmd [.f, .f, .f, .f, .f, .f, .f, .f]], rs := [(true, x_hh, [.f, .f, .f, .f, .f, .x 0, .x 0, .x 0, .x 0, .f, .x 0, .x 0, .f, .x 0, .x 0, .x 0, .f, .x 0, .x 0, .x 0, .f, .x 0, .x 0, .x 0, .f, .x 0]), (false, .b, [.f])], fn := fun v => x_m1 K v.1 v.2.1 v.2.2.1 v.2.2.2.1 }
noncomputable def x_aas (K : Nat) : Tab := x_ai (tiOf tys) [(129, x_cq K), (122, x_mw K), (40, x_co K), (32, x_cc), (179, x_lr K)]
def x_89 : Hint := ⟨msk [436, 268435888, 768, 3504, 12576, 147573952589676417312, 768, 768], fun _ _ => false, fun _ => false, fun _ => none⟩
noncomputable def x_9i : Code := Tryz.f154.body.getD .skip
theorem x_5u (K : Nat) : FOk Tryz.prog 154 (x_xu K) :=
 x_a (T := x_aas K) (H := x_89) (K := K) (c := x_9i) (ts := [.cell 8 51, .tmp 9]) Tryz.func154 (by kernel_rfl) (by kernel_rfl) (by kernel_rfl) rfl
  (tokc (x_fb K) (tokc (x_l1 K) (tokc (x_cl K) (tokc (x_b1) (tokc (x_pb K) (tok0 x_k)))))) mixed
  (fun v => by kernel_rfl)
noncomputable def x_2n (K : Nat) : FSp := { ps := [.val true x_d8 [.f, .f, .f, .f, .f, .x 0, .x 0, .x 0, .x 0, .x 0, .x 0], .val true eDeed [.f, .f, .f, .f, .f, .f, .f, .f, .f, .f, .f]], rs := [(true, x_d8, [.f, .f, .f, .f, .f, .x 0, .x 0, .x 0, .x 0, .x 0, .x 0]), (false, (.i .i64), [.f])], fn := fun v => x_kh K v.1 v.2.1 }
noncomputable def x_age (K : Nat) : Tab := x_ai (tiOf tys) [(153, x_of K), (154, x_xu K)]
def x_aeg : Hint := ⟨msk [28, 92, 220, 524508, 2147483868, 48, 220, 220, 156, 924, 9223372036854776220, 48, 156, 9444732965739290427548, 28, 20, 48], fun _ _ => false, fun _ => false, fun _ => none⟩
noncomputable def x_ac4 : Code := Tryz.f132.body.getD .skip
theorem x_aau (K : Nat) : FOk Tryz.prog 132 (x_2n K) :=
 x_a (T := x_age K) (H := x_aeg) (K := K) (c := x_ac4) (ts := [.cell 4 59, .tmp 5]) Tryz.func132 (by kernel_rfl) (by kernel_rfl) (by kernel_rfl) rfl
  (tokc (x_7u K) (tokc (x_5u K) (tok0 x_k))) mixed
  (fun v => by kernel_rfl)
end Go.Proofs.YtkdamnchchhjeaaGreatDoor.Fs
