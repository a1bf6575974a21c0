/- The functions compute what is told of them. -/
import Derived.Test.YtkdamnchchhjeaaGreatDoorFsOk0
set_option linter.all false
set_option maxRecDepth 100000
namespace Go.Proofs.YtkdamnchchhjeaaGreatDoor.Fs
open Go Go.Kn
noncomputable def x_h0 (K : Nat) : FSp := { ps := [.ptr x_dn [.f, .f, .f]], rs := [(true, eRow, [.f, .f, .x 0])], fn := fun v => x_b7 K v.1 }
noncomputable def x_mi (K : Nat) : Tab := x_ai (tiOf tys) [(33, x_de K), (34, x_ad), (35, x_as), (36, x_mv), (37, x_o8 K)]
def x_wd : Hint := ⟨msk [5, 13, 141, 397, 13, 16525, 13, 1048717, 13, 8589934605, 274877906957, 13, 5], fun _ _ => false, fun _ => false, fun _ => none⟩
noncomputable def x_uc : Code := Tryz.f20.body.getD .skip
noncomputable def x_b7.g0 (K : Nat) (a0 : x_c) (n : Nat) (v2 : Int × x_c × Unit) (q0 : TRow) : Option (TRow × x_c × Unit) :=
 lpg (x_mi K) x_wd K x_uc [.r, .r, .l, .r, .b, .r, .e, .r, .e, .r, .e, .r, .t, .b] n ⟨[.one (.ptr 0 0 0), .dead, .one (.ptr 2 1 0), .one (.ptr 3 1 0)] ++ List.replicate 42 .dead, [some (0, [.val .f (.sl (.i .u8)) v2.2.1.1, .val .f (.i .i64) v2.2.1.2.1, .val .f (.i .i64) v2.2.1.2.2]), none, some (1, [.val .f (.i .i64) 0, .val .f (.i .i64) 0, .val (.x 0) (.sl x_ou) []]), some (1, [.val .f (.i .i64) q0.1, .val .f (.i .i64) q0.2.1, .val (.x 0) (.sl x_ou) q0.2.2])] ++ List.replicate 42 none⟩ (endK (x_mi K).toEnv (x_h0 K) [.cell 2 26])
theorem x_b7.ok0 (K : Nat) (a0 : x_c) (n : Nat) : x_b7.g0 K a0 n = x_b7.l0 K a0 n := by
 induction n with
 | zero =>
  funext v2 q0
  kernel_rfl
 | succ n ih =>
  funext v2 q0
  have e : x_b7.g0 K a0 (n + 1) v2 q0 = x_b7.l0b K a0 (x_b7.g0 K a0 n) v2 q0 := by kernel_rfl
  rw [ih] at e
  refine e.trans ?_
  kernel_rfl
theorem x_xx (K : Nat) : FOk Tryz.prog 20 (x_h0 K) :=
 x_a (T := x_mi K) (H := x_wd) (K := K) (c := x_uc) (ts := [.cell 2 26]) Tryz.func20 (by kernel_rfl) (by kernel_rfl) (by kernel_rfl) rfl
  (tokc (x_vk K) (tokc (x_1) (tokc (x_aq) (tokc (x_nn) (tokc (x_qt K) (tok0 x_k)))))) mixed
  (fun v => by
  have k0 := x_b7.ok0 K v.1 K
  have e : run (x_mi K) x_wd K x_uc (x_ax (x_h0 K).pk (x_h0 K).ps Tryz.f20.ntmps (lv _ v)) (endK (x_mi K).toEnv (x_h0 K) [.cell 2 26]) = x_b7.b K v.1 (x_b7.g0 K v.1 K) := by kernel_rfl
  rw [k0] at e
  refine e.trans ?_
  kernel_rfl)
noncomputable def x_nx (K : Nat) : FSp := { ps := [.val false (.sl (.i .u8)) [.f]], rs := [(true, eRow, [.f, .f, .x 0])], fn := fun v => x_in K v.1 }
noncomputable def x_wo (K : Nat) : Tab := x_ai (tiOf tys) [(21, x_gj K), (20, x_h0 K)]
def x_xa : Hint := ⟨msk [5, 4], fun _ _ => false, fun _ => false, fun _ => none⟩
noncomputable def x_wp : Code := Tryz.f5.body.getD .skip
theorem x_ue (K : Nat) : FOk Tryz.prog 5 (x_nx K) :=
 x_a (T := x_wo K) (H := x_xa) (K := K) (c := x_wp) (ts := [.cell 2 26]) Tryz.func5 (by kernel_rfl) (by kernel_rfl) (by kernel_rfl) rfl
  (tokc (x_li K) (tokc (x_xx K) (tok0 x_k))) mixed
  (fun v => by kernel_rfl)
noncomputable def x_oj : FSp := { ps := [.val false (.i .i64) [.f]], rs := [(true, x_ar, [.f, .x 0, .x 0, .x 0])], fn := fun v => x_lh v.1 }
noncomputable def x_6m (K : Nat) : Tab := x_ai (tiOf tys) [(30, x_bv)]
def x_6q : Hint := ⟨msk [5, 37, 4, 4], fun _ _ => false, fun _ => false, fun _ => none⟩
noncomputable def x_5c : Code := Tryz.f56.body.getD .skip
theorem x_sb : FOk Tryz.prog 56 (x_oj) := by
 let K := 0
 exact
 x_a (T := x_6m K) (H := x_6q) (K := K) (c := x_5c) (ts := [.cell 2 30]) Tryz.func56 (by kernel_rfl) (by kernel_rfl) (by kernel_rfl) rfl
  (tokc (x_bc) (tok0 x_k)) mixed
  (fun v => by kernel_rfl)
noncomputable def x_n8 (K : Nat) : FSp := { ps := [.val true x_ar [.f, .r, .r, .r], .val false (.i .i64) [.f]], rs := [(false, (.i .i64), [.f])], fn := fun v => x_g2 K v.1 v.2.1 }
noncomputable def x_um (K : Nat) : Tab := x_ai (tiOf tys) []
def x_5y : Hint := ⟨msk [6, 38, 1062, 38, 524326, 16, 16], fun _ _ => false, fun _ => false, fun _ => none⟩
noncomputable def x_6j : Code := Tryz.f80.body.getD .skip
noncomputable def x_g2.g0 (K : Nat) (a0 : x_o) (a1 : Int) (n : Nat) (q0 : Int) : Option (Int × Unit) :=
 lpg (x_um K) x_5y K x_6j [.r, .l, .r, .b] n ⟨[.dead, .one (.val .f (.i .i64) a1), .one (.ptr 2 1 0), .dead, .dead, .one (.val .f (.i .i64) q0)] ++ List.replicate 15 .dead, [none, none, some (1, [.val .f (.i .i64) a0.1, .val .r (.sl (.i .i64)) a0.2.1, .val .r (.sl (.i .i64)) a0.2.2.1, .val .r (.sl (.i .i64)) a0.2.2.2])] ++ List.replicate 18 none⟩ (endK (x_um K).toEnv (x_n8 K) [.tmp 4])
theorem x_g2.ok0 (K : Nat) (a0 : x_o) (a1 : Int) (n : Nat) : x_g2.g0 K a0 a1 n = x_g2.l0 K a0 a1 n := by
 induction n with
 | zero =>
  funext q0
  kernel_rfl
 | succ n ih =>
  funext q0
  have e : x_g2.g0 K a0 a1 (n + 1) q0 = x_g2.l0b K a0 a1 (x_g2.g0 K a0 a1 n) q0 := by kernel_rfl
  rw [ih] at e
  refine e.trans ?_
  kernel_rfl
theorem x_67 (K : Nat) : FOk Tryz.prog 80 (x_n8 K) :=
 x_a (T := x_um K) (H := x_5y) (K := K) (c := x_6j) (ts := [.tmp 4]) Tryz.func80 (by kernel_rfl) (by kernel_rfl) (by kernel_rfl) rfl
  (tok0 x_k) mixed
  (fun v => by
  have k0 := x_g2.ok0 K v.1 v.2.1 K
  have e : run (x_um K) x_5y K x_6j (x_ax (x_n8 K).pk (x_n8 K).ps Tryz.f80.ntmps (lv _ v)) (endK (x_um K).toEnv (x_n8 K) [.tmp 4]) = x_g2.b K v.1 v.2.1 (x_g2.g0 K v.1 v.2.1 K) := by kernel_rfl
  rw [k0] at e
  refine e.trans ?_
  kernel_rfl)
noncomputable def x_hr : FSp := { ps := [.val true x_ar [.f, .r, .r, .r]], rs := [(true, x_ar, [.f, .x 0, .x 0, .x 0])], fn := fun v => x_i6 v.1 }
noncomputable def x_ais (K : Nat) : Tab := x_ai (tiOf tys) []
def x_ae7 : Hint := ⟨msk [6, 4], fun _ _ => false, fun _ => false, fun _ => none⟩
noncomputable def x_aid : Code := Tryz.f81.body.getD .skip
theorem x_hb : FOk Tryz.prog 81 (x_hr) := by
 let K := 0
 exact
 x_a (T := x_ais K) (H := x_ae7) (K := K) (c := x_aid) (ts := [.cell 2 30]) Tryz.func81 (by kernel_rfl) (by kernel_rfl) (by kernel_rfl) rfl
  (tok0 x_k) mixed
  (fun v => by kernel_rfl)
noncomputable def x_mq : FSp := { ps := [.val true x_ar [.f, .r, .r, .r], .val false (.i .i64) [.f]], rs := [(true, x_ar, [.f, .x 0, .x 0, .x 0])], fn := fun v => x_d5 v.1 v.2.1 }
noncomputable def x_2k (K : Nat) : Tab := x_ai (tiOf tys) [(81, x_hr)]
def x_1z : Hint := ⟨msk [22, 54, 54, 33554486, 48, 16], fun _ _ => false, fun _ => false, fun _ => none⟩
noncomputable def x_1t : Code := Tryz.f82.body.getD .skip
theorem x_p6 : FOk Tryz.prog 82 (x_mq) := by
 let K := 0
 exact
 x_a (T := x_2k K) (H := x_1z) (K := K) (c := x_1t) (ts := [.cell 4 30]) Tryz.func82 (by kernel_rfl) (by kernel_rfl) (by kernel_rfl) rfl
  (tokc (x_hb) (tok0 x_k)) mixed
  (fun v => by kernel_rfl)
noncomputable def x_zx : FSp := { ps := [.val false (.i .i64) [.f]], rs := [(false, (.i .i64), [.f])], fn := fun v => x_aa1 v.1 }
noncomputable def t_s_l5Up (K : Nat) : Tab := x_ai (tiOf tys) []
def h_s_l5Up : Hint := ⟨msk [1, 17, 5, 5], fun _ _ => false, fun _ => false, fun _ => none⟩
noncomputable def c_s_l5Up : Code := Tryz.f83.body.getD .skip
theorem x_0x : FOk Tryz.prog 83 (x_zx) := by
 let K := 0
 exact
 x_a (T := t_s_l5Up K) (H := h_s_l5Up) (K := K) (c := c_s_l5Up) (ts := [.tmp 2]) Tryz.func83 (by kernel_rfl) (by kernel_rfl) (by kernel_rfl) rfl
  (tok0 x_k) mixed
  (fun v => by kernel_rfl)
noncomputable def x_k2 (K : Nat) : FSp := { ps := [.val true x_ar [.f, .r, .r, .r], .val false (.i .i64) [.f]], rs := [(true, x_ar, [.f, .x 0, .x 0, .x 0])], fn := fun v => x_h7 K v.1 v.2.1 }
noncomputable def x_y7 (K : Nat) : Tab := x_ai (tiOf tys) [(80, x_n8 K), (30, x_bv), (81, x_hr), (82, x_mq), (83, x_zx)]
def x_yq : Hint := ⟨msk [22, 54, 65588, 16, 84, 80, 16], fun _ _ => false, fun _ => false, fun _ => none⟩
noncomputable def x_zb : Code := Tryz.f57.body.getD .skip
theorem x_nw (K : Nat) : FOk Tryz.prog 57 (x_k2 K) :=
 x_a (T := x_y7 K) (H := x_yq) (K := K) (c := x_zb) (ts := [.cell 4 30]) Tryz.func57 (by kernel_rfl) (by kernel_rfl) (by kernel_rfl) rfl
  (tokc (x_67 K) (tokc (x_bc) (tokc (x_hb) (tokc (x_p6) (tokc (x_0x) (tok0 x_k)))))) mixed
  (fun v => by kernel_rfl)
noncomputable def x_dr (K : Nat) : FSp := { ps := [.val true x_ar [.f, .r, .r, .r], .val false (.i .i64) [.f]], rs := [(true, x_ar, [.f, .x 0, .x 0, .x 0])], fn := fun v => x_ap K v.1 v.2.1 }
noncomputable def x_gx (K : Nat) : Tab := x_ai (tiOf tys) [(81, x_hr), (82, x_mq), (83, x_zx)]
def x_lx : Hint := ⟨msk [22, 54, 118, 246, 33014, 246, 2251799813685494, 182, 246, 36028797018964020, 48, 16], fun _ _ => false, fun _ => false, fun _ => none⟩
noncomputable def x_mb : Code := Tryz.f58.body.getD .skip
noncomputable def x_ap.g0 (K : Nat) (a0 : x_o) (a1 : Int) (n : Nat) (q0 : Bool) (q1 : Int) (q2 : x_o × Unit) : Option (x_o × Unit) :=
 lpg (x_gx K) x_lx K x_mb [.r, .r, .r, .l, .r, .b] n ⟨[.dead, .one (.val .f (.i .i64) a1), .one (.ptr 2 1 0), .dead, .one (.ptr 4 1 0), .one (.ptr 5 1 0), .one (.val .f .b q0), .one (.val .f (.i .i64) q1)] ++ List.replicate 53 .dead, [none, none, some (1, [.val .f (.i .i64) a0.1, .val .r (.sl (.i .i64)) a0.2.1, .val .r (.sl (.i .i64)) a0.2.2.1, .val .r (.sl (.i .i64)) a0.2.2.2]), none, some (1, [.val .f (.i .i64) 0, .val (.x 0) (.sl (.i .i64)) [], .val (.x 0) (.sl (.i .i64)) [], .val (.x 0) (.sl (.i .i64)) []]), some (1, [.val .f (.i .i64) q2.1.1, .val (.x 0) (.sl (.i .i64)) q2.1.2.1, .val (.x 0) (.sl (.i .i64)) q2.1.2.2.1, .val (.x 0) (.sl (.i .i64)) q2.1.2.2.2])] ++ List.replicate 55 none⟩ (endK (x_gx K).toEnv (x_dr K) [.cell 4 30])
theorem x_ap.ok0 (K : Nat) (a0 : x_o) (a1 : Int) (n : Nat) : x_ap.g0 K a0 a1 n = x_ap.l0 K a0 a1 n := by
 induction n with
 | zero =>
  funext q0 q1 q2
  kernel_rfl
 | succ n ih =>
  funext q0 q1 q2
  have e : x_ap.g0 K a0 a1 (n + 1) q0 q1 q2 = x_ap.l0b K a0 a1 (x_ap.g0 K a0 a1 n) q0 q1 q2 := by kernel_rfl
  rw [ih] at e
  refine e.trans ?_
  kernel_rfl
theorem x_o9 (K : Nat) : FOk Tryz.prog 58 (x_dr K) :=
 x_a (T := x_gx K) (H := x_lx) (K := K) (c := x_mb) (ts := [.cell 4 30]) Tryz.func58 (by kernel_rfl) (by kernel_rfl) (by kernel_rfl) rfl
  (tokc (x_hb) (tokc (x_p6) (tokc (x_0x) (tok0 x_k)))) mixed
  (fun v => by
  have k0 := x_ap.ok0 K v.1 v.2.1 K
  have e : run (x_gx K) x_lx K x_mb (x_ax (x_dr K).pk (x_dr K).ps Tryz.f58.ntmps (lv _ v)) (endK (x_gx K).toEnv (x_dr K) [.cell 4 30]) = x_ap.b K v.1 v.2.1 (x_ap.g0 K v.1 v.2.1 K) := by kernel_rfl
  rw [k0] at e
  refine e.trans ?_
  kernel_rfl)
noncomputable def x_xe : FSp := { ps := [.val true x_ar [.f, .r, .r, .r], .val false (.i .i64) [.f]], rs := [(false, (.i .i64), [.f])], fn := fun v => x_td v.1 v.2.1 }
noncomputable def x_aaa (K : Nat) : Tab := x_ai (tiOf tys) []
def x_9r : Hint := ⟨msk [6, 4102, 16, 16], fun _ _ => false, fun _ => false, fun _ => none⟩
noncomputable def x_aby : Code := Tryz.f84.body.getD .skip
theorem x_4c : FOk Tryz.prog 84 (x_xe) := by
 let K := 0
 exact
 x_a (T := x_aaa K) (H := x_9r) (K := K) (c := x_aby) (ts := [.tmp 4]) Tryz.func84 (by kernel_rfl) (by kernel_rfl) (by kernel_rfl) rfl
  (tok0 x_k) mixed
  (fun v => by kernel_rfl)
noncomputable def x_mm : FSp := { ps := [.val true x_ar [.f, .r, .r, .r], .val false (.i .i64) [.f], .val false (.i .i64) [.f], .val false (.i .i64) [.f], .val false (.i .i64) [.f]], rs := [(true, x_ar, [.f, .x 0, .x 0, .x 0]), (false, .b, [.f])], fn := fun v => x_ka v.1 v.2.1 v.2.2.1 v.2.2.2.1 v.2.2.2.2.1 }
noncomputable def x_2l (K : Nat) : Tab := x_ai (tiOf tys) [(81, x_hr), (30, x_bv), (84, x_xe)]
def x_1p : Hint := ⟨msk [1086, 5182, 8796093027352, 3072, 5120, 3072], fun _ _ => false, fun _ => false, fun _ => none⟩
noncomputable def x_1n : Code := Tryz.f59.body.getD .skip
theorem x_o7 : FOk Tryz.prog 59 (x_mm) := by
 let K := 0
 exact
 x_a (T := x_2l K) (H := x_1p) (K := K) (c := x_1n) (ts := [.cell 10 30, .tmp 11]) Tryz.func59 (by kernel_rfl) (by kernel_rfl) (by kernel_rfl) rfl
  (tokc (x_hb) (tokc (x_bc) (tokc (x_4c) (tok0 x_k)))) mixed
  (fun v => by kernel_rfl)
noncomputable def x_dx (K : Nat) : FSp := { ps := [.val true x_ar [.f, .r, .r, .r], .val false (.i .i64) [.f], .val false (.i .i64) [.f]], rs := [(true, x_ar, [.f, .x 0, .x 0, .x 0])], fn := fun v => x_ac K v.1 v.2.1 v.2.2.1 }
noncomputable def x_gr (K : Nat) : Tab := x_ai (tiOf tys) [(81, x_hr), (30, x_bv), (80, x_n8 K), (83, x_zx)]
def x_l6 : Hint := ⟨msk [78, 206, 32974, 64, 462, 2097614, 67109316, 192, 64, 462, 9007199254741454, 462, 974, 972, 460, 1484, 1480, 200, 192, 64], fun _ _ => false, fun _ => false, fun _ => none⟩
noncomputable def x_mt : Code := Tryz.f60.body.getD .skip
noncomputable def x_ac.g0 (K : Nat) (a0 : x_o) (a1 : Int) (a2 : Int) (n : Nat) (q0 : Int) (v1 : x_o × Unit) : Option (x_o × Unit) :=
 lpg (x_gr K) x_l6 K x_mt [.r, .r, .r, .r, .r, .r, .l, .b] n ⟨[.dead, .one (.val .f (.i .i64) a1), .one (.val .f (.i .i64) a2), .one (.ptr 3 1 0), .dead, .dead, .one (.ptr 6 1 0), .one (.ptr 7 1 0), .one (.val .f (.i .i64) q0)] ++ List.replicate 86 .dead, [none, none, none, some (1, [.val .f (.i .i64) a0.1, .val .r (.sl (.i .i64)) a0.2.1, .val .r (.sl (.i .i64)) a0.2.2.1, .val .r (.sl (.i .i64)) a0.2.2.2]), none, none, some (1, [.val .f (.i .i64) 0, .val (.x 0) (.sl (.i .i64)) [], .val (.x 0) (.sl (.i .i64)) [], .val (.x 0) (.sl (.i .i64)) []]), some (1, [.val .f (.i .i64) v1.1.1, .val (.x 0) (.sl (.i .i64)) v1.1.2.1, .val (.x 0) (.sl (.i .i64)) v1.1.2.2.1, .val (.x 0) (.sl (.i .i64)) v1.1.2.2.2])] ++ List.replicate 87 none⟩ (endK (x_gr K).toEnv (x_dx K) [.cell 6 30])
theorem x_ac.ok0 (K : Nat) (a0 : x_o) (a1 : Int) (a2 : Int) (n : Nat) : x_ac.g0 K a0 a1 a2 n = x_ac.l0 K a0 a1 a2 n := by
 induction n with
 | zero =>
  funext q0 v1
  kernel_rfl
 | succ n ih =>
  funext q0 v1
  have e : x_ac.g0 K a0 a1 a2 (n + 1) q0 v1 = x_ac.l0b K a0 a1 a2 (x_ac.g0 K a0 a1 a2 n) q0 v1 := by kernel_rfl
  rw [ih] at e
  refine e.trans ?_
  kernel_rfl
theorem x_po (K : Nat) : FOk Tryz.prog 60 (x_dx K) :=
 x_a (T := x_gr K) (H := x_l6) (K := K) (c := x_mt) (ts := [.cell 6 30]) Tryz.func60 (by kernel_rfl) (by kernel_rfl) (by kernel_rfl) rfl
  (tokc (x_hb) (tokc (x_bc) (tokc (x_67 K) (tokc (x_0x) (tok0 x_k))))) mixed
  (fun v => by
  have k0 := x_ac.ok0 K v.1 v.2.1 v.2.2.1 K
  have e : run (x_gr K) x_l6 K x_mt (x_ax (x_dx K).pk (x_dx K).ps Tryz.f60.ntmps (lv _ v)) (endK (x_gr K).toEnv (x_dx K) [.cell 6 30]) = x_ac.b K v.1 v.2.1 v.2.2.1 (x_ac.g0 K v.1 v.2.1 v.2.2.1 K) := by kernel_rfl
  rw [k0] at e
  refine e.trans ?_
  kernel_rfl)
noncomputable def x_dg (K : Nat) : FSp := { ps := [.ptr x_dn [.f, .f, .f]], rs := [(true, x_ar, [.f, .x 0, .x 0, .x 0]), (false, (.i .i64), [.f])], fn := fun v => x_ab K v.1 }
noncomputable def x_ej (K : Nat) : Tab := x_ai (tiOf tys) [(34, x_ad), (56, x_oj), (35, x_as), (57, x_k2 K), (58, x_dr K), (59, x_mm), (60, x_dx K)]
def x_iz : Hint := ⟨msk [5, 21, 53, 117, 245, 65781, 245, 245, 33554677, 245, 2181038325, 245, 137472508149, 245, 4398046511349, 245, 13], fun _ _ => false, fun _ => false, fun _ => none⟩
noncomputable def x_ix : Code := Tryz.f38.body.getD .skip
noncomputable def x_ab.g0 (K : Nat) (a0 : x_c) (n : Nat) (v1 : Int × x_c × Unit) (q0 : Int) (q1 : Int) (q2 : Int × x_c × Unit) (q3 : x_o) : Option (x_o × Int × x_c × Unit) :=
 lpg (x_ej K) x_iz K x_ix [.r, .r, .r, .r, .l, .r, .b] n ⟨[.one (.ptr 0 0 0), .dead, .one (.ptr 2 1 0), .dead, .one (.val .f (.i .i64) (IntKind.i64.wrap (1 + v1.1))), .one (.ptr 5 1 0), .one (.val .f (.i .i64) q0), .one (.val .f (.i .i64) q1)] ++ List.replicate 52 .dead, [some (0, [.val .f (.sl (.i .u8)) q2.2.1.1, .val .f (.i .i64) q2.2.1.2.1, .val .f (.i .i64) q2.2.1.2.2]), none, some (1, [.val .f (.i .i64) 0, .val (.x 0) (.sl (.i .i64)) [], .val (.x 0) (.sl (.i .i64)) [], .val (.x 0) (.sl (.i .i64)) []]), none, none, some (1, [.val .f (.i .i64) q3.1, .val (.x 0) (.sl (.i .i64)) q3.2.1, .val (.x 0) (.sl (.i .i64)) q3.2.2.1, .val (.x 0) (.sl (.i .i64)) q3.2.2.2])] ++ List.replicate 54 none⟩ (endK (x_ej K).toEnv (x_dg K) [.cell 2 30, .tmp 3])
theorem x_ab.ok0 (K : Nat) (a0 : x_c) (n : Nat) : x_ab.g0 K a0 n = x_ab.l0 K a0 n := by
 induction n with
 | zero =>
  funext v1 q0 q1 q2 q3
  kernel_rfl
 | succ n ih =>
  funext v1 q0 q1 q2 q3
  have e : x_ab.g0 K a0 (n + 1) v1 q0 q1 q2 q3 = x_ab.l0b K a0 (x_ab.g0 K a0 n) v1 q0 q1 q2 q3 := by kernel_rfl
  rw [ih] at e
  refine e.trans ?_
  kernel_rfl
theorem x_vu (K : Nat) : FOk Tryz.prog 38 (x_dg K) :=
 x_a (T := x_ej K) (H := x_iz) (K := K) (c := x_ix) (ts := [.cell 2 30, .tmp 3]) Tryz.func38 (by kernel_rfl) (by kernel_rfl) (by kernel_rfl) rfl
  (tokc (x_1) (tokc (x_sb) (tokc (x_aq) (tokc (x_nw K) (tokc (x_o9 K) (tokc (x_o7) (tokc (x_po K) (tok0 x_k)))))))) mixed
  (fun v => by
  have k0 := x_ab.ok0 K v.1 K
  have e : run (x_ej K) x_iz K x_ix (x_ax (x_dg K).pk (x_dg K).ps Tryz.f38.ntmps (lv _ v)) (endK (x_ej K).toEnv (x_dg K) [.cell 2 30, .tmp 3]) = x_ab.b K v.1 (x_ab.g0 K v.1 K) := by kernel_rfl
  rw [k0] at e
  refine e.trans ?_
  kernel_rfl)
noncomputable def x_wb (K : Nat) : FSp := { ps := [.ptr x_dn [.f, .f, .f]], rs := [(true, x_ar, [.f, .x 0, .x 0, .x 0]), (false, (.i .i64), [.f])], fn := fun v => x_tn K v.1 }
noncomputable def x_agr (K : Nat) : Tab := x_ai (tiOf tys) [(38, x_dg K), (34, x_ad), (35, x_as)]
def x_aib : Hint := ⟨msk [5, 53, 4149, 12341, 53, 528437, 53, 268439605, 53, 274877911093, 53, 4398046511157, 53, 13], fun _ _ => false, fun _ => false, fun _ => none⟩
noncomputable def x_agx : Code := Tryz.f22.body.getD .skip
theorem x_xg (K : Nat) : FOk Tryz.prog 22 (x_wb K) :=
 x_a (T := x_agr K) (H := x_aib) (K := K) (c := x_agx) (ts := [.cell 2 30, .tmp 3]) Tryz.func22 (by kernel_rfl) (by kernel_rfl) (by kernel_rfl) rfl
  (tokc (x_vu K) (tokc (x_1) (tokc (x_aq) (tok0 x_k)))) mixed
  (fun v => by kernel_rfl)
noncomputable def x_ld (K : Nat) : FSp := { ps := [.val false (.sl (.i .u8)) [.f]], rs := [(true, x_ar, [.f, .x 0, .x 0, .x 0])], fn := fun v => x_go K v.1 }
noncomputable def x_sh (K : Nat) : Tab := x_ai (tiOf tys) [(21, x_gj K), (22, x_wb K)]
def x_sk : Hint := ⟨msk [5, 12, 4], fun _ _ => false, fun _ => false, fun _ => none⟩
noncomputable def x_sm : Code := Tryz.f6.body.getD .skip
theorem x_rh (K : Nat) : FOk Tryz.prog 6 (x_ld K) :=
 x_a (T := x_sh K) (H := x_sk) (K := K) (c := x_sm) (ts := [.cell 2 30]) Tryz.func6 (by kernel_rfl) (by kernel_rfl) (by kernel_rfl) rfl
  (tokc (x_li K) (tokc (x_xg K) (tok0 x_k))) mixed
  (fun v => by kernel_rfl)
noncomputable def x_l9 (K : Nat) : FSp := { ps := [.val false (.sl (.i .u8)) [.f]], rs := [(true, x_2, [.f, .f, .f, .f])], fn := fun v => x_g7 K v.1 }
noncomputable def x_u2 (K : Nat) : Tab := x_ai (tiOf tys) [(21, x_gj K), (35, x_as), (34, x_ad), (36, x_mv)]
def x_us : Hint := ⟨msk [5, 76, 92, 4], fun _ _ => false, fun _ => false, fun _ => none⟩
noncomputable def x_vf : Code := Tryz.f23.body.getD .skip
theorem x_si (K : Nat) : FOk Tryz.prog 23 (x_l9 K) :=
 x_a (T := x_u2 K) (H := x_us) (K := K) (c := x_vf) (ts := [.cell 2 33]) Tryz.func23 (by kernel_rfl) (by kernel_rfl) (by kernel_rfl) rfl
  (tokc (x_li K) (tokc (x_aq) (tokc (x_1) (tokc (x_nn) (tok0 x_k))))) mixed
  (fun v => by kernel_rfl)
noncomputable def x_je (K : Nat) : FSp := { ps := [.val false (.sl (.i .u8)) [.f]], rs := [(true, x_2, [.f, .f, .f, .f])], fn := fun v => x_fq K v.1 }
noncomputable def x_qn (K : Nat) : Tab := x_ai (tiOf tys) [(23, x_l9 K)]
def x_q5 : Hint := ⟨msk [5, 4], fun _ _ => false, fun _ => false, fun _ => none⟩
noncomputable def x_rj : Code := Tryz.f7.body.getD .skip
theorem x_pi (K : Nat) : FOk Tryz.prog 7 (x_je K) :=
 x_a (T := x_qn K) (H := x_q5) (K := K) (c := x_rj) (ts := [.cell 2 33]) Tryz.func7 (by kernel_rfl) (by kernel_rfl) (by kernel_rfl) rfl
  (tokc (x_si K) (tok0 x_k)) mixed
  (fun v => by kernel_rfl)
noncomputable def x_eh : FSp := { ps := [.ptr x_dn [.f, .f, .f]], rs := [(true, x_da, [.f, .f, .f, .f])], fn := fun v => x_d0 v.1 }
noncomputable def x_wu (K : Nat) : Tab := x_ai (tiOf tys) [(34, x_ad), (35, x_as)]
def x_wl : Hint := ⟨msk [5, 5], fun _ _ => false, fun _ => false, fun _ => none⟩
noncomputable def x_w3 : Code := Tryz.f86.body.getD .skip
theorem x_fi : FOk Tryz.prog 86 (x_eh) := by
 let K := 0
 exact
 x_a (T := x_wu K) (H := x_wl) (K := K) (c := x_w3) (ts := [.cell 2 54]) Tryz.func86 (by kernel_rfl) (by kernel_rfl) (by kernel_rfl) rfl
  (tokc (x_1) (tokc (x_aq) (tok0 x_k))) mixed
  (fun v => by kernel_rfl)
noncomputable def x_e7 : FSp := { ps := [.val true x_da [.f, .f, .f, .f]], rs := [(false, .b, [.f])], fn := fun v => x_gl v.1 }
noncomputable def x_9u (K : Nat) : Tab := x_ai (tiOf tys) [(30, x_bv)]
def x_98 : Hint := ⟨msk [2, 4], fun _ _ => false, fun _ => false, fun _ => none⟩
noncomputable def x_8t : Code := Tryz.f110.body.getD .skip
theorem x_ev : FOk Tryz.prog 110 (x_e7) := by
 let K := 0
 exact
 x_a (T := x_9u K) (H := x_98) (K := K) (c := x_8t) (ts := [.tmp 2]) Tryz.func110 (by kernel_rfl) (by kernel_rfl) (by kernel_rfl) rfl
  (tokc (x_bc) (tok0 x_k)) mixed
  (fun v => by kernel_rfl)
end Go.Proofs.YtkdamnchchhjeaaGreatDoor.Fs
