/- The functions compute what is told of them. -/
import Derived.Test.YtkdamnchchhjeaaGreatDoorFsOk4
set_option linter.all false
set_option maxRecDepth 100000
namespace Go.Proofs.YtkdamnchchhjeaaGreatDoor.Fs
open Go Go.Kn
noncomputable def x_hn (K : Nat) : FSp := { ps := [.val true eLog [.f, .f, .r], .val false (.i .i64) [.f], .val false (.i .i64) [.f], .val false (.sl x_ct) [.r]], rs := [(true, eLog, [.f, .f, .x 0]), (false, .b, [.f])], fn := fun v => x_cb K v.1 v.2.1 v.2.2.1 v.2.2.2.1 }
noncomputable def x_lm (K : Nat) : Tab := x_ai (tiOf tys) [(134, x_k0 K), (90, x_p0), (139, x_h9)]
def x_tg : Hint := ⟨msk [286, 33054, 768, 1310, 134219034, 768, 3354, 4294970650, 3354, 7450, 35184372096282, 144115188075863322, 3354, 3354, 75557863725914323420432, 768, 768], fun _ _ => false, fun _ => false, fun _ => none⟩
noncomputable def x_vv : Code := Tryz.f137.body.getD .skip
noncomputable def x_cb.g0 (K : Nat) (a0 : TLog) (a1 : Int) (a2 : Int) (a3 : List x_au) (n : Nat) (q0 : Int) (v2 : TLog × Unit) (q1 : List x_au) : Option (TLog × Bool × Unit) :=
 lpg (x_lm K) x_tg K x_vv [.r, .r, .r, .r, .l, .r, .b] n ⟨[.dead, .one (.val .f (.i .i64) a1), .dead, .one (.val .r (.sl x_ct) a3), .one (.ptr 4 1 0), .dead, .dead, .dead, .one (.ptr 8 1 0), .dead, .one (.ptr 10 1 0), .one (.val .f (.i .i64) q0)] ++ List.replicate 68 .dead, List.replicate 4 none ++ [some (1, [.val .f (.i .i64) a0.1, .val .f (.i .i64) a0.2.1, .val .r (.sl x_ct) a0.2.2]), none, none, none, some (1, [.val .f (.i .i64) 0, .val .f (.i .i64) 0, .val (.x 0) (.sl x_ct) []]), none, some (1, [.val .f (.i .i64) v2.1.1, .val .f (.i .i64) v2.1.2.1, .val (.x 0) (.sl x_ct) q1])] ++ List.replicate 69 none⟩ (endK (x_lm K).toEnv (x_hn K) [.cell 8 37, .tmp 9])
theorem x_cb.ok0 (K : Nat) (a0 : TLog) (a1 : Int) (a2 : Int) (a3 : List x_au) (n : Nat) : x_cb.g0 K a0 a1 a2 a3 n = x_cb.l0 K a0 a1 a2 a3 n := by
 induction n with
 | zero =>
  funext q0 v2 q1
  kernel_rfl
 | succ n ih =>
  funext q0 v2 q1
  have e : x_cb.g0 K a0 a1 a2 a3 (n + 1) q0 v2 q1 = x_cb.l0b K a0 a1 a2 a3 (x_cb.g0 K a0 a1 a2 a3 n) q0 v2 q1 := by kernel_rfl
  rw [ih] at e
  refine e.trans ?_
  kernel_rfl
theorem x_yd (K : Nat) : FOk Tryz.prog 137 (x_hn K) :=
 x_a (T := x_lm K) (H := x_tg) (K := K) (c := x_vv) (ts := [.cell 8 37, .tmp 9]) Tryz.func137 (by kernel_rfl) (by kernel_rfl) (by kernel_rfl) rfl
  (tokc (x_30 K) (tokc (x_rd) (tokc (x_hf) (tok0 x_k)))) mixed
  (fun v => by
  have k0 := x_cb.ok0 K v.1 v.2.1 v.2.2.1 v.2.2.2.1 K
  have e : run (x_lm K) x_tg K x_vv (x_ax (x_hn K).pk (x_hn K).ps Tryz.f137.ntmps (lv _ v)) (endK (x_lm K).toEnv (x_hn K) [.cell 8 37, .tmp 9]) = x_cb.b K v.1 v.2.1 v.2.2.1 v.2.2.2.1 (x_cb.g0 K v.1 v.2.1 v.2.2.1 v.2.2.2.1 K) := by kernel_rfl
  rw [k0] at e
  refine e.trans ?_
  kernel_rfl)
noncomputable def x_gu (K : Nat) : FSp := { ps := [.val false (.sl (.i .u8)) [.r], .val false (.i .i64) [.f]], rs := [(false, (.i .i64), [.f]), (false, (.i .i64), [.f]), (false, .b, [.f])], fn := fun v => x_b3 K v.1 v.2.1 }
noncomputable def x_l4 (K : Nat) : Tab := x_ai (tiOf tys) []
def x_t7 : Hint := ⟨msk [3, 131, 387, 2435, 387, 8388995, 112, 899, 899, 549755814787, 562949953421698, 112, 112, 112], fun _ _ => false, fun _ => false, fun _ => none⟩
noncomputable def x_uv : Code := Tryz.f210.body.getD .skip
noncomputable def x_b3.g0 (K : Nat) (a0 : List Int) (a1 : Int) (n : Nat) (q0 : Int) (q1 : Int) : Option (Int × Int × Bool × Unit) :=
 lpg (x_l4 K) x_t7 K x_uv [.r, .r, .l, .r, .b] n ⟨[.one (.val .r (.sl (.i .u8)) a0), .one (.val .f (.i .i64) a1)] ++ List.replicate 5 .dead ++ [.one (.val .f (.i .i64) q0), .one (.val .f (.i .i64) q1)] ++ List.replicate 46 .dead, List.replicate 55 none⟩ (endK (x_l4 K).toEnv (x_gu K) [.tmp 4, .tmp 5, .tmp 6])
theorem x_b3.ok0 (K : Nat) (a0 : List Int) (a1 : Int) (n : Nat) : x_b3.g0 K a0 a1 n = x_b3.l0 K a0 a1 n := by
 induction n with
 | zero =>
  funext q0 q1
  kernel_rfl
 | succ n ih =>
  funext q0 q1
  have e : x_b3.g0 K a0 a1 (n + 1) q0 q1 = x_b3.l0b K a0 a1 (x_b3.g0 K a0 a1 n) q0 q1 := by kernel_rfl
  rw [ih] at e
  refine e.trans ?_
  kernel_rfl
theorem x_qp (K : Nat) : FOk Tryz.prog 210 (x_gu K) :=
 x_a (T := x_l4 K) (H := x_t7) (K := K) (c := x_uv) (ts := [.tmp 4, .tmp 5, .tmp 6]) Tryz.func210 (by kernel_rfl) (by kernel_rfl) (by kernel_rfl) rfl
  (tok0 x_k) mixed
  (fun v => by
  have k0 := x_b3.ok0 K v.1 v.2.1 K
  have e : run (x_l4 K) x_t7 K x_uv (x_ax (x_gu K).pk (x_gu K).ps Tryz.f210.ntmps (lv _ v)) (endK (x_l4 K).toEnv (x_gu K) [.tmp 4, .tmp 5, .tmp 6]) = x_b3.b K v.1 v.2.1 (x_b3.g0 K v.1 v.2.1 K) := by kernel_rfl
  rw [k0] at e
  refine e.trans ?_
  kernel_rfl)
noncomputable def x_k9 (K : Nat) : FSp := { ps := [.ptr x_yu [.f, .f, .f]], rs := [(false, (.i .i64), [.f])], fn := fun v => x_bs K v.1 }
noncomputable def t_s_l7Num (K : Nat) : Tab := x_ai (tiOf tys) [(210, x_gu K)]
def h_s_l7Num : Hint := ⟨msk [1, 57, 134217753, 1, 5, 9, 5], fun _ _ => false, fun _ => false, fun _ => none⟩
noncomputable def c_s_l7Num : Code := Tryz.f190.body.getD .skip
theorem x_jq (K : Nat) : FOk Tryz.prog 190 (x_k9 K) :=
 x_a (T := t_s_l7Num K) (H := h_s_l7Num) (K := K) (c := c_s_l7Num) (ts := [.tmp 2]) Tryz.func190 (by kernel_rfl) (by kernel_rfl) (by kernel_rfl) rfl
  (tokc (x_qp K) (tok0 x_k)) mixed
  (fun v => by kernel_rfl)
noncomputable def x_xw (K : Nat) : FSp := { ps := [.val false (.sl (.i .u8)) [.r], .val false (.i .i64) [.f]], rs := [(false, .s, [.f]), (false, (.i .i64), [.f]), (false, .b, [.f])], fn := fun v => x_sv K v.1 v.2.1 }
noncomputable def x_aar (K : Nat) : Tab := x_ai (tiOf tys) [(210, x_gu K)]
def x_94 : Hint := ⟨msk [3, 897, 67109249, 112, 112], fun _ _ => false, fun _ => false, fun _ => none⟩
noncomputable def x_aaq : Code := Tryz.f211.body.getD .skip
theorem x_5v (K : Nat) : FOk Tryz.prog 211 (x_xw K) :=
 x_a (T := x_aar K) (H := x_94) (K := K) (c := x_aaq) (ts := [.tmp 4, .tmp 5, .tmp 6]) Tryz.func211 (by kernel_rfl) (by kernel_rfl) (by kernel_rfl) rfl
  (tokc (x_qp K) (tok0 x_k)) mixed
  (fun v => by kernel_rfl)
noncomputable def x_ma (K : Nat) : FSp := { ps := [.ptr x_yu [.f, .f, .f]], rs := [(false, .s, [.f])], fn := fun v => x_g5 K v.1 }
noncomputable def x_add (K : Nat) : Tab := x_ai (tiOf tys) [(211, x_xw K)]
def x_aea : Hint := ⟨msk [1, 57, 134217753, 1, 5, 9, 5], fun _ _ => false, fun _ => false, fun _ => none⟩
noncomputable def x_acv : Code := Tryz.f194.body.getD .skip
theorem x_nm (K : Nat) : FOk Tryz.prog 194 (x_ma K) :=
 x_a (T := x_add K) (H := x_aea) (K := K) (c := x_acv) (ts := [.tmp 2]) Tryz.func194 (by kernel_rfl) (by kernel_rfl) (by kernel_rfl) rfl
  (tokc (x_5v K) (tok0 x_k)) mixed
  (fun v => by kernel_rfl)
noncomputable def x_ni (K : Nat) : FSp := { ps := [.ptr x_yu [.f, .f, .f]], rs := [(true, eRow, [.f, .f, .x 0])], fn := fun v => x_db K v.1 }
noncomputable def x_pk (K : Nat) : Tab := x_ai (tiOf tys) [(190, x_k9 K), (194, x_ma K)]
def x_07 : Hint := ⟨msk [5, 13, 13, 13, 29, 61, 16777277, 61, 125, 125, 125, 125, 125, 125, 61, 5], fun _ _ => false, fun _ => false, fun _ => none⟩
noncomputable def x_z3 : Code := Tryz.f191.body.getD .skip
noncomputable def x_db.g0 (K : Nat) (a0 : x_d) (n : Nat) (v3 : Int × x_d × Unit) (q0 : Int) (q1 : Int × x_d × Unit) (v1 : Int × x_d × Unit) (v2 : Int × x_d × Unit) (q2 : List x_gh) : Option (TRow × x_d × Unit) :=
 lpg (x_pk K) x_07 K x_z3 [.r, .r, .r, .r, .r, .l, .r, .b] n ⟨[.one (.ptr 0 0 0), .dead, .one (.ptr 2 1 0), .one (.ptr 3 1 0), .one (.val .f (.i .i64) v3.1), .one (.val .f (.i .i64) q0)] ++ List.replicate 44 .dead, [some (0, [.val .f (.sl (.i .u8)) q1.2.1.1, .val .f (.i .i64) q1.2.1.2.1, .val .f .b q1.2.1.2.2]), none, some (1, [.val .f (.i .i64) 0, .val .f (.i .i64) 0, .val (.x 0) (.sl x_ou) []]), some (1, [.val .f (.i .i64) v1.1, .val .f (.i .i64) v2.1, .val (.x 0) (.sl x_ou) q2])] ++ List.replicate 46 none⟩ (endK (x_pk K).toEnv (x_ni K) [.cell 2 26])
theorem x_db.ok0 (K : Nat) (a0 : x_d) (n : Nat) : x_db.g0 K a0 n = x_db.l0 K a0 n := by
 induction n with
 | zero =>
  funext v3 q0 q1 v1 v2 q2
  kernel_rfl
 | succ n ih =>
  funext v3 q0 q1 v1 v2 q2
  have e : x_db.g0 K a0 (n + 1) v3 q0 q1 v1 v2 q2 = x_db.l0b K a0 (x_db.g0 K a0 n) v3 q0 q1 v1 v2 q2 := by kernel_rfl
  rw [ih] at e
  refine e.trans ?_
  kernel_rfl
theorem x_ac2 (K : Nat) : FOk Tryz.prog 191 (x_ni K) :=
 x_a (T := x_pk K) (H := x_07) (K := K) (c := x_z3) (ts := [.cell 2 26]) Tryz.func191 (by kernel_rfl) (by kernel_rfl) (by kernel_rfl) rfl
  (tokc (x_jq K) (tokc (x_nm K) (tok0 x_k))) mixed
  (fun v => by
  have k0 := x_db.ok0 K v.1 K
  have e : run (x_pk K) x_07 K x_z3 (x_ax (x_ni K).pk (x_ni K).ps Tryz.f191.ntmps (lv _ v)) (endK (x_pk K).toEnv (x_ni K) [.cell 2 26]) = x_db.b K v.1 (x_db.g0 K v.1 K) := by kernel_rfl
  rw [k0] at e
  refine e.trans ?_
  kernel_rfl)
noncomputable def x_he (K : Nat) : FSp := { ps := [.ptr x_yu [.f, .f, .f]], rs := [(true, x_at, [.f, .f, .f, .f, .x 0])], fn := fun v => x_bj K v.1 }
noncomputable def x_j2 (K : Nat) : Tab := x_ai (tiOf tys) [(190, x_k9 K)]
def x_qf : Hint := ⟨msk [5, 13, 13, 13, 13, 13, 29, 61, 2147483709, 61, 125, 125, 125, 61, 5], fun _ _ => false, fun _ => false, fun _ => none⟩
noncomputable def x_qx : Code := Tryz.f192.body.getD .skip
noncomputable def x_bj.g0 (K : Nat) (a0 : x_d) (n : Nat) (v5 : Int × x_d × Unit) (q0 : Int) (q1 : Int × x_d × Unit) (v1 : Int × x_d × Unit) (v2 : Int × x_d × Unit) (v3 : Int × x_d × Unit) (v4 : Int × x_d × Unit) (q2 : List x_wf) : Option (x_v × x_d × Unit) :=
 lpg (x_j2 K) x_qf K x_qx [.r, .r, .r, .r, .r, .r, .r, .l, .r, .b] n ⟨[.one (.ptr 0 0 0), .dead, .one (.ptr 2 1 0), .one (.ptr 3 1 0), .one (.val .f (.i .i64) v5.1), .one (.val .f (.i .i64) q0)] ++ List.replicate 42 .dead, [some (0, [.val .f (.sl (.i .u8)) q1.2.1.1, .val .f (.i .i64) q1.2.1.2.1, .val .f .b q1.2.1.2.2]), none, some (1, [.val .f (.i .i64) 0, .val .f (.i .i64) 0, .val .f (.i .i64) 0, .val .f (.i .i64) 0, .val (.x 0) (.sl x_38) []]), some (1, [.val .f (.i .i64) v1.1, .val .f (.i .i64) v2.1, .val .f (.i .i64) v3.1, .val .f (.i .i64) (IntKind.i64.wrap (v4.1 - 1)), .val (.x 0) (.sl x_38) q2])] ++ List.replicate 44 none⟩ (endK (x_j2 K).toEnv (x_he K) [.cell 2 158])
theorem x_bj.ok0 (K : Nat) (a0 : x_d) (n : Nat) : x_bj.g0 K a0 n = x_bj.l0 K a0 n := by
 induction n with
 | zero =>
  funext v5 q0 q1 v1 v2 v3 v4 q2
  kernel_rfl
 | succ n ih =>
  funext v5 q0 q1 v1 v2 v3 v4 q2
  have e : x_bj.g0 K a0 (n + 1) v5 q0 q1 v1 v2 v3 v4 q2 = x_bj.l0b K a0 (x_bj.g0 K a0 n) v5 q0 q1 v1 v2 v3 v4 q2 := by kernel_rfl
  rw [ih] at e
  refine e.trans ?_
  kernel_rfl
theorem x_4j (K : Nat) : FOk Tryz.prog 192 (x_he K) :=
 x_a (T := x_j2 K) (H := x_qf) (K := K) (c := x_qx) (ts := [.cell 2 158]) Tryz.func192 (by kernel_rfl) (by kernel_rfl) (by kernel_rfl) rfl
  (tokc (x_jq K) (tok0 x_k)) mixed
  (fun v => by
  have k0 := x_bj.ok0 K v.1 K
  have e : run (x_j2 K) x_qf K x_qx (x_ax (x_he K).pk (x_he K).ps Tryz.f192.ntmps (lv _ v)) (endK (x_j2 K).toEnv (x_he K) [.cell 2 158]) = x_bj.b K v.1 (x_bj.g0 K v.1 K) := by kernel_rfl
  rw [k0] at e
  refine e.trans ?_
  kernel_rfl)
noncomputable def x_f4 (K : Nat) : FSp := { ps := [.ptr x_yu [.f, .f, .f], .val false (.i .i64) [.f]], rs := [(true, x_ar, [.f, .x 0, .x 0, .x 0])], fn := fun v => x_0 K v.1 v.2.1 }
noncomputable def x_f0 (K : Nat) : Tab := x_ai (tiOf tys) [(190, x_k9 K)]
def x_m3 : Hint := ⟨msk [19, 51, 51, 115, 243, 67109107, 243, 499, 1011, 755, 243, 1075, 140737488356403, 1075, 3123, 1075, 17], fun _ _ => false, fun _ => false, fun _ => none⟩
noncomputable def x_nc : Code := Tryz.f193.body.getD .skip
noncomputable def x_0.g0 (K : Nat) (a0 : x_d) (a1 : Int) (n : Nat) (v2 : Int × x_d × Unit) (q0 : Int) (q1 : Int × x_d × Unit) (v1 : Int × x_d × Unit) (q2 : List Int) (q3 : List Int) : Option (x_o × x_d × Unit) :=
 lpg (x_f0 K) x_m3 K x_nc [.r, .r, .r, .r, .l, .r, .b] n ⟨[.one (.ptr 0 0 0), .one (.val .f (.i .i64) a1), .dead, .dead, .one (.ptr 4 1 0), .one (.ptr 5 1 0), .one (.val .f (.i .i64) v2.1), .one (.val .f (.i .i64) q0)] ++ List.replicate 51 .dead, [some (0, [.val .f (.sl (.i .u8)) q1.2.1.1, .val .f (.i .i64) q1.2.1.2.1, .val .f .b q1.2.1.2.2]), none, none, none, some (1, [.val .f (.i .i64) 0, .val (.x 0) (.sl (.i .i64)) [], .val (.x 0) (.sl (.i .i64)) [], .val (.x 0) (.sl (.i .i64)) []]), some (1, [.val .f (.i .i64) v1.1, .val (.x 0) (.sl (.i .i64)) q2, .val (.x 0) (.sl (.i .i64)) q3, .val (.x 0) (.sl (.i .i64)) []])] ++ List.replicate 53 none⟩ (endK (x_f0 K).toEnv (x_f4 K) [.cell 4 30])
noncomputable def x_0.g1 (K : Nat) (a0 : x_d) (a1 : Int) (n : Nat) (q7 : Int) (q8 : Int × x_d × Unit) (v1 : Int × x_d × Unit) (q2 : List Int) (q3 : List Int) (q9 : List Int) : Option (x_o × x_d × Unit) :=
 lpg (x_f0 K) x_m3 K x_nc [.r, .r, .r, .r, .r, .l, .r, .b] n ⟨[.one (.ptr 0 0 0), .one (.val .f (.i .i64) a1), .dead, .dead, .one (.ptr 4 1 0), .one (.ptr 5 1 0)] ++ List.replicate 4 .dead ++ [.one (.val .f (.i .i64) q7)] ++ List.replicate 48 .dead, [some (0, [.val .f (.sl (.i .u8)) q8.2.1.1, .val .f (.i .i64) q8.2.1.2.1, .val .f .b q8.2.1.2.2]), none, none, none, some (1, [.val .f (.i .i64) 0, .val (.x 0) (.sl (.i .i64)) [], .val (.x 0) (.sl (.i .i64)) [], .val (.x 0) (.sl (.i .i64)) []]), some (1, [.val .f (.i .i64) v1.1, .val (.x 0) (.sl (.i .i64)) q2, .val (.x 0) (.sl (.i .i64)) q3, .val (.x 0) (.sl (.i .i64)) q9])] ++ List.replicate 53 none⟩ (endK (x_f0 K).toEnv (x_f4 K) [.cell 4 30])
theorem x_0.ok1 (K : Nat) (a0 : x_d) (a1 : Int) (n : Nat) : x_0.g1 K a0 a1 n = x_0.l1 K a0 a1 n := by
 induction n with
 | zero =>
  funext q7 q8 v1 q2 q3 q9
  kernel_rfl
 | succ n ih =>
  funext q7 q8 v1 q2 q3 q9
  have e : x_0.g1 K a0 a1 (n + 1) q7 q8 v1 q2 q3 q9 = x_0.l1b K a0 a1 (x_0.g1 K a0 a1 n) q7 q8 v1 q2 q3 q9 := by kernel_rfl
  rw [ih] at e
  refine e.trans ?_
  kernel_rfl
theorem x_0.ok0 (K : Nat) (a0 : x_d) (a1 : Int) (n : Nat) : x_0.g0 K a0 a1 n = x_0.l0 K a0 a1 n := by
 induction n with
 | zero =>
  funext v2 q0 q1 v1 q2 q3
  kernel_rfl
 | succ n ih =>
  have k1 := x_0.ok1 K a0 a1 K
  funext v2 q0 q1 v1 q2 q3
  have e : x_0.g0 K a0 a1 (n + 1) v2 q0 q1 v1 q2 q3 = x_0.l0b K a0 a1 (x_0.g0 K a0 a1 n) (x_0.g1 K a0 a1 K) v2 q0 q1 v1 q2 q3 := by kernel_rfl
  rw [ih, k1] at e
  refine e.trans ?_
  kernel_rfl
theorem x_4f (K : Nat) : FOk Tryz.prog 193 (x_f4 K) :=
 x_a (T := x_f0 K) (H := x_m3) (K := K) (c := x_nc) (ts := [.cell 4 30]) Tryz.func193 (by kernel_rfl) (by kernel_rfl) (by kernel_rfl) rfl
  (tokc (x_jq K) (tok0 x_k)) mixed
  (fun v => by
  have k0 := x_0.ok0 K v.1 v.2.1 K
  have e : run (x_f0 K) x_m3 K x_nc (x_ax (x_f4 K).pk (x_f4 K).ps Tryz.f193.ntmps (lv _ v)) (endK (x_f0 K).toEnv (x_f4 K) [.cell 4 30]) = x_0.b K v.1 v.2.1 (x_0.g0 K v.1 v.2.1 K) := by kernel_rfl
  rw [k0] at e
  refine e.trans ?_
  kernel_rfl)
noncomputable def x_fo (K : Nat) : FSp := { ps := [.ptr x_yu [.f, .f, .f], .val false (.i .i64) [.f]], rs := [(true, x_p8, [.x 0, .x 0, .x 0, .f, .x 0, .x 0])], fn := fun v => x_j K v.1 v.2.1 }
noncomputable def x_dy (K : Nat) : Tab := x_ai (tiOf tys) [(190, x_k9 K), (191, x_ni K), (192, x_he K), (193, x_f4 K), (194, x_ma K)]
def x_jt : Hint := ⟨msk [19, 51, 115, 243, 134217971, 243, 499, 243, 115, 627, 281474976711283, 627, 1651, 627, 115, 2163, 590295810358705653875, 2163, 6259, 2163, 49, 8241, 38685626227668133590605873, 8241, 24625, 57393, 57393, 57393, 57393, 57393, 41009, 8241, 17], fun _ _ => false, fun _ => false, fun _ => none⟩
noncomputable def x_jz : Code := Tryz.f165.body.getD .skip
noncomputable def x_j.g0 (K : Nat) (a0 : x_d) (a1 : Int) (n : Nat) (v1 : Int × x_d × Unit) (q0 : Int) (q1 : x_d × Unit) (q2 : List TRow) : Option (x_ao × x_d × Unit) :=
 lpg (x_dy K) x_jt K x_jz [.r, .r, .r, .l, .r, .b] n ⟨[.one (.ptr 0 0 0), .one (.val .f (.i .i64) a1), .dead, .dead, .one (.ptr 4 1 0), .one (.ptr 5 1 0), .one (.val .f (.i .i64) v1.1), .one (.val .f (.i .i64) q0)] ++ List.replicate 109 .dead, [some (0, [.val .f (.sl (.i .u8)) q1.1.1, .val .f (.i .i64) q1.1.2.1, .val .f .b q1.1.2.2]), none, none, none, some (1, [.val (.x 0) (.sl eRow) [], .val (.x 0) (.sl x_at) [], .val (.x 0) (.sl x_ar) [], .val .f (.i .i64) 0, .val (.x 0) (.sl (.i .i64)) [], .val (.x 0) (.sl x_2) []]), some (1, [.val (.x 0) (.sl eRow) q2, .val (.x 0) (.sl x_at) [], .val (.x 0) (.sl x_ar) [], .val .f (.i .i64) 0, .val (.x 0) (.sl (.i .i64)) [], .val (.x 0) (.sl x_2) []])] ++ List.replicate 111 none⟩ (endK (x_dy K).toEnv (x_fo K) [.cell 4 43])
noncomputable def x_j.g1 (K : Nat) (a0 : x_d) (a1 : Int) (n : Nat) (v3 : Int × x_d × Unit) (q28 : Int) (q29 : x_d × Unit) (q2 : List TRow) (q30 : List x_v) : Option (x_ao × x_d × Unit) :=
 lpg (x_dy K) x_jt K x_jz [.r, .r, .r, .r, .r, .l, .r, .b] n ⟨[.one (.ptr 0 0 0), .one (.val .f (.i .i64) a1), .dead, .dead, .one (.ptr 4 1 0), .one (.ptr 5 1 0), .one (.val .f (.i .i64) v3.1), .dead, .dead, .one (.val .f (.i .i64) q28)] ++ List.replicate 107 .dead, [some (0, [.val .f (.sl (.i .u8)) q29.1.1, .val .f (.i .i64) q29.1.2.1, .val .f .b q29.1.2.2]), none, none, none, some (1, [.val (.x 0) (.sl eRow) [], .val (.x 0) (.sl x_at) [], .val (.x 0) (.sl x_ar) [], .val .f (.i .i64) 0, .val (.x 0) (.sl (.i .i64)) [], .val (.x 0) (.sl x_2) []]), some (1, [.val (.x 0) (.sl eRow) q2, .val (.x 0) (.sl x_at) q30, .val (.x 0) (.sl x_ar) [], .val .f (.i .i64) 0, .val (.x 0) (.sl (.i .i64)) [], .val (.x 0) (.sl x_2) []])] ++ List.replicate 111 none⟩ (endK (x_dy K).toEnv (x_fo K) [.cell 4 43])
noncomputable def x_j.g2 (K : Nat) (a0 : x_d) (a1 : Int) (n : Nat) (v5 : Int × x_d × Unit) (q42 : Int) (q43 : x_d × Unit) (q2 : List TRow) (q30 : List x_v) (q44 : List x_o) : Option (x_ao × x_d × Unit) :=
 lpg (x_dy K) x_jt K x_jz [.r, .r, .r, .r, .r, .r, .r, .l, .r, .b] n ⟨[.one (.ptr 0 0 0), .one (.val .f (.i .i64) a1), .dead, .dead, .one (.ptr 4 1 0), .one (.ptr 5 1 0), .one (.val .f (.i .i64) v5.1)] ++ List.replicate 4 .dead ++ [.one (.val .f (.i .i64) q42)] ++ List.replicate 105 .dead, [some (0, [.val .f (.sl (.i .u8)) q43.1.1, .val .f (.i .i64) q43.1.2.1, .val .f .b q43.1.2.2]), none, none, none, some (1, [.val (.x 0) (.sl eRow) [], .val (.x 0) (.sl x_at) [], .val (.x 0) (.sl x_ar) [], .val .f (.i .i64) 0, .val (.x 0) (.sl (.i .i64)) [], .val (.x 0) (.sl x_2) []]), some (1, [.val (.x 0) (.sl eRow) q2, .val (.x 0) (.sl x_at) q30, .val (.x 0) (.sl x_ar) q44, .val .f (.i .i64) 0, .val (.x 0) (.sl (.i .i64)) [], .val (.x 0) (.sl x_2) []])] ++ List.replicate 111 none⟩ (endK (x_dy K).toEnv (x_fo K) [.cell 4 43])
noncomputable def x_j.g3 (K : Nat) (a0 : x_d) (a1 : Int) (n : Nat) (q49 : Int) (q50 : x_d × Unit) (q2 : List TRow) (q30 : List x_v) (q44 : List x_o) (v7 : Int × x_d × Unit) (q51 : List Int) (q52 : List x_a2) : Option (x_ao × x_d × Unit) :=
 lpg (x_dy K) x_jt K x_jz [.r, .r, .r, .r, .r, .r, .r, .r, .r, .l, .r, .b] n ⟨[.one (.ptr 0 0 0), .dead, .dead, .dead, .one (.ptr 4 1 0), .one (.ptr 5 1 0)] ++ List.replicate 7 .dead ++ [.one (.val .f (.i .i64) q49)] ++ List.replicate 103 .dead, [some (0, [.val .f (.sl (.i .u8)) q50.1.1, .val .f (.i .i64) q50.1.2.1, .val .f .b q50.1.2.2]), none, none, none, some (1, [.val (.x 0) (.sl eRow) [], .val (.x 0) (.sl x_at) [], .val (.x 0) (.sl x_ar) [], .val .f (.i .i64) 0, .val (.x 0) (.sl (.i .i64)) [], .val (.x 0) (.sl x_2) []]), some (1, [.val (.x 0) (.sl eRow) q2, .val (.x 0) (.sl x_at) q30, .val (.x 0) (.sl x_ar) q44, .val .f (.i .i64) v7.1, .val (.x 0) (.sl (.i .i64)) q51, .val (.x 0) (.sl x_2) q52])] ++ List.replicate 111 none⟩ (endK (x_dy K).toEnv (x_fo K) [.cell 4 43])
theorem x_j.ok3 (K : Nat) (a0 : x_d) (a1 : Int) (n : Nat) : x_j.g3 K a0 a1 n = x_j.l3 K a0 a1 n := by
 induction n with
 | zero =>
  funext q49 q50 q2 q30 q44 v7 q51 q52
  kernel_rfl
 | succ n ih =>
  funext q49 q50 q2 q30 q44 v7 q51 q52
  have e : x_j.g3 K a0 a1 (n + 1) q49 q50 q2 q30 q44 v7 q51 q52 = x_j.l3b K a0 a1 (x_j.g3 K a0 a1 n) q49 q50 q2 q30 q44 v7 q51 q52 := by kernel_rfl
  rw [ih] at e
  refine e.trans ?_
  kernel_rfl
theorem x_j.ok2 (K : Nat) (a0 : x_d) (a1 : Int) (n : Nat) : x_j.g2 K a0 a1 n = x_j.l2 K a0 a1 n := by
 induction n with
 | zero =>
  funext v5 q42 q43 q2 q30 q44
  kernel_rfl
 | succ n ih =>
  have k3 := x_j.ok3 K a0 a1 K
  funext v5 q42 q43 q2 q30 q44
  have e : x_j.g2 K a0 a1 (n + 1) v5 q42 q43 q2 q30 q44 = x_j.l2b K a0 a1 (x_j.g2 K a0 a1 n) (x_j.g3 K a0 a1 K) v5 q42 q43 q2 q30 q44 := by kernel_rfl
  rw [ih, k3] at e
  refine e.trans ?_
  kernel_rfl
theorem x_j.ok1 (K : Nat) (a0 : x_d) (a1 : Int) (n : Nat) : x_j.g1 K a0 a1 n = x_j.l1 K a0 a1 n := by
 induction n with
 | zero =>
  funext v3 q28 q29 q2 q30
  kernel_rfl
 | succ n ih =>
  have k2 := x_j.ok2 K a0 a1 K
  funext v3 q28 q29 q2 q30
  have e : x_j.g1 K a0 a1 (n + 1) v3 q28 q29 q2 q30 = x_j.l1b K a0 a1 (x_j.g1 K a0 a1 n) (x_j.g2 K a0 a1 K) v3 q28 q29 q2 q30 := by kernel_rfl
  rw [ih, k2] at e
  refine e.trans ?_
  kernel_rfl
theorem x_j.ok0 (K : Nat) (a0 : x_d) (a1 : Int) (n : Nat) : x_j.g0 K a0 a1 n = x_j.l0 K a0 a1 n := by
 induction n with
 | zero =>
  funext v1 q0 q1 q2
  kernel_rfl
 | succ n ih =>
  have k1 := x_j.ok1 K a0 a1 K
  funext v1 q0 q1 q2
  have e : x_j.g0 K a0 a1 (n + 1) v1 q0 q1 q2 = x_j.l0b K a0 a1 (x_j.g0 K a0 a1 n) (x_j.g1 K a0 a1 K) v1 q0 q1 q2 := by kernel_rfl
  rw [ih, k1] at e
  refine e.trans ?_
  kernel_rfl
theorem x_ab3 (K : Nat) : FOk Tryz.prog 165 (x_fo K) :=
 x_a (T := x_dy K) (H := x_jt) (K := K) (c := x_jz) (ts := [.cell 4 43]) Tryz.func165 (by kernel_rfl) (by kernel_rfl) (by kernel_rfl) rfl
  (tokc (x_jq K) (tokc (x_ac2 K) (tokc (x_4j K) (tokc (x_4f K) (tokc (x_nm K) (tok0 x_k)))))) mixed
  (fun v => by
  have k0 := x_j.ok0 K v.1 v.2.1 K
  have e : run (x_dy K) x_jt K x_jz (x_ax (x_fo K).pk (x_fo K).ps Tryz.f165.ntmps (lv _ v)) (endK (x_dy K).toEnv (x_fo K) [.cell 4 43]) = x_j.b K v.1 v.2.1 (x_j.g0 K v.1 v.2.1 K) := by kernel_rfl
  rw [k0] at e
  refine e.trans ?_
  kernel_rfl)
noncomputable def x_u7 (K : Nat) : FSp := { ps := [.val true x_da [.f, .f, .f, .f], .val false (.sl (.i .u8)) [.f]], rs := [(true, x_p8, [.x 0, .x 0, .x 0, .f, .x 0, .x 0]), (false, .b, [.f])], fn := fun v => x_vm K v.1 v.2.1 }
noncomputable def x_ahx (K : Nat) : Tab := x_ai (tiOf tys) [(110, x_e7), (165, x_fo K), (135, x_ec K)]
def x_ait : Hint := ⟨msk [22, 1046, 48, 16470, 16598, 274877907088, 48, 48], fun _ _ => false, fun _ => false, fun _ => none⟩
noncomputable def x_ag5 : Code := Tryz.f138.body.getD .skip
theorem x_xo (K : Nat) : FOk Tryz.prog 138 (x_u7 K) :=
 x_a (T := x_ahx K) (H := x_ait) (K := K) (c := x_ag5) (ts := [.cell 4 43, .tmp 5]) Tryz.func138 (by kernel_rfl) (by kernel_rfl) (by kernel_rfl) rfl
  (tokc (x_ev) (tokc (x_ab3 K) (tokc (x_re K) (tok0 x_k)))) mixed
  (fun v => by kernel_rfl)
end Go.Proofs.YtkdamnchchhjeaaGreatDoor.Fs
