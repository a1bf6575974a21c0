/- The functions compute what is told of them. -/
import Derived.Test.YtkdamnchchhjeaaGreatDoorFsOk6
set_option linter.all false
set_option maxRecDepth 100000
namespace Go.Proofs.YtkdamnchchhjeaaGreatDoor.Fs
open Go Go.Kn
noncomputable def x_em (K : Nat) : FSp := { ps := [.ptr x_fp [.f, .f, .f, .f, .f, .f, .f, .f, .f, .f, .f, .f, .f, .f, .f, .f, .f, .f, .x 0, .x 0, .x 0, .f, .x 0, .x 0, .x 0, .f, .x 0, .x 0, .f, .f, .f, .f], .val false (.i .i64) [.f]], rs := [], fn := fun v => x_a0 K v.1 v.2.1 }
noncomputable def x_ib (K : Nat) : Tab := x_ai (tiOf tys) [(168, x_ik)]
def x_n7 : Hint := ⟨msk [19, 1043, 19, 19, 19], fun _ _ => false, fun _ => false, fun _ => none⟩
noncomputable def x_ol : Code := Tryz.f203.body.getD .skip
noncomputable def x_a0.g0 (K : Nat) (a0 : x_e) (a1 : Int) (n : Nat) (q0 : Int) (q1 : List Int) (q2 : List Int) : Option (x_e × Unit) :=
 lpg (x_ib K) x_n7 K x_ol [.r, .b] n ⟨[.one (.ptr 0 0 0), .one (.val .f (.i .i64) a1), .dead, .dead, .one (.val .f (.i .i64) q0)] ++ List.replicate 43 .dead, [some (0, [.val .f (.i .i64) a0.1.1, .val .f (.i .i64) a0.1.2.1, .val .f (.i .i64) a0.1.2.2.1, .val .f (.i .i64) a0.1.2.2.2, .val .f (.i .i64) a0.2.1, .val .f (.i .i64) a0.2.2.1.1, .val .f (.i .i64) a0.2.2.1.2.1.1, .val .f (.i .i64) a0.2.2.1.2.1.2.1, .val .f (.i .i64) a0.2.2.1.2.1.2.2.1.1, .val .f (.i .i64) a0.2.2.1.2.1.2.2.1.2.1, .val .f (.sl x_ct) a0.2.2.1.2.1.2.2.1.2.2, .val .f (.sl eRow) a0.2.2.1.2.1.2.2.2.1, .val .f (.sl x_at) a0.2.2.1.2.1.2.2.2.2.1, .val .f (.sl x_ar) a0.2.2.1.2.1.2.2.2.2.2.1, .val .f (.i .i64) a0.2.2.1.2.1.2.2.2.2.2.2.1, .val .f (.sl (.i .i64)) a0.2.2.1.2.1.2.2.2.2.2.2.2.1, .val .f (.sl x_2) a0.2.2.1.2.1.2.2.2.2.2.2.2.2, .val .f (.i .i64) a0.2.2.1.2.2.1, .val (.x 0) (.sl .b) a0.2.2.1.2.2.2.1, .val (.x 0) (.sl (.i .i64)) q1, .val (.x 0) (.sl (.i .i64)) q2, .val .f (.i .i64) a0.2.2.1.2.2.2.2.2.2.1, .val (.x 0) (.sl eRow) a0.2.2.1.2.2.2.2.2.2.2.1.1, .val (.x 0) (.sl x_at) a0.2.2.1.2.2.2.2.2.2.2.1.2.1, .val (.x 0) (.sl x_ar) a0.2.2.1.2.2.2.2.2.2.2.1.2.2.1, .val .f (.i .i64) a0.2.2.1.2.2.2.2.2.2.2.1.2.2.2.1, .val (.x 0) (.sl (.i .i64)) a0.2.2.1.2.2.2.2.2.2.2.1.2.2.2.2.1, .val (.x 0) (.sl x_2) a0.2.2.1.2.2.2.2.2.2.2.1.2.2.2.2.2, .val .f (.sl (.i .u8)) a0.2.2.1.2.2.2.2.2.2.2.2.1.1, .val .f (.i .i64) a0.2.2.1.2.2.2.2.2.2.2.2.1.2, .val .f (.sl eRpc) a0.2.2.1.2.2.2.2.2.2.2.2.2, .val .f .b a0.2.2.2])] ++ List.replicate 47 none⟩ (endK (x_ib K).toEnv (x_em K) [])
theorem x_a0.ok0 (K : Nat) (a0 : x_e) (a1 : Int) (n : Nat) : x_a0.g0 K a0 a1 n = x_a0.l0 K a0 a1 n := by
 induction n with
 | zero =>
  funext q0 q1 q2
  kernel_rfl
 | succ n ih =>
  funext q0 q1 q2
  have e : x_a0.g0 K a0 a1 (n + 1) q0 q1 q2 = x_a0.l0b K a0 a1 (x_a0.g0 K a0 a1 n) q0 q1 q2 := by kernel_rfl
  rw [ih] at e
  refine e.trans ?_
  kernel_rfl
theorem x_r8 (K : Nat) : FOk Tryz.prog 203 (x_em K) :=
 x_a (T := x_ib K) (H := x_n7) (K := K) (c := x_ol) (ts := []) Tryz.func203 (by kernel_rfl) (by kernel_rfl) (by kernel_rfl) rfl
  (tokc (x_id) (tok0 x_k)) mixed
  (fun v => by
  have k0 := x_a0.ok0 K v.1 v.2.1 K
  have e : run (x_ib K) x_n7 K x_ol (x_ax (x_em K).pk (x_em K).ps Tryz.f203.ntmps (lv _ v)) (endK (x_ib K).toEnv (x_em K) []) = x_a0.b K v.1 v.2.1 (x_a0.g0 K v.1 v.2.1 K) := by kernel_rfl
  rw [k0] at e
  refine e.trans ?_
  kernel_rfl)
noncomputable def x_x9 (K : Nat) : FSp := { ps := [.val true x_da [.f, .f, .f, .f], .val true x_p8 [.x 0, .x 0, .x 0, .f, .x 0, .x 0], .val true eCmd [.f, .f, .f, .f, .f, .f, .f, .f]], rs := [(true, x_p8, [.x 0, .x 0, .x 0, .f, .x 0, .x 0]), (true, x_2, [.f, .f, .f, .f])], fn := fun v => x_sw K v.1 v.2.1 v.2.2.1 }
noncomputable def x_9m (K : Nat) : Tab := x_ai (tiOf tys) [(60, x_dx K), (57, x_k2 K), (59, x_mm)]
def x_aak : Hint := ⟨msk [248, 504, 262648, 8389104, 192, 192, 17180131832, 240, 140737488617976, 240, 288230376151712248, 1776, 18889465931478580855536, 192, 240, 192, 1016], fun r i => [(16, 9), (16, 10)].contains (r, i), fun _ => false, fun _ => none⟩
noncomputable def x_abo : Code := Tryz.f169.body.getD .skip
theorem x_57 (K : Nat) : FOk Tryz.prog 169 (x_x9 K) :=
 x_a (T := x_9m K) (H := x_aak) (K := K) (c := x_abo) (ts := [.cell 6 43, .cell 7 33]) Tryz.func169 (by kernel_rfl) (by kernel_rfl) (by kernel_rfl) rfl
  (tokc (x_po K) (tokc (x_nw K) (tokc (x_o7) (tok0 x_k)))) mixed
  (fun v => by kernel_rfl)
noncomputable def x_f1 (K : Nat) : FSp := { ps := [.val false (.sl x_at) [.r], .val false (.i .i64) [.f], .val false (.i .i64) [.f]], rs := [(true, x_at, [.f, .f, .f, .f, .x 0])], fn := fun v => x_bk K v.1 v.2.1 v.2.2.1 }
noncomputable def x_js (K : Nat) : Tab := x_ai (tiOf tys) [(91, x_lp)]
def x_rn : Hint := ⟨msk [71, 199, 2247, 199, 536871111, 64, 64], fun _ _ => false, fun _ => false, fun _ => none⟩
noncomputable def x_qh : Code := Tryz.f212.body.getD .skip
noncomputable def x_bk.g0 (K : Nat) (a0 : List x_v) (a1 : Int) (a2 : Int) (n : Nat) (q0 : Int) : Option (x_v × Unit) :=
 lpg (x_js K) x_rn K x_qh [.r, .l, .r, .b] n ⟨[.one (.val .r (.sl x_at) a0), .one (.val .f (.i .i64) a1), .one (.val .f (.i .i64) a2), .dead, .dead, .dead, .one (.ptr 6 1 0), .one (.val .f (.i .i64) q0)] ++ List.replicate 30 .dead, List.replicate 6 none ++ [some (1, [.val .f (.i .i64) 0, .val .f (.i .i64) 0, .val .f (.i .i64) 0, .val .f (.i .i64) 0, .val (.x 0) (.sl x_38) []])] ++ List.replicate 31 none⟩ (endK (x_js K).toEnv (x_f1 K) [.cell 6 158])
theorem x_bk.ok0 (K : Nat) (a0 : List x_v) (a1 : Int) (a2 : Int) (n : Nat) : x_bk.g0 K a0 a1 a2 n = x_bk.l0 K a0 a1 a2 n := by
 induction n with
 | zero =>
  funext q0
  kernel_rfl
 | succ n ih =>
  funext q0
  have e : x_bk.g0 K a0 a1 a2 (n + 1) q0 = x_bk.l0b K a0 a1 a2 (x_bk.g0 K a0 a1 a2 n) q0 := by kernel_rfl
  rw [ih] at e
  refine e.trans ?_
  kernel_rfl
theorem x_uy (K : Nat) : FOk Tryz.prog 212 (x_f1 K) :=
 x_a (T := x_js K) (H := x_rn) (K := K) (c := x_qh) (ts := [.cell 6 158]) Tryz.func212 (by kernel_rfl) (by kernel_rfl) (by kernel_rfl) rfl
  (tokc (x_nh) (tok0 x_k)) mixed
  (fun v => by
  have k0 := x_bk.ok0 K v.1 v.2.1 v.2.2.1 K
  have e : run (x_js K) x_rn K x_qh (x_ax (x_f1 K).pk (x_f1 K).ps Tryz.f212.ntmps (lv _ v)) (endK (x_js K).toEnv (x_f1 K) [.cell 6 158]) = x_bk.b K v.1 v.2.1 v.2.2.1 (x_bk.g0 K v.1 v.2.1 v.2.2.1 K) := by kernel_rfl
  rw [k0] at e
  refine e.trans ?_
  kernel_rfl)
noncomputable def x_ex (K : Nat) : FSp := { ps := [.val true x_at [.f, .f, .f, .f, .r], .val false (.i .i64) [.f], .val false (.i .i64) [.f]], rs := [(false, (.i .i64), [.f]), (false, (.i .i64), [.f])], fn := fun v => x_a1 K v.1 v.2.1 v.2.2.1 }
noncomputable def x_h4 (K : Nat) : Tab := x_ai (tiOf tys) []
def x_os : Hint := ⟨msk [14, 4110, 192, 65548, 262144, 192, 192, 4194316, 134217728, 192, 192, 268, 4294967564, 268, 4398046511372, 192, 192], fun _ _ => false, fun _ => false, fun _ => none⟩
noncomputable def x_n9 : Code := Tryz.f167.body.getD .skip
noncomputable def x_a1.g0 (K : Nat) (a0 : x_v) (a1 : Int) (a2 : Int) (n : Nat) (q0 : Int) : Option (Int × Int × Unit) :=
 lpg (x_h4 K) x_os K x_n9 [.r, .r, .r, .r, .l, .r, .b] n ⟨[.dead, .dead, .one (.val .f (.i .i64) a2), .one (.ptr 3 1 0)] ++ List.replicate 4 .dead ++ [.one (.val .f (.i .i64) q0)] ++ List.replicate 40 .dead, [none, none, none, some (1, [.val .f (.i .i64) a0.1, .val .f (.i .i64) a0.2.1, .val .f (.i .i64) a0.2.2.1, .val .f (.i .i64) a0.2.2.2.1, .val .r (.sl x_38) a0.2.2.2.2])] ++ List.replicate 45 none⟩ (endK (x_h4 K).toEnv (x_ex K) [.tmp 6, .tmp 7])
theorem x_a1.ok0 (K : Nat) (a0 : x_v) (a1 : Int) (a2 : Int) (n : Nat) : x_a1.g0 K a0 a1 a2 n = x_a1.l0 K a0 a1 a2 n := by
 induction n with
 | zero =>
  funext q0
  kernel_rfl
 | succ n ih =>
  funext q0
  have e : x_a1.g0 K a0 a1 a2 (n + 1) q0 = x_a1.l0b K a0 a1 a2 (x_a1.g0 K a0 a1 a2 n) q0 := by kernel_rfl
  rw [ih] at e
  refine e.trans ?_
  kernel_rfl
theorem x_r6 (K : Nat) : FOk Tryz.prog 167 (x_ex K) :=
 x_a (T := x_h4 K) (H := x_os) (K := K) (c := x_n9) (ts := [.tmp 6, .tmp 7]) Tryz.func167 (by kernel_rfl) (by kernel_rfl) (by kernel_rfl) rfl
  (tok0 x_k) mixed
  (fun v => by
  have k0 := x_a1.ok0 K v.1 v.2.1 v.2.2.1 K
  have e : run (x_h4 K) x_os K x_n9 (x_ax (x_ex K).pk (x_ex K).ps Tryz.f167.ntmps (lv _ v)) (endK (x_h4 K).toEnv (x_ex K) [.tmp 6, .tmp 7]) = x_a1.b K v.1 v.2.1 v.2.2.1 (x_a1.g0 K v.1 v.2.1 v.2.2.1 K) := by kernel_rfl
  rw [k0] at e
  refine e.trans ?_
  kernel_rfl)
noncomputable def x_n6 (K : Nat) : FSp := { ps := [.val true x_at [.f, .f, .f, .f, .r], .val false (.i .i64) [.f], .val false (.i .i64) [.f], .val false (.i .i64) [.f], .val false (.i .i64) [.f]], rs := [(true, x_at, [.f, .f, .f, .f, .x 0])], fn := fun v => x_ds K v.1 v.2.1 v.2.2.1 v.2.2.2.1 v.2.2.2.2.1 }
noncomputable def x_6b (K : Nat) : Tab := x_ai (tiOf tys) [(91, x_lp), (167, x_ex K), (112, x_no)]
def x_6p : Hint := ⟨msk [1086, 3134, 7230, 16780350, 1024, 536874014, 3102, 3098, 3098, 3074, 281474976713730, 3072, 1024], fun _ _ => false, fun _ => false, fun _ => none⟩
noncomputable def x_4r : Code := Tryz.f141.body.getD .skip
theorem x_r9 (K : Nat) : FOk Tryz.prog 141 (x_n6 K) :=
 x_a (T := x_6b K) (H := x_6p) (K := K) (c := x_4r) (ts := [.cell 10 158]) Tryz.func141 (by kernel_rfl) (by kernel_rfl) (by kernel_rfl) rfl
  (tokc (x_nh) (tokc (x_r6 K) (tokc (x_mg) (tok0 x_k)))) mixed
  (fun v => by kernel_rfl)
noncomputable def x_eq (K : Nat) : FSp := { ps := [.val false (.sl x_at) [.r], .val true x_at [.f, .f, .f, .f, .r]], rs := [(false, (.sl x_at), [.x 0])], fn := fun v => x_am K v.1 v.2.1 }
noncomputable def x_hw (K : Nat) : Tab := x_ai (tiOf tys) [(91, x_lp)]
def x_o3 : Hint := ⟨msk [9, 41, 105, 233, 8425, 233, 489, 2147484137, 8589934825, 169, 233, 2305843009213694441, 425, 489, 233, 9444732965739290427432, 32, 16], fun _ _ => false, fun _ => false, fun _ => none⟩
noncomputable def x_o6 : Code := Tryz.f213.body.getD .skip
noncomputable def x_am.g0 (K : Nat) (a0 : List x_v) (a1 : x_v) (n : Nat) (q0 : List x_v) (q1 : Bool) (q2 : Int) : Option ((List x_v) × Unit) :=
 lpg (x_hw K) x_o3 K x_o6 [.r, .r, .r, .l, .r, .b] n ⟨[.one (.val .r (.sl x_at) a0), .dead, .dead, .one (.ptr 3 1 0), .dead, .one (.val (.x 0) (.sl x_at) q0), .one (.val .f .b q1), .one (.val .f (.i .i64) q2)] ++ List.replicate 72 .dead, [none, none, none, some (1, [.val .f (.i .i64) a1.1, .val .f (.i .i64) a1.2.1, .val .f (.i .i64) a1.2.2.1, .val .f (.i .i64) a1.2.2.2.1, .val .r (.sl x_38) a1.2.2.2.2])] ++ List.replicate 76 none⟩ (endK (x_hw K).toEnv (x_eq K) [.tmp 4])
theorem x_am.ok0 (K : Nat) (a0 : List x_v) (a1 : x_v) (n : Nat) : x_am.g0 K a0 a1 n = x_am.l0 K a0 a1 n := by
 induction n with
 | zero =>
  funext q0 q1 q2
  kernel_rfl
 | succ n ih =>
  funext q0 q1 q2
  have e : x_am.g0 K a0 a1 (n + 1) q0 q1 q2 = x_am.l0b K a0 a1 (x_am.g0 K a0 a1 n) q0 q1 q2 := by kernel_rfl
  rw [ih] at e
  refine e.trans ?_
  kernel_rfl
theorem x_r3 (K : Nat) : FOk Tryz.prog 213 (x_eq K) :=
 x_a (T := x_hw K) (H := x_o3) (K := K) (c := x_o6) (ts := [.tmp 4]) Tryz.func213 (by kernel_rfl) (by kernel_rfl) (by kernel_rfl) rfl
  (tokc (x_nh) (tok0 x_k)) mixed
  (fun v => by
  have k0 := x_am.ok0 K v.1 v.2.1 K
  have e : run (x_hw K) x_o3 K x_o6 (x_ax (x_eq K).pk (x_eq K).ps Tryz.f213.ntmps (lv _ v)) (endK (x_hw K).toEnv (x_eq K) [.tmp 4]) = x_am.b K v.1 v.2.1 (x_am.g0 K v.1 v.2.1 K) := by kernel_rfl
  rw [k0] at e
  refine e.trans ?_
  kernel_rfl)
noncomputable def x_8o (K : Nat) : FSp := { ps := [.val true x_da [.f, .f, .f, .f], .val true x_p8 [.x 0, .x 0, .x 0, .f, .x 0, .x 0], .val true eCmd [.f, .f, .f, .f, .f, .f, .f, .f]], rs := [(true, x_p8, [.x 0, .x 0, .x 0, .f, .x 0, .x 0]), (true, x_2, [.f, .f, .f, .f])], fn := fun v => x_75 K v.1 v.2.1 v.2.2.1 }
noncomputable def t_s_l6Put (K : Nat) : Tab := x_ai (tiOf tys) [(212, x_f1 K), (167, x_ex K), (37, x_o8 K), (141, x_n6 K), (213, x_eq K)]
def h_s_l6Put : Hint := ⟨msk [248, 504, 2040, 1073743352, 3221227000, 192, 69793219064, 192, 1100585370104, 192, 17592186044920, 192, 14840, 295147905179352832504, 192, 4600, 4304, 192], fun _ _ => false, fun _ => false, fun _ => none⟩
noncomputable def c_s_l6Put : Code := Tryz.f195.body.getD .skip
theorem x_ahi (K : Nat) : FOk Tryz.prog 195 (x_8o K) :=
 x_a (T := t_s_l6Put K) (H := h_s_l6Put) (K := K) (c := c_s_l6Put) (ts := [.cell 6 43, .cell 7 33]) Tryz.func195 (by kernel_rfl) (by kernel_rfl) (by kernel_rfl) rfl
  (tokc (x_uy K) (tokc (x_r6 K) (tokc (x_qt K) (tokc (x_r9 K) (tokc (x_r3 K) (tok0 x_k)))))) mixed
  (fun v => by kernel_rfl)
noncomputable def x_yk (K : Nat) : FSp := { ps := [.val true x_p8 [.x 0, .x 0, .x 0, .f, .x 0, .x 0], .val true eCmd [.f, .f, .f, .f, .f, .f, .f, .f]], rs := [(true, x_p8, [.x 0, .x 0, .x 0, .f, .x 0, .x 0]), (true, x_2, [.f, .f, .f, .f])], fn := fun v => x_s1 K v.1 v.2.1 }
noncomputable def x_86 (K : Nat) : Tab := x_ai (tiOf tys) [(212, x_f1 K), (213, x_eq K)]
def x_aal : Hint := ⟨msk [60, 124, 262268, 48, 60, 48], fun _ _ => false, fun _ => false, fun _ => none⟩
noncomputable def x_aab : Code := Tryz.f196.body.getD .skip
theorem x_56 (K : Nat) : FOk Tryz.prog 196 (x_yk K) :=
 x_a (T := x_86 K) (H := x_aal) (K := K) (c := x_aab) (ts := [.cell 4 43, .cell 5 33]) Tryz.func196 (by kernel_rfl) (by kernel_rfl) (by kernel_rfl) rfl
  (tokc (x_uy K) (tokc (x_r3 K) (tok0 x_k))) mixed
  (fun v => by kernel_rfl)
noncomputable def x_kd (K : Nat) : FSp := { ps := [.val true eRow [.f, .f, .r], .val false (.i .i64) [.f]], rs := [(true, x_ou, [.f, .f, .f, .f, .f]), (false, (.i .i64), [.f])], fn := fun v => x_cd K v.1 v.2.1 }
noncomputable def x_lg (K : Nat) : Tab := x_ai (tiOf tys) []
def x_up : Hint := ⟨msk [22, 1046, 48, 86, 65622, 86, 67108950, 48, 48], fun _ _ => false, fun _ => false, fun _ => none⟩
noncomputable def x_vl : Code := Tryz.f197.body.getD .skip
noncomputable def x_cd.g0 (K : Nat) (a0 : TRow) (a1 : Int) (n : Nat) (q0 : Int) : Option (x_gh × Int × Unit) :=
 lpg (x_lg K) x_up K x_vl [.r, .r, .l, .r, .b] n ⟨[.dead, .one (.val .f (.i .i64) a1), .one (.ptr 2 1 0), .dead, .one (.ptr 4 1 0), .dead, .one (.val .f (.i .i64) q0)] ++ List.replicate 26 .dead, [none, none, some (1, [.val .f (.i .i64) a0.1, .val .f (.i .i64) a0.2.1, .val .r (.sl x_ou) a0.2.2]), none, some (1, [.val .f (.i .i64) 0, .val .f .s ByteArray.empty, .val .f .s ByteArray.empty, .val .f (.i .i64) 0, .val .f (.i .i64) 0])] ++ List.replicate 28 none⟩ (endK (x_lg K).toEnv (x_kd K) [.cell 4 76, .tmp 5])
theorem x_cd.ok0 (K : Nat) (a0 : TRow) (a1 : Int) (n : Nat) : x_cd.g0 K a0 a1 n = x_cd.l0 K a0 a1 n := by
 induction n with
 | zero =>
  funext q0
  kernel_rfl
 | succ n ih =>
  funext q0
  have e : x_cd.g0 K a0 a1 (n + 1) q0 = x_cd.l0b K a0 a1 (x_cd.g0 K a0 a1 n) q0 := by kernel_rfl
  rw [ih] at e
  refine e.trans ?_
  kernel_rfl
theorem x_aaw (K : Nat) : FOk Tryz.prog 197 (x_kd K) :=
 x_a (T := x_lg K) (H := x_up) (K := K) (c := x_vl) (ts := [.cell 4 76, .tmp 5]) Tryz.func197 (by kernel_rfl) (by kernel_rfl) (by kernel_rfl) rfl
  (tok0 x_k) mixed
  (fun v => by
  have k0 := x_cd.ok0 K v.1 v.2.1 K
  have e : run (x_lg K) x_up K x_vl (x_ax (x_kd K).pk (x_kd K).ps Tryz.f197.ntmps (lv _ v)) (endK (x_lg K).toEnv (x_kd K) [.cell 4 76, .tmp 5]) = x_cd.b K v.1 v.2.1 (x_cd.g0 K v.1 v.2.1 K) := by kernel_rfl
  rw [k0] at e
  refine e.trans ?_
  kernel_rfl)
noncomputable def x_8b (K : Nat) : FSp := { ps := [.val true x_da [.f, .f, .f, .f], .val true x_p8 [.x 0, .x 0, .x 0, .f, .x 0, .x 0], .val true eCmd [.f, .f, .f, .f, .f, .f, .f, .f]], rs := [(true, x_p8, [.x 0, .x 0, .x 0, .f, .x 0, .x 0]), (true, x_2, [.f, .f, .f, .f])], fn := fun v => x_68 K v.1 v.2.1 v.2.2.1 }
noncomputable def t_s_l6Row (K : Nat) : Tab := x_ai (tiOf tys) [(195, x_8o K), (196, x_yk K), (197, x_kd K), (51, x_e5 K), (52, x_fz K)]
def h_s_l6Row : Hint := ⟨msk [248, 33016, 240, 1073774840, 960, 192, 2199023288568, 3264, 192, 2251799813718264, 12496, 36893488147419107536, 110680464442257314000, 192, 1180591620717411307728, 192, 192, 4835703278458516698824952, 240, 8184], fun r i => [(19, 9), (19, 10)].contains (r, i), fun _ => false, fun _ => none⟩
noncomputable def c_s_l6Row : Code := Tryz.f170.body.getD .skip
theorem x_ah0 (K : Nat) : FOk Tryz.prog 170 (x_8b K) :=
 x_a (T := t_s_l6Row K) (H := h_s_l6Row) (K := K) (c := c_s_l6Row) (ts := [.cell 6 43, .cell 7 33]) Tryz.func170 (by kernel_rfl) (by kernel_rfl) (by kernel_rfl) rfl
  (tokc (x_ahi K) (tokc (x_56 K) (tokc (x_aaw K) (tokc (x_vg K) (tokc (x_vr K) (tok0 x_k)))))) mixed
  (fun v => by kernel_rfl)
noncomputable def x_na (K : Nat) : FSp := { ps := [.val true x_da [.f, .f, .f, .f], .val true x_p8 [.x 0, .x 0, .x 0, .f, .x 0, .x 0], .val true eCmd [.f, .f, .f, .f, .f, .f, .f, .f]], rs := [(true, x_p8, [.x 0, .x 0, .x 0, .f, .x 0, .x 0]), (true, x_2, [.f, .f, .f, .f])], fn := fun v => x_dk K v.1 v.2.1 v.2.2.1 }
noncomputable def x_pw (K : Nat) : Tab := x_ai (tiOf tys) [(168, x_ik), (58, x_dr K), (30, x_bv), (169, x_x9 K), (170, x_8b K)]
def x_0m : Hint := ⟨msk [248, 33016, 208, 464, 134218192, 464, 464, 7928, 281474976710904, 2251799813685496, 192, 1728, 192, 147573952589676413176, 192, 6336, 192], fun r i => [(7, 4), (7, 5)].contains (r, i), fun _ => false, fun _ => none⟩
noncomputable def x_zm : Code := Tryz.f144.body.getD .skip
noncomputable def x_dk.g0 (K : Nat) (a0 : x_n) (a1 : x_ao) (a2 : TCmd) (n : Nat) (q0 : Int) (q1 : List x_o) (v1 : Int × Unit) : Option (x_ao × x_a2 × Unit) :=
 lpg (x_pw K) x_0m K x_zm [.r, .l, .r, .t, .r, .l, .r, .b] n ⟨List.replicate 4 .dead ++ [.one (.ptr 4 1 0), .dead, .one (.ptr 6 1 0), .one (.ptr 7 1 0), .one (.val .f (.i .i64) q0)] ++ List.replicate 70 .dead, List.replicate 4 none ++ [some (1, [.val (.x 0) (.sl eRow) a1.1, .val (.x 0) (.sl x_at) a1.2.1, .val (.x 0) (.sl x_ar) q1, .val .f (.i .i64) v1.1, .val (.x 0) (.sl (.i .i64)) a1.2.2.2.2.1, .val (.x 0) (.sl x_2) a1.2.2.2.2.2]), none, some (1, [.val (.x 0) (.sl eRow) [], .val (.x 0) (.sl x_at) [], .val (.x 0) (.sl x_ar) [], .val .f (.i .i64) 0, .val (.x 0) (.sl (.i .i64)) [], .val (.x 0) (.sl x_2) []]), some (1, [.val .f (.i .i64) 0, .val .f (.i .i64) 0, .val .f .s ByteArray.empty, .val .f .s ByteArray.empty])] ++ List.replicate 71 none⟩ (endK (x_pw K).toEnv (x_na K) [.cell 6 43, .cell 7 33])
theorem x_dk.ok0 (K : Nat) (a0 : x_n) (a1 : x_ao) (a2 : TCmd) (n : Nat) : x_dk.g0 K a0 a1 a2 n = x_dk.l0 K a0 a1 a2 n := by
 induction n with
 | zero =>
  funext q0 q1 v1
  kernel_rfl
 | succ n ih =>
  funext q0 q1 v1
  have e : x_dk.g0 K a0 a1 a2 (n + 1) q0 q1 v1 = x_dk.l0b K a0 a1 a2 (x_dk.g0 K a0 a1 a2 n) q0 q1 v1 := by kernel_rfl
  rw [ih] at e
  refine e.trans ?_
  kernel_rfl
theorem x_aed (K : Nat) : FOk Tryz.prog 144 (x_na K) :=
 x_a (T := x_pw K) (H := x_0m) (K := K) (c := x_zm) (ts := [.cell 6 43, .cell 7 33]) Tryz.func144 (by kernel_rfl) (by kernel_rfl) (by kernel_rfl) rfl
  (tokc (x_id) (tokc (x_o9 K) (tokc (x_bc) (tokc (x_57 K) (tokc (x_ah0 K) (tok0 x_k)))))) mixed
  (fun v => by
  have k0 := x_dk.ok0 K v.1 v.2.1 v.2.2.1 K
  have e : run (x_pw K) x_0m K x_zm (x_ax (x_na K).pk (x_na K).ps Tryz.f144.ntmps (lv _ v)) (endK (x_pw K).toEnv (x_na K) [.cell 6 43, .cell 7 33]) = x_dk.b K v.1 v.2.1 v.2.2.1 (x_dk.g0 K v.1 v.2.1 v.2.2.1 K) := by kernel_rfl
  rw [k0] at e
  refine e.trans ?_
  kernel_rfl)
noncomputable def x_54 (K : Nat) : FSp := { ps := [.val true x_da [.f, .f, .f, .f], .val true x_p8 [.r, .r, .r, .f, .r, .r], .val true eCmd [.f, .f, .f, .f, .f, .f, .f, .f]], rs := [(true, x_p8, [.x 0, .x 0, .x 0, .f, .x 0, .x 0]), (true, x_2, [.f, .f, .f, .f])], fn := fun v => x_ada K v.1 v.2.1 v.2.2.1 }
noncomputable def t_s_l6Do (K : Nat) : Tab := x_ai (tiOf tys) [(63, x_dc K), (144, x_na K)]
def h_s_l6Do : Hint := ⟨msk [248, 4344, 192, 16777464, 192, 992, 992, 960, 192], fun _ _ => false, fun _ => false, fun _ => none⟩
noncomputable def c_s_l6Do : Code := Tryz.f123.body.getD .skip
theorem x_6w (K : Nat) : FOk Tryz.prog 123 (x_54 K) :=
 x_a (T := t_s_l6Do K) (H := h_s_l6Do) (K := K) (c := c_s_l6Do) (ts := [.cell 6 43, .cell 7 33]) Tryz.func123 (by kernel_rfl) (by kernel_rfl) (by kernel_rfl) rfl
  (tokc (x_jd K) (tokc (x_aed K) (tok0 x_k))) mixed
  (fun v => by kernel_rfl)
noncomputable def x_1v (K : Nat) : FSp := { ps := [.val true x_da [.f, .f, .f, .f], .val true x_p8 [.r, .r, .r, .f, .r, .r], .val true eCmd [.f, .f, .f, .f, .f, .f, .f, .f]], rs := [(true, x_p8, [.x 0, .x 0, .x 0, .f, .x 0, .x 0])], fn := fun v => x_0f K v.1 v.2.1 v.2.2.1 }
noncomputable def x_aho (K : Nat) : Tab := x_ai (tiOf tys) [(123, x_54 K)]
def x_ad8 : Hint := ⟨msk [120, 192, 64], fun _ _ => false, fun _ => false, fun _ => none⟩
noncomputable def x_afu : Code := Tryz.f214.body.getD .skip
theorem x_84 (K : Nat) : FOk Tryz.prog 214 (x_1v K) :=
 x_a (T := x_aho K) (H := x_ad8) (K := K) (c := x_afu) (ts := [.cell 6 43]) Tryz.func214 (by kernel_rfl) (by kernel_rfl) (by kernel_rfl) rfl
  (tokc (x_6w K) (tok0 x_k)) mixed
  (fun v => by kernel_rfl)
end Go.Proofs.YtkdamnchchhjeaaGreatDoor.Fs
