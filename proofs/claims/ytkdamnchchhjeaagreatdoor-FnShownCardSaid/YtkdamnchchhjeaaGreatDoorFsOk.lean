/- The functions compute what is told of them. -/
import Derived.Test.YtkdamnchchhjeaaGreatDoorFsOk12
set_option linter.all false
set_option maxRecDepth 100000
namespace Go.Proofs.YtkdamnchchhjeaaGreatDoor.Fs
open Go Go.Kn
noncomputable def x_ed (K : Nat) : FSp := { ps := [.val false (.i .i64) [.f]], rs := [(false, .s, [.f])], fn := fun v => x_al K v.1 }
noncomputable def x_mh (K : Nat) : Tab := x_ai (tiOf tys) []
def x_vo : Hint := ⟨msk [1, 129, 4, 9, 25, 2073, 57, 32825, 57, 25, 25, 134217744, 4, 4], fun _ _ => false, fun _ => false, fun _ => none⟩
noncomputable def x_vs : Code := Tryz.f27.body.getD .skip
noncomputable def x_al.g0 (K : Nat) (a0 : Int) (n : Nat) (q0 : Int) (q1 : ByteArray) : Option (ByteArray × Unit) :=
 lpg (x_mh K) x_vo K x_vs [.r, .r, .r, .r, .l, .b] n ⟨[.one (.val .f (.i .i64) q0), .dead, .dead, .one (.val .f .b (decide (a0 < 0))), .one (.val .f .s q1)] ++ List.replicate 26 .dead, List.replicate 31 none⟩ (endK (x_mh K).toEnv (x_ed K) [.tmp 2])
theorem x_al.ok0 (K : Nat) (a0 : Int) (n : Nat) : x_al.g0 K a0 n = x_al.l0 K a0 n := by
 induction n with
 | zero =>
  funext q0 q1
  kernel_rfl
 | succ n ih =>
  funext q0 q1
  have e : x_al.g0 K a0 (n + 1) q0 q1 = x_al.l0b K a0 (x_al.g0 K a0 n) q0 q1 := by kernel_rfl
  rw [ih] at e
  refine e.trans ?_
  kernel_rfl
theorem x_jp (K : Nat) : FOk Tryz.prog 27 (x_ed K) :=
 x_a (T := x_mh K) (H := x_vo) (K := K) (c := x_vs) (ts := [.tmp 2]) Tryz.func27 (by kernel_rfl) (by kernel_rfl) (by kernel_rfl) rfl
  (tok0 x_k) mixed
  (fun v => by
  have k0 := x_al.ok0 K v.1 K
  have e : run (x_mh K) x_vo K x_vs (x_ax (x_ed K).pk (x_ed K).ps Tryz.f27.ntmps (lv _ v)) (endK (x_mh K).toEnv (x_ed K) [.tmp 2]) = x_al.b K v.1 (x_al.g0 K v.1 K) := by kernel_rfl
  rw [k0] at e
  refine e.trans ?_
  kernel_rfl)
noncomputable def x_ha (K : Nat) : FSp := { ps := [.val true eRow [.f, .f, .r]], rs := [(false, .s, [.f])], fn := fun v => x_a5 K v.1 }
noncomputable def x_ju (K : Nat) : Tab := x_ai (tiOf tys) [(27, x_ed K)]
def x_qy : Hint := ⟨msk [2, 10, 26, 8388634, 26, 26, 4], fun _ _ => false, fun _ => false, fun _ => none⟩
noncomputable def x_qu : Code := Tryz.f12.body.getD .skip
noncomputable def x_a5.g0 (K : Nat) (a0 : TRow) (n : Nat) (q0 : ByteArray) (q1 : Int) : Option (ByteArray × Unit) :=
 lpg (x_ju K) x_qy K x_qu [.r, .r, .l, .r, .b] n ⟨[.dead, .one (.ptr 1 1 0), .dead, .one (.val .f .s q0), .one (.val .f (.i .i64) q1)] ++ List.replicate 41 .dead, [none, some (1, [.val .f (.i .i64) a0.1, .val .f (.i .i64) a0.2.1, .val .r (.sl x_ou) a0.2.2])] ++ List.replicate 44 none⟩ (endK (x_ju K).toEnv (x_ha K) [.tmp 2])
theorem x_a5.ok0 (K : Nat) (a0 : TRow) (n : Nat) : x_a5.g0 K a0 n = x_a5.l0 K a0 n := by
 induction n with
 | zero =>
  funext q0 q1
  kernel_rfl
 | succ n ih =>
  funext q0 q1
  have e : x_a5.g0 K a0 (n + 1) q0 q1 = x_a5.l0b K a0 (x_a5.g0 K a0 n) q0 q1 := by kernel_rfl
  rw [ih] at e
  refine e.trans ?_
  kernel_rfl
theorem x_5j (K : Nat) : FOk Tryz.prog 12 (x_ha K) :=
 x_a (T := x_ju K) (H := x_qy) (K := K) (c := x_qu) (ts := [.tmp 2]) Tryz.func12 (by kernel_rfl) (by kernel_rfl) (by kernel_rfl) rfl
  (tokc (x_jp K) (tok0 x_k)) mixed
  (fun v => by
  have k0 := x_a5.ok0 K v.1 K
  have e : run (x_ju K) x_qy K x_qu (x_ax (x_ha K).pk (x_ha K).ps Tryz.f12.ntmps (lv _ v)) (endK (x_ju K).toEnv (x_ha K) [.tmp 2]) = x_a5.b K v.1 (x_a5.g0 K v.1 K) := by kernel_rfl
  rw [k0] at e
  refine e.trans ?_
  kernel_rfl)
noncomputable def x_du (K : Nat) : FSp := { ps := [.val true x_ar [.f, .r, .r, .r]], rs := [(false, .s, [.f])], fn := fun v => x_l K v.1 }
noncomputable def x_dw (K : Nat) : Tab := x_ai (tiOf tys) [(26, x_kb), (28, x_13)]
def x_it : Hint := ⟨msk [2, 10, 114698, 245770, 114746, 114778, 134332506, 114762, 114698, 114698, 10, 492581209243656, 1055531162664968, 492581209243912, 492581209243656, 492581209243656, 4], fun _ _ => false, fun _ => false, fun _ => none⟩
noncomputable def x_ih : Code := Tryz.f13.body.getD .skip
noncomputable def x_l.g0 (K : Nat) (a0 : x_o) (n : Nat) (q0 : List ByteArray) (q1 : Int) : Option (ByteArray × Unit) :=
 lpg (x_dw K) x_it K x_ih [.r, .r, .l, .r, .b] n ⟨[.dead, .one (.ptr 1 1 0), .dead, .one (.val (.x 0) (.sl .s) q0)] ++ List.replicate 10 .dead ++ [.one (.val .r (.sl (.i .i64)) a0.2.1), .one (.val .f (.i .i64) ((a0.2.1.length : Nat) : Int)), .one (.val .f (.i .i64) q1)] ++ List.replicate 43 .dead, [none, some (1, [.val .f (.i .i64) a0.1, .val .r (.sl (.i .i64)) a0.2.1, .val .r (.sl (.i .i64)) a0.2.2.1, .val .r (.sl (.i .i64)) a0.2.2.2])] ++ List.replicate 58 none⟩ (endK (x_dw K).toEnv (x_du K) [.tmp 2])
noncomputable def x_l.g1 (K : Nat) (a0 : x_o) (n : Nat) (q2 : List ByteArray) (q3 : Int) : Option (ByteArray × Unit) :=
 lpg (x_dw K) x_it K x_ih [.r, .r, .r, .r, .l, .r, .b] n ⟨[.dead, .dead, .dead, .one (.val (.x 0) (.sl .s) q2)] ++ List.replicate 42 .dead ++ [.one (.val .r (.sl (.i .i64)) a0.2.2.2), .one (.val .f (.i .i64) ((a0.2.2.2.length : Nat) : Int)), .one (.val .f (.i .i64) q3)] ++ List.replicate 11 .dead, List.replicate 60 none⟩ (endK (x_dw K).toEnv (x_du K) [.tmp 2])
theorem x_l.ok1 (K : Nat) (a0 : x_o) (n : Nat) : x_l.g1 K a0 n = x_l.l1 K a0 n := by
 induction n with
 | zero =>
  funext q2 q3
  kernel_rfl
 | succ n ih =>
  funext q2 q3
  have e : x_l.g1 K a0 (n + 1) q2 q3 = x_l.l1b K a0 (x_l.g1 K a0 n) q2 q3 := by kernel_rfl
  rw [ih] at e
  refine e.trans ?_
  kernel_rfl
theorem x_l.ok0 (K : Nat) (a0 : x_o) (n : Nat) : x_l.g0 K a0 n = x_l.l0 K a0 n := by
 induction n with
 | zero =>
  funext q0 q1
  kernel_rfl
 | succ n ih =>
  have k1 := x_l.ok1 K a0 K
  funext q0 q1
  have e : x_l.g0 K a0 (n + 1) q0 q1 = x_l.l0b K a0 (x_l.g0 K a0 n) (x_l.g1 K a0 K) q0 q1 := by kernel_rfl
  rw [ih, k1] at e
  refine e.trans ?_
  kernel_rfl
theorem x_0t (K : Nat) : FOk Tryz.prog 13 (x_du K) :=
 x_a (T := x_dw K) (H := x_it) (K := K) (c := x_ih) (ts := [.tmp 2]) Tryz.func13 (by kernel_rfl) (by kernel_rfl) (by kernel_rfl) rfl
  (tokc (x_ke) (tokc (ok_lJoin) (tok0 x_k))) mixed
  (fun v => by
  have k0 := x_l.ok0 K v.1 K
  have e : run (x_dw K) x_it K x_ih (x_ax (x_du K).pk (x_du K).ps Tryz.f13.ntmps (lv _ v)) (endK (x_dw K).toEnv (x_du K) [.tmp 2]) = x_l.b K v.1 (x_l.g0 K v.1 K) := by kernel_rfl
  rw [k0] at e
  refine e.trans ?_
  kernel_rfl)
noncomputable def x_dp (K : Nat) : FSp := { ps := [.val true x_ar [.f, .r, .r, .r]], rs := [(false, .s, [.f])], fn := fun v => x_m K v.1 }
noncomputable def x_do (K : Nat) : Tab := x_ai (tiOf tys) [(27, x_ed K)]
def x_im : Hint := ⟨msk [2, 10, 26, 8218, 26, 26, 536870938, 26, 10, 42, 35184372088874, 42, 42, 4], fun _ _ => false, fun _ => false, fun _ => none⟩
noncomputable def x_ir : Code := Tryz.f14.body.getD .skip
noncomputable def x_m.g0 (K : Nat) (a0 : x_o) (n : Nat) (q0 : ByteArray) (q1 : Int) : Option (ByteArray × Unit) :=
 lpg (x_do K) x_im K x_ir [.r, .r, .l, .r, .b] n ⟨[.dead, .one (.ptr 1 1 0), .dead, .one (.val .f .s q0), .one (.val .f (.i .i64) q1)] ++ List.replicate 53 .dead, [none, some (1, [.val .f (.i .i64) a0.1, .val .r (.sl (.i .i64)) a0.2.1, .val .r (.sl (.i .i64)) a0.2.2.1, .val .r (.sl (.i .i64)) a0.2.2.2])] ++ List.replicate 56 none⟩ (endK (x_do K).toEnv (x_dp K) [.tmp 2])
noncomputable def x_m.g1 (K : Nat) (a0 : x_o) (n : Nat) (q2 : ByteArray) (q3 : Int) : Option (ByteArray × Unit) :=
 lpg (x_do K) x_im K x_ir [.r, .r, .r, .r, .l, .r, .b] n ⟨[.dead, .one (.ptr 1 1 0), .dead, .one (.val .f .s q2), .dead, .one (.val .f (.i .i64) q3)] ++ List.replicate 52 .dead, [none, some (1, [.val .f (.i .i64) a0.1, .val .r (.sl (.i .i64)) a0.2.1, .val .r (.sl (.i .i64)) a0.2.2.1, .val .r (.sl (.i .i64)) a0.2.2.2])] ++ List.replicate 56 none⟩ (endK (x_do K).toEnv (x_dp K) [.tmp 2])
theorem x_m.ok1 (K : Nat) (a0 : x_o) (n : Nat) : x_m.g1 K a0 n = x_m.l1 K a0 n := by
 induction n with
 | zero =>
  funext q2 q3
  kernel_rfl
 | succ n ih =>
  funext q2 q3
  have e : x_m.g1 K a0 (n + 1) q2 q3 = x_m.l1b K a0 (x_m.g1 K a0 n) q2 q3 := by kernel_rfl
  rw [ih] at e
  refine e.trans ?_
  kernel_rfl
theorem x_m.ok0 (K : Nat) (a0 : x_o) (n : Nat) : x_m.g0 K a0 n = x_m.l0 K a0 n := by
 induction n with
 | zero =>
  funext q0 q1
  kernel_rfl
 | succ n ih =>
  have k1 := x_m.ok1 K a0 K
  funext q0 q1
  have e : x_m.g0 K a0 (n + 1) q0 q1 = x_m.l0b K a0 (x_m.g0 K a0 n) (x_m.g1 K a0 K) q0 q1 := by kernel_rfl
  rw [ih, k1] at e
  refine e.trans ?_
  kernel_rfl
theorem x_zt (K : Nat) : FOk Tryz.prog 14 (x_dp K) :=
 x_a (T := x_do K) (H := x_im) (K := K) (c := x_ir) (ts := [.tmp 2]) Tryz.func14 (by kernel_rfl) (by kernel_rfl) (by kernel_rfl) rfl
  (tokc (x_jp K) (tok0 x_k)) mixed
  (fun v => by
  have k0 := x_m.ok0 K v.1 K
  have e : run (x_do K) x_im K x_ir (x_ax (x_dp K).pk (x_dp K).ps Tryz.f14.ntmps (lv _ v)) (endK (x_do K).toEnv (x_dp K) [.tmp 2]) = x_m.b K v.1 (x_m.g0 K v.1 K) := by kernel_rfl
  rw [k0] at e
  refine e.trans ?_
  kernel_rfl)
noncomputable def x_p1 : FSp := { ps := [.val true x_2 [.f, .f, .f, .f]], rs := [(false, .s, [.f])], fn := fun v => x_kx v.1 }
noncomputable def x_zl (K : Nat) : Tab := x_ai (tiOf tys) [(29, x_t2), (26, x_kb)]
def x_zp : Hint := ⟨msk [2, 10, 26, 282, 18, 4], fun _ _ => false, fun _ => false, fun _ => none⟩
noncomputable def x_zo : Code := Tryz.f15.body.getD .skip
theorem x_wm : FOk Tryz.prog 15 (x_p1) := by
 let K := 0
 exact
 x_a (T := x_zl K) (H := x_zp) (K := K) (c := x_zo) (ts := [.tmp 2]) Tryz.func15 (by kernel_rfl) (by kernel_rfl) (by kernel_rfl) rfl
  (tokc (x_xz) (tokc (x_ke) (tok0 x_k))) mixed
  (fun v => by kernel_rfl)
noncomputable def x_pc (K : Nat) : FSp := { ps := [.val true x_2 [.f, .f, .f, .f]], rs := [(false, .s, [.f])], fn := fun v => x_kn K v.1 }
noncomputable def x_0s (K : Nat) : Tab := x_ai (tiOf tys) [(30, x_bv), (27, x_ed K)]
def x_z7 : Hint := ⟨msk [2, 10, 26, 2074, 18, 4], fun _ _ => false, fun _ => false, fun _ => none⟩
noncomputable def x_zk : Code := Tryz.f16.body.getD .skip
theorem x_wh (K : Nat) : FOk Tryz.prog 16 (x_pc K) :=
 x_a (T := x_0s K) (H := x_z7) (K := K) (c := x_zk) (ts := [.tmp 2]) Tryz.func16 (by kernel_rfl) (by kernel_rfl) (by kernel_rfl) rfl
  (tokc (x_bc) (tokc (x_jp K) (tok0 x_k))) mixed
  (fun v => by kernel_rfl)
noncomputable def x_es (K : Nat) : FSp := { ps := [.val true x_hh [.f, .f, .f, .f, .f, .r, .r, .r, .r, .f, .r, .r, .f, .r, .r, .r, .f, .r, .r, .r, .f, .r, .r, .r, .f, .r]], rs := [(false, .s, [.f])], fn := fun v => x_7 K v.1 }
noncomputable def x_h3 (K : Nat) : Tab := x_ai (tiOf tys) [(32, x_cc), (27, x_ed K)]
def x_ot : Hint := ⟨msk [2, 10, 522, 1546, 10, 4106, 10, 26, 72, 200, 274877907144, 200, 200, 4], fun _ _ => false, fun _ => false, fun _ => none⟩
noncomputable def x_o0 : Code := Tryz.f18.body.getD .skip
noncomputable def x_7.g0 (K : Nat) (a0 : x_bt) (n : Nat) (q2 : ByteArray) (v2 : Int × Int × Unit) (q3 : Int) : Option (ByteArray × Unit) :=
 lpg (x_h3 K) x_ot K x_o0 [.r, .r, .r, .r, .r, .l, .r, .b] n ⟨[.dead, .dead, .dead, .one (.val .f .s q2), .dead, .dead, .one (.val (.x 0) (.sl (.i .i64)) [a0.2.1.1, v2.1, a0.2.2.2.2.2.2.1, a0.2.1.2.2.1.1, ((a0.2.2.2.2.2.2.2.2.2.length : Nat) : Int)]), .one (.val .f (.i .i64) q3)] ++ List.replicate 42 .dead, List.replicate 50 none⟩ (endK (x_h3 K).toEnv (x_es K) [.tmp 2])
theorem x_7.ok0 (K : Nat) (a0 : x_bt) (n : Nat) : x_7.g0 K a0 n = x_7.l0 K a0 n := by
 induction n with
 | zero =>
  funext q2 v2 q3
  kernel_rfl
 | succ n ih =>
  funext q2 v2 q3
  have e : x_7.g0 K a0 (n + 1) q2 v2 q3 = x_7.l0b K a0 (x_7.g0 K a0 n) q2 v2 q3 := by kernel_rfl
  rw [ih] at e
  refine e.trans ?_
  kernel_rfl
theorem x_r0 (K : Nat) : FOk Tryz.prog 18 (x_es K) :=
 x_a (T := x_h3 K) (H := x_ot) (K := K) (c := x_o0) (ts := [.tmp 2]) Tryz.func18 (by kernel_rfl) (by kernel_rfl) (by kernel_rfl) rfl
  (tokc (x_b1) (tokc (x_jp K) (tok0 x_k))) mixed
  (fun v => by
  have k0 := x_7.ok0 K v.1 K
  have e : run (x_h3 K) x_ot K x_o0 (x_ax (x_es K).pk (x_es K).ps Tryz.f18.ntmps (lv _ v)) (endK (x_h3 K).toEnv (x_es K) [.tmp 2]) = x_7.b K v.1 (x_7.g0 K v.1 K) := by kernel_rfl
  rw [k0] at e
  refine e.trans ?_
  kernel_rfl)
noncomputable def x_e9 (K : Nat) : FSp := { ps := [.val true x_d8 [.f, .f, .f, .f, .f, .r, .r, .r, .r, .r, .r]], rs := [(false, .s, [.f])], fn := fun v => x_aj K v.1 }
noncomputable def x_gt (K : Nat) : Tab := x_ai (tiOf tys) [(27, x_ed K), (18, x_es K)]
def x_mk : Hint := ⟨msk [2, 10, 26, 538, 26, 26, 4], fun _ _ => false, fun _ => false, fun _ => none⟩
noncomputable def x_ms : Code := Tryz.f19.body.getD .skip
noncomputable def x_aj.g0 (K : Nat) (a0 : x_r) (n : Nat) (q0 : ByteArray) (q1 : Int) : Option (ByteArray × Unit) :=
 lpg (x_gt K) x_mk K x_ms [.r, .r, .l, .r, .b] n ⟨[.dead, .one (.ptr 1 1 0), .dead, .one (.val .f .s q0), .one (.val .f (.i .i64) q1)] ++ List.replicate 40 .dead, [none, some (1, [.val .f (.i .i64) a0.1.1, .val .f (.i .i64) a0.1.2.1, .val .f (.i .i64) a0.1.2.2.1, .val .f (.i .i64) a0.1.2.2.2, .val .f (.i .i64) a0.2.1, .val .r (.sl x_hh) a0.2.2.1, .val .r (.sl eRpc) a0.2.2.2.1, .val .r (.sl eCmd) a0.2.2.2.2.1, .val .r (.sl (.i .i64)) a0.2.2.2.2.2.1, .val .r (.sl x_j8) a0.2.2.2.2.2.2.1, .val .r (.sl eCmd) a0.2.2.2.2.2.2.2])] ++ List.replicate 43 none⟩ (endK (x_gt K).toEnv (x_e9 K) [.tmp 2])
theorem x_aj.ok0 (K : Nat) (a0 : x_r) (n : Nat) : x_aj.g0 K a0 n = x_aj.l0 K a0 n := by
 induction n with
 | zero =>
  funext q0 q1
  kernel_rfl
 | succ n ih =>
  funext q0 q1
  have e : x_aj.g0 K a0 (n + 1) q0 q1 = x_aj.l0b K a0 (x_aj.g0 K a0 n) q0 q1 := by kernel_rfl
  rw [ih] at e
  refine e.trans ?_
  kernel_rfl
theorem x_0i (K : Nat) : FOk Tryz.prog 19 (x_e9 K) :=
 x_a (T := x_gt K) (H := x_mk) (K := K) (c := x_ms) (ts := [.tmp 2]) Tryz.func19 (by kernel_rfl) (by kernel_rfl) (by kernel_rfl) rfl
  (tokc (x_jp K) (tokc (x_r0 K) (tok0 x_k))) mixed
  (fun v => by
  have k0 := x_aj.ok0 K v.1 K
  have e : run (x_gt K) x_mk K x_ms (x_ax (x_e9 K).pk (x_e9 K).ps Tryz.f19.ntmps (lv _ v)) (endK (x_gt K).toEnv (x_e9 K) [.tmp 2]) = x_aj.b K v.1 (x_aj.g0 K v.1 K) := by kernel_rfl
  rw [k0] at e
  refine e.trans ?_
  kernel_rfl)
noncomputable def x_ab2 (K : Nat) : FSp := lawF [(false, (.sl (.i .u8)))] fun v => x_s0 K v.1
noncomputable def x_9w (K : Nat) : Tab := x_ai (tiOf tys) [(4, F_l_big), (5, x_nx K), (6, x_ld K), (7, x_je K), (8, x_l0 K), (9, x_lc K), (10, x_fa K), (11, x_hi K), (12, x_ha K), (13, x_du K), (14, x_dp K), (15, x_p1), (16, x_pc K), (17, x_dv K), (18, x_es K), (19, x_e9 K)]
def x_aac : Hint := ⟨msk [1, 1025, 4, 9, 25, 57, 121, 248, 504, 18014398509482240, 4, 4], fun _ _ => false, fun _ => false, fun _ => none⟩
noncomputable def x_abq : Code := Tryz.f3.body.getD .skip
theorem x_4e (K : Nat) : FOk Tryz.prog 3 (x_ab2 K) :=
 x_a (T := x_9w K) (H := x_aac) (K := K) (c := x_abq) (ts := [.tmp 2]) Tryz.func3 (by kernel_rfl) (by kernel_rfl) (by kernel_rfl) rfl
  (tokc (ok_l_big) (tokc (x_ue K) (tokc (x_rh K) (tokc (x_pi K) (tokc (x_sq K) (tokc (x_qo K) (tokc (x_yy K) (tokc (x_6k K) (tokc (x_5j K) (tokc (x_0t K) (tokc (x_zt K) (tokc (x_wm) (tokc (x_wh K) (tokc (x_ry K) (tokc (x_r0 K) (tokc (x_0i K) (tok0 x_k))))))))))))))))) mixed
  (fun v => by kernel_rfl)
end Go.Proofs.YtkdamnchchhjeaaGreatDoor.Fs
