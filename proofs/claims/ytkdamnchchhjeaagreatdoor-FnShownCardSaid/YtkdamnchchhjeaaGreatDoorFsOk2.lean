/- The functions compute what is told of them. -/
import Derived.Test.YtkdamnchchhjeaaGreatDoorFsOk1
set_option linter.all false
set_option maxRecDepth 100000
namespace Go.Proofs.YtkdamnchchhjeaaGreatDoor.Fs
open Go Go.Kn
noncomputable def x_e1 (K : Nat) : FSp := { ps := [.val true x_da [.f, .f, .f, .f]], rs := [(true, x_p8, [.x 0, .x 0, .x 0, .f, .x 0, .x 0])], fn := fun v => x_bg K v.1 }
noncomputable def x_jj (K : Nat) : Tab := x_ai (tiOf tys) [(110, x_e7), (56, x_oj)]
def x_qs : Hint := ⟨msk [6, 134, 4, 14, 30, 65566, 30, 30, 4], fun _ _ => false, fun _ => false, fun _ => none⟩
noncomputable def x_qv : Code := Tryz.f115.body.getD .skip
noncomputable def x_bg.g0 (K : Nat) (a0 : x_n) (n : Nat) (q0 : Int) (q1 : List x_o) : Option (x_ao × Unit) :=
 lpg (x_jj K) x_qs K x_qv [.r, .r, .r, .l, .r, .b] n ⟨[.dead, .one (.ptr 1 1 0), .one (.ptr 2 1 0), .one (.ptr 3 1 0), .one (.val .f (.i .i64) q0)] ++ List.replicate 23 .dead, [none, some (1, [.val .f (.i .i64) a0.1, .val .f (.i .i64) a0.2.1, .val .f (.i .i64) a0.2.2.1, .val .f (.i .i64) a0.2.2.2]), some (1, [.val (.x 0) (.sl eRow) [], .val (.x 0) (.sl x_at) [], .val (.x 0) (.sl x_ar) [], .val .f (.i .i64) 0, .val (.x 0) (.sl (.i .i64)) [], .val (.x 0) (.sl x_2) []]), some (1, [.val (.x 0) (.sl eRow) (List.replicate (Int.toNat a0.1) zRow), .val (.x 0) (.sl x_at) [], .val (.x 0) (.sl x_ar) q1, .val .f (.i .i64) 0, .val (.x 0) (.sl (.i .i64)) (List.replicate 4 0), .val (.x 0) (.sl x_2) (List.replicate 4 x_e6)])] ++ List.replicate 24 none⟩ (endK (x_jj K).toEnv (x_e1 K) [.cell 2 43])
theorem x_bg.ok0 (K : Nat) (a0 : x_n) (n : Nat) : x_bg.g0 K a0 n = x_bg.l0 K a0 n := by
 induction n with
 | zero =>
  funext q0 q1
  kernel_rfl
 | succ n ih =>
  funext q0 q1
  have e : x_bg.g0 K a0 (n + 1) q0 q1 = x_bg.l0b K a0 (x_bg.g0 K a0 n) q0 q1 := by kernel_rfl
  rw [ih] at e
  refine e.trans ?_
  kernel_rfl
theorem x_oa (K : Nat) : FOk Tryz.prog 115 (x_e1 K) :=
 x_a (T := x_jj K) (H := x_qs) (K := K) (c := x_qv) (ts := [.cell 2 43]) Tryz.func115 (by kernel_rfl) (by kernel_rfl) (by kernel_rfl) rfl
  (tokc (x_ev) (tokc (x_sb) (tok0 x_k))) mixed
  (fun v => by
  have k0 := x_bg.ok0 K v.1 K
  have e : run (x_jj K) x_qs K x_qv (x_ax (x_e1 K).pk (x_e1 K).ps Tryz.f115.ntmps (lv _ v)) (endK (x_jj K).toEnv (x_e1 K) [.cell 2 43]) = x_bg.b K v.1 (x_bg.g0 K v.1 K) := by kernel_rfl
  rw [k0] at e
  refine e.trans ?_
  kernel_rfl)
noncomputable def x_m6 (K : Nat) : FSp := { ps := [.val true x_da [.f, .f, .f, .f]], rs := [(true, x_7y, [.f, .f, .f, .f, .x 0, .x 0, .x 0, .x 0, .f, .x 0, .x 0])], fn := fun v => x_mx K v.1 }
noncomputable def x_91 (K : Nat) : Tab := x_ai (tiOf tys) [(110, x_e7), (115, x_e1 K)]
def x_83 : Hint := ⟨msk [6, 38, 4, 4], fun _ _ => false, fun _ => false, fun _ => none⟩
noncomputable def x_abb : Code := Tryz.f93.body.getD .skip
theorem x_o5 (K : Nat) : FOk Tryz.prog 93 (x_m6 K) :=
 x_a (T := x_91 K) (H := x_83) (K := K) (c := x_abb) (ts := [.cell 2 45]) Tryz.func93 (by kernel_rfl) (by kernel_rfl) (by kernel_rfl) rfl
  (tokc (x_ev) (tokc (x_oa K) (tok0 x_k))) mixed
  (fun v => by kernel_rfl)
noncomputable def x_e8 (K : Nat) : FSp := { ps := [.val false (.i .i64) [.f], .val false (.i .i64) [.f]], rs := [(false, (.sl (.i .i64)), [.x 0])], fn := fun v => x_bh K v.1 v.2.1 }
noncomputable def x_jr (K : Nat) : Tab := x_ai (tiOf tys) []
def x_qk : Hint := ⟨msk [3, 35, 99, 1123, 99, 99, 16], fun _ _ => false, fun _ => false, fun _ => none⟩
noncomputable def x_rg : Code := Tryz.f128.body.getD .skip
noncomputable def x_bh.g0 (K : Nat) (a0 : Int) (a1 : Int) (n : Nat) (q0 : List Int) (q1 : Int) : Option ((List Int) × Unit) :=
 lpg (x_jr K) x_qk K x_rg [.r, .r, .l, .r, .b] n ⟨[.one (.val .f (.i .i64) a0), .one (.val .f (.i .i64) a1), .dead, .dead, .dead, .one (.val (.x 0) (.sl (.i .i64)) q0), .one (.val .f (.i .i64) q1)] ++ List.replicate 11 .dead, List.replicate 18 none⟩ (endK (x_jr K).toEnv (x_e8 K) [.tmp 4])
theorem x_bh.ok0 (K : Nat) (a0 : Int) (a1 : Int) (n : Nat) : x_bh.g0 K a0 a1 n = x_bh.l0 K a0 a1 n := by
 induction n with
 | zero =>
  funext q0 q1
  kernel_rfl
 | succ n ih =>
  funext q0 q1
  have e : x_bh.g0 K a0 a1 (n + 1) q0 q1 = x_bh.l0b K a0 a1 (x_bh.g0 K a0 a1 n) q0 q1 := by kernel_rfl
  rw [ih] at e
  refine e.trans ?_
  kernel_rfl
theorem x_og (K : Nat) : FOk Tryz.prog 128 (x_e8 K) :=
 x_a (T := x_jr K) (H := x_qk) (K := K) (c := x_rg) (ts := [.tmp 4]) Tryz.func128 (by kernel_rfl) (by kernel_rfl) (by kernel_rfl) rfl
  (tok0 x_k) mixed
  (fun v => by
  have k0 := x_bh.ok0 K v.1 v.2.1 K
  have e : run (x_jr K) x_qk K x_rg (x_ax (x_e8 K).pk (x_e8 K).ps Tryz.f128.ntmps (lv _ v)) (endK (x_jr K).toEnv (x_e8 K) [.tmp 4]) = x_bh.b K v.1 v.2.1 (x_bh.g0 K v.1 v.2.1 K) := by kernel_rfl
  rw [k0] at e
  refine e.trans ?_
  kernel_rfl)
noncomputable def x_cc : FSp := { ps := [.val true eLog [.f, .f, .r]], rs := [(false, (.i .i64), [.f]), (false, (.i .i64), [.f])], fn := fun v => x_cs v.1 }
noncomputable def x_ade (K : Nat) : Tab := x_ai (tiOf tys) []
def x_ahh : Hint := ⟨msk [2, 18, 530, 12, 12], fun _ _ => false, fun _ => false, fun _ => none⟩
noncomputable def x_adj : Code := Tryz.f32.body.getD .skip
theorem x_b1 : FOk Tryz.prog 32 (x_cc) := by
 let K := 0
 exact
 x_a (T := x_ade K) (H := x_ahh) (K := K) (c := x_adj) (ts := [.tmp 2, .tmp 3]) Tryz.func32 (by kernel_rfl) (by kernel_rfl) (by kernel_rfl) rfl
  (tok0 x_k) mixed
  (fun v => by kernel_rfl)
noncomputable def x_mw (K : Nat) : FSp := { ps := [.val true eCmd [.f, .f, .f, .f, .f, .f, .f, .f]], rs := [(false, .b, [.f])], fn := fun v => x_sa K v.1 }
noncomputable def t_s_CmdOk (K : Nat) : Tab := x_ai (tiOf tys) [(30, x_bv), (109, x_gy K)]
def h_s_CmdOk : Hint := ⟨msk [2, 34, 4, 4], fun _ _ => false, fun _ => false, fun _ => none⟩
noncomputable def c_s_CmdOk : Code := Tryz.f122.body.getD .skip
theorem x_l1 (K : Nat) : FOk Tryz.prog 122 (x_mw K) :=
 x_a (T := t_s_CmdOk K) (H := h_s_CmdOk) (K := K) (c := c_s_CmdOk) (ts := [.tmp 2]) Tryz.func122 (by kernel_rfl) (by kernel_rfl) (by kernel_rfl) rfl
  (tokc (x_bc) (tokc (x_q3 K) (tok0 x_k))) mixed
  (fun v => by kernel_rfl)
noncomputable def x_k0 (K : Nat) : FSp := { ps := [.val true eLog [.f, .f, .r]], rs := [(false, .b, [.f])], fn := fun v => x_c4 K v.1 }
noncomputable def x_p5 (K : Nat) : Tab := x_ai (tiOf tys) [(30, x_bv), (122, x_mw K)]
def x_0p : Hint := ⟨msk [2, 8388610, 4, 10, 26, 1073741850, 26, 2251799813685266, 4, 26, 4], fun _ _ => false, fun _ => false, fun _ => none⟩
noncomputable def x_1b : Code := Tryz.f134.body.getD .skip
noncomputable def x_c4.g0 (K : Nat) (a0 : TLog) (n : Nat) (q0 : Int) (q1 : Int) : Option (Bool × Unit) :=
 lpg (x_p5 K) x_0p K x_1b [.r, .r, .r, .l, .r, .b] n ⟨[.dead, .one (.ptr 1 1 0), .dead, .one (.val .f (.i .i64) q0), .one (.val .f (.i .i64) q1)] ++ List.replicate 53 .dead, [none, some (1, [.val .f (.i .i64) a0.1, .val .f (.i .i64) a0.2.1, .val .r (.sl x_ct) a0.2.2])] ++ List.replicate 56 none⟩ (endK (x_p5 K).toEnv (x_k0 K) [.tmp 2])
theorem x_c4.ok0 (K : Nat) (a0 : TLog) (n : Nat) : x_c4.g0 K a0 n = x_c4.l0 K a0 n := by
 induction n with
 | zero =>
  funext q0 q1
  kernel_rfl
 | succ n ih =>
  funext q0 q1
  have e : x_c4.g0 K a0 (n + 1) q0 q1 = x_c4.l0b K a0 (x_c4.g0 K a0 n) q0 q1 := by kernel_rfl
  rw [ih] at e
  refine e.trans ?_
  kernel_rfl
theorem x_30 (K : Nat) : FOk Tryz.prog 134 (x_k0 K) :=
 x_a (T := x_p5 K) (H := x_0p) (K := K) (c := x_1b) (ts := [.tmp 2]) Tryz.func134 (by kernel_rfl) (by kernel_rfl) (by kernel_rfl) rfl
  (tokc (x_bc) (tokc (x_l1 K) (tok0 x_k))) mixed
  (fun v => by
  have k0 := x_c4.ok0 K v.1 K
  have e : run (x_p5 K) x_0p K x_1b (x_ax (x_k0 K).pk (x_k0 K).ps Tryz.f134.ntmps (lv _ v)) (endK (x_p5 K).toEnv (x_k0 K) [.tmp 2]) = x_c4.b K v.1 (x_c4.g0 K v.1 K) := by kernel_rfl
  rw [k0] at e
  refine e.trans ?_
  kernel_rfl)
noncomputable def x_hk (K : Nat) : FSp := { ps := [.val true x_at [.f, .f, .f, .f, .r], .val false (.i .i64) [.f]], rs := [(false, .b, [.f])], fn := fun v => x_a3 K v.1 v.2.1 }
noncomputable def x_j5 (K : Nat) : Tab := x_ai (tiOf tys) [(30, x_bv)]
def x_rm : Hint := ⟨msk [6, 38, 1062, 38, 288230376151711782, 16, 9671406556917033397649412, 16, 16], fun _ _ => false, fun _ => false, fun _ => none⟩
noncomputable def x_rl : Code := Tryz.f189.body.getD .skip
noncomputable def x_a3.g0 (K : Nat) (a0 : x_v) (a1 : Int) (n : Nat) (q0 : Int) : Option (Bool × Unit) :=
 lpg (x_j5 K) x_rm K x_rl [.r, .l, .r, .b] n ⟨[.dead, .one (.val .f (.i .i64) a1), .one (.ptr 2 1 0), .dead, .dead, .one (.val .f (.i .i64) q0)] ++ List.replicate 96 .dead, [none, none, some (1, [.val .f (.i .i64) a0.1, .val .f (.i .i64) a0.2.1, .val .f (.i .i64) a0.2.2.1, .val .f (.i .i64) a0.2.2.2.1, .val .r (.sl x_38) a0.2.2.2.2])] ++ List.replicate 99 none⟩ (endK (x_j5 K).toEnv (x_hk K) [.tmp 4])
theorem x_a3.ok0 (K : Nat) (a0 : x_v) (a1 : Int) (n : Nat) : x_a3.g0 K a0 a1 n = x_a3.l0 K a0 a1 n := by
 induction n with
 | zero =>
  funext q0
  kernel_rfl
 | succ n ih =>
  funext q0
  have e : x_a3.g0 K a0 a1 (n + 1) q0 = x_a3.l0b K a0 a1 (x_a3.g0 K a0 a1 n) q0 := by kernel_rfl
  rw [ih] at e
  refine e.trans ?_
  kernel_rfl
theorem x_5f (K : Nat) : FOk Tryz.prog 189 (x_hk K) :=
 x_a (T := x_j5 K) (H := x_rm) (K := K) (c := x_rl) (ts := [.tmp 4]) Tryz.func189 (by kernel_rfl) (by kernel_rfl) (by kernel_rfl) rfl
  (tokc (x_bc) (tok0 x_k)) mixed
  (fun v => by
  have k0 := x_a3.ok0 K v.1 v.2.1 K
  have e : run (x_j5 K) x_rm K x_rl (x_ax (x_hk K).pk (x_hk K).ps Tryz.f189.ntmps (lv _ v)) (endK (x_j5 K).toEnv (x_hk K) [.tmp 4]) = x_a3.b K v.1 v.2.1 (x_a3.g0 K v.1 v.2.1 K) := by kernel_rfl
  rw [k0] at e
  refine e.trans ?_
  kernel_rfl)
noncomputable def x_gf (K : Nat) : FSp := { ps := [.val true x_da [.f, .f, .f, .f], .val false (.sl x_at) [.r]], rs := [(false, .b, [.f])], fn := fun v => x_ay K v.1 v.2.1 }
noncomputable def x_ia (K : Nat) : Tab := x_ai (tiOf tys) [(189, x_hk K)]
def x_ob : Hint := ⟨msk [6, 38, 1062, 38, 102, 268435558, 16, 9223372036854775846, 16, 16], fun _ _ => false, fun _ => false, fun _ => none⟩
noncomputable def x_om : Code := Tryz.f162.body.getD .skip
noncomputable def x_ay.g0 (K : Nat) (a0 : x_n) (a1 : List x_v) (n : Nat) (q0 : Int) : Option (Bool × Unit) :=
 lpg (x_ia K) x_ob K x_om [.r, .l, .r, .b] n ⟨[.dead, .one (.val .r (.sl x_at) a1), .one (.ptr 2 1 0), .dead, .dead, .one (.val .f (.i .i64) q0)] ++ List.replicate 58 .dead, [none, none, some (1, [.val .f (.i .i64) a0.1, .val .f (.i .i64) a0.2.1, .val .f (.i .i64) a0.2.2.1, .val .f (.i .i64) a0.2.2.2])] ++ List.replicate 61 none⟩ (endK (x_ia K).toEnv (x_gf K) [.tmp 4])
theorem x_ay.ok0 (K : Nat) (a0 : x_n) (a1 : List x_v) (n : Nat) : x_ay.g0 K a0 a1 n = x_ay.l0 K a0 a1 n := by
 induction n with
 | zero =>
  funext q0
  kernel_rfl
 | succ n ih =>
  funext q0
  have e : x_ay.g0 K a0 a1 (n + 1) q0 = x_ay.l0b K a0 a1 (x_ay.g0 K a0 a1 n) q0 := by kernel_rfl
  rw [ih] at e
  refine e.trans ?_
  kernel_rfl
theorem x_1k (K : Nat) : FOk Tryz.prog 162 (x_gf K) :=
 x_a (T := x_ia K) (H := x_ob) (K := K) (c := x_om) (ts := [.tmp 4]) Tryz.func162 (by kernel_rfl) (by kernel_rfl) (by kernel_rfl) rfl
  (tokc (x_5f K) (tok0 x_k)) mixed
  (fun v => by
  have k0 := x_ay.ok0 K v.1 v.2.1 K
  have e : run (x_ia K) x_ob K x_om (x_ax (x_gf K).pk (x_gf K).ps Tryz.f162.ntmps (lv _ v)) (endK (x_ia K).toEnv (x_gf K) [.tmp 4]) = x_ay.b K v.1 v.2.1 (x_ay.g0 K v.1 v.2.1 K) := by kernel_rfl
  rw [k0] at e
  refine e.trans ?_
  kernel_rfl)
noncomputable def x_f8 (K : Nat) : FSp := { ps := [.val true x_ar [.f, .r, .r, .r], .val false (.i .i64) [.f]], rs := [(false, .b, [.f])], fn := fun v => x_8 K v.1 v.2.1 }
noncomputable def x_ga (K : Nat) : Tab := x_ai (tiOf tys) [(30, x_bv)]
def x_m9 : Hint := ⟨msk [6, 67108868, 16, 36, 2147483684, 36, 147573952589676412964, 16, 68, 4722366482869645213764, 68, 2417851639229258349412420, 16, 16], fun _ _ => false, fun _ => false, fun _ => none⟩
noncomputable def x_nr : Code := Tryz.f163.body.getD .skip
noncomputable def x_8.g0 (K : Nat) (a0 : x_o) (a1 : Int) (n : Nat) (q0 : Int) : Option (Bool × Unit) :=
 lpg (x_ga K) x_m9 K x_nr [.r, .r, .l, .r, .b] n ⟨[.dead, .dead, .one (.ptr 2 1 0), .dead, .dead, .one (.val .f (.i .i64) q0)] ++ List.replicate 76 .dead, [none, none, some (1, [.val .f (.i .i64) a0.1, .val .r (.sl (.i .i64)) a0.2.1, .val .r (.sl (.i .i64)) a0.2.2.1, .val .r (.sl (.i .i64)) a0.2.2.2])] ++ List.replicate 79 none⟩ (endK (x_ga K).toEnv (x_f8 K) [.tmp 4])
noncomputable def x_8.g1 (K : Nat) (a0 : x_o) (a1 : Int) (n : Nat) (q1 : Int) : Option (Bool × Unit) :=
 lpg (x_ga K) x_m9 K x_nr [.r, .r, .r, .l, .r, .b] n ⟨[.dead, .dead, .one (.ptr 2 1 0), .dead, .dead, .dead, .one (.val .f (.i .i64) q1)] ++ List.replicate 75 .dead, [none, none, some (1, [.val .f (.i .i64) a0.1, .val .r (.sl (.i .i64)) a0.2.1, .val .r (.sl (.i .i64)) a0.2.2.1, .val .r (.sl (.i .i64)) a0.2.2.2])] ++ List.replicate 79 none⟩ (endK (x_ga K).toEnv (x_f8 K) [.tmp 4])
theorem x_8.ok1 (K : Nat) (a0 : x_o) (a1 : Int) (n : Nat) : x_8.g1 K a0 a1 n = x_8.l1 K a0 a1 n := by
 induction n with
 | zero =>
  funext q1
  kernel_rfl
 | succ n ih =>
  funext q1
  have e : x_8.g1 K a0 a1 (n + 1) q1 = x_8.l1b K a0 a1 (x_8.g1 K a0 a1 n) q1 := by kernel_rfl
  rw [ih] at e
  refine e.trans ?_
  kernel_rfl
theorem x_8.ok0 (K : Nat) (a0 : x_o) (a1 : Int) (n : Nat) : x_8.g0 K a0 a1 n = x_8.l0 K a0 a1 n := by
 induction n with
 | zero =>
  funext q0
  kernel_rfl
 | succ n ih =>
  have k1 := x_8.ok1 K a0 a1 K
  funext q0
  have e : x_8.g0 K a0 a1 (n + 1) q0 = x_8.l0b K a0 a1 (x_8.g0 K a0 a1 n) (x_8.g1 K a0 a1 K) q0 := by kernel_rfl
  rw [ih, k1] at e
  refine e.trans ?_
  kernel_rfl
theorem x_43 (K : Nat) : FOk Tryz.prog 163 (x_f8 K) :=
 x_a (T := x_ga K) (H := x_m9) (K := K) (c := x_nr) (ts := [.tmp 4]) Tryz.func163 (by kernel_rfl) (by kernel_rfl) (by kernel_rfl) rfl
  (tokc (x_bc) (tok0 x_k)) mixed
  (fun v => by
  have k0 := x_8.ok0 K v.1 v.2.1 K
  have e : run (x_ga K) x_m9 K x_nr (x_ax (x_f8 K).pk (x_f8 K).ps Tryz.f163.ntmps (lv _ v)) (endK (x_ga K).toEnv (x_f8 K) [.tmp 4]) = x_8.b K v.1 v.2.1 (x_8.g0 K v.1 v.2.1 K) := by kernel_rfl
  rw [k0] at e
  refine e.trans ?_
  kernel_rfl)
noncomputable def x_u9 (K : Nat) : FSp := { ps := [.val true x_2 [.f, .f, .f, .f]], rs := [(false, .b, [.f])], fn := fun v => x_pu K v.1 }
noncomputable def x_4m (K : Nat) : Tab := x_ai (tiOf tys) [(30, x_bv), (109, x_gy K)]
def x_59 : Hint := ⟨msk [2, 4], fun _ _ => false, fun _ => false, fun _ => none⟩
noncomputable def x_4n : Code := Tryz.f164.body.getD .skip
theorem x_2i (K : Nat) : FOk Tryz.prog 164 (x_u9 K) :=
 x_a (T := x_4m K) (H := x_59) (K := K) (c := x_4n) (ts := [.tmp 2]) Tryz.func164 (by kernel_rfl) (by kernel_rfl) (by kernel_rfl) rfl
  (tokc (x_bc) (tokc (x_q3 K) (tok0 x_k))) mixed
  (fun v => by kernel_rfl)
noncomputable def x_ec (K : Nat) : FSp := { ps := [.val true x_da [.f, .f, .f, .f], .val true x_p8 [.r, .r, .r, .f, .r, .r]], rs := [(false, .b, [.f])], fn := fun v => x_z K v.1 v.2.1 }
noncomputable def x_fs (K : Nat) : Tab := x_ai (tiOf tys) [(110, x_e7), (30, x_bv), (162, x_gf K), (55, x_g6 K), (163, x_f8 K), (164, x_u9 K)]
def x_mp : Hint := ⟨msk [12, 562949953421324, 16, 44, 9007199254741036, 44, 4611686018427387948, 16, 76, 18446744073709551692, 76, 37778931862957161709644, 16, 136, 151115727451828646838408, 136, 39614081257132168796771975304, 16, 16], fun _ _ => false, fun _ => false, fun _ => none⟩
noncomputable def x_md : Code := Tryz.f135.body.getD .skip
noncomputable def x_z.g0 (K : Nat) (a0 : x_n) (a1 : x_ao) (n : Nat) (q0 : Int) : Option (Bool × Unit) :=
 lpg (x_fs K) x_mp K x_md [.r, .r, .l, .r, .b] n ⟨[.dead, .dead, .one (.ptr 2 1 0), .one (.ptr 3 1 0), .dead, .one (.val .f (.i .i64) q0)] ++ List.replicate 90 .dead, [none, none, some (1, [.val .f (.i .i64) a0.1, .val .f (.i .i64) a0.2.1, .val .f (.i .i64) a0.2.2.1, .val .f (.i .i64) a0.2.2.2]), some (1, [.val .r (.sl eRow) a1.1, .val .r (.sl x_at) a1.2.1, .val .r (.sl x_ar) a1.2.2.1, .val .f (.i .i64) a1.2.2.2.1, .val .r (.sl (.i .i64)) a1.2.2.2.2.1, .val .r (.sl x_2) a1.2.2.2.2.2])] ++ List.replicate 92 none⟩ (endK (x_fs K).toEnv (x_ec K) [.tmp 4])
noncomputable def x_z.g1 (K : Nat) (a0 : x_n) (a1 : x_ao) (n : Nat) (q1 : Int) : Option (Bool × Unit) :=
 lpg (x_fs K) x_mp K x_md [.r, .r, .r, .l, .r, .b] n ⟨[.dead, .dead, .one (.ptr 2 1 0), .one (.ptr 3 1 0), .dead, .dead, .one (.val .f (.i .i64) q1)] ++ List.replicate 89 .dead, [none, none, some (1, [.val .f (.i .i64) a0.1, .val .f (.i .i64) a0.2.1, .val .f (.i .i64) a0.2.2.1, .val .f (.i .i64) a0.2.2.2]), some (1, [.val .r (.sl eRow) a1.1, .val .r (.sl x_at) a1.2.1, .val .r (.sl x_ar) a1.2.2.1, .val .f (.i .i64) a1.2.2.2.1, .val .r (.sl (.i .i64)) a1.2.2.2.2.1, .val .r (.sl x_2) a1.2.2.2.2.2])] ++ List.replicate 92 none⟩ (endK (x_fs K).toEnv (x_ec K) [.tmp 4])
noncomputable def x_z.g2 (K : Nat) (a0 : x_n) (a1 : x_ao) (n : Nat) (q2 : Int) : Option (Bool × Unit) :=
 lpg (x_fs K) x_mp K x_md [.r, .r, .r, .r, .l, .r, .b] n ⟨[.dead, .dead, .dead, .one (.ptr 3 1 0), .dead, .dead, .dead, .one (.val .f (.i .i64) q2)] ++ List.replicate 88 .dead, [none, none, none, some (1, [.val .r (.sl eRow) a1.1, .val .r (.sl x_at) a1.2.1, .val .r (.sl x_ar) a1.2.2.1, .val .f (.i .i64) a1.2.2.2.1, .val .r (.sl (.i .i64)) a1.2.2.2.2.1, .val .r (.sl x_2) a1.2.2.2.2.2])] ++ List.replicate 92 none⟩ (endK (x_fs K).toEnv (x_ec K) [.tmp 4])
theorem x_z.ok2 (K : Nat) (a0 : x_n) (a1 : x_ao) (n : Nat) : x_z.g2 K a0 a1 n = x_z.l2 K a0 a1 n := by
 induction n with
 | zero =>
  funext q2
  kernel_rfl
 | succ n ih =>
  funext q2
  have e : x_z.g2 K a0 a1 (n + 1) q2 = x_z.l2b K a0 a1 (x_z.g2 K a0 a1 n) q2 := by kernel_rfl
  rw [ih] at e
  refine e.trans ?_
  kernel_rfl
theorem x_z.ok1 (K : Nat) (a0 : x_n) (a1 : x_ao) (n : Nat) : x_z.g1 K a0 a1 n = x_z.l1 K a0 a1 n := by
 induction n with
 | zero =>
  funext q1
  kernel_rfl
 | succ n ih =>
  have k2 := x_z.ok2 K a0 a1 K
  funext q1
  have e : x_z.g1 K a0 a1 (n + 1) q1 = x_z.l1b K a0 a1 (x_z.g1 K a0 a1 n) (x_z.g2 K a0 a1 K) q1 := by kernel_rfl
  rw [ih, k2] at e
  refine e.trans ?_
  kernel_rfl
theorem x_z.ok0 (K : Nat) (a0 : x_n) (a1 : x_ao) (n : Nat) : x_z.g0 K a0 a1 n = x_z.l0 K a0 a1 n := by
 induction n with
 | zero =>
  funext q0
  kernel_rfl
 | succ n ih =>
  have k1 := x_z.ok1 K a0 a1 K
  funext q0
  have e : x_z.g0 K a0 a1 (n + 1) q0 = x_z.l0b K a0 a1 (x_z.g0 K a0 a1 n) (x_z.g1 K a0 a1 K) q0 := by kernel_rfl
  rw [ih, k1] at e
  refine e.trans ?_
  kernel_rfl
theorem x_re (K : Nat) : FOk Tryz.prog 135 (x_ec K) :=
 x_a (T := x_fs K) (H := x_mp) (K := K) (c := x_md) (ts := [.tmp 4]) Tryz.func135 (by kernel_rfl) (by kernel_rfl) (by kernel_rfl) rfl
  (tokc (x_ev) (tokc (x_bc) (tokc (x_1k K) (tokc (x_pq K) (tokc (x_43 K) (tokc (x_2i K) (tok0 x_k))))))) mixed
  (fun v => by
  have k0 := x_z.ok0 K v.1 v.2.1 K
  have e : run (x_fs K) x_mp K x_md (x_ax (x_ec K).pk (x_ec K).ps Tryz.f135.ntmps (lv _ v)) (endK (x_fs K).toEnv (x_ec K) [.tmp 4]) = x_z.b K v.1 v.2.1 (x_z.g0 K v.1 v.2.1 K) := by kernel_rfl
  rw [k0] at e
  refine e.trans ?_
  kernel_rfl)
noncomputable def x_vh (K : Nat) : FSp := { ps := [.val true x_da [.f, .f, .f, .f], .val true x_7y [.f, .f, .f, .f, .r, .r, .r, .r, .f, .r, .r]], rs := [(false, .b, [.f])], fn := fun v => x_q1 K v.1 v.2.1 }
noncomputable def x_afr (K : Nat) : Tab := x_ai (tiOf tys) [(32, x_cc), (30, x_bv), (134, x_k0 K), (135, x_ec K)]
def x_adk : Hint := ⟨msk [12, 76, 16], fun _ _ => false, fun _ => false, fun _ => none⟩
noncomputable def x_ahu : Code := Tryz.f116.body.getD .skip
theorem x_xf (K : Nat) : FOk Tryz.prog 116 (x_vh K) :=
 x_a (T := x_afr K) (H := x_adk) (K := K) (c := x_ahu) (ts := [.tmp 4]) Tryz.func116 (by kernel_rfl) (by kernel_rfl) (by kernel_rfl) rfl
  (tokc (x_b1) (tokc (x_bc) (tokc (x_30 K) (tokc (x_re K) (tok0 x_k))))) mixed
  (fun v => by kernel_rfl)
noncomputable def x_hv (K : Nat) : FSp := { ps := [.val false (.sl x_ct) [.r], .val false (.i .i64) [.f]], rs := [(false, .b, [.f])], fn := fun v => x_b2 K v.1 v.2.1 }
noncomputable def x_mc (K : Nat) : Tab := x_ai (tiOf tys) [(30, x_bv), (122, x_mw K)]
def x_ve : Hint := ⟨msk [3, 35, 547, 35, 268435491, 16, 16], fun _ _ => false, fun _ => false, fun _ => none⟩
noncomputable def x_u8 : Code := Tryz.f136.body.getD .skip
noncomputable def x_b2.g0 (K : Nat) (a0 : List x_au) (a1 : Int) (n : Nat) (q0 : Int) : Option (Bool × Unit) :=
 lpg (x_mc K) x_ve K x_u8 [.r, .l, .r, .b] n ⟨[.one (.val .r (.sl x_ct) a0), .one (.val .f (.i .i64) a1), .dead, .dead, .dead, .one (.val .f (.i .i64) q0)] ++ List.replicate 26 .dead, List.replicate 32 none⟩ (endK (x_mc K).toEnv (x_hv K) [.tmp 4])
theorem x_b2.ok0 (K : Nat) (a0 : List x_au) (a1 : Int) (n : Nat) : x_b2.g0 K a0 a1 n = x_b2.l0 K a0 a1 n := by
 induction n with
 | zero =>
  funext q0
  kernel_rfl
 | succ n ih =>
  funext q0
  have e : x_b2.g0 K a0 a1 (n + 1) q0 = x_b2.l0b K a0 a1 (x_b2.g0 K a0 a1 n) q0 := by kernel_rfl
  rw [ih] at e
  refine e.trans ?_
  kernel_rfl
theorem x_x3 (K : Nat) : FOk Tryz.prog 136 (x_hv K) :=
 x_a (T := x_mc K) (H := x_ve) (K := K) (c := x_u8) (ts := [.tmp 4]) Tryz.func136 (by kernel_rfl) (by kernel_rfl) (by kernel_rfl) rfl
  (tokc (x_bc) (tokc (x_l1 K) (tok0 x_k))) mixed
  (fun v => by
  have k0 := x_b2.ok0 K v.1 v.2.1 K
  have e : run (x_mc K) x_ve K x_u8 (x_ax (x_hv K).pk (x_hv K).ps Tryz.f136.ntmps (lv _ v)) (endK (x_mc K).toEnv (x_hv K) [.tmp 4]) = x_b2.b K v.1 v.2.1 (x_b2.g0 K v.1 v.2.1 K) := by kernel_rfl
  rw [k0] at e
  refine e.trans ?_
  kernel_rfl)
noncomputable def x_s5 (K : Nat) : FSp := { ps := [.val true eRpc [.f, .f, .f, .f, .f, .f, .f, .r, .f, .f], .val false (.i .i64) [.f]], rs := [(false, .b, [.f])], fn := fun v => x_yg K v.1 v.2.1 }
noncomputable def t_s_RpcOk (K : Nat) : Tab := x_ai (tiOf tys) [(30, x_bv), (136, x_hv K)]
def h_s_RpcOk : Hint := ⟨msk [6, 68719476740, 16, 16], fun _ _ => false, fun _ => false, fun _ => none⟩
noncomputable def c_s_RpcOk : Code := Tryz.f150.body.getD .skip
theorem x_v4 (K : Nat) : FOk Tryz.prog 150 (x_s5 K) :=
 x_a (T := t_s_RpcOk K) (H := h_s_RpcOk) (K := K) (c := c_s_RpcOk) (ts := [.tmp 4]) Tryz.func150 (by kernel_rfl) (by kernel_rfl) (by kernel_rfl) rfl
  (tokc (x_bc) (tokc (x_x3 K) (tok0 x_k))) mixed
  (fun v => by kernel_rfl)
end Go.Proofs.YtkdamnchchhjeaaGreatDoor.Fs
