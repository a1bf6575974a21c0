/- The functions compute what is told of them. -/
import Derived.Test.YtkdamnchchhjeaaGreatDoorFsOk3
set_option linter.all false
set_option maxRecDepth 100000
namespace Go.Proofs.YtkdamnchchhjeaaGreatDoor.Fs
open Go Go.Kn
noncomputable def x_dc (K : Nat) : FSp := { ps := [.val true x_p8 [.r, .r, .r, .f, .r, .r]], rs := [(true, x_p8, [.x 0, .x 0, .x 0, .f, .x 0, .x 0])], fn := fun v => x_x K v.1 }
noncomputable def x_fu (K : Nat) : Tab := x_ai (tiOf tys) [(54, x_ly), (91, x_lp), (81, x_hr)]
def x_lu : Hint := ⟨msk [6, 14, 30, 4194334, 30, 30, 46, 1099511627822, 46, 46, 78, 288230376151711822, 78, 78, 4], fun _ _ => false, fun _ => false, fun _ => none⟩
noncomputable def x_lo : Code := Tryz.f63.body.getD .skip
noncomputable def x_x.g0 (K : Nat) (a0 : x_ao) (n : Nat) (q0 : Int) (q1 : List TRow) : Option (x_ao × Unit) :=
 lpg (x_fu K) x_lu K x_lo [.r, .r, .l, .r, .b] n ⟨[.dead, .one (.ptr 1 1 0), .one (.ptr 2 1 0), .one (.ptr 3 1 0), .one (.val .f (.i .i64) q0)] ++ List.replicate 68 .dead, [none, some (1, [.val .r (.sl eRow) a0.1, .val .r (.sl x_at) a0.2.1, .val .r (.sl x_ar) a0.2.2.1, .val .f (.i .i64) a0.2.2.2.1, .val .r (.sl (.i .i64)) a0.2.2.2.2.1, .val .r (.sl x_2) a0.2.2.2.2.2]), some (1, [.val (.x 0) (.sl eRow) [], .val (.x 0) (.sl x_at) [], .val (.x 0) (.sl x_ar) [], .val .f (.i .i64) 0, .val (.x 0) (.sl (.i .i64)) [], .val (.x 0) (.sl x_2) []]), some (1, [.val (.x 0) (.sl eRow) q1, .val (.x 0) (.sl x_at) [], .val (.x 0) (.sl x_ar) [], .val .f (.i .i64) a0.2.2.2.1, .val (.x 0) (.sl (.i .i64)) ([] ++ a0.2.2.2.2.1), .val (.x 0) (.sl x_2) ([] ++ a0.2.2.2.2.2)])] ++ List.replicate 69 none⟩ (endK (x_fu K).toEnv (x_dc K) [.cell 2 43])
noncomputable def x_x.g1 (K : Nat) (a0 : x_ao) (n : Nat) (q2 : Int) (q1 : List TRow) (q3 : List x_v) : Option (x_ao × Unit) :=
 lpg (x_fu K) x_lu K x_lo [.r, .r, .r, .l, .r, .b] n ⟨[.dead, .one (.ptr 1 1 0), .one (.ptr 2 1 0), .one (.ptr 3 1 0), .dead, .one (.val .f (.i .i64) q2)] ++ List.replicate 67 .dead, [none, some (1, [.val .r (.sl eRow) a0.1, .val .r (.sl x_at) a0.2.1, .val .r (.sl x_ar) a0.2.2.1, .val .f (.i .i64) a0.2.2.2.1, .val .r (.sl (.i .i64)) a0.2.2.2.2.1, .val .r (.sl x_2) a0.2.2.2.2.2]), some (1, [.val (.x 0) (.sl eRow) [], .val (.x 0) (.sl x_at) [], .val (.x 0) (.sl x_ar) [], .val .f (.i .i64) 0, .val (.x 0) (.sl (.i .i64)) [], .val (.x 0) (.sl x_2) []]), some (1, [.val (.x 0) (.sl eRow) q1, .val (.x 0) (.sl x_at) q3, .val (.x 0) (.sl x_ar) [], .val .f (.i .i64) a0.2.2.2.1, .val (.x 0) (.sl (.i .i64)) ([] ++ a0.2.2.2.2.1), .val (.x 0) (.sl x_2) ([] ++ a0.2.2.2.2.2)])] ++ List.replicate 69 none⟩ (endK (x_fu K).toEnv (x_dc K) [.cell 2 43])
noncomputable def x_x.g2 (K : Nat) (a0 : x_ao) (n : Nat) (q4 : Int) (q1 : List TRow) (q3 : List x_v) (q5 : List x_o) : Option (x_ao × Unit) :=
 lpg (x_fu K) x_lu K x_lo [.r, .r, .r, .r, .l, .r, .b] n ⟨[.dead, .one (.ptr 1 1 0), .one (.ptr 2 1 0), .one (.ptr 3 1 0), .dead, .dead, .one (.val .f (.i .i64) q4)] ++ List.replicate 66 .dead, [none, some (1, [.val .r (.sl eRow) a0.1, .val .r (.sl x_at) a0.2.1, .val .r (.sl x_ar) a0.2.2.1, .val .f (.i .i64) a0.2.2.2.1, .val .r (.sl (.i .i64)) a0.2.2.2.2.1, .val .r (.sl x_2) a0.2.2.2.2.2]), some (1, [.val (.x 0) (.sl eRow) [], .val (.x 0) (.sl x_at) [], .val (.x 0) (.sl x_ar) [], .val .f (.i .i64) 0, .val (.x 0) (.sl (.i .i64)) [], .val (.x 0) (.sl x_2) []]), some (1, [.val (.x 0) (.sl eRow) q1, .val (.x 0) (.sl x_at) q3, .val (.x 0) (.sl x_ar) q5, .val .f (.i .i64) a0.2.2.2.1, .val (.x 0) (.sl (.i .i64)) ([] ++ a0.2.2.2.2.1), .val (.x 0) (.sl x_2) ([] ++ a0.2.2.2.2.2)])] ++ List.replicate 69 none⟩ (endK (x_fu K).toEnv (x_dc K) [.cell 2 43])
theorem x_x.ok2 (K : Nat) (a0 : x_ao) (n : Nat) : x_x.g2 K a0 n = x_x.l2 K a0 n := by
 induction n with
 | zero =>
  funext q4 q1 q3 q5
  kernel_rfl
 | succ n ih =>
  funext q4 q1 q3 q5
  have e : x_x.g2 K a0 (n + 1) q4 q1 q3 q5 = x_x.l2b K a0 (x_x.g2 K a0 n) q4 q1 q3 q5 := by kernel_rfl
  rw [ih] at e
  refine e.trans ?_
  kernel_rfl
theorem x_x.ok1 (K : Nat) (a0 : x_ao) (n : Nat) : x_x.g1 K a0 n = x_x.l1 K a0 n := by
 induction n with
 | zero =>
  funext q2 q1 q3
  kernel_rfl
 | succ n ih =>
  have k2 := x_x.ok2 K a0 K
  funext q2 q1 q3
  have e : x_x.g1 K a0 (n + 1) q2 q1 q3 = x_x.l1b K a0 (x_x.g1 K a0 n) (x_x.g2 K a0 K) q2 q1 q3 := by kernel_rfl
  rw [ih, k2] at e
  refine e.trans ?_
  kernel_rfl
theorem x_x.ok0 (K : Nat) (a0 : x_ao) (n : Nat) : x_x.g0 K a0 n = x_x.l0 K a0 n := by
 induction n with
 | zero =>
  funext q0 q1
  kernel_rfl
 | succ n ih =>
  have k1 := x_x.ok1 K a0 K
  funext q0 q1
  have e : x_x.g0 K a0 (n + 1) q0 q1 = x_x.l0b K a0 (x_x.g0 K a0 n) (x_x.g1 K a0 K) q0 q1 := by kernel_rfl
  rw [ih, k1] at e
  refine e.trans ?_
  kernel_rfl
theorem x_jd (K : Nat) : FOk Tryz.prog 63 (x_dc K) :=
 x_a (T := x_fu K) (H := x_lu) (K := K) (c := x_lo) (ts := [.cell 2 43]) Tryz.func63 (by kernel_rfl) (by kernel_rfl) (by kernel_rfl) rfl
  (tokc (x_np) (tokc (x_nh) (tokc (x_hb) (tok0 x_k)))) mixed
  (fun v => by
  have k0 := x_x.ok0 K v.1 K
  have e : run (x_fu K) x_lu K x_lo (x_ax (x_dc K).pk (x_dc K).ps Tryz.f63.ntmps (lv _ v)) (endK (x_fu K).toEnv (x_dc K) [.cell 2 43]) = x_x.b K v.1 (x_x.g0 K v.1 K) := by kernel_rfl
  rw [k0] at e
  refine e.trans ?_
  kernel_rfl)
noncomputable def x_rb (K : Nat) : FSp := { ps := [.val true x_7y [.f, .f, .f, .f, .r, .r, .r, .r, .f, .r, .r]], rs := [(true, x_7y, [.f, .f, .f, .f, .x 0, .x 0, .x 0, .x 0, .f, .x 0, .x 0])], fn := fun v => x_is K v.1 }
noncomputable def x_97 (K : Nat) : Tab := x_ai (tiOf tys) [(90, x_p0), (63, x_dc K)]
def x_93 : Hint := ⟨msk [6, 4], fun _ _ => false, fun _ => false, fun _ => none⟩
noncomputable def x_aa4 : Code := Tryz.f62.body.getD .skip
theorem x_t8 (K : Nat) : FOk Tryz.prog 62 (x_rb K) :=
 x_a (T := x_97 K) (H := x_93) (K := K) (c := x_aa4) (ts := [.cell 2 45]) Tryz.func62 (by kernel_rfl) (by kernel_rfl) (by kernel_rfl) rfl
  (tokc (x_rd) (tokc (x_jd K) (tok0 x_k))) mixed
  (fun v => by kernel_rfl)
noncomputable def x_kc : FSp := { ps := [.val true eDisk [.r, .f]], rs := [(true, eDisk, [.x 0, .f])], fn := fun v => x_ks v.1 }
noncomputable def x_abr (K : Nat) : Tab := x_ai (tiOf tys) []
def x_aa0 : Hint := ⟨msk [6, 4], fun _ _ => false, fun _ => false, fun _ => none⟩
noncomputable def x_aad : Code := Tryz.f64.body.getD .skip
theorem x_kw : FOk Tryz.prog 64 (x_kc) := by
 let K := 0
 exact
 x_a (T := x_abr K) (H := x_aa0) (K := K) (c := x_aad) (ts := [.cell 2 48]) Tryz.func64 (by kernel_rfl) (by kernel_rfl) (by kernel_rfl) rfl
  (tok0 x_k) mixed
  (fun v => by kernel_rfl)
noncomputable def x_co (K : Nat) : FSp := { ps := [.val true x_hh [.f, .f, .f, .f, .f, .r, .r, .r, .r, .f, .r, .r, .f, .r, .r, .r, .f, .r, .r, .r, .f, .r, .r, .r, .f, .r]], rs := [(true, x_hh, [.f, .f, .f, .f, .f, .x 0, .x 0, .x 0, .x 0, .f, .x 0, .x 0, .f, .x 0, .x 0, .x 0, .f, .x 0, .x 0, .x 0, .f, .x 0, .x 0, .x 0, .f, .x 0])], fn := fun v => x_w K v.1 }
noncomputable def x_aat (K : Nat) : Tab := x_ai (tiOf tys) [(62, x_rb K), (63, x_dc K), (64, x_kc), (65, x_gg K)]
def x_8u : Hint := ⟨msk [6, 4], fun _ _ => false, fun _ => false, fun _ => none⟩
noncomputable def x_8x : Code := Tryz.f40.body.getD .skip
theorem x_cl (K : Nat) : FOk Tryz.prog 40 (x_co K) :=
 x_a (T := x_aat K) (H := x_8u) (K := K) (c := x_8x) (ts := [.cell 2 51]) Tryz.func40 (by kernel_rfl) (by kernel_rfl) (by kernel_rfl) rfl
  (tokc (x_t8 K) (tokc (x_jd K) (tokc (x_kw) (tokc (x_tz K) (tok0 x_k))))) mixed
  (fun v => by kernel_rfl)
noncomputable def x_hg (K : Nat) : FSp := { ps := [.val true x_d8 [.f, .f, .f, .f, .f, .r, .r, .r, .r, .r, .r]], rs := [(true, x_d8, [.f, .f, .f, .f, .f, .x 0, .x 0, .x 0, .x 0, .x 0, .x 0])], fn := fun v => x_bq K v.1 }
noncomputable def x_j0 (K : Nat) : Tab := x_ai (tiOf tys) [(65, x_gg K), (40, x_co K)]
def x_q0 : Hint := ⟨msk [6, 14, 30, 8589934622, 30, 30, 4], fun _ _ => false, fun _ => false, fun _ => none⟩
noncomputable def x_q6 : Code := Tryz.f89.body.getD .skip
noncomputable def x_bq.g0 (K : Nat) (a0 : x_r) (n : Nat) (q0 : Int) (q1 : List x_bt) (v1 : (List TRpc) × Unit) : Option (x_r × Unit) :=
 lpg (x_j0 K) x_q0 K x_q6 [.r, .r, .l, .r, .b] n ⟨[.dead, .one (.ptr 1 1 0), .one (.ptr 2 1 0), .one (.ptr 3 1 0), .one (.val .f (.i .i64) q0)] ++ List.replicate 43 .dead, [none, some (1, [.val .f (.i .i64) a0.1.1, .val .f (.i .i64) a0.1.2.1, .val .f (.i .i64) a0.1.2.2.1, .val .f (.i .i64) a0.1.2.2.2, .val .f (.i .i64) a0.2.1, .val .r (.sl x_hh) a0.2.2.1, .val .r (.sl eRpc) a0.2.2.2.1, .val .r (.sl eCmd) a0.2.2.2.2.1, .val .r (.sl (.i .i64)) a0.2.2.2.2.2.1, .val .r (.sl x_j8) a0.2.2.2.2.2.2.1, .val .r (.sl eCmd) a0.2.2.2.2.2.2.2]), some (1, [.val .f (.i .i64) 0, .val .f (.i .i64) 0, .val .f (.i .i64) 0, .val .f (.i .i64) 0, .val .f (.i .i64) 0, .val (.x 0) (.sl x_hh) [], .val (.x 0) (.sl eRpc) [], .val (.x 0) (.sl eCmd) [], .val (.x 0) (.sl (.i .i64)) [], .val (.x 0) (.sl x_j8) [], .val (.x 0) (.sl eCmd) []]), some (1, [.val .f (.i .i64) a0.1.1, .val .f (.i .i64) a0.1.2.1, .val .f (.i .i64) a0.1.2.2.1, .val .f (.i .i64) a0.1.2.2.2, .val .f (.i .i64) a0.2.1, .val (.x 0) (.sl x_hh) q1, .val (.x 0) (.sl eRpc) v1.1, .val (.x 0) (.sl eCmd) ([] ++ a0.2.2.2.2.1), .val (.x 0) (.sl (.i .i64)) ([] ++ a0.2.2.2.2.2.1), .val (.x 0) (.sl x_j8) ([] ++ a0.2.2.2.2.2.2.1), .val (.x 0) (.sl eCmd) ([] ++ a0.2.2.2.2.2.2.2)])] ++ List.replicate 44 none⟩ (endK (x_j0 K).toEnv (x_hg K) [.cell 2 59])
theorem x_bq.ok0 (K : Nat) (a0 : x_r) (n : Nat) : x_bq.g0 K a0 n = x_bq.l0 K a0 n := by
 induction n with
 | zero =>
  funext q0 q1 v1
  kernel_rfl
 | succ n ih =>
  funext q0 q1 v1
  have e : x_bq.g0 K a0 (n + 1) q0 q1 v1 = x_bq.l0b K a0 (x_bq.g0 K a0 n) q0 q1 v1 := by kernel_rfl
  rw [ih] at e
  refine e.trans ?_
  kernel_rfl
theorem x_41 (K : Nat) : FOk Tryz.prog 89 (x_hg K) :=
 x_a (T := x_j0 K) (H := x_q0) (K := K) (c := x_q6) (ts := [.cell 2 59]) Tryz.func89 (by kernel_rfl) (by kernel_rfl) (by kernel_rfl) rfl
  (tokc (x_tz K) (tokc (x_cl K) (tok0 x_k))) mixed
  (fun v => by
  have k0 := x_bq.ok0 K v.1 K
  have e : run (x_j0 K) x_q0 K x_q6 (x_ax (x_hg K).pk (x_hg K).ps Tryz.f89.ntmps (lv _ v)) (endK (x_j0 K).toEnv (x_hg K) [.cell 2 59]) = x_bq.b K v.1 (x_bq.g0 K v.1 K) := by kernel_rfl
  rw [k0] at e
  refine e.trans ?_
  kernel_rfl)
noncomputable def x_mu (K : Nat) : FSp := { ps := [.val true x_4w [.f, .f, .f, .f, .r, .f]], rs := [(false, .b, [.f])], fn := fun v => x_ov K v.1 }
noncomputable def x_ae4 (K : Nat) : Tab := x_ai (tiOf tys) [(30, x_bv), (136, x_hv K)]
def x_ahy : Hint := ⟨msk [2, 16777218, 4, 67108866, 201326594, 4, 281475043819522, 4, 288230376151711746, 4, 4], fun _ _ => false, fun _ => false, fun _ => none⟩
noncomputable def x_afp : Code := Tryz.f117.body.getD .skip
theorem x_ne (K : Nat) : FOk Tryz.prog 117 (x_mu K) :=
 x_a (T := x_ae4 K) (H := x_ahy) (K := K) (c := x_afp) (ts := [.tmp 2]) Tryz.func117 (by kernel_rfl) (by kernel_rfl) (by kernel_rfl) rfl
  (tokc (x_bc) (tokc (x_x3 K) (tok0 x_k))) mixed
  (fun v => by kernel_rfl)
noncomputable def x_ee (K : Nat) : FSp := { ps := [.val false (.i .i64) [.f]], rs := [(false, (.sl (.i .u8)), [.x 0])], fn := fun v => x_az K v.1 }
noncomputable def x_lj (K : Nat) : Tab := x_ai (tiOf tys) [(30, x_bv)]
def x_wa : Hint := ⟨msk [1, 9, 137, 4, 1033, 9, 9, 4], fun _ _ => false, fun _ => false, fun _ => none⟩
noncomputable def x_t0 : Code := Tryz.f103.body.getD .skip
noncomputable def x_az.g0 (K : Nat) (a0 : Int) (n : Nat) (q0 : Int) (q1 : List Int) : Option ((List Int) × Unit) :=
 lpg (x_lj K) x_wa K x_t0 [.r, .r, .r, .l, .b] n ⟨[.one (.val .f (.i .i64) q0), .dead, .dead, .one (.val (.x 0) (.sl (.i .u8)) q1)] ++ List.replicate 21 .dead, List.replicate 25 none⟩ (endK (x_lj K).toEnv (x_ee K) [.tmp 2])
theorem x_az.ok0 (K : Nat) (a0 : Int) (n : Nat) : x_az.g0 K a0 n = x_az.l0 K a0 n := by
 induction n with
 | zero =>
  funext q0 q1
  kernel_rfl
 | succ n ih =>
  funext q0 q1
  have e : x_az.g0 K a0 (n + 1) q0 q1 = x_az.l0b K a0 (x_az.g0 K a0 n) q0 q1 := by kernel_rfl
  rw [ih] at e
  refine e.trans ?_
  kernel_rfl
theorem x_jm (K : Nat) : FOk Tryz.prog 103 (x_ee K) :=
 x_a (T := x_lj K) (H := x_wa) (K := K) (c := x_t0) (ts := [.tmp 2]) Tryz.func103 (by kernel_rfl) (by kernel_rfl) (by kernel_rfl) rfl
  (tokc (x_bc) (tok0 x_k)) mixed
  (fun v => by
  have k0 := x_az.ok0 K v.1 K
  have e : run (x_lj K) x_wa K x_t0 (x_ax (x_ee K).pk (x_ee K).ps Tryz.f103.ntmps (lv _ v)) (endK (x_lj K).toEnv (x_ee K) [.tmp 2]) = x_az.b K v.1 (x_az.g0 K v.1 K) := by kernel_rfl
  rw [k0] at e
  refine e.trans ?_
  kernel_rfl)
noncomputable def x_h6 (K : Nat) : FSp := { ps := [.val false (.sl (.i .i64)) [.r]], rs := [(false, (.sl (.i .u8)), [.x 0])], fn := fun v => x_be K v.1 }
noncomputable def x_lt (K : Nat) : Tab := x_ai (tiOf tys) [(103, x_ee K)]
def x_ug : Hint := ⟨msk [1, 9, 25, 537, 25, 25, 4], fun _ _ => false, fun _ => false, fun _ => none⟩
noncomputable def x_t9 : Code := Tryz.f104.body.getD .skip
noncomputable def x_be.g0 (K : Nat) (a0 : List Int) (n : Nat) (q0 : List Int) (q1 : Int) : Option ((List Int) × Unit) :=
 lpg (x_lt K) x_ug K x_t9 [.r, .r, .l, .r, .b] n ⟨[.one (.val .r (.sl (.i .i64)) a0), .dead, .dead, .one (.val (.x 0) (.sl (.i .u8)) q0), .one (.val .f (.i .i64) q1)] ++ List.replicate 15 .dead, List.replicate 20 none⟩ (endK (x_lt K).toEnv (x_h6 K) [.tmp 2])
theorem x_be.ok0 (K : Nat) (a0 : List Int) (n : Nat) : x_be.g0 K a0 n = x_be.l0 K a0 n := by
 induction n with
 | zero =>
  funext q0 q1
  kernel_rfl
 | succ n ih =>
  funext q0 q1
  have e : x_be.g0 K a0 (n + 1) q0 q1 = x_be.l0b K a0 (x_be.g0 K a0 n) q0 q1 := by kernel_rfl
  rw [ih] at e
  refine e.trans ?_
  kernel_rfl
theorem x_xc (K : Nat) : FOk Tryz.prog 104 (x_h6 K) :=
 x_a (T := x_lt K) (H := x_ug) (K := K) (c := x_t9) (ts := [.tmp 2]) Tryz.func104 (by kernel_rfl) (by kernel_rfl) (by kernel_rfl) rfl
  (tokc (x_jm K) (tok0 x_k)) mixed
  (fun v => by
  have k0 := x_be.ok0 K v.1 K
  have e : run (x_lt K) x_ug K x_t9 (x_ax (x_h6 K).pk (x_h6 K).ps Tryz.f104.ntmps (lv _ v)) (endK (x_lt K).toEnv (x_h6 K) [.tmp 2]) = x_be.b K v.1 (x_be.g0 K v.1 K) := by kernel_rfl
  rw [k0] at e
  refine e.trans ?_
  kernel_rfl)
noncomputable def x_nk (K : Nat) : FSp := { ps := [.val false .s [.f]], rs := [(false, (.sl (.i .u8)), [.x 0])], fn := fun v => x_fl K v.1 }
noncomputable def x_abi (K : Nat) : Tab := x_ai (tiOf tys) [(103, x_ee K)]
def x_96 : Hint := ⟨msk [1, 4], fun _ _ => false, fun _ => false, fun _ => none⟩
noncomputable def x_8w : Code := Tryz.f105.body.getD .skip
theorem x_o1 (K : Nat) : FOk Tryz.prog 105 (x_nk K) :=
 x_a (T := x_abi K) (H := x_96) (K := K) (c := x_8w) (ts := [.tmp 2]) Tryz.func105 (by kernel_rfl) (by kernel_rfl) (by kernel_rfl) rfl
  (tokc (x_jm K) (tok0 x_k)) mixed
  (fun v => by kernel_rfl)
noncomputable def x_ts (K : Nat) : FSp := { ps := [.val true eCmd [.f, .f, .f, .f, .f, .f, .f, .f]], rs := [(false, (.sl (.i .u8)), [.x 0])], fn := fun v => x_pt K v.1 }
noncomputable def x_4p (K : Nat) : Tab := x_ai (tiOf tys) [(122, x_mw K), (104, x_h6 K), (105, x_nk K)]
def x_44 : Hint := ⟨msk [2, 66, 4, 10, 10, 4], fun _ _ => false, fun _ => false, fun _ => none⟩
noncomputable def x_6d : Code := Tryz.f142.body.getD .skip
theorem x_17 (K : Nat) : FOk Tryz.prog 142 (x_ts K) :=
 x_a (T := x_4p K) (H := x_44) (K := K) (c := x_6d) (ts := [.tmp 2]) Tryz.func142 (by kernel_rfl) (by kernel_rfl) (by kernel_rfl) rfl
  (tokc (x_l1 K) (tokc (x_xc K) (tokc (x_o1 K) (tok0 x_k)))) mixed
  (fun v => by kernel_rfl)
noncomputable def x_ja (K : Nat) : FSp := { ps := [.val true x_4w [.f, .f, .f, .f, .r, .f]], rs := [(false, (.sl (.i .u8)), [.x 0])], fn := fun v => x_cf K v.1 }
noncomputable def x_ls (K : Nat) : Tab := x_ai (tiOf tys) [(103, x_ee K), (142, x_ts K), (105, x_nk K)]
def x_ud : Hint := ⟨msk [2, 10, 10, 10, 10, 26, 17179869210, 26, 58, 58, 26, 4], fun _ _ => false, fun _ => false, fun _ => none⟩
noncomputable def x_tp : Code := Tryz.f120.body.getD .skip
noncomputable def x_cf.g0 (K : Nat) (a0 : x_gs) (n : Nat) (q0 : List Int) (q1 : Int) : Option ((List Int) × Unit) :=
 lpg (x_ls K) x_ud K x_tp [.r, .r, .r, .r, .r, .l, .r, .b] n ⟨[.dead, .one (.ptr 1 1 0), .dead, .one (.val (.x 0) (.sl (.i .u8)) q0), .one (.val .f (.i .i64) q1)] ++ List.replicate 52 .dead, [none, some (1, [.val .f (.i .i64) a0.1, .val .f (.i .i64) a0.2.1, .val .f (.i .i64) a0.2.2.1, .val .f (.i .i64) a0.2.2.2.1, .val .r (.sl x_ct) a0.2.2.2.2.1, .val .f .s a0.2.2.2.2.2])] ++ List.replicate 55 none⟩ (endK (x_ls K).toEnv (x_ja K) [.tmp 2])
theorem x_cf.ok0 (K : Nat) (a0 : x_gs) (n : Nat) : x_cf.g0 K a0 n = x_cf.l0 K a0 n := by
 induction n with
 | zero =>
  funext q0 q1
  kernel_rfl
 | succ n ih =>
  funext q0 q1
  have e : x_cf.g0 K a0 (n + 1) q0 q1 = x_cf.l0b K a0 (x_cf.g0 K a0 n) q0 q1 := by kernel_rfl
  rw [ih] at e
  refine e.trans ?_
  kernel_rfl
theorem x_ab1 (K : Nat) : FOk Tryz.prog 120 (x_ja K) :=
 x_a (T := x_ls K) (H := x_ud) (K := K) (c := x_tp) (ts := [.tmp 2]) Tryz.func120 (by kernel_rfl) (by kernel_rfl) (by kernel_rfl) rfl
  (tokc (x_jm K) (tokc (x_17 K) (tokc (x_o1 K) (tok0 x_k)))) mixed
  (fun v => by
  have k0 := x_cf.ok0 K v.1 K
  have e : run (x_ls K) x_ud K x_tp (x_ax (x_ja K).pk (x_ja K).ps Tryz.f120.ntmps (lv _ v)) (endK (x_ls K).toEnv (x_ja K) [.tmp 2]) = x_cf.b K v.1 (x_cf.g0 K v.1 K) := by kernel_rfl
  rw [k0] at e
  refine e.trans ?_
  kernel_rfl)
noncomputable def x_nq (K : Nat) : FSp := { ps := [.val false (.sl (.i .u8)) [.r]], rs := [(false, (.i .i64), [.f])], fn := fun v => x_dl K v.1 }
noncomputable def x_ps (K : Nat) : Tab := x_ai (tiOf tys) []
def x_0o : Hint := ⟨msk [1, 25, 57, 569, 57, 57, 57, 4], fun _ _ => false, fun _ => false, fun _ => none⟩
noncomputable def x_y2 : Code := Tryz.f143.body.getD .skip
noncomputable def x_dl.g0 (K : Nat) (a0 : List Int) (n : Nat) (q0 : Int) (q1 : Int) (q2 : Int) : Option (Int × Unit) :=
 lpg (x_ps K) x_0o K x_y2 [.r, .r, .l, .r, .b] n ⟨[.one (.val .r (.sl (.i .u8)) a0), .dead, .dead, .one (.val .f (.i .i64) q0), .one (.val .f (.i .i64) q1), .one (.val .f (.i .i64) q2)] ++ List.replicate 22 .dead, List.replicate 28 none⟩ (endK (x_ps K).toEnv (x_nq K) [.tmp 2])
theorem x_dl.ok0 (K : Nat) (a0 : List Int) (n : Nat) : x_dl.g0 K a0 n = x_dl.l0 K a0 n := by
 induction n with
 | zero =>
  funext q0 q1 q2
  kernel_rfl
 | succ n ih =>
  funext q0 q1 q2
  have e : x_dl.g0 K a0 (n + 1) q0 q1 q2 = x_dl.l0b K a0 (x_dl.g0 K a0 n) q0 q1 q2 := by kernel_rfl
  rw [ih] at e
  refine e.trans ?_
  kernel_rfl
theorem x_aez (K : Nat) : FOk Tryz.prog 143 (x_nq K) :=
 x_a (T := x_ps K) (H := x_0o) (K := K) (c := x_y2) (ts := [.tmp 2]) Tryz.func143 (by kernel_rfl) (by kernel_rfl) (by kernel_rfl) rfl
  (tok0 x_k) mixed
  (fun v => by
  have k0 := x_dl.ok0 K v.1 K
  have e : run (x_ps K) x_0o K x_y2 (x_ax (x_nq K).pk (x_nq K).ps Tryz.f143.ntmps (lv _ v)) (endK (x_ps K).toEnv (x_nq K) [.tmp 2]) = x_dl.b K v.1 (x_dl.g0 K v.1 K) := by kernel_rfl
  rw [k0] at e
  refine e.trans ?_
  kernel_rfl)
noncomputable def x_0d (K : Nat) : FSp := { ps := [.val false (.sl (.i .u8)) [.r]], rs := [(false, (.sl (.i .u8)), [.x 0])], fn := fun v => x_2d K v.1 }
noncomputable def t_s_l9Sum (K : Nat) : Tab := x_ai (tiOf tys) [(143, x_nq K)]
def h_s_l9Sum : Hint := ⟨msk [1, 8, 4], fun _ _ => false, fun _ => false, fun _ => none⟩
noncomputable def c_s_l9Sum : Code := Tryz.f121.body.getD .skip
theorem x_2c (K : Nat) : FOk Tryz.prog 121 (x_0d K) :=
 x_a (T := t_s_l9Sum K) (H := h_s_l9Sum) (K := K) (c := c_s_l9Sum) (ts := [.tmp 2]) Tryz.func121 (by kernel_rfl) (by kernel_rfl) (by kernel_rfl) rfl
  (tokc (x_aez K) (tok0 x_k)) mixed
  (fun v => by kernel_rfl)
noncomputable def x_io (K : Nat) : FSp := { ps := [.val true x_4w [.f, .f, .f, .f, .r, .f]], rs := [(false, (.sl (.i .u8)), [.x 0])], fn := fun v => x_e3 K v.1 }
noncomputable def x_1r (K : Nat) : Tab := x_ai (tiOf tys) [(117, x_mu K), (120, x_ja K), (103, x_ee K), (121, x_0d K)]
def x_2b : Hint := ⟨msk [2, 130, 4, 8, 24, 4], fun _ _ => false, fun _ => false, fun _ => none⟩
noncomputable def x_3j : Code := Tryz.f100.body.getD .skip
theorem x_kq (K : Nat) : FOk Tryz.prog 100 (x_io K) :=
 x_a (T := x_1r K) (H := x_2b) (K := K) (c := x_3j) (ts := [.tmp 2]) Tryz.func100 (by kernel_rfl) (by kernel_rfl) (by kernel_rfl) rfl
  (tokc (x_ne K) (tokc (x_ab1 K) (tokc (x_jm K) (tokc (x_2c K) (tok0 x_k))))) mixed
  (fun v => by kernel_rfl)
noncomputable def x_24 : FSp := { ps := [.val true eDisk [.r, .f], .val false (.sl (.i .u8)) [.r]], rs := [(true, eDisk, [.x 0, .f]), (false, .b, [.f])], fn := fun v => x_z9 v.1 v.2.1 }
noncomputable def x_ag3 (K : Nat) : Tab := x_ai (tiOf tys) [(64, x_kc), (151, x_ml)]
def x_aiv : Hint := ⟨msk [22, 86, 1048658, 48, 80, 48], fun _ _ => false, fun _ => false, fun _ => none⟩
noncomputable def x_adb : Code := Tryz.f206.body.getD .skip
theorem x_8s : FOk Tryz.prog 206 (x_24) := by
 let K := 0
 exact
 x_a (T := x_ag3 K) (H := x_aiv) (K := K) (c := x_adb) (ts := [.cell 4 48, .tmp 5]) Tryz.func206 (by kernel_rfl) (by kernel_rfl) (by kernel_rfl) rfl
  (tokc (x_kw) (tokc (x_m4) (tok0 x_k))) mixed
  (fun v => by kernel_rfl)
noncomputable def x_09 : FSp := { ps := [.val true eLog [.f, .f, .r], .val false (.i .i64) [.f]], rs := [(false, (.i .i64), [.f])], fn := fun v => x_9y v.1 v.2.1 }
noncomputable def t_s_l8At (K : Nat) : Tab := x_ai (tiOf tys) []
def h_s_l8At : Hint := ⟨msk [6, 262150, 16, 36, 268435488, 16, 16], fun _ _ => false, fun _ => false, fun _ => none⟩
noncomputable def c_s_l8At : Code := Tryz.f166.body.getD .skip
theorem x_0h : FOk Tryz.prog 166 (x_09) := by
 let K := 0
 exact
 x_a (T := t_s_l8At K) (H := h_s_l8At) (K := K) (c := c_s_l8At) (ts := [.tmp 4]) Tryz.func166 (by kernel_rfl) (by kernel_rfl) (by kernel_rfl) rfl
  (tok0 x_k) mixed
  (fun v => by kernel_rfl)
noncomputable def x_h9 : FSp := { ps := [.val true eLog [.f, .f, .r], .val false (.i .i64) [.f]], rs := [(false, (.i .i64), [.f])], fn := fun v => x_ho v.1 v.2.1 }
noncomputable def x_agg (K : Nat) : Tab := x_ai (tiOf tys) [(166, x_09)]
def x_afh : Hint := ⟨msk [6, 518, 16, 36, 65572, 16, 16], fun _ _ => false, fun _ => false, fun _ => none⟩
noncomputable def x_aij : Code := Tryz.f139.body.getD .skip
theorem x_hf : FOk Tryz.prog 139 (x_h9) := by
 let K := 0
 exact
 x_a (T := x_agg K) (H := x_afh) (K := K) (c := x_aij) (ts := [.tmp 4]) Tryz.func139 (by kernel_rfl) (by kernel_rfl) (by kernel_rfl) rfl
  (tokc (x_0h) (tok0 x_k)) mixed
  (fun v => by kernel_rfl)
end Go.Proofs.YtkdamnchchhjeaaGreatDoor.Fs
