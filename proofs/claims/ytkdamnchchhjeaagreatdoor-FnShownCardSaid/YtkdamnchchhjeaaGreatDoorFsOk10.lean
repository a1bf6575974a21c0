/- The functions compute what is told of them. -/
import Derived.Test.YtkdamnchchhjeaaGreatDoorFsOk9
set_option linter.all false
set_option maxRecDepth 100000
namespace Go.Proofs.YtkdamnchchhjeaaGreatDoor.Fs
open Go Go.Kn
noncomputable def x_jw (K : Nat) : FSp := { ps := [.ptr x_yu [.f, .f, .f]], rs := [(true, x_4w, [.f, .f, .f, .f, .x 0, .f])], fn := fun v => x_b9 K v.1 }
noncomputable def x_mf (K : Nat) : Tab := x_ai (tiOf tys) [(190, x_k9 K), (216, x_7k K), (194, x_ma K)]
def x_va : Hint := ⟨msk [5, 13, 13, 13, 13, 13, 29, 61, 2147483709, 61, 125, 125, 125, 61, 13, 5], fun _ _ => false, fun _ => false, fun _ => none⟩
noncomputable def x_t5 : Code := Tryz.f215.body.getD .skip
noncomputable def x_b9.g0 (K : Nat) (a0 : x_d) (n : Nat) (v5 : Int × x_d × Unit) (q0 : Int) (q1 : x_d × Unit) (v1 : Int × x_d × Unit) (v2 : Int × x_d × Unit) (v3 : Int × x_d × Unit) (v4 : Int × x_d × Unit) (q2 : List x_au) : Option (x_gs × x_d × Unit) :=
 lpg (x_mf K) x_va K x_t5 [.r, .r, .r, .r, .r, .r, .r, .l, .r, .b] n ⟨[.one (.ptr 0 0 0), .dead, .one (.ptr 2 1 0), .one (.ptr 3 1 0), .one (.val .f (.i .i64) v5.1), .one (.val .f (.i .i64) q0)] ++ List.replicate 45 .dead, [some (0, [.val .f (.sl (.i .u8)) q1.1.1, .val .f (.i .i64) q1.1.2.1, .val .f .b q1.1.2.2]), none, some (1, [.val .f (.i .i64) 0, .val .f (.i .i64) 0, .val .f (.i .i64) 0, .val .f (.i .i64) 0, .val (.x 0) (.sl x_ct) [], .val .f .s ByteArray.empty]), some (1, [.val .f (.i .i64) v1.1, .val .f (.i .i64) v2.1, .val .f (.i .i64) (IntKind.i64.wrap (v3.1 - 1)), .val .f (.i .i64) v4.1, .val (.x 0) (.sl x_ct) q2, .val .f .s ByteArray.empty])] ++ List.replicate 47 none⟩ (endK (x_mf K).toEnv (x_jw K) [.cell 2 163])
theorem x_b9.ok0 (K : Nat) (a0 : x_d) (n : Nat) : x_b9.g0 K a0 n = x_b9.l0 K a0 n := by
 induction n with
 | zero =>
  funext v5 q0 q1 v1 v2 v3 v4 q2
  kernel_rfl
 | succ n ih =>
  funext v5 q0 q1 v1 v2 v3 v4 q2
  have e : x_b9.g0 K a0 (n + 1) v5 q0 q1 v1 v2 v3 v4 q2 = x_b9.l0b K a0 (x_b9.g0 K a0 n) v5 q0 q1 v1 v2 v3 v4 q2 := by kernel_rfl
  rw [ih] at e
  refine e.trans ?_
  kernel_rfl
theorem x_abw (K : Nat) : FOk Tryz.prog 215 (x_jw K) :=
 x_a (T := x_mf K) (H := x_va) (K := K) (c := x_t5) (ts := [.cell 2 163]) Tryz.func215 (by kernel_rfl) (by kernel_rfl) (by kernel_rfl) rfl
  (tokc (x_jq K) (tokc (x_adu K) (tokc (x_nm K) (tok0 x_k)))) mixed
  (fun v => by
  have k0 := x_b9.ok0 K v.1 K
  have e : run (x_mf K) x_va K x_t5 (x_ax (x_jw K).pk (x_jw K).ps Tryz.f215.ntmps (lv _ v)) (endK (x_mf K).toEnv (x_jw K) [.cell 2 163]) = x_b9.b K v.1 (x_b9.g0 K v.1 K) := by kernel_rfl
  rw [k0] at e
  refine e.trans ?_
  kernel_rfl)
noncomputable def x_1x (K : Nat) : FSp := { ps := [.val false (.sl (.i .u8)) [.f], .val false (.i .i64) [.f]], rs := [(true, x_4w, [.f, .f, .f, .f, .x 0, .f]), (false, (.i .i64), [.f]), (false, .b, [.f])], fn := fun v => x_yz K v.1 v.2.1 }
noncomputable def x_ag6 (K : Nat) : Tab := x_ai (tiOf tys) [(210, x_gu K), (121, x_0d K), (215, x_jw K), (117, x_mu K)]
def x_ad6 : Hint := ⟨msk [19, 913, 1073742225, 112, 1425, 2251799813686672, 112, 36028797018967440, 36028797018971536, 75557863725914323423632, 112, 112], fun _ _ => false, fun _ => false, fun _ => none⟩
noncomputable def x_afy : Code := Tryz.f209.body.getD .skip
theorem x_abu (K : Nat) : FOk Tryz.prog 209 (x_1x K) :=
 x_a (T := x_ag6 K) (H := x_ad6) (K := K) (c := x_afy) (ts := [.cell 4 163, .tmp 5, .tmp 6]) Tryz.func209 (by kernel_rfl) (by kernel_rfl) (by kernel_rfl) rfl
  (tokc (x_qp K) (tokc (x_2c K) (tokc (x_abw K) (tokc (x_ne K) (tok0 x_k))))) mixed
  (fun v => by kernel_rfl)
noncomputable def x_ki (K : Nat) : FSp := { ps := [.val false (.sl (.i .u8)) [.f]], rs := [(false, (.sl x_4w), [.x 0]), (false, (.i .i64), [.f])], fn := fun v => x_c9 K v.1 }
noncomputable def x_pe (K : Nat) : Tab := x_ai (tiOf tys) [(209, x_1x K)]
def x_1e : Hint := ⟨msk [1, 17, 49, 8241, 497, 4194545, 145, 49, 12], fun _ _ => false, fun _ => false, fun _ => none⟩
noncomputable def x_y0 : Code := Tryz.f186.body.getD .skip
noncomputable def x_c9.g0 (K : Nat) (a0 : List Int) (n : Nat) (q0 : List x_gs) (q1 : Int) : Option ((List x_gs) × Int × Unit) :=
 lpg (x_pe K) x_1e K x_y0 [.r, .r, .r, .l, .b] n ⟨[.one (.val .f (.sl (.i .u8)) a0), .dead, .dead, .dead, .one (.val (.x 0) (.sl x_4w) q0), .one (.val .f (.i .i64) q1)] ++ List.replicate 24 .dead, List.replicate 30 none⟩ (endK (x_pe K).toEnv (x_ki K) [.tmp 2, .tmp 3])
theorem x_c9.ok0 (K : Nat) (a0 : List Int) (n : Nat) : x_c9.g0 K a0 n = x_c9.l0 K a0 n := by
 induction n with
 | zero =>
  funext q0 q1
  kernel_rfl
 | succ n ih =>
  funext q0 q1
  have e : x_c9.g0 K a0 (n + 1) q0 q1 = x_c9.l0b K a0 (x_c9.g0 K a0 n) q0 q1 := by kernel_rfl
  rw [ih] at e
  refine e.trans ?_
  kernel_rfl
theorem x_2h (K : Nat) : FOk Tryz.prog 186 (x_ki K) :=
 x_a (T := x_pe K) (H := x_1e) (K := K) (c := x_y0) (ts := [.tmp 2, .tmp 3]) Tryz.func186 (by kernel_rfl) (by kernel_rfl) (by kernel_rfl) rfl
  (tokc (x_abu K) (tok0 x_k)) mixed
  (fun v => by
  have k0 := x_c9.ok0 K v.1 K
  have e : run (x_pe K) x_1e K x_y0 (x_ax (x_ki K).pk (x_ki K).ps Tryz.f186.ntmps (lv _ v)) (endK (x_pe K).toEnv (x_ki K) [.tmp 2, .tmp 3]) = x_c9.b K v.1 (x_c9.g0 K v.1 K) := by kernel_rfl
  rw [k0] at e
  refine e.trans ?_
  kernel_rfl)
noncomputable def x_jk (K : Nat) : FSp := { ps := [.val true x_da [.f, .f, .f, .f], .val false (.sl (.i .u8)) [.f]], rs := [(true, x_7y, [.f, .f, .f, .f, .x 0, .x 0, .x 0, .x 0, .f, .x 0, .x 0])], fn := fun v => x_ce K v.1 v.2.1 }
noncomputable def x_lw (K : Nat) : Tab := x_ai (tiOf tys) [(93, x_m6 K), (186, x_ki K), (96, x_px K)]
def x_ti : Hint := ⟨msk [22, 54, 116, 372, 524660, 372, 372, 16], fun _ _ => false, fun _ => false, fun _ => none⟩
noncomputable def x_uk : Code := Tryz.f187.body.getD .skip
noncomputable def x_ce.g0 (K : Nat) (a0 : x_n) (a1 : List Int) (n : Nat) (v2 : (List x_gs) × Int × Unit) (q0 : Int) (q1 : x_ff × Unit) : Option (x_ff × Unit) :=
 lpg (x_lw K) x_ti K x_uk [.r, .r, .r, .l, .r, .b] n ⟨[.dead, .dead, .one (.ptr 2 1 0), .dead, .one (.ptr 4 1 0), .one (.ptr 5 1 0), .one (.val (.x 0) (.sl x_4w) v2.1), .dead, .one (.val .f (.i .i64) q0)] ++ List.replicate 21 .dead, [none, none, some (1, [.val .f (.i .i64) a0.1, .val .f (.i .i64) a0.2.1, .val .f (.i .i64) a0.2.2.1, .val .f (.i .i64) a0.2.2.2]), none, some (1, [.val .f (.i .i64) 0, .val .f (.i .i64) 0, .val .f (.i .i64) 0, .val .f (.i .i64) 0, .val (.x 0) (.sl x_ct) [], .val (.x 0) (.sl eRow) [], .val (.x 0) (.sl x_at) [], .val (.x 0) (.sl x_ar) [], .val .f (.i .i64) 0, .val (.x 0) (.sl (.i .i64)) [], .val (.x 0) (.sl x_2) []]), some (1, [.val .f (.i .i64) q1.1.1, .val .f (.i .i64) q1.1.2.1, .val .f (.i .i64) q1.1.2.2.1.1, .val .f (.i .i64) q1.1.2.2.1.2.1, .val (.x 0) (.sl x_ct) q1.1.2.2.1.2.2, .val (.x 0) (.sl eRow) q1.1.2.2.2.1, .val (.x 0) (.sl x_at) q1.1.2.2.2.2.1, .val (.x 0) (.sl x_ar) q1.1.2.2.2.2.2.1, .val .f (.i .i64) q1.1.2.2.2.2.2.2.1, .val (.x 0) (.sl (.i .i64)) q1.1.2.2.2.2.2.2.2.1, .val (.x 0) (.sl x_2) q1.1.2.2.2.2.2.2.2.2])] ++ List.replicate 24 none⟩ (endK (x_lw K).toEnv (x_jk K) [.cell 4 45])
theorem x_ce.ok0 (K : Nat) (a0 : x_n) (a1 : List Int) (n : Nat) : x_ce.g0 K a0 a1 n = x_ce.l0 K a0 a1 n := by
 induction n with
 | zero =>
  funext v2 q0 q1
  kernel_rfl
 | succ n ih =>
  funext v2 q0 q1
  have e : x_ce.g0 K a0 a1 (n + 1) v2 q0 q1 = x_ce.l0b K a0 a1 (x_ce.g0 K a0 a1 n) v2 q0 q1 := by kernel_rfl
  rw [ih] at e
  refine e.trans ?_
  kernel_rfl
theorem x_9a (K : Nat) : FOk Tryz.prog 187 (x_jk K) :=
 x_a (T := x_lw K) (H := x_ti) (K := K) (c := x_uk) (ts := [.cell 4 45]) Tryz.func187 (by kernel_rfl) (by kernel_rfl) (by kernel_rfl) rfl
  (tokc (x_o5 K) (tokc (x_2h K) (tokc (x_qr K) (tok0 x_k)))) mixed
  (fun v => by
  have k0 := x_ce.ok0 K v.1 v.2.1 K
  have e : run (x_lw K) x_ti K x_uk (x_ax (x_jk K).pk (x_jk K).ps Tryz.f187.ntmps (lv _ v)) (endK (x_lw K).toEnv (x_jk K) [.cell 4 45]) = x_ce.b K v.1 v.2.1 (x_ce.g0 K v.1 v.2.1 K) := by kernel_rfl
  rw [k0] at e
  refine e.trans ?_
  kernel_rfl)
noncomputable def x_aeo (K : Nat) : FSp := { ps := [.val true x_da [.f, .f, .f, .f], .val true x_hh [.f, .f, .f, .f, .f, .r, .r, .r, .r, .f, .r, .r, .f, .r, .r, .r, .f, .r, .r, .r, .f, .r, .r, .f, .f, .r], .val false (.i .i64) [.f]], rs := [(true, x_hh, [.f, .f, .f, .f, .f, .x 0, .x 0, .x 0, .x 0, .f, .x 0, .x 0, .f, .x 0, .x 0, .x 0, .f, .x 0, .x 0, .x 0, .f, .x 0, .x 0, .x 0, .f, .x 0])], fn := fun v => s_Rise K v.1 v.2.1 v.2.2.1 }
noncomputable def t_s_Rise (K : Nat) : Tab := x_ai (tiOf tys) [(129, x_cq K), (40, x_co K), (186, x_ki K), (187, x_jk K), (128, x_e8 K), (63, x_dc K)]
def h_s_Rise : Hint := ⟨msk [92, 32860, 64, 348, 860, 1372, 1116, 1152921504606848080, 64, 64], fun _ _ => false, fun _ => false, fun _ => none⟩
noncomputable def c_s_Rise : Code := Tryz.f160.body.getD .skip
theorem ok_s_Rise (K : Nat) : FOk Tryz.prog 160 (x_aeo K) :=
 x_a (T := t_s_Rise K) (H := h_s_Rise) (K := K) (c := c_s_Rise) (ts := [.cell 6 51]) Tryz.func160 (by kernel_rfl) (by kernel_rfl) (by kernel_rfl) rfl
  (tokc (x_fb K) (tokc (x_cl K) (tokc (x_2h K) (tokc (x_9a K) (tokc (x_og K) (tokc (x_jd K) (tok0 x_k))))))) mixed
  (fun v => by kernel_rfl)
noncomputable def x_f9 (K : Nat) : FSp := { ps := [.val true x_7y [.f, .f, .f, .f, .r, .r, .r, .r, .f, .r, .r]], rs := [(false, (.sl (.i .u8)), [.x 0])], fn := fun v => x_an K v.1 }
noncomputable def x_h8 (K : Nat) : Tab := x_ai (tiOf tys) [(100, x_io K), (73, x_by K), (168, x_ik)]
def x_ow : Hint := ⟨msk [2, 10, 65546, 10, 26, 58, 549755813946, 58, 122, 106, 58, 4], fun _ _ => false, fun _ => false, fun _ => none⟩
noncomputable def x_oc : Code := Tryz.f188.body.getD .skip
noncomputable def x_an.g0 (K : Nat) (a0 : x_ff) (n : Nat) (q3 : List Int) (q4 : Int) (q5 : Int) : Option ((List Int) × Unit) :=
 lpg (x_h8 K) x_ow K x_oc [.r, .r, .r, .r, .l, .r, .b] n ⟨[.dead, .one (.ptr 1 1 0), .dead, .one (.val (.x 0) (.sl (.i .u8)) q3), .one (.val .f (.i .i64) q4), .one (.val .f (.i .i64) q5)] ++ List.replicate 68 .dead, [none, some (1, [.val .f (.i .i64) a0.1, .val .f (.i .i64) a0.2.1, .val .f (.i .i64) a0.2.2.1.1, .val .f (.i .i64) a0.2.2.1.2.1, .val .r (.sl x_ct) a0.2.2.1.2.2, .val .r (.sl eRow) a0.2.2.2.1, .val .r (.sl x_at) a0.2.2.2.2.1, .val .r (.sl x_ar) a0.2.2.2.2.2.1, .val .f (.i .i64) a0.2.2.2.2.2.2.1, .val .r (.sl (.i .i64)) a0.2.2.2.2.2.2.2.1, .val .r (.sl x_2) a0.2.2.2.2.2.2.2.2])] ++ List.replicate 72 none⟩ (endK (x_h8 K).toEnv (x_f9 K) [.tmp 2])
theorem x_an.ok0 (K : Nat) (a0 : x_ff) (n : Nat) : x_an.g0 K a0 n = x_an.l0 K a0 n := by
 induction n with
 | zero =>
  funext q3 q4 q5
  kernel_rfl
 | succ n ih =>
  funext q3 q4 q5
  have e : x_an.g0 K a0 (n + 1) q3 q4 q5 = x_an.l0b K a0 (x_an.g0 K a0 n) q3 q4 q5 := by kernel_rfl
  rw [ih] at e
  refine e.trans ?_
  kernel_rfl
theorem x_3d (K : Nat) : FOk Tryz.prog 188 (x_f9 K) :=
 x_a (T := x_h8 K) (H := x_ow) (K := K) (c := x_oc) (ts := [.tmp 2]) Tryz.func188 (by kernel_rfl) (by kernel_rfl) (by kernel_rfl) rfl
  (tokc (x_kq K) (tokc (x_hu K) (tokc (x_id) (tok0 x_k)))) mixed
  (fun v => by
  have k0 := x_an.ok0 K v.1 K
  have e : run (x_h8 K) x_ow K x_oc (x_ax (x_f9 K).pk (x_f9 K).ps Tryz.f188.ntmps (lv _ v)) (endK (x_h8 K).toEnv (x_f9 K) [.tmp 2]) = x_an.b K v.1 (x_an.g0 K v.1 K) := by kernel_rfl
  rw [k0] at e
  refine e.trans ?_
  kernel_rfl)
noncomputable def x_1o (K : Nat) : FSp := { ps := [.val true x_d8 [.f, .f, .f, .f, .f, .x 0, .x 0, .x 0, .x 0, .x 0, .x 0], .val false (.i .i64) [.f]], rs := [(true, x_d8, [.f, .f, .f, .f, .f, .x 0, .x 0, .x 0, .x 0, .x 0, .x 0]), (false, (.i .i64), [.f])], fn := fun v => x_0r K v.1 v.2.1 }
noncomputable def x_agk (K : Nat) : Tab := x_ai (tiOf tys) [(140, x_uo), (63, x_dc K), (188, x_f9 K)]
def x_ady : Hint := ⟨msk [22, 86, 536870998, 48, 86, 86, 214, 562949953421526, 48, 86, 20, 48], fun _ _ => false, fun _ => false, fun _ => none⟩
noncomputable def x_adc : Code := Tryz.f161.body.getD .skip
theorem x_85 (K : Nat) : FOk Tryz.prog 161 (x_1o K) :=
 x_a (T := x_agk K) (H := x_ady) (K := K) (c := x_adc) (ts := [.cell 4 59, .tmp 5]) Tryz.func161 (by kernel_rfl) (by kernel_rfl) (by kernel_rfl) rfl
  (tokc (x_yh) (tokc (x_jd K) (tokc (x_3d K) (tok0 x_k)))) mixed
  (fun v => by kernel_rfl)
noncomputable def x_1y (K : Nat) : FSp := { ps := [.val true x_d8 [.f, .f, .f, .f, .f, .x 0, .x 0, .x 0, .x 0, .x 0, .x 0], .val true eDeed [.f, .f, .f, .f, .f, .f, .f, .f, .f, .f, .f]], rs := [(true, x_d8, [.f, .f, .f, .f, .f, .x 0, .x 0, .x 0, .x 0, .x 0, .x 0]), (false, (.i .i64), [.f])], fn := fun v => x_02 K v.1 v.2.1 }
noncomputable def x_afb (K : Nat) : Tab := x_ai (tiOf tys) [(155, x_ye K), (156, x_1s), (30, x_bv), (157, x_ah2 K), (158, x_xm K), (159, x_af7), (160, x_aeo K), (161, x_1o K)]
def x_ach : Hint := ⟨msk [28, 92, 67108956, 201326684, 404, 1552, 48, 140737555464284, 36028797018964060, 48, 6164, 24592, 48, 151115727451828713947228, 98320, 48, 309485009821345068724781148, 92, 20, 48, 393232, 48], fun _ _ => false, fun _ => false, fun _ => none⟩
noncomputable def x_afq : Code := Tryz.f133.body.getD .skip
theorem x_81 (K : Nat) : FOk Tryz.prog 133 (x_1y K) :=
 x_a (T := x_afb K) (H := x_ach) (K := K) (c := x_afq) (ts := [.cell 4 59, .tmp 5]) Tryz.func133 (by kernel_rfl) (by kernel_rfl) (by kernel_rfl) rfl
  (tokc (ok_s_Ask K) (tokc (x_9v) (tokc (x_bc) (tokc (ok_s_Feed K) (tokc (x_5x K) (tokc (ok_s_Fall) (tokc (ok_s_Rise K) (tokc (x_85 K) (tok0 x_k))))))))) mixed
  (fun v => by kernel_rfl)
noncomputable def x_7c (K : Nat) : FSp := { ps := [.val true x_d8 [.f, .f, .f, .f, .f, .x 0, .x 0, .x 0, .x 0, .x 0, .x 0], .val true eDeed [.f, .f, .f, .f, .f, .f, .f, .f, .f, .f, .f]], rs := [(true, x_d8, [.f, .f, .f, .f, .f, .x 0, .x 0, .x 0, .x 0, .x 0, .x 0]), (false, (.i .i64), [.f])], fn := fun v => x_hp K v.1 v.2.1 }
noncomputable def t_s_l15Do (K : Nat) : Tab := x_ai (tiOf tys) [(30, x_bv), (130, x_2w K), (131, x_yb K), (132, x_2n K), (133, x_1y K)]
def h_s_l15Do : Hint := ⟨msk [28, 131100, 208, 48, 284, 18014398509482268, 48, 288230376151712028, 1552, 48, 147573952589676412956, 6160, 48, 24592, 48], fun _ _ => false, fun _ => false, fun _ => none⟩
noncomputable def c_s_l15Do : Code := Tryz.f113.body.getD .skip
theorem x_acm (K : Nat) : FOk Tryz.prog 113 (x_7c K) :=
 x_a (T := t_s_l15Do K) (H := h_s_l15Do) (K := K) (c := c_s_l15Do) (ts := [.cell 4 59, .tmp 5]) Tryz.func113 (by kernel_rfl) (by kernel_rfl) (by kernel_rfl) rfl
  (tokc (x_bc) (tokc (x_9q K) (tokc (x_5i K) (tokc (x_aau K) (tokc (x_81 K) (tok0 x_k)))))) mixed
  (fun v => by kernel_rfl)
noncomputable def x_gd (K : Nat) : FSp := { ps := [.val true x_d8 [.f, .f, .f, .f, .f, .x 0, .x 0, .x 0, .x 0, .x 0, .x 0]], rs := [(true, x_d8, [.f, .f, .f, .f, .f, .x 0, .x 0, .x 0, .x 0, .x 0, .x 0])], fn := fun v => x_aa K v.1 }
noncomputable def x_gi (K : Nat) : Tab := x_ai (tiOf tys) []
def x_m8 : Hint := ⟨msk [6, 14, 526, 14, 30, 4194334, 62, 2199023255614, 30, 4], fun _ _ => false, fun _ => false, fun _ => none⟩
noncomputable def x_nj : Code := Tryz.f114.body.getD .skip
noncomputable def x_aa.g0 (K : Nat) (a0 : x_r) (n : Nat) (q1 : Int) (q2 : List TCmd) : Option (x_r × Unit) :=
 lpg (x_gi K) x_m8 K x_nj [.r, .l, .r, .b] n ⟨[.dead, .one (.ptr 1 1 0), .one (.ptr 2 1 0), .one (.val .f (.i .i64) q1)] ++ List.replicate 52 .dead, [none, some (1, [.val .f (.i .i64) a0.1.1, .val .f (.i .i64) a0.1.2.1, .val .f (.i .i64) a0.1.2.2.1, .val .f (.i .i64) a0.1.2.2.2, .val .f (.i .i64) a0.2.1, .val (.x 0) (.sl x_hh) a0.2.2.1, .val (.x 0) (.sl eRpc) a0.2.2.2.1, .val (.x 0) (.sl eCmd) a0.2.2.2.2.1, .val (.x 0) (.sl (.i .i64)) a0.2.2.2.2.2.1, .val (.x 0) (.sl x_j8) a0.2.2.2.2.2.2.1, .val (.x 0) (.sl eCmd) q2]), some (1, [.val .f (.i .i64) 0, .val .f (.i .i64) 0, .val .f (.i .i64) 0, .val .f (.i .i64) 0, .val .f (.i .i64) 0, .val (.x 0) (.sl x_hh) [], .val (.x 0) (.sl eRpc) [], .val (.x 0) (.sl eCmd) [], .val (.x 0) (.sl (.i .i64)) [], .val (.x 0) (.sl x_j8) [], .val (.x 0) (.sl eCmd) []])] ++ List.replicate 53 none⟩ (endK (x_gi K).toEnv (x_gd K) [.cell 2 59])
noncomputable def x_aa.g1 (K : Nat) (a0 : x_r) (n0 : Nat) (n : Nat) (q1 : Int) (q3 : List TCmd) : Option (x_r × Unit) :=
 lpg (x_gi K) x_m8 K x_nj [.r, .l, .r, .b, .lp n0, .r, .l, .b, .r, .b] n ⟨[.dead, .one (.ptr 1 1 0), .one (.ptr 2 1 0), .one (.val .f (.i .i64) q1), .one (.ptr 4 1 0)] ++ List.replicate 51 .dead, [none, some (1, [.val .f (.i .i64) a0.1.1, .val .f (.i .i64) a0.1.2.1, .val .f (.i .i64) a0.1.2.2.1, .val .f (.i .i64) a0.1.2.2.2, .val .f (.i .i64) a0.2.1, .val (.x 0) (.sl x_hh) a0.2.2.1, .val (.x 0) (.sl eRpc) a0.2.2.2.1, .val (.x 0) (.sl eCmd) a0.2.2.2.2.1, .val (.x 0) (.sl (.i .i64)) a0.2.2.2.2.2.1, .val (.x 0) (.sl x_j8) a0.2.2.2.2.2.2.1, .val (.x 0) (.sl eCmd) q3]), some (1, [.val .f (.i .i64) 0, .val .f (.i .i64) 0, .val .f (.i .i64) 0, .val .f (.i .i64) 0, .val .f (.i .i64) 0, .val (.x 0) (.sl x_hh) [], .val (.x 0) (.sl eRpc) [], .val (.x 0) (.sl eCmd) [], .val (.x 0) (.sl (.i .i64)) [], .val (.x 0) (.sl x_j8) [], .val (.x 0) (.sl eCmd) []]), none, some (1, [.val .f (.i .i64) (a0.2.2.1.getD (Int.toNat q1) x_ci).1, .val .f (.i .i64) (a0.2.2.1.getD (Int.toNat q1) x_ci).2.1.1, .val .f (.i .i64) (a0.2.2.1.getD (Int.toNat q1) x_ci).2.1.2.1, .val .f (.i .i64) (a0.2.2.1.getD (Int.toNat q1) x_ci).2.1.2.2.1.1, .val .f (.i .i64) (a0.2.2.1.getD (Int.toNat q1) x_ci).2.1.2.2.1.2.1, .val .f (.sl x_ct) (a0.2.2.1.getD (Int.toNat q1) x_ci).2.1.2.2.1.2.2, .val .f (.sl eRow) (a0.2.2.1.getD (Int.toNat q1) x_ci).2.1.2.2.2.1, .val .f (.sl x_at) (a0.2.2.1.getD (Int.toNat q1) x_ci).2.1.2.2.2.2.1, .val .f (.sl x_ar) (a0.2.2.1.getD (Int.toNat q1) x_ci).2.1.2.2.2.2.2.1, .val .f (.i .i64) (a0.2.2.1.getD (Int.toNat q1) x_ci).2.1.2.2.2.2.2.2.1, .val .f (.sl (.i .i64)) (a0.2.2.1.getD (Int.toNat q1) x_ci).2.1.2.2.2.2.2.2.2.1, .val .f (.sl x_2) (a0.2.2.1.getD (Int.toNat q1) x_ci).2.1.2.2.2.2.2.2.2.2, .val .f (.i .i64) (a0.2.2.1.getD (Int.toNat q1) x_ci).2.2.1, .val .f (.sl .b) (a0.2.2.1.getD (Int.toNat q1) x_ci).2.2.2.1, .val .f (.sl (.i .i64)) (a0.2.2.1.getD (Int.toNat q1) x_ci).2.2.2.2.1, .val .f (.sl (.i .i64)) (a0.2.2.1.getD (Int.toNat q1) x_ci).2.2.2.2.2.1, .val .f (.i .i64) (a0.2.2.1.getD (Int.toNat q1) x_ci).2.2.2.2.2.2.1, .val .f (.sl eRow) (a0.2.2.1.getD (Int.toNat q1) x_ci).2.2.2.2.2.2.2.1.1, .val .f (.sl x_at) (a0.2.2.1.getD (Int.toNat q1) x_ci).2.2.2.2.2.2.2.1.2.1, .val .f (.sl x_ar) (a0.2.2.1.getD (Int.toNat q1) x_ci).2.2.2.2.2.2.2.1.2.2.1, .val .f (.i .i64) (a0.2.2.1.getD (Int.toNat q1) x_ci).2.2.2.2.2.2.2.1.2.2.2.1, .val .f (.sl (.i .i64)) (a0.2.2.1.getD (Int.toNat q1) x_ci).2.2.2.2.2.2.2.1.2.2.2.2.1, .val .f (.sl x_2) (a0.2.2.1.getD (Int.toNat q1) x_ci).2.2.2.2.2.2.2.1.2.2.2.2.2, .val .f (.sl (.i .u8)) (a0.2.2.1.getD (Int.toNat q1) x_ci).2.2.2.2.2.2.2.2.1.1, .val .f (.i .i64) (a0.2.2.1.getD (Int.toNat q1) x_ci).2.2.2.2.2.2.2.2.1.2, .val .f (.sl eRpc) (a0.2.2.1.getD (Int.toNat q1) x_ci).2.2.2.2.2.2.2.2.2])] ++ List.replicate 51 none⟩ (endK (x_gi K).toEnv (x_gd K) [.cell 2 59])
theorem x_aa.ok1 (K : Nat) (a0 : x_r) (n0 : Nat) (L0 : Int → (List TCmd) → Option (x_r × Unit)) (h0 : x_aa.g0 K a0 n0 = L0) (n : Nat) : x_aa.g1 K a0 n0 n = x_aa.l1 K a0 L0 n := by
 induction n with
 | zero =>
  funext q1 q3
  kernel_rfl
 | succ n ih =>
  funext q1 q3
  have e : x_aa.g1 K a0 n0 (n + 1) q1 q3 = x_aa.l1b K a0 (x_aa.g0 K a0 n0) (x_aa.g1 K a0 n0 n) q1 q3 := by kernel_rfl
  rw [h0, ih] at e
  refine e.trans ?_
  kernel_rfl
theorem x_aa.ok0 (K : Nat) (a0 : x_r) (n : Nat) : x_aa.g0 K a0 n = x_aa.l0 K a0 n := by
 induction n with
 | zero =>
  funext q1 q2
  kernel_rfl
 | succ n ih =>
  have k1 := x_aa.ok1 K a0 n (x_aa.l0 K a0 n) ih K
  funext q1 q2
  have e : x_aa.g0 K a0 (n + 1) q1 q2 = x_aa.l0b K a0 (x_aa.g1 K a0 n K) q1 q2 := by kernel_rfl
  rw [k1] at e
  refine e.trans ?_
  kernel_rfl
theorem x_40 (K : Nat) : FOk Tryz.prog 114 (x_gd K) :=
 x_a (T := x_gi K) (H := x_m8) (K := K) (c := x_nj) (ts := [.cell 2 59]) Tryz.func114 (by kernel_rfl) (by kernel_rfl) (by kernel_rfl) rfl
  (tok0 x_k) mixed
  (fun v => by
  have k0 := x_aa.ok0 K v.1 K
  have e : run (x_gi K) x_m8 K x_nj (x_ax (x_gd K).pk (x_gd K).ps Tryz.f114.ntmps (lv _ v)) (endK (x_gi K).toEnv (x_gd K) [.cell 2 59]) = x_aa.b K v.1 (x_aa.g0 K v.1 K) := by kernel_rfl
  rw [k0] at e
  refine e.trans ?_
  kernel_rfl)
noncomputable def x_x7 (K : Nat) : FSp := { ps := [.val true x_d8 [.f, .f, .f, .f, .f, .x 0, .x 0, .x 0, .x 0, .x 0, .x 0], .val true eDeed [.f, .f, .f, .f, .f, .f, .f, .f, .f, .f, .f]], rs := [(true, x_d8, [.f, .f, .f, .f, .f, .x 0, .x 0, .x 0, .x 0, .x 0, .x 0]), (false, (.i .i64), [.f])], fn := fun v => x_st K v.1 v.2.1 }
noncomputable def x_ab0 (K : Nat) : Tab := x_ai (tiOf tys) [(113, x_7c K), (114, x_gd K)]
def x_abp : Hint := ⟨msk [28, 208, 32976, 208, 48], fun _ _ => false, fun _ => false, fun _ => none⟩
noncomputable def x_aa7 : Code := Tryz.f88.body.getD .skip
theorem x_4h (K : Nat) : FOk Tryz.prog 88 (x_x7 K) :=
 x_a (T := x_ab0 K) (H := x_abp) (K := K) (c := x_aa7) (ts := [.cell 4 59, .tmp 5]) Tryz.func88 (by kernel_rfl) (by kernel_rfl) (by kernel_rfl) rfl
  (tokc (x_acm K) (tokc (x_40 K) (tok0 x_k))) mixed
  (fun v => by kernel_rfl)
end Go.Proofs.YtkdamnchchhjeaaGreatDoor.Fs
