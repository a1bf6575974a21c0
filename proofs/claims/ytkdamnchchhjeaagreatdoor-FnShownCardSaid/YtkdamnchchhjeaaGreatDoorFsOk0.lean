/- The functions compute what is told of them. -/
import Derived.Test.YtkdamnchchhjeaaGreatDoorFsSh
import Derived.Test.YtkdamnchchhjeaaGreatDoorFsLib
set_option linter.all false
set_option maxRecDepth 100000
namespace Go.Proofs.YtkdamnchchhjeaaGreatDoor.Fs
open Go Go.Kn
def tys : List (TypeId × TInf) := [
 (3, { agg := false, e := (.i .i64), bytes := 8 }),
 (4, { agg := false, e := .b, bytes := 1 }),
 (5, { agg := false, e := (.i .u8), bytes := 1 }),
 (9, { agg := false, e := .s, bytes := 16 }),
 (22, { agg := false, e := (.sl (.i .u8)), bytes := 24, el := 5 }),
 (24, { agg := false, e := (.sl x_ou), bytes := 24, el := 76 }),
 (26, { agg := true, e := eRow, bytes := 40, fs := [(0, 1, false), (1, 1, false), (2, 1, false)] }),
 (28, { agg := false, e := (.sl (.i .i64)), bytes := 24, el := 3 }),
 (30, { agg := true, e := x_ar, bytes := 80, fs := [(0, 1, false), (1, 1, false), (2, 1, false), (3, 1, false)] }),
 (33, { agg := true, e := x_2, bytes := 48, fs := [(0, 1, false), (1, 1, false), (2, 1, false), (3, 1, false)] }),
 (35, { agg := false, e := (.sl x_ct), bytes := 24, el := 113 }),
 (37, { agg := true, e := eLog, bytes := 40, fs := [(0, 1, false), (1, 1, false), (2, 1, false)] }),
 (38, { agg := false, e := (.sl eRow), bytes := 24, el := 26 }),
 (39, { agg := false, e := (.sl x_at), bytes := 24, el := 158 }),
 (40, { agg := false, e := (.sl x_ar), bytes := 24, el := 30 }),
 (41, { agg := false, e := (.sl x_2), bytes := 24, el := 33 }),
 (43, { agg := true, e := x_p8, bytes := 128, fs := [(0, 1, false), (1, 1, false), (2, 1, false), (3, 1, false), (4, 1, false), (5, 1, false)] }),
 (45, { agg := true, e := x_7y, bytes := 184, fs := [(0, 1, false), (1, 1, false), (2, 3, true), (5, 6, true)] }),
 (46, { agg := false, e := (.sl .b), bytes := 24, el := 4 }),
 (48, { agg := true, e := eDisk, bytes := 32, fs := [(0, 1, false), (1, 1, false)] }),
 (49, { agg := false, e := (.sl eRpc), bytes := 24, el := 95 }),
 (51, { agg := true, e := x_hh, bytes := 464, fs := [(0, 1, false), (1, 11, true), (12, 1, false), (13, 1, false), (14, 1, false), (15, 1, false), (16, 1, false), (17, 6, true), (23, 2, true), (25, 1, false)] }),
 (54, { agg := true, e := x_da, bytes := 32, fs := [(0, 1, false), (1, 1, false), (2, 1, false), (3, 1, false)] }),
 (55, { agg := false, e := (.sl x_hh), bytes := 24, el := 51 }),
 (56, { agg := false, e := (.sl eCmd), bytes := 24, el := 100 }),
 (57, { agg := false, e := (.sl x_j8), bytes := 24, el := 98 }),
 (59, { agg := true, e := x_d8, bytes := 184, fs := [(0, 4, true), (4, 1, false), (5, 1, false), (6, 1, false), (7, 1, false), (8, 1, false), (9, 1, false), (10, 1, false)] }),
 (76, { agg := true, e := x_ou, bytes := 56, fs := [(0, 1, false), (1, 1, false), (2, 1, false), (3, 1, false), (4, 1, false)] }),
 (77, { agg := false, e := (.sl .s), bytes := 24, el := 9 }),
 (89, { agg := true, e := x_dn, bytes := 40, fs := [(0, 1, false), (1, 1, false), (2, 1, false)] }),
 (95, { agg := true, e := eRpc, bytes := 104, fs := [(0, 1, false), (1, 1, false), (2, 1, false), (3, 1, false), (4, 1, false), (5, 1, false), (6, 1, false), (7, 1, false), (8, 1, false), (9, 1, false)] }),
 (98, { agg := true, e := x_j8, bytes := 80, fs := [(0, 1, false), (1, 1, false), (2, 4, true), (6, 1, false), (7, 1, false)] }),
 (100, { agg := true, e := eCmd, bytes := 80, fs := [(0, 1, false), (1, 1, false), (2, 1, false), (3, 1, false), (4, 1, false), (5, 1, false), (6, 1, false), (7, 1, false)], eq := true }),
 (113, { agg := true, e := x_ct, bytes := 88, fs := [(0, 1, false), (1, 8, true)], eq := true }),
 (125, { agg := false, e := (.sl eDeed), bytes := 24, el := 150 }),
 (150, { agg := true, e := eDeed, bytes := 104, fs := [(0, 1, false), (1, 1, false), (2, 1, false), (3, 8, true)] }),
 (156, { agg := false, e := (.sl x_38), bytes := 24, el := 176 }),
 (158, { agg := true, e := x_at, bytes := 56, fs := [(0, 1, false), (1, 1, false), (2, 1, false), (3, 1, false), (4, 1, false)] }),
 (163, { agg := true, e := x_4w, bytes := 72, fs := [(0, 1, false), (1, 1, false), (2, 1, false), (3, 1, false), (4, 1, false), (5, 1, false)] }),
 (176, { agg := true, e := x_38, bytes := 16, fs := [(0, 1, false), (1, 1, false)] }),
 (234, { agg := true, e := x_yu, bytes := 40, fs := [(0, 1, false), (1, 1, false), (2, 1, false)] }),
 (240, { agg := true, e := x_fp, bytes := 512, fs := [(0, 4, true), (4, 1, false), (5, 26, true), (31, 1, false)] }),
 (249, { agg := false, e := (.sl x_4w), bytes := 24, el := 163 })]
theorem x_k : x_f2 Tryz.prog (tiOf tys) := tabOk_of (by kernel_rfl)
theorem mixed : Tryz.prog.follows .mixedOrders = true := by kernel_rfl
noncomputable def F_l_big : FSp := { ps := [.val false (.sl (.i .u8)) [.r]], rs := [(false, .b, [.f])], fn := fun v => l_big v.1 }
noncomputable def t_l_big (K : Nat) : Tab := x_ai (tiOf tys) []
def h_l_big : Hint := ⟨msk [1, 4], fun _ _ => false, fun _ => false, fun _ => none⟩
noncomputable def c_l_big : Code := Tryz.f4.body.getD .skip
theorem ok_l_big : FOk Tryz.prog 4 (F_l_big) := by
 let K := 0
 exact
 x_a (T := t_l_big K) (H := h_l_big) (K := K) (c := c_l_big) (ts := [.tmp 2]) Tryz.func4 (by kernel_rfl) (by kernel_rfl) (by kernel_rfl) rfl
  (tok0 x_k) mixed
  (fun v => by kernel_rfl)
noncomputable def x_gj (K : Nat) : FSp := { ps := [.val false (.sl (.i .u8)) [.f]], rs := [(true, x_dn, [.f, .f, .f])], fn := fun v => x_cx K v.1, nv := true }
noncomputable def x_pr (K : Nat) : Tab := x_ai (tiOf tys) []
def x_zf : Hint := ⟨msk [1, 9, 25, 32793, 25, 25, 2147483652], fun _ _ => false, fun _ => false, fun _ => none⟩
noncomputable def x_z4 : Code := Tryz.f21.body.getD .skip
noncomputable def x_cx.g0 (K : Nat) (a0 : List Int) (n : Nat) (q0 : Int) (q1 : Int) : Option (x_c × Unit) :=
 lpg (x_pr K) x_zf K x_z4 [.r, .r, .l, .r, .b] n ⟨[.one (.val .f (.sl (.i .u8)) a0), .dead, .dead, .one (.val .f (.i .i64) q0), .one (.val .f (.i .i64) q1)] ++ List.replicate 27 .dead, List.replicate 32 none⟩ (nvK (x_pr K).toEnv (x_gj K) 2)
theorem x_cx.ok0 (K : Nat) (a0 : List Int) (n : Nat) : x_cx.g0 K a0 n = x_cx.l0 K a0 n := by
 induction n with
 | zero =>
  funext q0 q1
  kernel_rfl
 | succ n ih =>
  funext q0 q1
  have e : x_cx.g0 K a0 (n + 1) q0 q1 = x_cx.l0b K a0 (x_cx.g0 K a0 n) q0 q1 := by kernel_rfl
  rw [ih] at e
  refine e.trans ?_
  kernel_rfl
theorem x_li (K : Nat) : FOk Tryz.prog 21 (x_gj K) :=
 fok_nv (T := x_pr K) (H := x_zf) (K := K) (c := x_z4) (t := 2) Tryz.func21 (by kernel_rfl) (by kernel_rfl) (by kernel_rfl) (by decide)
  (tok0 x_k) mixed
  (fun v => by
  have k0 := x_cx.ok0 K v.1 K
  have e : run (x_pr K) x_zf K x_z4 (x_ax (x_gj K).pk (x_gj K).ps Tryz.f21.ntmps (lv _ v)) (nvK (x_pr K).toEnv (x_gj K) 2) = x_cx.b K v.1 (x_cx.g0 K v.1 K) := by kernel_rfl
  rw [k0] at e
  refine e.trans ?_
  kernel_rfl)
noncomputable def x_3z : FSp := { ps := [.ptr x_dn [.f, .f, .f]], rs := [(false, (.i .i64), [.f])], fn := fun v => x_ln v.1 }
noncomputable def x_ae0 (K : Nat) : Tab := x_ai (tiOf tys) []
def x_ahb : Hint := ⟨msk [1, 1, 9, 17179869193, 9, 9, 5], fun _ _ => false, fun _ => false, fun _ => none⟩
noncomputable def x_aih : Code := Tryz.f53.body.getD .skip
theorem x_aan : FOk Tryz.prog 53 (x_3z) := by
 let K := 0
 exact
 x_a (T := x_ae0 K) (H := x_ahb) (K := K) (c := x_aih) (ts := [.tmp 2]) Tryz.func53 (by kernel_rfl) (by kernel_rfl) (by kernel_rfl) rfl
  (tok0 x_k) mixed
  (fun v => by kernel_rfl)
noncomputable def x_ad : FSp := { ps := [.ptr x_dn [.f, .f, .f], .val false (.i .i64) [.f]], rs := [(false, (.i .i64), [.f])], fn := fun v => x_f v.1 v.2.1 }
noncomputable def x_9c (K : Nat) : Tab := x_ai (tiOf tys) [(53, x_3z)]
def x_87 : Hint := ⟨msk [3, 1027, 17, 4099, 17, 35, 99, 227, 483, 17], fun _ _ => false, fun _ => false, fun _ => none⟩
noncomputable def x_abe : Code := Tryz.f34.body.getD .skip
theorem x_1 : FOk Tryz.prog 34 (x_ad) := by
 let K := 0
 exact
 x_a (T := x_9c K) (H := x_87) (K := K) (c := x_abe) (ts := [.tmp 4]) Tryz.func34 (by kernel_rfl) (by kernel_rfl) (by kernel_rfl) rfl
  (tokc (x_aan) (tok0 x_k)) mixed
  (fun v => by kernel_rfl)
noncomputable def x_mv : FSp := { ps := [.ptr x_dn [.f, .f, .f], .val false (.sl .s) [.r]], rs := [(false, .s, [.f])], fn := fun v => x_on v.1 v.2.1 }
noncomputable def x_ac7 (K : Nat) : Tab := x_ai (tiOf tys) [(34, x_ad)]
def x_ag1 : Hint := ⟨msk [3, 17], fun _ _ => false, fun _ => false, fun _ => none⟩
noncomputable def x_ag2 : Code := Tryz.f36.body.getD .skip
theorem x_nn : FOk Tryz.prog 36 (x_mv) := by
 let K := 0
 exact
 x_a (T := x_ac7 K) (H := x_ag1) (K := K) (c := x_ag2) (ts := [.tmp 4]) Tryz.func36 (by kernel_rfl) (by kernel_rfl) (by kernel_rfl) rfl
  (tokc (x_1) (tok0 x_k)) mixed
  (fun v => by kernel_rfl)
noncomputable def x_kl : FSp := { ps := [.ptr x_dn [.f, .f, .f]], rs := [(false, .s, [.f])], fn := fun v => x_eo v.1 }
noncomputable def x_z0 (K : Nat) : Tab := x_ai (tiOf tys) [(36, x_mv)]
def x_0q : Hint := ⟨msk [1, 5], fun _ _ => false, fun _ => false, fun _ => none⟩
noncomputable def x_y5 : Code := Tryz.f50.body.getD .skip
theorem x_n4 : FOk Tryz.prog 50 (x_kl) := by
 let K := 0
 exact
 x_a (T := x_z0 K) (H := x_0q) (K := K) (c := x_y5) (ts := [.tmp 2]) Tryz.func50 (by kernel_rfl) (by kernel_rfl) (by kernel_rfl) rfl
  (tokc (x_nn) (tok0 x_k)) mixed
  (fun v => by kernel_rfl)
noncomputable def x_ly : FSp := { ps := [.val true eRow [.f, .f, .r]], rs := [(true, eRow, [.f, .f, .x 0])], fn := fun v => x_kk v.1 }
noncomputable def x_aca (K : Nat) : Tab := x_ai (tiOf tys) []
def x_agz : Hint := ⟨msk [6, 4], fun _ _ => false, fun _ => false, fun _ => none⟩
noncomputable def x_ae6 : Code := Tryz.f54.body.getD .skip
theorem x_np : FOk Tryz.prog 54 (x_ly) := by
 let K := 0
 exact
 x_a (T := x_aca K) (H := x_agz) (K := K) (c := x_ae6) (ts := [.cell 2 26]) Tryz.func54 (by kernel_rfl) (by kernel_rfl) (by kernel_rfl) rfl
  (tok0 x_k) mixed
  (fun v => by kernel_rfl)
noncomputable def x_gy (K : Nat) : FSp := { ps := [.val false .s [.f]], rs := [(false, .b, [.f])], fn := fun v => x_bw K v.1 }
noncomputable def x_l5 (K : Nat) : Tab := x_ai (tiOf tys) []
def x_uz : Hint := ⟨msk [1, 9, 265, 9, 25, 4294967305, 4, 4], fun _ _ => false, fun _ => false, fun _ => none⟩
noncomputable def x_tt : Code := Tryz.f109.body.getD .skip
noncomputable def x_bw.g0 (K : Nat) (a0 : ByteArray) (n : Nat) (q0 : Int) : Option (Bool × Unit) :=
 lpg (x_l5 K) x_uz K x_tt [.r, .l, .r, .b] n ⟨[.one (.val .f .s a0), .dead, .dead, .one (.val .f (.i .i64) q0)] ++ List.replicate 32 .dead, List.replicate 36 none⟩ (endK (x_l5 K).toEnv (x_gy K) [.tmp 2])
theorem x_bw.ok0 (K : Nat) (a0 : ByteArray) (n : Nat) : x_bw.g0 K a0 n = x_bw.l0 K a0 n := by
 induction n with
 | zero =>
  funext q0
  kernel_rfl
 | succ n ih =>
  funext q0
  have e : x_bw.g0 K a0 (n + 1) q0 = x_bw.l0b K a0 (x_bw.g0 K a0 n) q0 := by kernel_rfl
  rw [ih] at e
  refine e.trans ?_
  kernel_rfl
theorem x_q3 (K : Nat) : FOk Tryz.prog 109 (x_gy K) :=
 x_a (T := x_l5 K) (H := x_uz) (K := K) (c := x_tt) (ts := [.tmp 2]) Tryz.func109 (by kernel_rfl) (by kernel_rfl) (by kernel_rfl) rfl
  (tok0 x_k) mixed
  (fun v => by
  have k0 := x_bw.ok0 K v.1 K
  have e : run (x_l5 K) x_uz K x_tt (x_ax (x_gy K).pk (x_gy K).ps Tryz.f109.ntmps (lv _ v)) (endK (x_l5 K).toEnv (x_gy K) [.tmp 2]) = x_bw.b K v.1 (x_bw.g0 K v.1 K) := by kernel_rfl
  rw [k0] at e
  refine e.trans ?_
  kernel_rfl)
noncomputable def x_bv : FSp := { ps := [.val false (.i .i64) [.f], .val false (.i .i64) [.f], .val false (.i .i64) [.f]], rs := [(false, .b, [.f])], fn := fun v => x_a4 v.1 v.2.1 v.2.2.1 }
noncomputable def t_s_l1In (K : Nat) : Tab := x_ai (tiOf tys) []
def h_s_l1In : Hint := ⟨msk [7, 64], fun _ _ => false, fun _ => false, fun _ => none⟩
noncomputable def c_s_l1In : Code := Tryz.f30.body.getD .skip
theorem x_bc : FOk Tryz.prog 30 (x_bv) := by
 let K := 0
 exact
 x_a (T := t_s_l1In K) (H := h_s_l1In) (K := K) (c := c_s_l1In) (ts := [.tmp 6]) Tryz.func30 (by kernel_rfl) (by kernel_rfl) (by kernel_rfl) rfl
  (tok0 x_k) mixed
  (fun v => by kernel_rfl)
noncomputable def x_3u (K : Nat) : FSp := { ps := [.val true x_ou [.f, .f, .f, .f, .f]], rs := [(false, .b, [.f])], fn := fun v => x_0g K v.1 }
noncomputable def x_ah3 (K : Nat) : Tab := x_ai (tiOf tys) [(109, x_gy K), (30, x_bv)]
def x_agq : Hint := ⟨msk [2, 4], fun _ _ => false, fun _ => false, fun _ => none⟩
noncomputable def x_afe : Code := Tryz.f79.body.getD .skip
theorem x_abv (K : Nat) : FOk Tryz.prog 79 (x_3u K) :=
 x_a (T := x_ah3 K) (H := x_agq) (K := K) (c := x_afe) (ts := [.tmp 2]) Tryz.func79 (by kernel_rfl) (by kernel_rfl) (by kernel_rfl) rfl
  (tokc (x_q3 K) (tokc (x_bc) (tok0 x_k))) mixed
  (fun v => by kernel_rfl)
noncomputable def x_g6 (K : Nat) : FSp := { ps := [.val true eRow [.f, .f, .r]], rs := [(false, .b, [.f])], fn := fun v => x_cn K v.1 }
noncomputable def x_p7 (K : Nat) : Tab := x_ai (tiOf tys) [(79, x_3u K), (30, x_bv)]
def x_zy : Hint := ⟨msk [2, 10, 266, 10, 4503599627370506, 4, 4], fun _ _ => false, fun _ => false, fun _ => none⟩
noncomputable def x_0b : Code := Tryz.f55.body.getD .skip
noncomputable def x_cn.g0 (K : Nat) (a0 : TRow) (n : Nat) (q0 : Int) : Option (Bool × Unit) :=
 lpg (x_p7 K) x_zy K x_0b [.r, .l, .r, .b] n ⟨[.dead, .one (.ptr 1 1 0), .dead, .one (.val .f (.i .i64) q0)] ++ List.replicate 65 .dead, [none, some (1, [.val .f (.i .i64) a0.1, .val .f (.i .i64) a0.2.1, .val .r (.sl x_ou) a0.2.2])] ++ List.replicate 67 none⟩ (endK (x_p7 K).toEnv (x_g6 K) [.tmp 2])
theorem x_cn.ok0 (K : Nat) (a0 : TRow) (n : Nat) : x_cn.g0 K a0 n = x_cn.l0 K a0 n := by
 induction n with
 | zero =>
  funext q0
  kernel_rfl
 | succ n ih =>
  funext q0
  have e : x_cn.g0 K a0 (n + 1) q0 = x_cn.l0b K a0 (x_cn.g0 K a0 n) q0 := by kernel_rfl
  rw [ih] at e
  refine e.trans ?_
  kernel_rfl
theorem x_pq (K : Nat) : FOk Tryz.prog 55 (x_g6 K) :=
 x_a (T := x_p7 K) (H := x_zy) (K := K) (c := x_0b) (ts := [.tmp 2]) Tryz.func55 (by kernel_rfl) (by kernel_rfl) (by kernel_rfl) rfl
  (tokc (x_abv K) (tokc (x_bc) (tok0 x_k))) mixed
  (fun v => by
  have k0 := x_cn.ok0 K v.1 K
  have e : run (x_p7 K) x_zy K x_0b (x_ax (x_g6 K).pk (x_g6 K).ps Tryz.f55.ntmps (lv _ v)) (endK (x_p7 K).toEnv (x_g6 K) [.tmp 2]) = x_cn.b K v.1 (x_cn.g0 K v.1 K) := by kernel_rfl
  rw [k0] at e
  refine e.trans ?_
  kernel_rfl)
noncomputable def x_o8 (K : Nat) : FSp := { ps := [.val true eRow [.f, .f, .r], .val false .s [.f], .val false .s [.f], .val false (.i .i64) [.f], .val false (.i .i64) [.f]], rs := [(true, eRow, [.f, .f, .x 0]), (false, (.i .i64), [.f]), (false, .b, [.f])], fn := fun v => x_ra K v.1 v.2.1 v.2.2.1 v.2.2.2.1 v.2.2.2.2.1 }
noncomputable def x_agt (K : Nat) : Tab := x_ai (tiOf tys) [(54, x_ly), (55, x_g6 K)]
def x_agu : Hint := ⟨msk [1086, 9278, 271422, 7168, 9248, 9248, 274877916192, 7168, 7168], fun _ _ => false, fun _ => false, fun _ => none⟩
noncomputable def x_ah7 : Code := Tryz.f37.body.getD .skip
theorem x_qt (K : Nat) : FOk Tryz.prog 37 (x_o8 K) :=
 x_a (T := x_agt K) (H := x_agu) (K := K) (c := x_ah7) (ts := [.cell 10 26, .tmp 11, .tmp 12]) Tryz.func37 (by kernel_rfl) (by kernel_rfl) (by kernel_rfl) rfl
  (tokc (x_np) (tokc (x_pq K) (tok0 x_k))) mixed
  (fun v => by kernel_rfl)
noncomputable def x_e5 (K : Nat) : FSp := { ps := [.val true eRow [.f, .f, .r], .val false (.i .i64) [.f], .val false (.i .i64) [.f]], rs := [(true, eRow, [.f, .f, .x 0])], fn := fun v => x_4 K v.1 v.2.1 v.2.2.1 }
noncomputable def x_gc (K : Nat) : Tab := x_ai (tiOf tys) [(54, x_ly), (55, x_g6 K)]
def x_m2 : Hint := ⟨msk [78, 206, 4194510, 64, 268435662, 462, 4398046511566, 64, 974, 1152921504606847950, 974, 462, 206, 64], fun _ _ => false, fun _ => false, fun _ => none⟩
noncomputable def x_m5 : Code := Tryz.f51.body.getD .skip
noncomputable def x_4.g0 (K : Nat) (a0 : TRow) (a1 : Int) (a2 : Int) (n : Nat) (q1 : Int) (v1 : TRow × Unit) (q2 : List x_gh) : Option (TRow × Unit) :=
 lpg (x_gc K) x_m2 K x_m5 [.r, .r, .r, .l, .b] n ⟨[.dead, .one (.val .f (.i .i64) a1), .one (.val .f (.i .i64) a2), .one (.ptr 3 1 0), .dead, .dead, .one (.ptr 6 1 0), .one (.ptr 7 1 0)] ++ List.replicate 68 .dead, [none, none, none, some (1, [.val .f (.i .i64) a0.1, .val .f (.i .i64) a0.2.1, .val .r (.sl x_ou) a0.2.2]), none, none, some (1, [.val .f (.i .i64) 0, .val .f (.i .i64) 0, .val (.x 0) (.sl x_ou) []]), some (1, [.val .f (.i .i64) q1, .val .f (.i .i64) v1.1.2.1, .val (.x 0) (.sl x_ou) q2])] ++ List.replicate 68 none⟩ (endK (x_gc K).toEnv (x_e5 K) [.cell 6 26])
noncomputable def x_4.g1 (K : Nat) (a0 : TRow) (a1 : Int) (a2 : Int) (n0 : Nat) (n : Nat) (q2 : List x_gh) (q3 : Int) (q1 : Int) (v1 : TRow × Unit) : Option (TRow × Unit) :=
 lpg (x_gc K) x_m2 K x_m5 [.r, .r, .r, .l, .b, .lp n0, .r, .b, .r, .r, .r, .l, .b] n ⟨[.dead, .one (.val .f (.i .i64) a1), .one (.val .f (.i .i64) a2), .one (.ptr 3 1 0), .dead, .dead, .one (.ptr 6 1 0), .one (.ptr 7 1 0), .one (.val .f (.i .i64) (IntKind.i64.wrap (Int.tdiv (q2.getD 0 x_cm).1 a1))), .one (.val .f (.i .i64) q3)] ++ List.replicate 66 .dead, [none, none, none, some (1, [.val .f (.i .i64) a0.1, .val .f (.i .i64) a0.2.1, .val .r (.sl x_ou) a0.2.2]), none, none, some (1, [.val .f (.i .i64) 0, .val .f (.i .i64) 0, .val (.x 0) (.sl x_ou) []]), some (1, [.val .f (.i .i64) q1, .val .f (.i .i64) v1.1.2.1, .val (.x 0) (.sl x_ou) q2])] ++ List.replicate 68 none⟩ (endK (x_gc K).toEnv (x_e5 K) [.cell 6 26])
theorem x_4.ok1 (K : Nat) (a0 : TRow) (a1 : Int) (a2 : Int) (n0 : Nat) (L0 : Int → (TRow × Unit) → (List x_gh) → Option (TRow × Unit)) (h0 : x_4.g0 K a0 a1 a2 n0 = L0) (n : Nat) : x_4.g1 K a0 a1 a2 n0 n = x_4.l1 K a0 a1 a2 L0 n := by
 induction n with
 | zero =>
  funext q2 q3 q1 v1
  kernel_rfl
 | succ n ih =>
  funext q2 q3 q1 v1
  have e : x_4.g1 K a0 a1 a2 n0 (n + 1) q2 q3 q1 v1 = x_4.l1b K a0 a1 a2 (x_4.g0 K a0 a1 a2 n0) (x_4.g1 K a0 a1 a2 n0 n) q2 q3 q1 v1 := by kernel_rfl
  rw [h0, ih] at e
  refine e.trans ?_
  kernel_rfl
theorem x_4.ok0 (K : Nat) (a0 : TRow) (a1 : Int) (a2 : Int) (n : Nat) : x_4.g0 K a0 a1 a2 n = x_4.l0 K a0 a1 a2 n := by
 induction n with
 | zero =>
  funext q1 v1 q2
  kernel_rfl
 | succ n ih =>
  have k1 := x_4.ok1 K a0 a1 a2 n (x_4.l0 K a0 a1 a2 n) ih K
  funext q1 v1 q2
  have e : x_4.g0 K a0 a1 a2 (n + 1) q1 v1 q2 = x_4.l0b K a0 a1 a2 (x_4.g1 K a0 a1 a2 n K) q1 v1 q2 := by kernel_rfl
  rw [k1] at e
  refine e.trans ?_
  kernel_rfl
theorem x_vg (K : Nat) : FOk Tryz.prog 51 (x_e5 K) :=
 x_a (T := x_gc K) (H := x_m2) (K := K) (c := x_m5) (ts := [.cell 6 26]) Tryz.func51 (by kernel_rfl) (by kernel_rfl) (by kernel_rfl) rfl
  (tokc (x_np) (tokc (x_pq K) (tok0 x_k))) mixed
  (fun v => by
  have k0 := x_4.ok0 K v.1 v.2.1 v.2.2.1 K
  have e : run (x_gc K) x_m2 K x_m5 (x_ax (x_e5 K).pk (x_e5 K).ps Tryz.f51.ntmps (lv _ v)) (endK (x_gc K).toEnv (x_e5 K) [.cell 6 26]) = x_4.b K v.1 v.2.1 v.2.2.1 (x_4.g0 K v.1 v.2.1 v.2.2.1 K) := by kernel_rfl
  rw [k0] at e
  refine e.trans ?_
  kernel_rfl)
noncomputable def x_ge (K : Nat) : FSp := { ps := [.val true eRow [.f, .f, .r], .val false (.i .i64) [.f]], rs := [(false, .b, [.f])], fn := fun v => x_a9 K v.1 v.2.1 }
noncomputable def x_ht (K : Nat) : Tab := x_ai (tiOf tys) []
def x_oq : Hint := ⟨msk [6, 38, 4134, 38, 134217766, 16, 16], fun _ _ => false, fun _ => false, fun _ => none⟩
noncomputable def x_op : Code := Tryz.f78.body.getD .skip
noncomputable def x_a9.g0 (K : Nat) (a0 : TRow) (a1 : Int) (n : Nat) (q0 : Int) : Option (Bool × Unit) :=
 lpg (x_ht K) x_oq K x_op [.r, .l, .r, .b] n ⟨[.dead, .one (.val .f (.i .i64) a1), .one (.ptr 2 1 0), .dead, .dead, .one (.val .f (.i .i64) q0)] ++ List.replicate 22 .dead, [none, none, some (1, [.val .f (.i .i64) a0.1, .val .f (.i .i64) a0.2.1, .val .r (.sl x_ou) a0.2.2])] ++ List.replicate 25 none⟩ (endK (x_ht K).toEnv (x_ge K) [.tmp 4])
theorem x_a9.ok0 (K : Nat) (a0 : TRow) (a1 : Int) (n : Nat) : x_a9.g0 K a0 a1 n = x_a9.l0 K a0 a1 n := by
 induction n with
 | zero =>
  funext q0
  kernel_rfl
 | succ n ih =>
  funext q0
  have e : x_a9.g0 K a0 a1 (n + 1) q0 = x_a9.l0b K a0 a1 (x_a9.g0 K a0 a1 n) q0 := by kernel_rfl
  rw [ih] at e
  refine e.trans ?_
  kernel_rfl
theorem x_21 (K : Nat) : FOk Tryz.prog 78 (x_ge K) :=
 x_a (T := x_ht K) (H := x_oq) (K := K) (c := x_op) (ts := [.tmp 4]) Tryz.func78 (by kernel_rfl) (by kernel_rfl) (by kernel_rfl) rfl
  (tok0 x_k) mixed
  (fun v => by
  have k0 := x_a9.ok0 K v.1 v.2.1 K
  have e : run (x_ht K) x_oq K x_op (x_ax (x_ge K).pk (x_ge K).ps Tryz.f78.ntmps (lv _ v)) (endK (x_ht K).toEnv (x_ge K) [.tmp 4]) = x_a9.b K v.1 v.2.1 (x_a9.g0 K v.1 v.2.1 K) := by kernel_rfl
  rw [k0] at e
  refine e.trans ?_
  kernel_rfl)
noncomputable def x_fz (K : Nat) : FSp := { ps := [.val true eRow [.f, .f, .r], .val false (.i .i64) [.f]], rs := [(true, eRow, [.f, .f, .x 0])], fn := fun v => x_bn K v.1 v.2.1 }
noncomputable def x_ji (K : Nat) : Tab := x_ai (tiOf tys) [(55, x_g6 K), (54, x_ly), (78, x_ge K)]
def x_ri : Hint := ⟨msk [22, 16406, 16, 54, 118, 67108982, 118, 246, 18014398509482230, 118, 16], fun _ _ => false, fun _ => false, fun _ => none⟩
noncomputable def x_rq : Code := Tryz.f52.body.getD .skip
noncomputable def x_bn.g0 (K : Nat) (a0 : TRow) (a1 : Int) (n : Nat) (q0 : Int) (q1 : List x_gh) : Option (TRow × Unit) :=
 lpg (x_ji K) x_ri K x_rq [.r, .r, .r, .l, .r, .b] n ⟨[.dead, .one (.val .f (.i .i64) a1), .one (.ptr 2 1 0), .dead, .one (.ptr 4 1 0), .one (.ptr 5 1 0), .one (.val .f (.i .i64) q0)] ++ List.replicate 55 .dead, [none, none, some (1, [.val .f (.i .i64) a0.1, .val .f (.i .i64) a0.2.1, .val .r (.sl x_ou) a0.2.2]), none, some (1, [.val .f (.i .i64) 0, .val .f (.i .i64) 0, .val (.x 0) (.sl x_ou) []]), some (1, [.val .f (.i .i64) a0.1, .val .f (.i .i64) a0.2.1, .val (.x 0) (.sl x_ou) q1])] ++ List.replicate 56 none⟩ (endK (x_ji K).toEnv (x_fz K) [.cell 4 26])
theorem x_bn.ok0 (K : Nat) (a0 : TRow) (a1 : Int) (n : Nat) : x_bn.g0 K a0 a1 n = x_bn.l0 K a0 a1 n := by
 induction n with
 | zero =>
  funext q0 q1
  kernel_rfl
 | succ n ih =>
  funext q0 q1
  have e : x_bn.g0 K a0 a1 (n + 1) q0 q1 = x_bn.l0b K a0 a1 (x_bn.g0 K a0 a1 n) q0 q1 := by kernel_rfl
  rw [ih] at e
  refine e.trans ?_
  kernel_rfl
theorem x_vr (K : Nat) : FOk Tryz.prog 52 (x_fz K) :=
 x_a (T := x_ji K) (H := x_ri) (K := K) (c := x_rq) (ts := [.cell 4 26]) Tryz.func52 (by kernel_rfl) (by kernel_rfl) (by kernel_rfl) rfl
  (tokc (x_pq K) (tokc (x_np) (tokc (x_21 K) (tok0 x_k)))) mixed
  (fun v => by
  have k0 := x_bn.ok0 K v.1 v.2.1 K
  have e : run (x_ji K) x_ri K x_rq (x_ax (x_fz K).pk (x_fz K).ps Tryz.f52.ntmps (lv _ v)) (endK (x_ji K).toEnv (x_fz K) [.cell 4 26]) = x_bn.b K v.1 v.2.1 (x_bn.g0 K v.1 v.2.1 K) := by kernel_rfl
  rw [k0] at e
  refine e.trans ?_
  kernel_rfl)
noncomputable def x_de (K : Nat) : FSp := { ps := [.ptr x_dn [.f, .f, .f]], rs := [(true, eRow, [.f, .f, .x 0])], fn := fun v => x_6 K v.1 }
noncomputable def x_ef (K : Nat) : Tab := x_ai (tiOf tys) [(34, x_ad), (50, x_kl), (37, x_o8 K), (51, x_e5 K), (52, x_fz K)]
def x_i8 : Hint := ⟨msk [5, 13, 29, 61, 2109, 61, 61, 268435517, 805306429, 61, 274877907005, 61, 5], fun _ _ => false, fun _ => false, fun _ => none⟩
noncomputable def x_i2 : Code := Tryz.f33.body.getD .skip
noncomputable def x_6.g0 (K : Nat) (a0 : x_c) (n : Nat) (v1 : Int × x_c × Unit) (q0 : Int) (q1 : Int × x_c × Unit) (q2 : Int) (q3 : Int) (q4 : List x_gh) : Option (TRow × x_c × Unit) :=
 lpg (x_ef K) x_i8 K x_i2 [.r, .r, .r, .l, .r, .b] n ⟨[.one (.ptr 0 0 0), .dead, .one (.ptr 2 1 0), .one (.ptr 3 1 0), .one (.val .f (.i .i64) v1.1), .one (.val .f (.i .i64) q0)] ++ List.replicate 40 .dead, [some (0, [.val .f (.sl (.i .u8)) q1.2.1.1, .val .f (.i .i64) q1.2.1.2.1, .val .f (.i .i64) q1.2.1.2.2]), none, some (1, [.val .f (.i .i64) 0, .val .f (.i .i64) 0, .val (.x 0) (.sl x_ou) []]), some (1, [.val .f (.i .i64) q2, .val .f (.i .i64) q3, .val (.x 0) (.sl x_ou) q4])] ++ List.replicate 42 none⟩ (endK (x_ef K).toEnv (x_de K) [.cell 2 26])
theorem x_6.ok0 (K : Nat) (a0 : x_c) (n : Nat) : x_6.g0 K a0 n = x_6.l0 K a0 n := by
 induction n with
 | zero =>
  funext v1 q0 q1 q2 q3 q4
  kernel_rfl
 | succ n ih =>
  funext v1 q0 q1 q2 q3 q4
  have e : x_6.g0 K a0 (n + 1) v1 q0 q1 q2 q3 q4 = x_6.l0b K a0 (x_6.g0 K a0 n) v1 q0 q1 q2 q3 q4 := by kernel_rfl
  rw [ih] at e
  refine e.trans ?_
  kernel_rfl
theorem x_vk (K : Nat) : FOk Tryz.prog 33 (x_de K) :=
 x_a (T := x_ef K) (H := x_i8) (K := K) (c := x_i2) (ts := [.cell 2 26]) Tryz.func33 (by kernel_rfl) (by kernel_rfl) (by kernel_rfl) rfl
  (tokc (x_1) (tokc (x_n4) (tokc (x_qt K) (tokc (x_vg K) (tokc (x_vr K) (tok0 x_k)))))) mixed
  (fun v => by
  have k0 := x_6.ok0 K v.1 K
  have e : run (x_ef K) x_i8 K x_i2 (x_ax (x_de K).pk (x_de K).ps Tryz.f33.ntmps (lv _ v)) (endK (x_ef K).toEnv (x_de K) [.cell 2 26]) = x_6.b K v.1 (x_6.g0 K v.1 K) := by kernel_rfl
  rw [k0] at e
  refine e.trans ?_
  kernel_rfl)
noncomputable def x_as : FSp := { ps := [.ptr x_dn [.f, .f, .f], .val false (.sl (.i .i64)) [.r]], rs := [(false, (.i .i64), [.f])], fn := fun v => x_p v.1 v.2.1 }
noncomputable def x_1m (K : Nat) : Tab := x_ai (tiOf tys) [(34, x_ad)]
def x_22 : Hint := ⟨msk [3, 17], fun _ _ => false, fun _ => false, fun _ => none⟩
noncomputable def x_35 : Code := Tryz.f35.body.getD .skip
theorem x_aq : FOk Tryz.prog 35 (x_as) := by
 let K := 0
 exact
 x_a (T := x_1m K) (H := x_22) (K := K) (c := x_35) (ts := [.tmp 4]) Tryz.func35 (by kernel_rfl) (by kernel_rfl) (by kernel_rfl) rfl
  (tokc (x_1) (tok0 x_k)) mixed
  (fun v => by kernel_rfl)
end Go.Proofs.YtkdamnchchhjeaaGreatDoor.Fs
