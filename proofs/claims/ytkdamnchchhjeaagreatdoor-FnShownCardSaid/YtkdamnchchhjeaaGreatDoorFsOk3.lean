/- The functions compute what is told of them. -/
import Derived.Test.YtkdamnchchhjeaaGreatDoorFsOk2
set_option linter.all false
set_option maxRecDepth 100000
namespace Go.Proofs.YtkdamnchchhjeaaGreatDoor.Fs
open Go Go.Kn
noncomputable def x_ml : FSp := { ps := [.val true eDisk [.r, .f]], rs := [(false, .b, [.f])], fn := fun v => x_oe v.1 }
noncomputable def x_ail (K : Nat) : Tab := x_ai (tiOf tys) [(30, x_bv)]
def x_af3 : Hint := ⟨msk [2, 4], fun _ _ => false, fun _ => false, fun _ => none⟩
noncomputable def x_ag4 : Code := Tryz.f151.body.getD .skip
theorem x_m4 : FOk Tryz.prog 151 (x_ml) := by
 let K := 0
 exact
 x_a (T := x_ail K) (H := x_af3) (K := K) (c := x_ag4) (ts := [.tmp 2]) Tryz.func151 (by kernel_rfl) (by kernel_rfl) (by kernel_rfl) rfl
  (tokc (x_bc) (tok0 x_k)) mixed
  (fun v => by kernel_rfl)
noncomputable def x_cq (K : Nat) : FSp := { ps := [.val true x_da [.f, .f, .f, .f], .val true x_hh [.f, .f, .f, .f, .f, .r, .r, .r, .r, .f, .r, .r, .f, .r, .r, .r, .f, .r, .r, .r, .f, .r, .r, .r, .f, .r], .val false (.i .i64) [.f]], rs := [(false, .b, [.f])], fn := fun v => x_3 K v.1 v.2.1 v.2.2.1 }
noncomputable def x_hq (K : Nat) : Tab := x_ai (tiOf tys) [(30, x_bv), (116, x_vh K), (32, x_cc), (150, x_s5 K), (135, x_ec K), (151, x_ml)]
def x_pl : Hint := ⟨msk [28, 4611686018427387932, 64, 156, 668, 4722366482869645214364, 668, 9903520314283042199192994460, 64, 1180, 316912650057057350374175802524, 1180, 664613997892457936451903530140173468, 64, 64], fun _ _ => false, fun _ => false, fun _ => none⟩
noncomputable def x_pz : Code := Tryz.f129.body.getD .skip
noncomputable def x_3.g0 (K : Nat) (a0 : x_n) (a1 : x_bt) (a2 : Int) (n : Nat) (v5 : Int × Int × Unit) (q0 : Int) : Option (Bool × Unit) :=
 lpg (x_hq K) x_pl K x_pz [.r, .r, .r, .l, .r, .b] n ⟨[.dead, .dead, .one (.val .f (.i .i64) a2), .one (.ptr 3 1 0), .one (.ptr 4 1 0), .dead, .dead, .one (.val .f (.i .i64) v5.1), .dead, .one (.val .f (.i .i64) q0)] ++ List.replicate 135 .dead, [none, none, none, some (1, [.val .f (.i .i64) a0.1, .val .f (.i .i64) a0.2.1, .val .f (.i .i64) a0.2.2.1, .val .f (.i .i64) a0.2.2.2]), some (1, [.val .f (.i .i64) a1.1, .val .f (.i .i64) a1.2.1.1, .val .f (.i .i64) a1.2.1.2.1, .val .f (.i .i64) a1.2.1.2.2.1.1, .val .f (.i .i64) a1.2.1.2.2.1.2.1, .val .r (.sl x_ct) a1.2.1.2.2.1.2.2, .val .r (.sl eRow) a1.2.1.2.2.2.1, .val .r (.sl x_at) a1.2.1.2.2.2.2.1, .val .r (.sl x_ar) a1.2.1.2.2.2.2.2.1, .val .f (.i .i64) a1.2.1.2.2.2.2.2.2.1, .val .r (.sl (.i .i64)) a1.2.1.2.2.2.2.2.2.2.1, .val .r (.sl x_2) a1.2.1.2.2.2.2.2.2.2.2, .val .f (.i .i64) a1.2.2.1, .val .r (.sl .b) a1.2.2.2.1, .val .r (.sl (.i .i64)) a1.2.2.2.2.1, .val .r (.sl (.i .i64)) a1.2.2.2.2.2.1, .val .f (.i .i64) a1.2.2.2.2.2.2.1, .val .r (.sl eRow) a1.2.2.2.2.2.2.2.1.1, .val .r (.sl x_at) a1.2.2.2.2.2.2.2.1.2.1, .val .r (.sl x_ar) a1.2.2.2.2.2.2.2.1.2.2.1, .val .f (.i .i64) a1.2.2.2.2.2.2.2.1.2.2.2.1, .val .r (.sl (.i .i64)) a1.2.2.2.2.2.2.2.1.2.2.2.2.1, .val .r (.sl x_2) a1.2.2.2.2.2.2.2.1.2.2.2.2.2, .val .r (.sl (.i .u8)) a1.2.2.2.2.2.2.2.2.1.1, .val .f (.i .i64) a1.2.2.2.2.2.2.2.2.1.2, .val .r (.sl eRpc) a1.2.2.2.2.2.2.2.2.2])] ++ List.replicate 140 none⟩ (endK (x_hq K).toEnv (x_cq K) [.tmp 6])
noncomputable def x_3.g1 (K : Nat) (a0 : x_n) (a1 : x_bt) (a2 : Int) (n : Nat) (v5 : Int × Int × Unit) (q1 : Int) : Option (Bool × Unit) :=
 lpg (x_hq K) x_pl K x_pz [.r, .r, .r, .r, .l, .r, .b] n ⟨[.dead, .dead, .one (.val .f (.i .i64) a2), .one (.ptr 3 1 0), .one (.ptr 4 1 0), .dead, .dead, .one (.val .f (.i .i64) v5.1), .dead, .dead, .one (.val .f (.i .i64) q1)] ++ List.replicate 134 .dead, [none, none, none, some (1, [.val .f (.i .i64) a0.1, .val .f (.i .i64) a0.2.1, .val .f (.i .i64) a0.2.2.1, .val .f (.i .i64) a0.2.2.2]), some (1, [.val .f (.i .i64) a1.1, .val .f (.i .i64) a1.2.1.1, .val .f (.i .i64) a1.2.1.2.1, .val .f (.i .i64) a1.2.1.2.2.1.1, .val .f (.i .i64) a1.2.1.2.2.1.2.1, .val .r (.sl x_ct) a1.2.1.2.2.1.2.2, .val .r (.sl eRow) a1.2.1.2.2.2.1, .val .r (.sl x_at) a1.2.1.2.2.2.2.1, .val .r (.sl x_ar) a1.2.1.2.2.2.2.2.1, .val .f (.i .i64) a1.2.1.2.2.2.2.2.2.1, .val .r (.sl (.i .i64)) a1.2.1.2.2.2.2.2.2.2.1, .val .r (.sl x_2) a1.2.1.2.2.2.2.2.2.2.2, .val .f (.i .i64) a1.2.2.1, .val .r (.sl .b) a1.2.2.2.1, .val .r (.sl (.i .i64)) a1.2.2.2.2.1, .val .r (.sl (.i .i64)) a1.2.2.2.2.2.1, .val .f (.i .i64) a1.2.2.2.2.2.2.1, .val .r (.sl eRow) a1.2.2.2.2.2.2.2.1.1, .val .r (.sl x_at) a1.2.2.2.2.2.2.2.1.2.1, .val .r (.sl x_ar) a1.2.2.2.2.2.2.2.1.2.2.1, .val .f (.i .i64) a1.2.2.2.2.2.2.2.1.2.2.2.1, .val .r (.sl (.i .i64)) a1.2.2.2.2.2.2.2.1.2.2.2.2.1, .val .r (.sl x_2) a1.2.2.2.2.2.2.2.1.2.2.2.2.2, .val .r (.sl (.i .u8)) a1.2.2.2.2.2.2.2.2.1.1, .val .f (.i .i64) a1.2.2.2.2.2.2.2.2.1.2, .val .r (.sl eRpc) a1.2.2.2.2.2.2.2.2.2])] ++ List.replicate 140 none⟩ (endK (x_hq K).toEnv (x_cq K) [.tmp 6])
theorem x_3.ok1 (K : Nat) (a0 : x_n) (a1 : x_bt) (a2 : Int) (n : Nat) : x_3.g1 K a0 a1 a2 n = x_3.l1 K a0 a1 a2 n := by
 induction n with
 | zero =>
  funext v5 q1
  kernel_rfl
 | succ n ih =>
  funext v5 q1
  have e : x_3.g1 K a0 a1 a2 (n + 1) v5 q1 = x_3.l1b K a0 a1 a2 (x_3.g1 K a0 a1 a2 n) v5 q1 := by kernel_rfl
  rw [ih] at e
  refine e.trans ?_
  kernel_rfl
theorem x_3.ok0 (K : Nat) (a0 : x_n) (a1 : x_bt) (a2 : Int) (n : Nat) : x_3.g0 K a0 a1 a2 n = x_3.l0 K a0 a1 a2 n := by
 induction n with
 | zero =>
  funext v5 q0
  kernel_rfl
 | succ n ih =>
  have k1 := x_3.ok1 K a0 a1 a2 K
  funext v5 q0
  have e : x_3.g0 K a0 a1 a2 (n + 1) v5 q0 = x_3.l0b K a0 a1 a2 (x_3.g0 K a0 a1 a2 n) (x_3.g1 K a0 a1 a2 K) v5 q0 := by kernel_rfl
  rw [ih, k1] at e
  refine e.trans ?_
  kernel_rfl
theorem x_fb (K : Nat) : FOk Tryz.prog 129 (x_cq K) :=
 x_a (T := x_hq K) (H := x_pl) (K := K) (c := x_pz) (ts := [.tmp 6]) Tryz.func129 (by kernel_rfl) (by kernel_rfl) (by kernel_rfl) rfl
  (tokc (x_bc) (tokc (x_xf K) (tokc (x_b1) (tokc (x_v4 K) (tokc (x_re K) (tokc (x_m4) (tok0 x_k))))))) mixed
  (fun v => by
  have k0 := x_3.ok0 K v.1 v.2.1 v.2.2.1 K
  have e : run (x_hq K) x_pl K x_pz (x_ax (x_cq K).pk (x_cq K).ps Tryz.f129.ntmps (lv _ v)) (endK (x_hq K).toEnv (x_cq K) [.tmp 6]) = x_3.b K v.1 v.2.1 v.2.2.1 (x_3.g0 K v.1 v.2.1 v.2.2.1 K) := by kernel_rfl
  rw [k0] at e
  refine e.trans ?_
  kernel_rfl)
noncomputable def x_yo (K : Nat) : FSp := { ps := [.val true x_da [.f, .f, .f, .f], .val false (.i .i64) [.f], .val false (.i .i64) [.f]], rs := [(true, x_hh, [.f, .f, .f, .f, .f, .x 0, .x 0, .x 0, .x 0, .f, .x 0, .x 0, .f, .x 0, .x 0, .x 0, .f, .x 0, .x 0, .x 0, .f, .x 0, .x 0, .x 0, .f, .x 0]), (false, .b, [.f])], fn := fun v => x_tc K v.1 v.2.1 v.2.2.1 }
noncomputable def x_aaj (K : Nat) : Tab := x_ai (tiOf tys) [(110, x_e7), (30, x_bv), (93, x_m6 K), (128, x_e8 K), (115, x_e1 K), (129, x_cq K)]
def x_9f : Hint := ⟨msk [78, 65614, 192, 332, 17179869504, 192, 192], fun _ _ => false, fun _ => false, fun _ => none⟩
noncomputable def x_aay : Code := Tryz.f111.body.getD .skip
theorem x_58 (K : Nat) : FOk Tryz.prog 111 (x_yo K) :=
 x_a (T := x_aaj K) (H := x_9f) (K := K) (c := x_aay) (ts := [.cell 6 51, .tmp 7]) Tryz.func111 (by kernel_rfl) (by kernel_rfl) (by kernel_rfl) rfl
  (tokc (x_ev) (tokc (x_bc) (tokc (x_o5 K) (tokc (x_og K) (tokc (x_oa K) (tokc (x_fb K) (tok0 x_k))))))) mixed
  (fun v => by kernel_rfl)
noncomputable def x_gb (K : Nat) : FSp := { ps := [.val true x_da [.f, .f, .f, .f], .val false (.i .i64) [.f]], rs := [(true, x_d8, [.f, .f, .f, .f, .f, .x 0, .x 0, .x 0, .x 0, .x 0, .x 0]), (false, .b, [.f])], fn := fun v => x_a6 K v.1 v.2.1 }
noncomputable def x_h5 (K : Nat) : Tab := x_ai (tiOf tys) [(110, x_e7), (30, x_bv), (111, x_yo K)]
def x_oy : Hint := ⟨msk [22, 131094, 48, 86, 214, 67109078, 214, 982, 137438953942, 48, 214, 48], fun _ _ => false, fun _ => false, fun _ => none⟩
noncomputable def x_oi : Code := Tryz.f85.body.getD .skip
noncomputable def x_a6.g0 (K : Nat) (a0 : x_n) (a1 : Int) (n : Nat) (q0 : Int) (q1 : List x_bt) : Option (x_r × Bool × Unit) :=
 lpg (x_h5 K) x_oy K x_oi [.r, .r, .r, .l, .r, .b] n ⟨[.dead, .one (.val .f (.i .i64) a1), .one (.ptr 2 1 0), .dead, .one (.ptr 4 1 0), .dead, .one (.ptr 6 1 0), .one (.val .f (.i .i64) q0)] ++ List.replicate 38 .dead, [none, none, some (1, [.val .f (.i .i64) a0.1, .val .f (.i .i64) a0.2.1, .val .f (.i .i64) a0.2.2.1, .val .f (.i .i64) a0.2.2.2]), none, some (1, [.val .f (.i .i64) 0, .val .f (.i .i64) 0, .val .f (.i .i64) 0, .val .f (.i .i64) 0, .val .f (.i .i64) 0, .val (.x 0) (.sl x_hh) [], .val (.x 0) (.sl eRpc) [], .val (.x 0) (.sl eCmd) [], .val (.x 0) (.sl (.i .i64)) [], .val (.x 0) (.sl x_j8) [], .val (.x 0) (.sl eCmd) []]), none, some (1, [.val .f (.i .i64) a0.1, .val .f (.i .i64) a0.2.1, .val .f (.i .i64) a0.2.2.1, .val .f (.i .i64) a0.2.2.2, .val .f (.i .i64) a1, .val (.x 0) (.sl x_hh) q1, .val (.x 0) (.sl eRpc) [], .val (.x 0) (.sl eCmd) (List.replicate 4 zCmd), .val (.x 0) (.sl (.i .i64)) (List.replicate 4 0), .val (.x 0) (.sl x_j8) [], .val (.x 0) (.sl eCmd) []])] ++ List.replicate 39 none⟩ (endK (x_h5 K).toEnv (x_gb K) [.cell 4 59, .tmp 5])
theorem x_a6.ok0 (K : Nat) (a0 : x_n) (a1 : Int) (n : Nat) : x_a6.g0 K a0 a1 n = x_a6.l0 K a0 a1 n := by
 induction n with
 | zero =>
  funext q0 q1
  kernel_rfl
 | succ n ih =>
  funext q0 q1
  have e : x_a6.g0 K a0 a1 (n + 1) q0 q1 = x_a6.l0b K a0 a1 (x_a6.g0 K a0 a1 n) q0 q1 := by kernel_rfl
  rw [ih] at e
  refine e.trans ?_
  kernel_rfl
theorem x_1l (K : Nat) : FOk Tryz.prog 85 (x_gb K) :=
 x_a (T := x_h5 K) (H := x_oy) (K := K) (c := x_oi) (ts := [.cell 4 59, .tmp 5]) Tryz.func85 (by kernel_rfl) (by kernel_rfl) (by kernel_rfl) rfl
  (tokc (x_ev) (tokc (x_bc) (tokc (x_58 K) (tok0 x_k)))) mixed
  (fun v => by
  have k0 := x_a6.ok0 K v.1 v.2.1 K
  have e : run (x_h5 K) x_oy K x_oi (x_ax (x_gb K).pk (x_gb K).ps Tryz.f85.ntmps (lv _ v)) (endK (x_h5 K).toEnv (x_gb K) [.cell 4 59, .tmp 5]) = x_a6.b K v.1 v.2.1 (x_a6.g0 K v.1 v.2.1 K) := by kernel_rfl
  rw [k0] at e
  refine e.trans ?_
  kernel_rfl)
noncomputable def x_no : FSp := { ps := [.val false (.i .i64) [.f], .val false (.i .i64) [.f]], rs := [(false, (.i .i64), [.f])], fn := fun v => x_hl v.1 v.2.1 }
noncomputable def t_s_l1Max (K : Nat) : Tab := x_ai (tiOf tys) []
def h_s_l1Max : Hint := ⟨msk [3, 131, 19, 19], fun _ _ => false, fun _ => false, fun _ => none⟩
noncomputable def c_s_l1Max : Code := Tryz.f112.body.getD .skip
theorem x_mg : FOk Tryz.prog 112 (x_no) := by
 let K := 0
 exact
 x_a (T := t_s_l1Max K) (H := h_s_l1Max) (K := K) (c := c_s_l1Max) (ts := [.tmp 4]) Tryz.func112 (by kernel_rfl) (by kernel_rfl) (by kernel_rfl) rfl
  (tok0 x_k) mixed
  (fun v => by kernel_rfl)
noncomputable def x_k1 : FSp := { ps := [.ptr x_dn [.f, .f, .f]], rs := [(true, eCmd, [.f, .f, .f, .f, .f, .f, .f, .f])], fn := fun v => x_ey v.1 }
noncomputable def x_zc (K : Nat) : Tab := x_ai (tiOf tys) [(35, x_as), (34, x_ad), (50, x_kl)]
def x_zr : Hint := ⟨msk [5, 13, 32781, 98317, 13, 13, 13, 268435469, 13, 5], fun _ _ => false, fun _ => false, fun _ => none⟩
noncomputable def x_1a : Code := Tryz.f74.body.getD .skip
theorem x_ny : FOk Tryz.prog 74 (x_k1) := by
 let K := 0
 exact
 x_a (T := x_zc K) (H := x_zr) (K := K) (c := x_1a) (ts := [.cell 2 100]) Tryz.func74 (by kernel_rfl) (by kernel_rfl) (by kernel_rfl) rfl
  (tokc (x_aq) (tokc (x_1) (tokc (x_n4) (tok0 x_k)))) mixed
  (fun v => by kernel_rfl)
noncomputable def x_jl : FSp := { ps := [.ptr x_dn [.f, .f, .f], .val false (.i .i64) [.f]], rs := [(false, .b, [.f])], fn := fun v => x_mr v.1 v.2.1 }
noncomputable def x_aif (K : Nat) : Tab := x_ai (tiOf tys) [(34, x_ad)]
def x_ac8 : Hint := ⟨msk [3, 17], fun _ _ => false, fun _ => false, fun _ => none⟩
noncomputable def x_agj : Code := Tryz.f70.body.getD .skip
theorem x_jo : FOk Tryz.prog 70 (x_jl) := by
 let K := 0
 exact
 x_a (T := x_aif K) (H := x_ac8) (K := K) (c := x_agj) (ts := [.tmp 4]) Tryz.func70 (by kernel_rfl) (by kernel_rfl) (by kernel_rfl) rfl
  (tokc (x_1) (tok0 x_k)) mixed
  (fun v => by kernel_rfl)
noncomputable def x_cv (K : Nat) : FSp := { ps := [.ptr x_dn [.f, .f, .f], .val true x_d8 [.f, .f, .f, .f, .f, .r, .r, .r, .r, .r, .r]], rs := [(true, eDeed, [.f, .f, .f, .f, .f, .f, .f, .f, .f, .f, .f])], fn := fun v => x_h K v.1 v.2.1 }
noncomputable def x_cu (K : Nat) : Tab := x_ai (tiOf tys) [(112, x_no), (34, x_ad), (74, x_k1), (35, x_as), (70, x_jl)]
def x_gn : Hint := ⟨msk [25, 57, 121, 249, 505, 4194809, 505, 2147484153, 505, 761, 68719477497, 206158430969, 17, 2267742733049, 2267742733049, 2267742733049, 17, 1125968626320121, 17, 36028865738441465, 36028865738441465, 36028865738441465, 17, 18446744142429029113, 18446744142429029113, 18446744142429029113, 1145, 151115727451828646839417, 1145, 9903520314283042199192994937, 17, 17, 20282409603651670424015970763481, 17, 2596148429267413814265316884087513, 17, 41538374868278621028244039353238233, 41538374868278621028244039353238233, 17, 2658455991569831745807614120560689241, 17, 1393796574908163946345982392040522594123865, 17, 17], fun _ _ => false, fun n => [41, 55, 64, 115].contains n, fun _ => none⟩
noncomputable def x_gm : Code := Tryz.f87.body.getD .skip
noncomputable def x_h.g0 (K : Nat) (a0 : x_c) (a1 : x_r) (n : Nat) (v1 : Int × Unit) (v2 : Int × x_c × Unit) (q0 : Int) (q1 : Int) : Option (x_i9 × x_c × Unit) :=
 lpg (x_cu K) x_gn K x_gm [.r, .r, .r, .r, .l, .r, .b] n ⟨[.one (.ptr 0 0 0), .dead, .dead, .one (.ptr 3 1 0), .one (.ptr 4 1 0), .one (.val .f (.i .i64) v1.1), .one (.val .f (.i .i64) v2.1), .one (.val .f (.i .i64) q0), .one (.val .f (.i .i64) q1)] ++ List.replicate 141 .dead, [some (0, [.val .f (.sl (.i .u8)) v2.2.1.1, .val .f (.i .i64) v2.2.1.2.1, .val .f (.i .i64) v2.2.1.2.2]), none, none, some (1, [.val .f (.i .i64) a1.1.1, .val .f (.i .i64) a1.1.2.1, .val .f (.i .i64) a1.1.2.2.1, .val .f (.i .i64) a1.1.2.2.2, .val .f (.i .i64) a1.2.1, .val .r (.sl x_hh) a1.2.2.1, .val .r (.sl eRpc) a1.2.2.2.1, .val .r (.sl eCmd) a1.2.2.2.2.1, .val .r (.sl (.i .i64)) a1.2.2.2.2.2.1, .val .r (.sl x_j8) a1.2.2.2.2.2.2.1, .val .r (.sl eCmd) a1.2.2.2.2.2.2.2]), some (1, [.val .f (.i .i64) 0, .val .f (.i .i64) 0, .val .f (.i .i64) 0, .val .f (.i .i64) 0, .val .f (.i .i64) 0, .val .f (.i .i64) 0, .val .f (.i .i64) 0, .val .f (.i .i64) 0, .val .f (.i .i64) 0, .val .f .s ByteArray.empty, .val .f .s ByteArray.empty])] ++ List.replicate 145 none⟩ (endK (x_cu K).toEnv (x_cv K) [.cell 4 150])
noncomputable def x_h.g1 (K : Nat) (a0 : x_c) (a1 : x_r) (n : Nat) (v1 : Int × Unit) (v2 : Int × x_c × Unit) (q3 : Int) (v4 : Int × x_c × Unit) : Option (x_i9 × x_c × Unit) :=
 lpg (x_cu K) x_gn K x_gm [.r, .r, .r, .r, .r, .r, .l, .r, .b, .r, .e, .r, .e, .r, .e, .r, .e, .r, .t, .l, .r, .b] n ⟨[.one (.ptr 0 0 0), .dead, .dead, .one (.ptr 3 1 0), .one (.ptr 4 1 0), .one (.val .f (.i .i64) v1.1), .one (.val .f (.i .i64) v2.1), .dead, .dead, .dead, .one (.val .f (.i .i64) q3)] ++ List.replicate 139 .dead, [some (0, [.val .f (.sl (.i .u8)) v4.2.1.1, .val .f (.i .i64) v4.2.1.2.1, .val .f (.i .i64) v4.2.1.2.2]), none, none, some (1, [.val .f (.i .i64) a1.1.1, .val .f (.i .i64) a1.1.2.1, .val .f (.i .i64) a1.1.2.2.1, .val .f (.i .i64) a1.1.2.2.2, .val .f (.i .i64) a1.2.1, .val .r (.sl x_hh) a1.2.2.1, .val .r (.sl eRpc) a1.2.2.2.1, .val .r (.sl eCmd) a1.2.2.2.2.1, .val .r (.sl (.i .i64)) a1.2.2.2.2.2.1, .val .r (.sl x_j8) a1.2.2.2.2.2.2.1, .val .r (.sl eCmd) a1.2.2.2.2.2.2.2]), some (1, [.val .f (.i .i64) 0, .val .f (.i .i64) 0, .val .f (.i .i64) 0, .val .f (.i .i64) 0, .val .f (.i .i64) 0, .val .f (.i .i64) 0, .val .f (.i .i64) 0, .val .f (.i .i64) 0, .val .f (.i .i64) 0, .val .f .s ByteArray.empty, .val .f .s ByteArray.empty])] ++ List.replicate 145 none⟩ (endK (x_cu K).toEnv (x_cv K) [.cell 4 150])
theorem x_h.ok1 (K : Nat) (a0 : x_c) (a1 : x_r) (n : Nat) : x_h.g1 K a0 a1 n = x_h.l1 K a0 a1 n := by
 induction n with
 | zero =>
  funext v1 v2 q3 v4
  kernel_rfl
 | succ n ih =>
  funext v1 v2 q3 v4
  have e : x_h.g1 K a0 a1 (n + 1) v1 v2 q3 v4 = x_h.l1b K a0 a1 (x_h.g1 K a0 a1 n) v1 v2 q3 v4 := by kernel_rfl
  rw [ih] at e
  refine e.trans ?_
  kernel_rfl
theorem x_h.ok0 (K : Nat) (a0 : x_c) (a1 : x_r) (n : Nat) : x_h.g0 K a0 a1 n = x_h.l0 K a0 a1 n := by
 induction n with
 | zero =>
  funext v1 v2 q0 q1
  kernel_rfl
 | succ n ih =>
  have k1 := x_h.ok1 K a0 a1 K
  funext v1 v2 q0 q1
  have e : x_h.g0 K a0 a1 (n + 1) v1 v2 q0 q1 = x_h.l0b K a0 a1 (x_h.g0 K a0 a1 n) (x_h.g1 K a0 a1 K) v1 v2 q0 q1 := by kernel_rfl
  rw [ih, k1] at e
  refine e.trans ?_
  kernel_rfl
theorem x_vy (K : Nat) : FOk Tryz.prog 87 (x_cv K) :=
 x_a (T := x_cu K) (H := x_gn) (K := K) (c := x_gm) (ts := [.cell 4 150]) Tryz.func87 (by kernel_rfl) (by kernel_rfl) (by kernel_rfl) rfl
  (tokc (x_mg) (tokc (x_1) (tokc (x_ny) (tokc (x_aq) (tokc (x_jo) (tok0 x_k)))))) mixed
  (fun v => by
  have k0 := x_h.ok0 K v.1 v.2.1 K
  have e : run (x_cu K) x_gn K x_gm (x_ax (x_cv K).pk (x_cv K).ps Tryz.f87.ntmps (lv _ v)) (endK (x_cu K).toEnv (x_cv K) [.cell 4 150]) = x_h.b K v.1 v.2.1 (x_h.g0 K v.1 v.2.1 K) := by kernel_rfl
  rw [k0] at e
  refine e.trans ?_
  kernel_rfl)
noncomputable def x_pp : FSp := { ps := [.val true eRpc [.f, .f, .f, .f, .f, .f, .f, .r, .f, .f]], rs := [(true, eRpc, [.f, .f, .f, .f, .f, .f, .f, .x 0, .f, .f])], fn := fun v => x_ro v.1 }
noncomputable def x_acb (K : Nat) : Tab := x_ai (tiOf tys) []
def x_afm : Hint := ⟨msk [6, 6, 4], fun _ _ => false, fun _ => false, fun _ => none⟩
noncomputable def x_ah1 : Code := Tryz.f92.body.getD .skip
theorem x_q4 : FOk Tryz.prog 92 (x_pp) := by
 let K := 0
 exact
 x_a (T := x_acb K) (H := x_afm) (K := K) (c := x_ah1) (ts := [.cell 2 95]) Tryz.func92 (by kernel_rfl) (by kernel_rfl) (by kernel_rfl) rfl
  (tok0 x_k) mixed
  (fun v => by kernel_rfl)
noncomputable def x_gg (K : Nat) : FSp := { ps := [.val false (.sl eRpc) [.r]], rs := [(false, (.sl eRpc), [.x 0])], fn := fun v => x_bm K v.1 }
noncomputable def x_jv (K : Nat) : Tab := x_ai (tiOf tys) [(92, x_pp)]
def x_rp : Hint := ⟨msk [1, 9, 25, 537, 25, 25, 4], fun _ _ => false, fun _ => false, fun _ => none⟩
noncomputable def x_qb : Code := Tryz.f65.body.getD .skip
noncomputable def x_bm.g0 (K : Nat) (a0 : List TRpc) (n : Nat) (q0 : List TRpc) (q1 : Int) : Option ((List TRpc) × Unit) :=
 lpg (x_jv K) x_rp K x_qb [.r, .r, .l, .r, .b] n ⟨[.one (.val .r (.sl eRpc) a0), .dead, .dead, .one (.val (.x 0) (.sl eRpc) q0), .one (.val .f (.i .i64) q1)] ++ List.replicate 16 .dead, List.replicate 21 none⟩ (endK (x_jv K).toEnv (x_gg K) [.tmp 2])
theorem x_bm.ok0 (K : Nat) (a0 : List TRpc) (n : Nat) : x_bm.g0 K a0 n = x_bm.l0 K a0 n := by
 induction n with
 | zero =>
  funext q0 q1
  kernel_rfl
 | succ n ih =>
  funext q0 q1
  have e : x_bm.g0 K a0 (n + 1) q0 q1 = x_bm.l0b K a0 (x_bm.g0 K a0 n) q0 q1 := by kernel_rfl
  rw [ih] at e
  refine e.trans ?_
  kernel_rfl
theorem x_tz (K : Nat) : FOk Tryz.prog 65 (x_gg K) :=
 x_a (T := x_jv K) (H := x_rp) (K := K) (c := x_qb) (ts := [.tmp 2]) Tryz.func65 (by kernel_rfl) (by kernel_rfl) (by kernel_rfl) rfl
  (tokc (x_q4) (tok0 x_k)) mixed
  (fun v => by
  have k0 := x_bm.ok0 K v.1 K
  have e : run (x_jv K) x_rp K x_qb (x_ax (x_gg K).pk (x_gg K).ps Tryz.f65.ntmps (lv _ v)) (endK (x_jv K).toEnv (x_gg K) [.tmp 2]) = x_bm.b K v.1 (x_bm.g0 K v.1 K) := by kernel_rfl
  rw [k0] at e
  refine e.trans ?_
  kernel_rfl)
noncomputable def x_p0 : FSp := { ps := [.val true eLog [.f, .f, .r]], rs := [(true, eLog, [.f, .f, .x 0])], fn := fun v => x_o4 v.1 }
noncomputable def x_aeh (K : Nat) : Tab := x_ai (tiOf tys) []
def x_ack : Hint := ⟨msk [6, 4], fun _ _ => false, fun _ => false, fun _ => none⟩
noncomputable def x_agl : Code := Tryz.f90.body.getD .skip
theorem x_rd : FOk Tryz.prog 90 (x_p0) := by
 let K := 0
 exact
 x_a (T := x_aeh K) (H := x_ack) (K := K) (c := x_agl) (ts := [.cell 2 37]) Tryz.func90 (by kernel_rfl) (by kernel_rfl) (by kernel_rfl) rfl
  (tok0 x_k) mixed
  (fun v => by kernel_rfl)
noncomputable def x_lp : FSp := { ps := [.val true x_at [.f, .f, .f, .f, .r]], rs := [(true, x_at, [.f, .f, .f, .f, .x 0])], fn := fun v => x_d7 v.1 }
noncomputable def x_agp (K : Nat) : Tab := x_ai (tiOf tys) []
def x_adt : Hint := ⟨msk [6, 6, 4], fun _ _ => false, fun _ => false, fun _ => none⟩
noncomputable def x_acd : Code := Tryz.f91.body.getD .skip
theorem x_nh : FOk Tryz.prog 91 (x_lp) := by
 let K := 0
 exact
 x_a (T := x_agp K) (H := x_adt) (K := K) (c := x_acd) (ts := [.cell 2 158]) Tryz.func91 (by kernel_rfl) (by kernel_rfl) (by kernel_rfl) rfl
  (tok0 x_k) mixed
  (fun v => by kernel_rfl)
end Go.Proofs.YtkdamnchchhjeaaGreatDoor.Fs
