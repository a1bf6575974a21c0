/- The functions compute what is told of them. -/
import Derived.Test.YtkdamnchchhjeaaGreatDoorFsOk8
set_option linter.all false
set_option maxRecDepth 100000
namespace Go.Proofs.YtkdamnchchhjeaaGreatDoor.Fs
open Go Go.Kn
noncomputable def x_ye (K : Nat) : FSp := { ps := [.val true x_da [.f, .f, .f, .f], .val true x_hh [.f, .f, .f, .f, .f, .r, .r, .r, .r, .f, .r, .r, .f, .r, .r, .r, .f, .r, .r, .r, .f, .r, .r, .r, .f, .r], .val false (.i .i64) [.f]], rs := [(true, x_hh, [.f, .f, .f, .f, .f, .f, .f, .f, .f, .f, .f, .f, .f, .x 0, .f, .f, .f, .x 0, .x 0, .x 0, .f, .x 0, .x 0, .f, .f, .f]), (false, .b, [.f])], fn := fun v => x_ss K v.1 v.2.1 v.2.2.1 }
noncomputable def x_2z (K : Nat) : Tab := x_ai (tiOf tys) [(129, x_cq K), (40, x_co K), (180, x_e0 K), (32, x_cc), (181, x_jn K), (182, x_z2), (183, x_qq K)]
def x_aft : Hint := ⟨msk [92, 134217820, 192, 34359738708, 34359738708, 34359738708, 34359738708, 34359738708, 34359740244, 34359742292, 4722366482904004955988, 34359742292, 302231454903691653418836, 34359742292, 618970019642690171809300820, 192, 19807040628566084432745726272, 34359738688, 192], fun _ _ => false, fun _ => false, fun _ => none⟩
noncomputable def x_ad9 : Code := Tryz.f155.body.getD .skip
noncomputable def x_ss.g0 (K : Nat) (a0 : x_n) (a1 : x_bt) (a2 : Int) (n : Nat) (v7 : Int × Int × Unit) (q0 : Int) (q1 : x_e × Unit) (q2 : Int) (q3 : List Bool) : Option (x_bt × Bool × Unit) :=
 lpg (x_2z K) x_aft K x_ad9 [.r, .r, .r, .r, .r, .r, .r, .r, .l, .r, .b] n ⟨[.dead, .dead, .one (.val .f (.i .i64) a2), .dead, .one (.ptr 4 1 0), .dead, .one (.ptr 6 1 0), .dead, .one (.ptr 35 1 0), .one (.val .f (.i .i64) v7.1), .one (.val .f (.i .i64) v7.2.1), .one (.val .f (.i .i64) q0)] ++ List.replicate 23 .dead ++ [.one (.ptr 35 1 0)] ++ List.replicate 65 .dead, List.replicate 4 none ++ [some (1, [.val .f (.i .i64) a1.1, .val .f (.i .i64) a1.2.1.1, .val .f (.i .i64) a1.2.1.2.1, .val .f (.i .i64) a1.2.1.2.2.1.1, .val .f (.i .i64) a1.2.1.2.2.1.2.1, .val .r (.sl x_ct) a1.2.1.2.2.1.2.2, .val .r (.sl eRow) a1.2.1.2.2.2.1, .val .r (.sl x_at) a1.2.1.2.2.2.2.1, .val .r (.sl x_ar) a1.2.1.2.2.2.2.2.1, .val .f (.i .i64) a1.2.1.2.2.2.2.2.2.1, .val .r (.sl (.i .i64)) a1.2.1.2.2.2.2.2.2.2.1, .val .r (.sl x_2) a1.2.1.2.2.2.2.2.2.2.2, .val .f (.i .i64) a1.2.2.1, .val .r (.sl .b) a1.2.2.2.1, .val .r (.sl (.i .i64)) a1.2.2.2.2.1, .val .r (.sl (.i .i64)) a1.2.2.2.2.2.1, .val .f (.i .i64) a1.2.2.2.2.2.2.1, .val .r (.sl eRow) a1.2.2.2.2.2.2.2.1.1, .val .r (.sl x_at) a1.2.2.2.2.2.2.2.1.2.1, .val .r (.sl x_ar) a1.2.2.2.2.2.2.2.1.2.2.1, .val .f (.i .i64) a1.2.2.2.2.2.2.2.1.2.2.2.1, .val .r (.sl (.i .i64)) a1.2.2.2.2.2.2.2.1.2.2.2.2.1, .val .r (.sl x_2) a1.2.2.2.2.2.2.2.1.2.2.2.2.2, .val .r (.sl (.i .u8)) a1.2.2.2.2.2.2.2.2.1.1, .val .f (.i .i64) a1.2.2.2.2.2.2.2.2.1.2, .val .r (.sl eRpc) a1.2.2.2.2.2.2.2.2.2]), none, some (1, [.val .f (.i .i64) 0, .val .f (.i .i64) 0, .val .f (.i .i64) 0, .val .f (.i .i64) 0, .val .f (.i .i64) 0, .val (.x 0) (.sl x_ct) [], .val (.x 0) (.sl eRow) [], .val (.x 0) (.sl x_at) [], .val (.x 0) (.sl x_ar) [], .val .f (.i .i64) 0, .val (.x 0) (.sl (.i .i64)) [], .val (.x 0) (.sl x_2) [], .val .f (.i .i64) 0, .val (.x 0) (.sl .b) [], .val (.x 0) (.sl (.i .i64)) [], .val (.x 0) (.sl (.i .i64)) [], .val .f (.i .i64) 0, .val (.x 0) (.sl eRow) [], .val (.x 0) (.sl x_at) [], .val (.x 0) (.sl x_ar) [], .val .f (.i .i64) 0, .val (.x 0) (.sl (.i .i64)) [], .val (.x 0) (.sl x_2) [], .val (.x 0) (.sl (.i .u8)) [], .val .f (.i .i64) 0, .val (.x 0) (.sl eRpc) []])] ++ List.replicate 28 none ++ [some (1, [.val .f (.i .i64) q1.1.1.1, .val .f (.i .i64) q1.1.1.2.1, .val .f (.i .i64) q1.1.1.2.2.1, .val .f (.i .i64) q1.1.1.2.2.2, .val .f (.i .i64) q1.1.2.1, .val .f (.i .i64) q1.1.2.2.1.1, .val .f (.i .i64) q1.1.2.2.1.2.1.1, .val .f (.i .i64) q1.1.2.2.1.2.1.2.1, .val .f (.i .i64) q1.1.2.2.1.2.1.2.2.1.1, .val .f (.i .i64) q1.1.2.2.1.2.1.2.2.1.2.1, .val .f (.sl x_ct) q1.1.2.2.1.2.1.2.2.1.2.2, .val .f (.sl eRow) q1.1.2.2.1.2.1.2.2.2.1, .val .f (.sl x_at) q1.1.2.2.1.2.1.2.2.2.2.1, .val .f (.sl x_ar) q1.1.2.2.1.2.1.2.2.2.2.2.1, .val .f (.i .i64) q1.1.2.2.1.2.1.2.2.2.2.2.2.1, .val .f (.sl (.i .i64)) q1.1.2.2.1.2.1.2.2.2.2.2.2.2.1, .val .f (.sl x_2) q1.1.2.2.1.2.1.2.2.2.2.2.2.2.2, .val .f (.i .i64) q2, .val (.x 0) (.sl .b) q3, .val (.x 0) (.sl (.i .i64)) q1.1.2.2.1.2.2.2.2.1, .val (.x 0) (.sl (.i .i64)) q1.1.2.2.1.2.2.2.2.2.1, .val .f (.i .i64) q1.1.2.2.1.2.2.2.2.2.2.1, .val (.x 0) (.sl eRow) q1.1.2.2.1.2.2.2.2.2.2.2.1.1, .val (.x 0) (.sl x_at) q1.1.2.2.1.2.2.2.2.2.2.2.1.2.1, .val (.x 0) (.sl x_ar) q1.1.2.2.1.2.2.2.2.2.2.2.1.2.2.1, .val .f (.i .i64) q1.1.2.2.1.2.2.2.2.2.2.2.1.2.2.2.1, .val (.x 0) (.sl (.i .i64)) q1.1.2.2.1.2.2.2.2.2.2.2.1.2.2.2.2.1, .val (.x 0) (.sl x_2) q1.1.2.2.1.2.2.2.2.2.2.2.1.2.2.2.2.2, .val .f (.sl (.i .u8)) q1.1.2.2.1.2.2.2.2.2.2.2.2.1.1, .val .f (.i .i64) q1.1.2.2.1.2.2.2.2.2.2.2.2.1.2, .val .f (.sl eRpc) q1.1.2.2.1.2.2.2.2.2.2.2.2.2, .val .f .b q1.1.2.2.2])] ++ List.replicate 65 none⟩ (endK (x_2z K).toEnv (x_ye K) [.cell 6 51, .tmp 7])
theorem x_ss.ok0 (K : Nat) (a0 : x_n) (a1 : x_bt) (a2 : Int) (n : Nat) : x_ss.g0 K a0 a1 a2 n = x_ss.l0 K a0 a1 a2 n := by
 induction n with
 | zero =>
  funext v7 q0 q1 q2 q3
  kernel_rfl
 | succ n ih =>
  funext v7 q0 q1 q2 q3
  have e : x_ss.g0 K a0 a1 a2 (n + 1) v7 q0 q1 q2 q3 = x_ss.l0b K a0 a1 a2 (x_ss.g0 K a0 a1 a2 n) v7 q0 q1 q2 q3 := by kernel_rfl
  rw [ih] at e
  refine e.trans ?_
  kernel_rfl
theorem ok_s_Ask (K : Nat) : FOk Tryz.prog 155 (x_ye K) :=
 x_a (T := x_2z K) (H := x_aft) (K := K) (c := x_ad9) (ts := [.cell 6 51, .tmp 7]) Tryz.func155 (by kernel_rfl) (by kernel_rfl) (by kernel_rfl) rfl
  (tokc (x_fb K) (tokc (x_cl K) (tokc (x_fd K) (tokc (x_b1) (tokc (x_kg K) (tokc (x_y8) (tokc (x_v0 K) (tok0 x_k)))))))) mixed
  (fun v => by
  have k0 := x_ss.ok0 K v.1 v.2.1 v.2.2.1 K
  have e : run (x_2z K) x_aft K x_ad9 (x_ax (x_ye K).pk (x_ye K).ps Tryz.f155.ntmps (lv _ v)) (endK (x_2z K).toEnv (x_ye K) [.cell 6 51, .tmp 7]) = x_ss.b K v.1 v.2.1 v.2.2.1 (x_ss.g0 K v.1 v.2.1 v.2.2.1 K) := by kernel_rfl
  rw [k0] at e
  refine e.trans ?_
  kernel_rfl)
noncomputable def x_1s : FSp := { ps := [.val true x_d8 [.f, .f, .f, .f, .f, .x 0, .x 0, .x 0, .x 0, .x 0, .x 0], .val true x_hh [.f, .f, .f, .f, .f, .f, .f, .f, .f, .f, .f, .f, .f, .f, .f, .f, .f, .f, .f, .f, .f, .f, .f, .f, .f, .f], .val false .b [.f]], rs := [(true, x_d8, [.f, .f, .f, .f, .f, .x 0, .x 0, .x 0, .x 0, .x 0, .x 0]), (false, (.i .i64), [.f])], fn := fun v => x_v8 v.1 v.2.1 v.2.2.1 }
noncomputable def x_aei (K : Nat) : Tab := x_ai (tiOf tys) []
def x_ad3 : Hint := ⟨msk [92, 600, 192, 72, 192], fun _ _ => false, fun _ => false, fun _ => none⟩
noncomputable def x_ahk : Code := Tryz.f156.body.getD .skip
theorem x_9v : FOk Tryz.prog 156 (x_1s) := by
 let K := 0
 exact
 x_a (T := x_aei K) (H := x_ad3) (K := K) (c := x_ahk) (ts := [.cell 6 59, .tmp 7]) Tryz.func156 (by kernel_rfl) (by kernel_rfl) (by kernel_rfl) rfl
  (tok0 x_k) mixed
  (fun v => by kernel_rfl)
noncomputable def x_by (K : Nat) : FSp := { ps := [.val true x_p8 [.r, .r, .r, .f, .r, .r]], rs := [(false, (.sl (.i .u8)), [.x 0])], fn := fun v => x_b K v.1 }
noncomputable def x_bo (K : Nat) : Tab := x_ai (tiOf tys) [(103, x_ee K), (104, x_h6 K), (105, x_nk K)]
def x_d4 : Hint := ⟨msk [2, 10, 26, 16777242, 26, 58, 58, 122, 140737488355450, 122, 250, 250, 250, 250, 122, 10, 266, 309485009821345068724781322, 266, 778, 778, 1802, 83076749736557242056487941267523338, 1802, 1802, 10, 2058, 44601490397061246283071436545296723011962890, 2058, 6154, 6154, 14346, 93536104789177786765035829293842113257979682764810, 14346, 14346, 2058, 10, 16394, 200867255532373784442745261542645325315275374222849104429066, 16394, 49162, 49162, 49162, 16394, 4], fun _ _ => false, fun _ => false, fun _ => none⟩
noncomputable def x_d3 : Code := Tryz.f73.body.getD .skip
noncomputable def x_b.g0 (K : Nat) (a0 : x_ao) (n : Nat) (q2 : List Int) (q3 : Int) : Option ((List Int) × Unit) :=
 lpg (x_bo K) x_d4 K x_d3 [.r, .r, .l, .r, .b] n ⟨[.dead, .one (.ptr 1 1 0), .dead, .one (.val (.x 0) (.sl (.i .u8)) q2), .one (.val .f (.i .i64) q3)] ++ List.replicate 225 .dead, [none, some (1, [.val .r (.sl eRow) a0.1, .val .r (.sl x_at) a0.2.1, .val .r (.sl x_ar) a0.2.2.1, .val .f (.i .i64) a0.2.2.2.1, .val .r (.sl (.i .i64)) a0.2.2.2.2.1, .val .r (.sl x_2) a0.2.2.2.2.2])] ++ List.replicate 228 none⟩ (endK (x_bo K).toEnv (x_by K) [.tmp 2])
noncomputable def x_b.g1 (K : Nat) (a0 : x_ao) (n0 : Nat) (n : Nat) (q4 : List Int) (q3 : Int) (q5 : Int) : Option ((List Int) × Unit) :=
 lpg (x_bo K) x_d4 K x_d3 [.r, .r, .l, .r, .b, .lp n0, .r, .l, .b, .r, .r, .r, .b] n ⟨[.dead, .one (.ptr 1 1 0), .dead, .one (.val (.x 0) (.sl (.i .u8)) q4), .one (.val .f (.i .i64) q3), .one (.ptr 5 1 0), .one (.val .f (.i .i64) q5)] ++ List.replicate 223 .dead, [none, some (1, [.val .r (.sl eRow) a0.1, .val .r (.sl x_at) a0.2.1, .val .r (.sl x_ar) a0.2.2.1, .val .f (.i .i64) a0.2.2.2.1, .val .r (.sl (.i .i64)) a0.2.2.2.2.1, .val .r (.sl x_2) a0.2.2.2.2.2]), none, none, none, some (1, [.val .f (.i .i64) (a0.1.getD (Int.toNat q3) zRow).1, .val .f (.i .i64) (a0.1.getD (Int.toNat q3) zRow).2.1, .val .f (.sl x_ou) (a0.1.getD (Int.toNat q3) zRow).2.2])] ++ List.replicate 224 none⟩ (endK (x_bo K).toEnv (x_by K) [.tmp 2])
noncomputable def x_b.g2 (K : Nat) (a0 : x_ao) (n : Nat) (q8 : List Int) (q9 : Int) : Option ((List Int) × Unit) :=
 lpg (x_bo K) x_d4 K x_d3 [.r, .r, .r, .r, .l, .r, .b] n ⟨[.dead, .one (.ptr 1 1 0), .dead, .one (.val (.x 0) (.sl (.i .u8)) q8)] ++ List.replicate 4 .dead ++ [.one (.val .f (.i .i64) q9)] ++ List.replicate 221 .dead, [none, some (1, [.val .r (.sl eRow) a0.1, .val .r (.sl x_at) a0.2.1, .val .r (.sl x_ar) a0.2.2.1, .val .f (.i .i64) a0.2.2.2.1, .val .r (.sl (.i .i64)) a0.2.2.2.2.1, .val .r (.sl x_2) a0.2.2.2.2.2])] ++ List.replicate 228 none⟩ (endK (x_bo K).toEnv (x_by K) [.tmp 2])
noncomputable def x_b.g3 (K : Nat) (a0 : x_ao) (n2 : Nat) (n : Nat) (q10 : List Int) (q9 : Int) (q11 : Int) : Option ((List Int) × Unit) :=
 lpg (x_bo K) x_d4 K x_d3 [.r, .r, .r, .r, .l, .r, .b, .lp n2, .r, .l, .b, .r, .r, .r, .b] n ⟨[.dead, .one (.ptr 1 1 0), .dead, .one (.val (.x 0) (.sl (.i .u8)) q10)] ++ List.replicate 4 .dead ++ [.one (.val .f (.i .i64) q9), .one (.ptr 9 1 0), .one (.val .f (.i .i64) q11)] ++ List.replicate 219 .dead, [none, some (1, [.val .r (.sl eRow) a0.1, .val .r (.sl x_at) a0.2.1, .val .r (.sl x_ar) a0.2.2.1, .val .f (.i .i64) a0.2.2.2.1, .val .r (.sl (.i .i64)) a0.2.2.2.2.1, .val .r (.sl x_2) a0.2.2.2.2.2])] ++ List.replicate 7 none ++ [some (1, [.val .f (.i .i64) (a0.2.1.getD (Int.toNat q9) x_b5).1, .val .f (.i .i64) (a0.2.1.getD (Int.toNat q9) x_b5).2.1, .val .f (.i .i64) (a0.2.1.getD (Int.toNat q9) x_b5).2.2.1, .val .f (.i .i64) (a0.2.1.getD (Int.toNat q9) x_b5).2.2.2.1, .val .f (.sl x_38) (a0.2.1.getD (Int.toNat q9) x_b5).2.2.2.2])] ++ List.replicate 220 none⟩ (endK (x_bo K).toEnv (x_by K) [.tmp 2])
noncomputable def x_b.g4 (K : Nat) (a0 : x_ao) (n : Nat) (q14 : List Int) (q15 : Int) : Option ((List Int) × Unit) :=
 lpg (x_bo K) x_d4 K x_d3 [.r, .r, .r, .r, .r, .r, .l, .r, .b] n ⟨[.dead, .one (.ptr 1 1 0), .dead, .one (.val (.x 0) (.sl (.i .u8)) q14)] ++ List.replicate 7 .dead ++ [.one (.val .f (.i .i64) q15)] ++ List.replicate 218 .dead, [none, some (1, [.val .r (.sl eRow) a0.1, .val .r (.sl x_at) a0.2.1, .val .r (.sl x_ar) a0.2.2.1, .val .f (.i .i64) a0.2.2.2.1, .val .r (.sl (.i .i64)) a0.2.2.2.2.1, .val .r (.sl x_2) a0.2.2.2.2.2])] ++ List.replicate 228 none⟩ (endK (x_bo K).toEnv (x_by K) [.tmp 2])
noncomputable def x_b.g5 (K : Nat) (a0 : x_ao) (n4 : Nat) (n : Nat) (q16 : List Int) (q15 : Int) (q17 : Int) : Option ((List Int) × Unit) :=
 lpg (x_bo K) x_d4 K x_d3 [.r, .r, .r, .r, .r, .r, .l, .r, .b, .lp n4, .r, .l, .b, .r, .r, .l, .r, .b] n ⟨[.dead, .one (.ptr 1 1 0), .dead, .one (.val (.x 0) (.sl (.i .u8)) q16)] ++ List.replicate 7 .dead ++ [.one (.val .f (.i .i64) q15), .one (.ptr 12 1 0), .one (.val .f (.i .i64) q17)] ++ List.replicate 216 .dead, [none, some (1, [.val .r (.sl eRow) a0.1, .val .r (.sl x_at) a0.2.1, .val .r (.sl x_ar) a0.2.2.1, .val .f (.i .i64) a0.2.2.2.1, .val .r (.sl (.i .i64)) a0.2.2.2.2.1, .val .r (.sl x_2) a0.2.2.2.2.2])] ++ List.replicate 10 none ++ [some (1, [.val .f (.i .i64) (a0.2.2.1.getD (Int.toNat q15) x_d9).1, .val .f (.sl (.i .i64)) (a0.2.2.1.getD (Int.toNat q15) x_d9).2.1, .val .f (.sl (.i .i64)) (a0.2.2.1.getD (Int.toNat q15) x_d9).2.2.1, .val .f (.sl (.i .i64)) (a0.2.2.1.getD (Int.toNat q15) x_d9).2.2.2])] ++ List.replicate 217 none⟩ (endK (x_bo K).toEnv (x_by K) [.tmp 2])
noncomputable def x_b.g6 (K : Nat) (a0 : x_ao) (n : Nat) (q18 : List Int) (q19 : Int) : Option ((List Int) × Unit) :=
 lpg (x_bo K) x_d4 K x_d3 [.r, .r, .r, .r, .r, .r, .r, .r, .l, .r, .b] n ⟨[.dead, .one (.ptr 1 1 0), .dead, .one (.val (.x 0) (.sl (.i .u8)) q18)] ++ List.replicate 10 .dead ++ [.one (.val .f (.i .i64) q19)] ++ List.replicate 215 .dead, [none, some (1, [.val .r (.sl eRow) a0.1, .val .r (.sl x_at) a0.2.1, .val .r (.sl x_ar) a0.2.2.1, .val .f (.i .i64) a0.2.2.2.1, .val .r (.sl (.i .i64)) a0.2.2.2.2.1, .val .r (.sl x_2) a0.2.2.2.2.2])] ++ List.replicate 228 none⟩ (endK (x_bo K).toEnv (x_by K) [.tmp 2])
theorem x_b.ok1 (K : Nat) (a0 : x_ao) (n0 : Nat) (L0 : (List Int) → Int → Option ((List Int) × Unit)) (h0 : x_b.g0 K a0 n0 = L0) (n : Nat) : x_b.g1 K a0 n0 n = x_b.l1 K a0 L0 n := by
 induction n with
 | zero =>
  funext q4 q3 q5
  kernel_rfl
 | succ n ih =>
  funext q4 q3 q5
  have e : x_b.g1 K a0 n0 (n + 1) q4 q3 q5 = x_b.l1b K a0 (x_b.g0 K a0 n0) (x_b.g1 K a0 n0 n) q4 q3 q5 := by kernel_rfl
  rw [h0, ih] at e
  refine e.trans ?_
  kernel_rfl
theorem x_b.ok3 (K : Nat) (a0 : x_ao) (n2 : Nat) (L2 : (List Int) → Int → Option ((List Int) × Unit)) (h2 : x_b.g2 K a0 n2 = L2) (n : Nat) : x_b.g3 K a0 n2 n = x_b.l3 K a0 L2 n := by
 induction n with
 | zero =>
  funext q10 q9 q11
  kernel_rfl
 | succ n ih =>
  funext q10 q9 q11
  have e : x_b.g3 K a0 n2 (n + 1) q10 q9 q11 = x_b.l3b K a0 (x_b.g2 K a0 n2) (x_b.g3 K a0 n2 n) q10 q9 q11 := by kernel_rfl
  rw [h2, ih] at e
  refine e.trans ?_
  kernel_rfl
theorem x_b.ok5 (K : Nat) (a0 : x_ao) (n4 : Nat) (L4 : (List Int) → Int → Option ((List Int) × Unit)) (h4 : x_b.g4 K a0 n4 = L4) (n : Nat) : x_b.g5 K a0 n4 n = x_b.l5 K a0 L4 n := by
 induction n with
 | zero =>
  funext q16 q15 q17
  kernel_rfl
 | succ n ih =>
  funext q16 q15 q17
  have e : x_b.g5 K a0 n4 (n + 1) q16 q15 q17 = x_b.l5b K a0 (x_b.g4 K a0 n4) (x_b.g5 K a0 n4 n) q16 q15 q17 := by kernel_rfl
  rw [h4, ih] at e
  refine e.trans ?_
  kernel_rfl
theorem x_b.ok6 (K : Nat) (a0 : x_ao) (n : Nat) : x_b.g6 K a0 n = x_b.l6 K a0 n := by
 induction n with
 | zero =>
  funext q18 q19
  kernel_rfl
 | succ n ih =>
  funext q18 q19
  have e : x_b.g6 K a0 (n + 1) q18 q19 = x_b.l6b K a0 (x_b.g6 K a0 n) q18 q19 := by kernel_rfl
  rw [ih] at e
  refine e.trans ?_
  kernel_rfl
theorem x_b.ok4 (K : Nat) (a0 : x_ao) (n : Nat) : x_b.g4 K a0 n = x_b.l4 K a0 n := by
 induction n with
 | zero =>
  funext q14 q15
  kernel_rfl
 | succ n ih =>
  have k5 := x_b.ok5 K a0 n (x_b.l4 K a0 n) ih K
  have k6 := x_b.ok6 K a0 K
  funext q14 q15
  have e : x_b.g4 K a0 (n + 1) q14 q15 = x_b.l4b K a0 (x_b.g5 K a0 n K) (x_b.g6 K a0 K) q14 q15 := by kernel_rfl
  rw [k5, k6] at e
  refine e.trans ?_
  kernel_rfl
theorem x_b.ok2 (K : Nat) (a0 : x_ao) (n : Nat) : x_b.g2 K a0 n = x_b.l2 K a0 n := by
 induction n with
 | zero =>
  funext q8 q9
  kernel_rfl
 | succ n ih =>
  have k3 := x_b.ok3 K a0 n (x_b.l2 K a0 n) ih K
  have k4 := x_b.ok4 K a0 K
  funext q8 q9
  have e : x_b.g2 K a0 (n + 1) q8 q9 = x_b.l2b K a0 (x_b.g3 K a0 n K) (x_b.g4 K a0 K) q8 q9 := by kernel_rfl
  rw [k3, k4] at e
  refine e.trans ?_
  kernel_rfl
theorem x_b.ok0 (K : Nat) (a0 : x_ao) (n : Nat) : x_b.g0 K a0 n = x_b.l0 K a0 n := by
 induction n with
 | zero =>
  funext q2 q3
  kernel_rfl
 | succ n ih =>
  have k1 := x_b.ok1 K a0 n (x_b.l0 K a0 n) ih K
  have k2 := x_b.ok2 K a0 K
  funext q2 q3
  have e : x_b.g0 K a0 (n + 1) q2 q3 = x_b.l0b K a0 (x_b.g1 K a0 n K) (x_b.g2 K a0 K) q2 q3 := by kernel_rfl
  rw [k1, k2] at e
  refine e.trans ?_
  kernel_rfl
theorem x_hu (K : Nat) : FOk Tryz.prog 73 (x_by K) :=
 x_a (T := x_bo K) (H := x_d4) (K := K) (c := x_d3) (ts := [.tmp 2]) Tryz.func73 (by kernel_rfl) (by kernel_rfl) (by kernel_rfl) rfl
  (tokc (x_jm K) (tokc (x_xc K) (tokc (x_o1 K) (tok0 x_k)))) mixed
  (fun v => by
  have k0 := x_b.ok0 K v.1 K
  have e : run (x_bo K) x_d4 K x_d3 (x_ax (x_by K).pk (x_by K).ps Tryz.f73.ntmps (lv _ v)) (endK (x_bo K).toEnv (x_by K) [.tmp 2]) = x_b.b K v.1 (x_b.g0 K v.1 K) := by kernel_rfl
  rw [k0] at e
  refine e.trans ?_
  kernel_rfl)
noncomputable def x_agy : FSp := { ps := [.val true eLog [.f, .f, .r], .val false (.i .i64) [.f]], rs := [(false, (.sl x_ct), [.x 0])], fn := fun v => s_From v.1 v.2.1 }
noncomputable def t_s_From (K : Nat) : Tab := x_ai (tiOf tys) [(166, x_09)]
def h_s_From : Hint := ⟨msk [6, 36, 1060, 16, 16], fun _ _ => false, fun _ => false, fun _ => none⟩
noncomputable def c_s_From : Code := Tryz.f184.body.getD .skip
theorem ok_s_From : FOk Tryz.prog 184 (x_agy) := by
 let K := 0
 exact
 x_a (T := t_s_From K) (H := h_s_From) (K := K) (c := c_s_From) (ts := [.tmp 4]) Tryz.func184 (by kernel_rfl) (by kernel_rfl) (by kernel_rfl) rfl
  (tokc (x_0h) (tok0 x_k)) mixed
  (fun v => by kernel_rfl)
noncomputable def x_ah2 (K : Nat) : FSp := { ps := [.val true x_da [.f, .f, .f, .f], .val true x_hh [.f, .f, .f, .f, .f, .r, .r, .r, .r, .f, .r, .r, .f, .r, .r, .r, .f, .r, .r, .r, .f, .r, .r, .r, .f, .r], .val false (.i .i64) [.f], .val false (.i .i64) [.f]], rs := [(true, x_hh, [.f, .f, .f, .f, .f, .f, .f, .f, .f, .f, .f, .f, .f, .x 0, .x 0, .x 0, .f, .x 0, .x 0, .x 0, .f, .x 0, .x 0, .f, .f, .f]), (false, .b, [.f])], fn := fun v => s_Feed K v.1 v.2.1 v.2.2.1 v.2.2.2.1 }
noncomputable def t_s_Feed (K : Nat) : Tab := x_ai (tiOf tys) [(129, x_cq K), (30, x_bv), (40, x_co K), (73, x_by K), (181, x_jn K), (184, x_agy), (139, x_h9)]
def h_s_Feed : Hint := ⟨msk [316, 68719477052, 768, 17592186045736, 17592186047784, 17592186051880, 72075186223979816, 17592186045728, 17592186060072, 37778931880549347769640, 17592186060072, 17592186045728, 39614081257132186388958020896, 768, 768], fun _ _ => false, fun _ => false, fun _ => none⟩
noncomputable def c_s_Feed : Code := Tryz.f157.body.getD .skip
theorem ok_s_Feed (K : Nat) : FOk Tryz.prog 157 (x_ah2 K) :=
 x_a (T := t_s_Feed K) (H := h_s_Feed) (K := K) (c := c_s_Feed) (ts := [.cell 8 51, .tmp 9]) Tryz.func157 (by kernel_rfl) (by kernel_rfl) (by kernel_rfl) rfl
  (tokc (x_fb K) (tokc (x_bc) (tokc (x_cl K) (tokc (x_hu K) (tokc (x_kg K) (tokc (ok_s_From) (tokc (x_hf) (tok0 x_k)))))))) mixed
  (fun v => by kernel_rfl)
noncomputable def x_ahz : FSp := { ps := [.val true eDisk [.r, .f]], rs := [(true, eDisk, [.x 0, .f])], fn := fun v => s_Sync v.1 }
noncomputable def t_s_Sync (K : Nat) : Tab := x_ai (tiOf tys) [(64, x_kc), (151, x_ml)]
def h_s_Sync : Hint := ⟨msk [6, 14, 142, 12, 4], fun _ _ => false, fun _ => false, fun _ => none⟩
noncomputable def c_s_Sync : Code := Tryz.f208.body.getD .skip
theorem ok_s_Sync : FOk Tryz.prog 208 (x_ahz) := by
 let K := 0
 exact
 x_a (T := t_s_Sync K) (H := h_s_Sync) (K := K) (c := c_s_Sync) (ts := [.cell 2 48]) Tryz.func208 (by kernel_rfl) (by kernel_rfl) (by kernel_rfl) rfl
  (tokc (x_kw) (tokc (x_m4) (tok0 x_k))) mixed
  (fun v => by kernel_rfl)
noncomputable def x_xp (K : Nat) : FSp := { ps := [.val true x_da [.f, .f, .f, .f], .val true x_hh [.f, .f, .f, .f, .f, .r, .r, .r, .r, .f, .r, .r, .f, .r, .r, .r, .f, .r, .r, .r, .f, .r, .r, .r, .f, .r], .val false (.i .i64) [.f]], rs := [(true, x_hh, [.f, .f, .f, .f, .f, .f, .f, .f, .f, .f, .f, .f, .f, .x 0, .x 0, .x 0, .f, .x 0, .x 0, .x 0, .f, .x 0, .x 0, .f, .f, .f]), (false, (.sl eRpc), [.x 0])], fn := fun v => x_su K v.1 v.2.1 v.2.2.1 }
noncomputable def x_aa8 (K : Nat) : Tab := x_ai (tiOf tys) [(40, x_co K), (129, x_cq K), (208, x_ahz), (32, x_cc), (205, x_d1 K)]
def x_aa9 : Hint := ⟨msk [92, 348, 524636, 192, 860, 860, 860, 8589936208, 77309412944, 8589938256, 8589936192, 8589936192, 192], fun _ _ => false, fun _ => false, fun _ => none⟩
noncomputable def x_abs : Code := Tryz.f185.body.getD .skip
theorem x_46 (K : Nat) : FOk Tryz.prog 185 (x_xp K) :=
 x_a (T := x_aa8 K) (H := x_aa9) (K := K) (c := x_abs) (ts := [.cell 6 51, .tmp 7]) Tryz.func185 (by kernel_rfl) (by kernel_rfl) (by kernel_rfl) rfl
  (tokc (x_cl K) (tokc (x_fb K) (tokc (ok_s_Sync) (tokc (x_b1) (tokc (x_sc K) (tok0 x_k)))))) mixed
  (fun v => by kernel_rfl)
noncomputable def x_xm (K : Nat) : FSp := { ps := [.val true x_d8 [.f, .f, .f, .f, .f, .x 0, .x 0, .x 0, .x 0, .x 0, .x 0], .val false (.i .i64) [.f]], rs := [(true, x_d8, [.f, .f, .f, .f, .f, .x 0, .x 0, .x 0, .x 0, .x 0, .x 0]), (false, (.i .i64), [.f])], fn := fun v => x_s4 K v.1 v.2.1 }
noncomputable def x_aag (K : Nat) : Tab := x_ai (tiOf tys) [(185, x_xp K)]
def x_aav : Hint := ⟨msk [22, 214, 134217942, 48, 148, 20, 48], fun _ _ => false, fun _ => false, fun _ => none⟩
noncomputable def x_aaz : Code := Tryz.f158.body.getD .skip
theorem x_5x (K : Nat) : FOk Tryz.prog 158 (x_xm K) :=
 x_a (T := x_aag K) (H := x_aav) (K := K) (c := x_aaz) (ts := [.cell 4 59, .tmp 5]) Tryz.func158 (by kernel_rfl) (by kernel_rfl) (by kernel_rfl) rfl
  (tokc (x_46 K) (tok0 x_k)) mixed
  (fun v => by kernel_rfl)
noncomputable def x_af7 : FSp := { ps := [.val true eDisk [.r, .f], .val false (.i .i64) [.f]], rs := [(true, eDisk, [.x 0, .f])], fn := fun v => s_Fall v.1 v.2.1 }
noncomputable def t_s_Fall (K : Nat) : Tab := x_ai (tiOf tys) [(151, x_ml), (64, x_kc), (168, x_ik), (112, x_no)]
def h_s_Fall : Hint := ⟨msk [22, 278, 16, 52, 16], fun _ _ => false, fun _ => false, fun _ => none⟩
noncomputable def c_s_Fall : Code := Tryz.f159.body.getD .skip
theorem ok_s_Fall : FOk Tryz.prog 159 (x_af7) := by
 let K := 0
 exact
 x_a (T := t_s_Fall K) (H := h_s_Fall) (K := K) (c := c_s_Fall) (ts := [.cell 4 48]) Tryz.func159 (by kernel_rfl) (by kernel_rfl) (by kernel_rfl) rfl
  (tokc (x_m4) (tokc (x_kw) (tokc (x_id) (tokc (x_mg) (tok0 x_k))))) mixed
  (fun v => by kernel_rfl)
noncomputable def x_7k (K : Nat) : FSp := { ps := [.ptr x_yu [.f, .f, .f]], rs := [(true, eCmd, [.f, .f, .f, .f, .f, .f, .f, .f])], fn := fun v => x_7s K v.1 }
noncomputable def t_s_l7Cmd (K : Nat) : Tab := x_ai (tiOf tys) [(190, x_k9 K), (194, x_ma K)]
def h_s_l7Cmd : Hint := ⟨msk [5, 13, 13, 13, 13, 13, 13, 13, 13, 13, 5], fun _ _ => false, fun _ => false, fun _ => none⟩
noncomputable def c_s_l7Cmd : Code := Tryz.f216.body.getD .skip
theorem x_adu (K : Nat) : FOk Tryz.prog 216 (x_7k K) :=
 x_a (T := t_s_l7Cmd K) (H := h_s_l7Cmd) (K := K) (c := c_s_l7Cmd) (ts := [.cell 2 100]) Tryz.func216 (by kernel_rfl) (by kernel_rfl) (by kernel_rfl) rfl
  (tokc (x_jq K) (tokc (x_nm K) (tok0 x_k))) mixed
  (fun v => by kernel_rfl)
end Go.Proofs.YtkdamnchchhjeaaGreatDoor.Fs
