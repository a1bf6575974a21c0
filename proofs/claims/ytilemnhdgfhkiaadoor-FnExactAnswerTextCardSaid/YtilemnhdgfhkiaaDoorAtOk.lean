/- The functions compute what is told of them. -/
import Derived.Test.YtilemnhdgfhkiaaDoorAtSh
import Derived.Test.YtilemnhdgfhkiaaDoorAtLib
set_option linter.all false
set_option maxRecDepth 100000
namespace Go.Proofs.YtilemnhdgfhkiaaDoor.At
open Go Go.Kn

def tys : List (TypeId × TInf) := [
  (3, { agg := false, e := (.i .i64), bytes := 8 }),
  (5, { agg := false, e := (.i .u8), bytes := 1 }),
  (9, { agg := false, e := .s, bytes := 16 }),
  (23, { agg := true, e := eAnswer, bytes := 48, fs := [(0, 1, false), (1, 1, false), (2, 1, false), (3, 1, false)] }),
  (26, { agg := true, e := eAnswer, bytes := 48, fs := [(0, 1, false), (1, 1, false), (2, 1, false), (3, 1, false)] }),
  (55, { agg := false, e := (.sl (.i .u8)), bytes := 24, el := 5 }),
  (104, { agg := false, e := (.sl .s), bytes := 24, el := 9 })]
theorem tys_ok : TabOk Tryd.prog (tiOf tys) := tabOk_of (by kernel_rfl)
theorem mixed : Tryd.prog.follows .mixedOrders = true := by kernel_rfl

noncomputable def F_l_szAnswer : FSp := { ps := [.val true eAnswer [.f, .f, .f, .f], .val false (.i .i64) [.f]], rs := [(false, (.i .i64), [.f])], fn := fun v => l_szAnswer v.1 v.2.1 }
noncomputable def t_l_szAnswer (K : Nat) : Tab := tabOf (tiOf tys) []
def h_l_szAnswer : Hint := ⟨msk [6, 6, 2054, 18, 2, 262146, 18, 18], fun _ _ => false⟩
noncomputable def c_l_szAnswer : Code := Tryd.f9.body.getD .skip
theorem ok_l_szAnswer : FOk Tryd.prog 9 (F_l_szAnswer) := by
  let K := 0
  exact
  fok_of_run (T := t_l_szAnswer K) (H := h_l_szAnswer) (K := K) (c := c_l_szAnswer) (ts := [.tmp 4]) Tryd.func9 (by kernel_rfl) (by kernel_rfl) (by kernel_rfl) rfl
    (tok0 tys_ok) mixed
    (fun v => by kernel_rfl)

noncomputable def F_l_toAnswer : FSp := { ps := [.val true eAnswer [.f, .f, .f, .f]], rs := [(true, eAnswer, [.f, .f, .f, .f])], fn := fun v => l_toAnswer v.1 }
noncomputable def t_l_toAnswer (K : Nat) : Tab := tabOf (tiOf tys) []
def h_l_toAnswer : Hint := ⟨msk [6, 14, 14, 14, 14, 12, 4], fun _ _ => false⟩
noncomputable def c_l_toAnswer : Code := Tryd.f11.body.getD .skip
theorem ok_l_toAnswer : FOk Tryd.prog 11 (F_l_toAnswer) := by
  let K := 0
  exact
  fok_of_run (T := t_l_toAnswer K) (H := h_l_toAnswer) (K := K) (c := c_l_toAnswer) (ts := [.cell 2 26]) Tryd.func11 (by kernel_rfl) (by kernel_rfl) (by kernel_rfl) rfl
    (tok0 tys_ok) mixed
    (fun v => by kernel_rfl)

noncomputable def F_s_l1In : FSp := { ps := [.val false (.i .i64) [.f], .val false (.i .i64) [.f], .val false (.i .i64) [.f]], rs := [(false, .b, [.f])], fn := fun v => s_l1In v.1 v.2.1 v.2.2.1 }
noncomputable def t_s_l1In (K : Nat) : Tab := tabOf (tiOf tys) []
def h_s_l1In : Hint := ⟨msk [7, 64], fun _ _ => false⟩
noncomputable def c_s_l1In : Code := Tryd.f45.body.getD .skip
theorem ok_s_l1In : FOk Tryd.prog 45 (F_s_l1In) := by
  let K := 0
  exact
  fok_of_run (T := t_s_l1In K) (H := h_s_l1In) (K := K) (c := c_s_l1In) (ts := [.tmp 6]) Tryd.func45 (by kernel_rfl) (by kernel_rfl) (by kernel_rfl) rfl
    (tok0 tys_ok) mixed
    (fun v => by kernel_rfl)

noncomputable def F_s_Digits (K : Nat) : FSp := { ps := [.val false (.i .i64) [.f]], rs := [(false, .s, [.f])], fn := fun v => s_Digits K v.1 }
noncomputable def t_s_Digits (K : Nat) : Tab := tabOf (tiOf tys) []
def h_s_Digits : Hint := ⟨msk [1, 129, 4, 9, 25, 2073, 57, 32825, 57, 25, 25, 134217744, 4, 4], fun _ _ => false⟩
noncomputable def c_s_Digits : Code := Tryd.f37.body.getD .skip
noncomputable def s_Digits.g0 (K : Nat) (a0 : Int) (n : Nat) (q0 : Int) (q1 : ByteArray) : Option (ByteArray × Unit) :=
  lpg (t_s_Digits K) h_s_Digits K c_s_Digits [.r, .r, .r, .r, .l, .b] n ⟨[.one (.val .f (.i .i64) q0), .dead, .dead, .one (.val .f .b (decide (a0 < 0))), .one (.val .f .s q1)] ++ List.replicate 26 .dead, List.replicate 31 none⟩ (endK (t_s_Digits K).toEnv (F_s_Digits K) [.tmp 2])
theorem s_Digits.ok0 (K : Nat) (a0 : Int) (n : Nat) : s_Digits.g0 K a0 n = s_Digits.l0 K a0 n := by
  induction n with
  | zero =>
    funext q0 q1
    kernel_rfl
  | succ n ih =>
    funext q0 q1
    have e : s_Digits.g0 K a0 (n + 1) q0 q1 = s_Digits.l0b K a0 (s_Digits.g0 K a0 n) q0 q1 := by kernel_rfl
    rw [ih] at e
    refine e.trans ?_
    kernel_rfl
theorem ok_s_Digits (K : Nat) : FOk Tryd.prog 37 (F_s_Digits K) :=
  fok_of_run (T := t_s_Digits K) (H := h_s_Digits) (K := K) (c := c_s_Digits) (ts := [.tmp 2]) Tryd.func37 (by kernel_rfl) (by kernel_rfl) (by kernel_rfl) rfl
    (tok0 tys_ok) mixed
    (fun v => by
    have k0 := s_Digits.ok0 K v.1 K
    have e : run (t_s_Digits K) h_s_Digits K c_s_Digits (initSt (F_s_Digits K).pk (F_s_Digits K).ps Tryd.f37.ntmps (lv _ v)) (endK (t_s_Digits K).toEnv (F_s_Digits K) [.tmp 2]) = s_Digits.b K v.1 (s_Digits.g0 K v.1 K) := by kernel_rfl
    rw [k0] at e
    refine e.trans ?_
    kernel_rfl)

noncomputable def F_s_AnswerText (K : Nat) : FSp := { ps := [.val true eAnswer [.f, .f, .f, .f]], rs := [(false, .s, [.f])], fn := fun v => s_AnswerText K v.1 }
noncomputable def t_s_AnswerText (K : Nat) : Tab := tabOf (tiOf tys) [(45, F_s_l1In), (37, F_s_Digits K)]
def h_s_AnswerText : Hint := ⟨msk [2, 10, 26, 2074, 18, 4], fun _ _ => false⟩
noncomputable def c_s_AnswerText : Code := Tryd.f10.body.getD .skip
theorem ok_s_AnswerText (K : Nat) : FOk Tryd.prog 10 (F_s_AnswerText K) :=
  fok_of_run (T := t_s_AnswerText K) (H := h_s_AnswerText) (K := K) (c := c_s_AnswerText) (ts := [.tmp 2]) Tryd.func10 (by kernel_rfl) (by kernel_rfl) (by kernel_rfl) rfl
    (tokc (ok_s_l1In) (tokc (ok_s_Digits K) (tok0 tys_ok))) mixed
    (fun v => by kernel_rfl)

noncomputable def F_i_within : FSp := { ps := [.val false (.i .i64) [.f], .val false (.i .i64) [.f], .val false (.i .i64) [.f]], rs := [(false, .b, [.f])], fn := fun v => i_within v.1 v.2.1 v.2.2.1 }
noncomputable def t_i_within (K : Nat) : Tab := tabOf (tiOf tys) []
def h_i_within : Hint := ⟨msk [7, 64], fun _ _ => false⟩
noncomputable def c_i_within : Code := Tryd.f46.body.getD .skip
theorem ok_i_within : FOk Tryd.prog 46 (F_i_within) := by
  let K := 0
  exact
  fok_of_run (T := t_i_within K) (H := h_i_within) (K := K) (c := c_i_within) (ts := [.tmp 6]) Tryd.func46 (by kernel_rfl) (by kernel_rfl) (by kernel_rfl) rfl
    (tok0 tys_ok) mixed
    (fun v => by kernel_rfl)

noncomputable def F_i_Digits : FSp := { ps := [.val false (.i .i64) [.f]], rs := [(false, .s, [.f])], fn := fun v => i_Digits v.1 }
noncomputable def t_i_Digits (K : Nat) : Tab := tabOf (tiOf tys) [(72, F_lItoa)]
def h_i_Digits : Hint := ⟨msk [1, 4], fun _ _ => false⟩
noncomputable def c_i_Digits : Code := Tryd.f36.body.getD .skip
theorem ok_i_Digits : FOk Tryd.prog 36 (F_i_Digits) := by
  let K := 0
  exact
  fok_of_run (T := t_i_Digits K) (H := h_i_Digits) (K := K) (c := c_i_Digits) (ts := [.tmp 2]) Tryd.func36 (by kernel_rfl) (by kernel_rfl) (by kernel_rfl) rfl
    (tokc (ok_lItoa) (tok0 tys_ok)) mixed
    (fun v => by kernel_rfl)

noncomputable def F_i_AnswerText : FSp := { ps := [.val true eAnswer [.f, .f, .f, .f]], rs := [(false, .s, [.f])], fn := fun v => i_AnswerText v.1 }
noncomputable def t_i_AnswerText (K : Nat) : Tab := tabOf (tiOf tys) [(46, F_i_within), (36, F_i_Digits)]
def h_i_AnswerText : Hint := ⟨msk [2, 10, 26, 282, 18, 4], fun _ _ => false⟩
noncomputable def c_i_AnswerText : Code := Tryd.f12.body.getD .skip
theorem ok_i_AnswerText : FOk Tryd.prog 12 (F_i_AnswerText) := by
  let K := 0
  exact
  fok_of_run (T := t_i_AnswerText K) (H := h_i_AnswerText) (K := K) (c := c_i_AnswerText) (ts := [.tmp 2]) Tryd.func12 (by kernel_rfl) (by kernel_rfl) (by kernel_rfl) rfl
    (tokc (ok_i_within) (tokc (ok_i_Digits) (tok0 tys_ok))) mixed
    (fun v => by kernel_rfl)

noncomputable def F_l_FnExactAnswerText (K : Nat) : FSp := lawF [(true, eAnswer)] fun v => l_FnExactAnswerText K v.1
noncomputable def t_l_FnExactAnswerText (K : Nat) : Tab := tabOf (tiOf tys) [(9, F_l_szAnswer), (11, F_l_toAnswer), (10, F_s_AnswerText K), (12, F_i_AnswerText)]
def h_l_FnExactAnswerText : Hint := ⟨msk [2, 10, 10, 1026, 4, 18, 48, 524288, 4, 4], fun _ _ => false⟩
noncomputable def c_l_FnExactAnswerText : Code := Tryd.f3.body.getD .skip
theorem ok_l_FnExactAnswerText (K : Nat) : FOk Tryd.prog 3 (F_l_FnExactAnswerText K) :=
  fok_of_run (T := t_l_FnExactAnswerText K) (H := h_l_FnExactAnswerText) (K := K) (c := c_l_FnExactAnswerText) (ts := [.tmp 2]) Tryd.func3 (by kernel_rfl) (by kernel_rfl) (by kernel_rfl) rfl
    (tokc (ok_l_szAnswer) (tokc (ok_l_toAnswer) (tokc (ok_s_AnswerText K) (tokc (ok_i_AnswerText) (tok0 tys_ok))))) mixed
    (fun v => by kernel_rfl)

end Go.Proofs.YtilemnhdgfhkiaaDoor.At
