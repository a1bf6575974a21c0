/- The functions compute what is told of them. -/
import Derived.Test.YtilemnhdgfhkiaaDoorRtSh
import Derived.Test.YtilemnhdgfhkiaaDoorRtLib
set_option linter.all false
set_option maxRecDepth 100000
namespace Go.Proofs.YtilemnhdgfhkiaaDoor.Rt
open Go Go.Kn

def tys : List (TypeId × TInf) := [
  (3, { agg := false, e := (.i .i64), bytes := 8 }),
  (5, { agg := false, e := (.i .u8), bytes := 1 }),
  (9, { agg := false, e := .s, bytes := 16 }),
  (29, { agg := false, e := (.sl eItem), bytes := 24, el := 152 }),
  (31, { agg := true, e := eRow, bytes := 40, fs := [(0, 1, false), (1, 1, false), (2, 1, false)] }),
  (34, { agg := false, e := (.sl eItem), bytes := 24, el := 108 }),
  (36, { agg := true, e := eRow, bytes := 40, fs := [(0, 1, false), (1, 1, false), (2, 1, false)] }),
  (55, { agg := false, e := (.sl (.i .u8)), bytes := 24, el := 5 }),
  (108, { agg := true, e := eItem, bytes := 56, fs := [(0, 1, false), (1, 1, false), (2, 1, false), (3, 1, false), (4, 1, false)] }),
  (152, { agg := true, e := eItem, bytes := 56, fs := [(0, 1, false), (1, 1, false), (2, 1, false), (3, 1, false), (4, 1, false)] })]
theorem tys_ok : TabOk Tryd.prog (tiOf tys) := tabOk_of (by kernel_rfl)
theorem mixed : Tryd.prog.follows .mixedOrders = true := by kernel_rfl

noncomputable def F_l_szItem : FSp := { ps := [.val true eItem [.f, .f, .f, .f, .f], .val false (.i .i64) [.f]], rs := [(false, (.i .i64), [.f])], fn := fun v => l_szItem v.1 v.2.1 }
noncomputable def t_l_szItem (K : Nat) : Tab := tabOf (tiOf tys) []
def h_l_szItem : Hint := ⟨msk [6, 6, 2054, 18, 2, 262146, 18, 18], fun _ _ => false⟩
noncomputable def c_l_szItem : Code := Tryd.f90.body.getD .skip
theorem ok_l_szItem : FOk Tryd.prog 90 (F_l_szItem) := by
  let K := 0
  exact
  fok_of_run (T := t_l_szItem K) (H := h_l_szItem) (K := K) (c := c_l_szItem) (ts := [.tmp 4]) Tryd.func90 (by kernel_rfl) (by kernel_rfl) (by kernel_rfl) rfl
    (tok0 tys_ok) mixed
    (fun v => by kernel_rfl)

noncomputable def F_l_szItemS (K : Nat) : FSp := { ps := [.val false (.sl eItem) [.r], .val false (.i .i64) [.f]], rs := [(false, (.i .i64), [.f])], fn := fun v => l_szItemS K v.1 v.2.1 }
noncomputable def t_l_szItemS (K : Nat) : Tab := tabOf (tiOf tys) [(90, F_l_szItem)]
def h_l_szItemS : Hint := ⟨msk [3, 3, 2051, 18, 35, 32803, 35, 35, 33554467, 18, 18], fun _ _ => false⟩
noncomputable def c_l_szItemS : Code := Tryd.f47.body.getD .skip
noncomputable def l_szItemS.g0 (K : Nat) (a0 : List TItem) (a1 : Int) (n : Nat) (q0 : Int) (q1 : Int) : Option (Int × Unit) :=
  lpg (t_l_szItemS K) h_l_szItemS K c_l_szItemS [.r, .r, .r, .l, .r, .b] n ⟨[.one (.val .r (.sl eItem) a0), .one (.val .f (.i .i64) q0), .dead, .dead, .dead, .one (.val .f (.i .i64) q1)] ++ List.replicate 21 .dead, List.replicate 27 none⟩ (endK (t_l_szItemS K).toEnv (F_l_szItemS K) [.tmp 4])
theorem l_szItemS.ok0 (K : Nat) (a0 : List TItem) (a1 : Int) (n : Nat) : l_szItemS.g0 K a0 a1 n = l_szItemS.l0 K a0 a1 n := by
  induction n with
  | zero =>
    funext q0 q1
    kernel_rfl
  | succ n ih =>
    funext q0 q1
    have e : l_szItemS.g0 K a0 a1 (n + 1) q0 q1 = l_szItemS.l0b K a0 a1 (l_szItemS.g0 K a0 a1 n) q0 q1 := by kernel_rfl
    rw [ih] at e
    refine e.trans ?_
    kernel_rfl
theorem ok_l_szItemS (K : Nat) : FOk Tryd.prog 47 (F_l_szItemS K) :=
  fok_of_run (T := t_l_szItemS K) (H := h_l_szItemS) (K := K) (c := c_l_szItemS) (ts := [.tmp 4]) Tryd.func47 (by kernel_rfl) (by kernel_rfl) (by kernel_rfl) rfl
    (tokc (ok_l_szItem) (tok0 tys_ok)) mixed
    (fun v => by
    have k0 := l_szItemS.ok0 K v.1 v.2.1 K
    have e : run (t_l_szItemS K) h_l_szItemS K c_l_szItemS (initSt (F_l_szItemS K).pk (F_l_szItemS K).ps Tryd.f47.ntmps (lv _ v)) (endK (t_l_szItemS K).toEnv (F_l_szItemS K) [.tmp 4]) = l_szItemS.b K v.1 v.2.1 (l_szItemS.g0 K v.1 v.2.1 K) := by kernel_rfl
    rw [k0] at e
    refine e.trans ?_
    kernel_rfl)

noncomputable def F_l_szRow (K : Nat) : FSp := { ps := [.val true eRow [.f, .f, .r], .val false (.i .i64) [.f]], rs := [(false, (.i .i64), [.f])], fn := fun v => l_szRow K v.1 v.2.1 }
noncomputable def t_l_szRow (K : Nat) : Tab := tabOf (tiOf tys) [(47, F_l_szItemS K)]
def h_l_szRow : Hint := ⟨msk [6, 2, 1026, 18, 18], fun _ _ => false⟩
noncomputable def c_l_szRow : Code := Tryd.f13.body.getD .skip
theorem ok_l_szRow (K : Nat) : FOk Tryd.prog 13 (F_l_szRow K) :=
  fok_of_run (T := t_l_szRow K) (H := h_l_szRow) (K := K) (c := c_l_szRow) (ts := [.tmp 4]) Tryd.func13 (by kernel_rfl) (by kernel_rfl) (by kernel_rfl) rfl
    (tokc (ok_l_szItemS K) (tok0 tys_ok)) mixed
    (fun v => by kernel_rfl)

noncomputable def F_l_toItem : FSp := { ps := [.val true eItem [.f, .f, .f, .f, .f]], rs := [(true, eItem, [.f, .f, .f, .f, .f])], fn := fun v => l_toItem v.1 }
noncomputable def t_l_toItem (K : Nat) : Tab := tabOf (tiOf tys) []
def h_l_toItem : Hint := ⟨msk [6, 14, 14, 14, 14, 14, 12, 4], fun _ _ => false⟩
noncomputable def c_l_toItem : Code := Tryd.f91.body.getD .skip
theorem ok_l_toItem : FOk Tryd.prog 91 (F_l_toItem) := by
  let K := 0
  exact
  fok_of_run (T := t_l_toItem K) (H := h_l_toItem) (K := K) (c := c_l_toItem) (ts := [.cell 2 108]) Tryd.func91 (by kernel_rfl) (by kernel_rfl) (by kernel_rfl) rfl
    (tok0 tys_ok) mixed
    (fun v => by kernel_rfl)

noncomputable def F_l_toItemS (K : Nat) : FSp := { ps := [.val false (.sl eItem) [.r]], rs := [(false, (.sl eItem), [.x 0])], fn := fun v => l_toItemS K v.1 }
noncomputable def t_l_toItemS (K : Nat) : Tab := tabOf (tiOf tys) [(91, F_l_toItem)]
def h_l_toItemS : Hint := ⟨msk [1, 9, 25, 2073, 25, 25, 4], fun _ _ => false⟩
noncomputable def c_l_toItemS : Code := Tryd.f48.body.getD .skip
noncomputable def l_toItemS.g0 (K : Nat) (a0 : List TItem) (n : Nat) (q0 : List TItem) (q1 : Int) : Option ((List TItem) × Unit) :=
  lpg (t_l_toItemS K) h_l_toItemS K c_l_toItemS [.r, .r, .l, .r, .b] n ⟨[.one (.val .r (.sl eItem) a0), .dead, .dead, .one (.val (.x 0) (.sl eItem) q0), .one (.val .f (.i .i64) q1)] ++ List.replicate 18 .dead, List.replicate 23 none⟩ (endK (t_l_toItemS K).toEnv (F_l_toItemS K) [.tmp 2])
theorem l_toItemS.ok0 (K : Nat) (a0 : List TItem) (n : Nat) : l_toItemS.g0 K a0 n = l_toItemS.l0 K a0 n := by
  induction n with
  | zero =>
    funext q0 q1
    kernel_rfl
  | succ n ih =>
    funext q0 q1
    have e : l_toItemS.g0 K a0 (n + 1) q0 q1 = l_toItemS.l0b K a0 (l_toItemS.g0 K a0 n) q0 q1 := by kernel_rfl
    rw [ih] at e
    refine e.trans ?_
    kernel_rfl
theorem ok_l_toItemS (K : Nat) : FOk Tryd.prog 48 (F_l_toItemS K) :=
  fok_of_run (T := t_l_toItemS K) (H := h_l_toItemS) (K := K) (c := c_l_toItemS) (ts := [.tmp 2]) Tryd.func48 (by kernel_rfl) (by kernel_rfl) (by kernel_rfl) rfl
    (tokc (ok_l_toItem) (tok0 tys_ok)) mixed
    (fun v => by
    have k0 := l_toItemS.ok0 K v.1 K
    have e : run (t_l_toItemS K) h_l_toItemS K c_l_toItemS (initSt (F_l_toItemS K).pk (F_l_toItemS K).ps Tryd.f48.ntmps (lv _ v)) (endK (t_l_toItemS K).toEnv (F_l_toItemS K) [.tmp 2]) = l_toItemS.b K v.1 (l_toItemS.g0 K v.1 K) := by kernel_rfl
    rw [k0] at e
    refine e.trans ?_
    kernel_rfl)

noncomputable def F_l_toRow (K : Nat) : FSp := { ps := [.val true eRow [.f, .f, .r]], rs := [(true, eRow, [.f, .f, .x 0])], fn := fun v => l_toRow K v.1 }
noncomputable def t_l_toRow (K : Nat) : Tab := tabOf (tiOf tys) [(48, F_l_toItemS K)]
def h_l_toRow : Hint := ⟨msk [6, 14, 14, 14, 12, 4], fun _ _ => false⟩
noncomputable def c_l_toRow : Code := Tryd.f15.body.getD .skip
theorem ok_l_toRow (K : Nat) : FOk Tryd.prog 15 (F_l_toRow K) :=
  fok_of_run (T := t_l_toRow K) (H := h_l_toRow) (K := K) (c := c_l_toRow) (ts := [.cell 2 36]) Tryd.func15 (by kernel_rfl) (by kernel_rfl) (by kernel_rfl) rfl
    (tokc (ok_l_toItemS K) (tok0 tys_ok)) mixed
    (fun v => by kernel_rfl)

noncomputable def F_s_Digits (K : Nat) : FSp := { ps := [.val false (.i .i64) [.f]], rs := [(false, .s, [.f])], fn := fun v => s_Digits K v.1 }
noncomputable def t_s_Digits (K : Nat) : Tab := tabOf (tiOf tys) []
def h_s_Digits : Hint := ⟨msk [1, 129, 4, 9, 25, 2073, 57, 32825, 57, 25, 25, 134217744, 4, 4], fun _ _ => false⟩
noncomputable def c_s_Digits : Code := Tryd.f37.body.getD .skip
noncomputable def s_Digits.g0 (K : Nat) (a0 : Int) (n : Nat) (q0 : Int) (q1 : ByteArray) : Option (ByteArray × Unit) :=
  lpg (t_s_Digits K) h_s_Digits K c_s_Digits [.r, .r, .r, .r, .l, .b] n ⟨[.one (.val .f (.i .i64) q0), .dead, .dead, .one (.val .f .b (decide (a0 < 0))), .one (.val .f .s q1)] ++ List.replicate 26 .dead, List.replicate 31 none⟩ (endK (t_s_Digits K).toEnv (F_s_Digits K) [.tmp 2])
theorem s_Digits.ok0 (K : Nat) (a0 : Int) (n : Nat) : s_Digits.g0 K a0 n = s_Digits.l0 K a0 n := by
  induction n with
  | zero =>
    funext q0 q1
    kernel_rfl
  | succ n ih =>
    funext q0 q1
    have e : s_Digits.g0 K a0 (n + 1) q0 q1 = s_Digits.l0b K a0 (s_Digits.g0 K a0 n) q0 q1 := by kernel_rfl
    rw [ih] at e
    refine e.trans ?_
    kernel_rfl
theorem ok_s_Digits (K : Nat) : FOk Tryd.prog 37 (F_s_Digits K) :=
  fok_of_run (T := t_s_Digits K) (H := h_s_Digits) (K := K) (c := c_s_Digits) (ts := [.tmp 2]) Tryd.func37 (by kernel_rfl) (by kernel_rfl) (by kernel_rfl) rfl
    (tok0 tys_ok) mixed
    (fun v => by
    have k0 := s_Digits.ok0 K v.1 K
    have e : run (t_s_Digits K) h_s_Digits K c_s_Digits (initSt (F_s_Digits K).pk (F_s_Digits K).ps Tryd.f37.ntmps (lv _ v)) (endK (t_s_Digits K).toEnv (F_s_Digits K) [.tmp 2]) = s_Digits.b K v.1 (s_Digits.g0 K v.1 K) := by kernel_rfl
    rw [k0] at e
    refine e.trans ?_
    kernel_rfl)

noncomputable def F_s_RowText (K : Nat) : FSp := { ps := [.val true eRow [.f, .f, .r]], rs := [(false, .s, [.f])], fn := fun v => s_RowText K v.1 }
noncomputable def t_s_RowText (K : Nat) : Tab := tabOf (tiOf tys) [(37, F_s_Digits K)]
def h_s_RowText : Hint := ⟨msk [2, 10, 26, 8388634, 26, 26, 4], fun _ _ => false⟩
noncomputable def c_s_RowText : Code := Tryd.f14.body.getD .skip
noncomputable def s_RowText.g0 (K : Nat) (a0 : TRow) (n : Nat) (q0 : ByteArray) (q1 : Int) : Option (ByteArray × Unit) :=
  lpg (t_s_RowText K) h_s_RowText K c_s_RowText [.r, .r, .l, .r, .b] n ⟨[.dead, .one (.ptr 1 1 0), .dead, .one (.val .f .s q0), .one (.val .f (.i .i64) q1)] ++ List.replicate 41 .dead, [none, some (1, [.val .f (.i .i64) a0.1, .val .f (.i .i64) a0.2.1, .val .r (.sl eItem) a0.2.2])] ++ List.replicate 44 none⟩ (endK (t_s_RowText K).toEnv (F_s_RowText K) [.tmp 2])
theorem s_RowText.ok0 (K : Nat) (a0 : TRow) (n : Nat) : s_RowText.g0 K a0 n = s_RowText.l0 K a0 n := by
  induction n with
  | zero =>
    funext q0 q1
    kernel_rfl
  | succ n ih =>
    funext q0 q1
    have e : s_RowText.g0 K a0 (n + 1) q0 q1 = s_RowText.l0b K a0 (s_RowText.g0 K a0 n) q0 q1 := by kernel_rfl
    rw [ih] at e
    refine e.trans ?_
    kernel_rfl
theorem ok_s_RowText (K : Nat) : FOk Tryd.prog 14 (F_s_RowText K) :=
  fok_of_run (T := t_s_RowText K) (H := h_s_RowText) (K := K) (c := c_s_RowText) (ts := [.tmp 2]) Tryd.func14 (by kernel_rfl) (by kernel_rfl) (by kernel_rfl) rfl
    (tokc (ok_s_Digits K) (tok0 tys_ok)) mixed
    (fun v => by
    have k0 := s_RowText.ok0 K v.1 K
    have e : run (t_s_RowText K) h_s_RowText K c_s_RowText (initSt (F_s_RowText K).pk (F_s_RowText K).ps Tryd.f14.ntmps (lv _ v)) (endK (t_s_RowText K).toEnv (F_s_RowText K) [.tmp 2]) = s_RowText.b K v.1 (s_RowText.g0 K v.1 K) := by kernel_rfl
    rw [k0] at e
    refine e.trans ?_
    kernel_rfl)

noncomputable def F_i_Digits : FSp := { ps := [.val false (.i .i64) [.f]], rs := [(false, .s, [.f])], fn := fun v => i_Digits v.1 }
noncomputable def t_i_Digits (K : Nat) : Tab := tabOf (tiOf tys) [(72, F_lItoa)]
def h_i_Digits : Hint := ⟨msk [1, 4], fun _ _ => false⟩
noncomputable def c_i_Digits : Code := Tryd.f36.body.getD .skip
theorem ok_i_Digits : FOk Tryd.prog 36 (F_i_Digits) := by
  let K := 0
  exact
  fok_of_run (T := t_i_Digits K) (H := h_i_Digits) (K := K) (c := c_i_Digits) (ts := [.tmp 2]) Tryd.func36 (by kernel_rfl) (by kernel_rfl) (by kernel_rfl) rfl
    (tokc (ok_lItoa) (tok0 tys_ok)) mixed
    (fun v => by kernel_rfl)

noncomputable def F_i_RowText (K : Nat) : FSp := { ps := [.val true eRow [.f, .f, .r]], rs := [(false, .s, [.f])], fn := fun v => i_RowText K v.1 }
noncomputable def t_i_RowText (K : Nat) : Tab := tabOf (tiOf tys) [(36, F_i_Digits)]
def h_i_RowText : Hint := ⟨msk [2, 10, 14680072, 31457288, 14680104, 14680072, 14680072, 4], fun _ _ => false⟩
noncomputable def c_i_RowText : Code := Tryd.f16.body.getD .skip
noncomputable def i_RowText.g0 (K : Nat) (a0 : TRow) (n : Nat) (q0 : ByteArray) (q1 : Int) : Option (ByteArray × Unit) :=
  lpg (t_i_RowText K) h_i_RowText K c_i_RowText [.r, .r, .l, .r, .b] n ⟨[.dead, .dead, .dead, .one (.val .f .s q0)] ++ List.replicate 17 .dead ++ [.one (.val .r (.sl eItem) a0.2.2), .one (.val .f (.i .i64) ((a0.2.2.length : Nat) : Int)), .one (.val .f (.i .i64) q1)] ++ List.replicate 16 .dead, List.replicate 40 none⟩ (endK (t_i_RowText K).toEnv (F_i_RowText K) [.tmp 2])
theorem i_RowText.ok0 (K : Nat) (a0 : TRow) (n : Nat) : i_RowText.g0 K a0 n = i_RowText.l0 K a0 n := by
  induction n with
  | zero =>
    funext q0 q1
    kernel_rfl
  | succ n ih =>
    funext q0 q1
    have e : i_RowText.g0 K a0 (n + 1) q0 q1 = i_RowText.l0b K a0 (i_RowText.g0 K a0 n) q0 q1 := by kernel_rfl
    rw [ih] at e
    refine e.trans ?_
    kernel_rfl
theorem ok_i_RowText (K : Nat) : FOk Tryd.prog 16 (F_i_RowText K) :=
  fok_of_run (T := t_i_RowText K) (H := h_i_RowText) (K := K) (c := c_i_RowText) (ts := [.tmp 2]) Tryd.func16 (by kernel_rfl) (by kernel_rfl) (by kernel_rfl) rfl
    (tokc (ok_i_Digits) (tok0 tys_ok)) mixed
    (fun v => by
    have k0 := i_RowText.ok0 K v.1 K
    have e : run (t_i_RowText K) h_i_RowText K c_i_RowText (initSt (F_i_RowText K).pk (F_i_RowText K).ps Tryd.f16.ntmps (lv _ v)) (endK (t_i_RowText K).toEnv (F_i_RowText K) [.tmp 2]) = i_RowText.b K v.1 (i_RowText.g0 K v.1 K) := by kernel_rfl
    rw [k0] at e
    refine e.trans ?_
    kernel_rfl)

noncomputable def F_l_eqItem : FSp := { ps := [.val true eItem [.f, .f, .f, .f, .f], .val true eItem [.f, .f, .f, .f, .f]], rs := [(false, .b, [.f])], fn := fun v => l_eqItem v.1 v.2.1 }
noncomputable def t_l_eqItem (K : Nat) : Tab := tabOf (tiOf tys) []
def h_l_eqItem : Hint := ⟨msk [12, 524, 16, 16396, 16, 524300, 16, 16777228, 16, 536870912, 16, 16], fun _ _ => false⟩
noncomputable def c_l_eqItem : Code := Tryd.f92.body.getD .skip
theorem ok_l_eqItem : FOk Tryd.prog 92 (F_l_eqItem) := by
  let K := 0
  exact
  fok_of_run (T := t_l_eqItem K) (H := h_l_eqItem) (K := K) (c := c_l_eqItem) (ts := [.tmp 4]) Tryd.func92 (by kernel_rfl) (by kernel_rfl) (by kernel_rfl) rfl
    (tok0 tys_ok) mixed
    (fun v => by kernel_rfl)

noncomputable def F_l_eqItemS (K : Nat) : FSp := { ps := [.val false (.sl eItem) [.r], .val false (.sl eItem) [.r]], rs := [(false, .b, [.f])], fn := fun v => l_eqItemS K v.1 v.2.1 }
noncomputable def t_l_eqItemS (K : Nat) : Tab := tabOf (tiOf tys) [(92, F_l_eqItem)]
def h_l_eqItemS : Hint := ⟨msk [3, 1027, 16, 35, 16419, 35, 67108899, 16, 16], fun _ _ => false⟩
noncomputable def c_l_eqItemS : Code := Tryd.f49.body.getD .skip
noncomputable def l_eqItemS.g0 (K : Nat) (a0 : List TItem) (a1 : List TItem) (n : Nat) (q0 : Int) : Option (Bool × Unit) :=
  lpg (t_l_eqItemS K) h_l_eqItemS K c_l_eqItemS [.r, .r, .l, .r, .b] n ⟨[.one (.val .r (.sl eItem) a0), .one (.val .r (.sl eItem) a1), .dead, .dead, .dead, .one (.val .f (.i .i64) q0)] ++ List.replicate 21 .dead, List.replicate 27 none⟩ (endK (t_l_eqItemS K).toEnv (F_l_eqItemS K) [.tmp 4])
theorem l_eqItemS.ok0 (K : Nat) (a0 : List TItem) (a1 : List TItem) (n : Nat) : l_eqItemS.g0 K a0 a1 n = l_eqItemS.l0 K a0 a1 n := by
  induction n with
  | zero =>
    funext q0
    kernel_rfl
  | succ n ih =>
    funext q0
    have e : l_eqItemS.g0 K a0 a1 (n + 1) q0 = l_eqItemS.l0b K a0 a1 (l_eqItemS.g0 K a0 a1 n) q0 := by kernel_rfl
    rw [ih] at e
    refine e.trans ?_
    kernel_rfl
theorem ok_l_eqItemS (K : Nat) : FOk Tryd.prog 49 (F_l_eqItemS K) :=
  fok_of_run (T := t_l_eqItemS K) (H := h_l_eqItemS) (K := K) (c := c_l_eqItemS) (ts := [.tmp 4]) Tryd.func49 (by kernel_rfl) (by kernel_rfl) (by kernel_rfl) rfl
    (tokc (ok_l_eqItem) (tok0 tys_ok)) mixed
    (fun v => by
    have k0 := l_eqItemS.ok0 K v.1 v.2.1 K
    have e : run (t_l_eqItemS K) h_l_eqItemS K c_l_eqItemS (initSt (F_l_eqItemS K).pk (F_l_eqItemS K).ps Tryd.f49.ntmps (lv _ v)) (endK (t_l_eqItemS K).toEnv (F_l_eqItemS K) [.tmp 4]) = l_eqItemS.b K v.1 v.2.1 (l_eqItemS.g0 K v.1 v.2.1 K) := by kernel_rfl
    rw [k0] at e
    refine e.trans ?_
    kernel_rfl)

noncomputable def F_l_eqRow (K : Nat) : FSp := { ps := [.val true eRow [.f, .f, .r], .val true eRow [.f, .f, .r]], rs := [(false, .b, [.f])], fn := fun v => l_eqRow K v.1 v.2.1 }
noncomputable def t_l_eqRow (K : Nat) : Tab := tabOf (tiOf tys) [(49, F_l_eqItemS K)]
def h_l_eqRow : Hint := ⟨msk [12, 524, 16, 16396, 16, 1048576, 16, 16], fun _ _ => false⟩
noncomputable def c_l_eqRow : Code := Tryd.f17.body.getD .skip
theorem ok_l_eqRow (K : Nat) : FOk Tryd.prog 17 (F_l_eqRow K) :=
  fok_of_run (T := t_l_eqRow K) (H := h_l_eqRow) (K := K) (c := c_l_eqRow) (ts := [.tmp 4]) Tryd.func17 (by kernel_rfl) (by kernel_rfl) (by kernel_rfl) rfl
    (tokc (ok_l_eqItemS K) (tok0 tys_ok)) mixed
    (fun v => by kernel_rfl)

noncomputable def F_l_FnExactRowText (K : Nat) : FSp := lawF [(true, eRow)] fun v => l_FnExactRowText K v.1
noncomputable def t_l_FnExactRowText (K : Nat) : Tab := tabOf (tiOf tys) [(13, F_l_szRow K), (15, F_l_toRow K), (14, F_s_RowText K), (16, F_i_RowText K), (17, F_l_eqRow K)]
def h_l_FnExactRowText : Hint := ⟨msk [2, 10, 10, 2050, 4, 18, 50, 114, 2097186, 4, 67108864, 4, 4], fun _ _ => false⟩
noncomputable def c_l_FnExactRowText : Code := Tryd.f4.body.getD .skip
theorem ok_l_FnExactRowText (K : Nat) : FOk Tryd.prog 4 (F_l_FnExactRowText K) :=
  fok_of_run (T := t_l_FnExactRowText K) (H := h_l_FnExactRowText) (K := K) (c := c_l_FnExactRowText) (ts := [.tmp 2]) Tryd.func4 (by kernel_rfl) (by kernel_rfl) (by kernel_rfl) rfl
    (tokc (ok_l_szRow K) (tokc (ok_l_toRow K) (tokc (ok_s_RowText K) (tokc (ok_i_RowText K) (tokc (ok_l_eqRow K) (tok0 tys_ok)))))) mixed
    (fun v => by kernel_rfl)

end Go.Proofs.YtilemnhdgfhkiaaDoor.Rt
