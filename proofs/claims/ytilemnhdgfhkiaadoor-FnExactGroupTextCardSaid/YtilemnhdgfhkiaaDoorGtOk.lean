/- The functions compute what is told of them. -/
import Derived.Test.YtilemnhdgfhkiaaDoorGtSh
import Derived.Test.YtilemnhdgfhkiaaDoorGtLib
set_option linter.all false
set_option maxRecDepth 100000
namespace Go.Proofs.YtilemnhdgfhkiaaDoor.Gt
open Go Go.Kn

def tys : List (TypeId × TInf) := [
  (3, { agg := false, e := (.i .i64), bytes := 8 }),
  (5, { agg := false, e := (.i .u8), bytes := 1 }),
  (9, { agg := false, e := .s, bytes := 16 }),
  (40, { agg := false, e := (.sl (.i .i64)), bytes := 24, el := 3 }),
  (42, { agg := true, e := eGroup, bytes := 80, fs := [(0, 1, false), (1, 1, false), (2, 1, false), (3, 1, false)] }),
  (45, { agg := true, e := eGroup, bytes := 80, fs := [(0, 1, false), (1, 1, false), (2, 1, false), (3, 1, false)] }),
  (55, { agg := false, e := (.sl (.i .u8)), bytes := 24, el := 5 }),
  (104, { agg := false, e := (.sl .s), bytes := 24, el := 9 })]
theorem tys_ok : TabOk Tryd.prog (tiOf tys) := tabOk_of (by kernel_rfl)
theorem mixed : Tryd.prog.follows .mixedOrders = true := by kernel_rfl

noncomputable def F_l_szIntS : FSp := { ps := [.val false (.sl (.i .i64)) [.r], .val false (.i .i64) [.f]], rs := [(false, (.i .i64), [.f])], fn := fun v => l_szIntS v.1 v.2.1 }
noncomputable def t_l_szIntS (K : Nat) : Tab := tabOf (tiOf tys) []
def h_l_szIntS : Hint := ⟨msk [3, 2, 1026, 18, 18], fun _ _ => false⟩
noncomputable def c_l_szIntS : Code := Tryd.f50.body.getD .skip
theorem ok_l_szIntS : FOk Tryd.prog 50 (F_l_szIntS) := by
  let K := 0
  exact
  fok_of_run (T := t_l_szIntS K) (H := h_l_szIntS) (K := K) (c := c_l_szIntS) (ts := [.tmp 4]) Tryd.func50 (by kernel_rfl) (by kernel_rfl) (by kernel_rfl) rfl
    (tok0 tys_ok) mixed
    (fun v => by kernel_rfl)

noncomputable def F_l_szGroup : FSp := { ps := [.val true eGroup [.f, .r, .r, .r], .val false (.i .i64) [.f]], rs := [(false, (.i .i64), [.f])], fn := fun v => l_szGroup v.1 v.2.1 }
noncomputable def t_l_szGroup (K : Nat) : Tab := tabOf (tiOf tys) [(50, F_l_szIntS)]
def h_l_szGroup : Hint := ⟨msk [6, 6, 1030, 18, 6, 65542, 18, 2, 4194306, 18, 18], fun _ _ => false⟩
noncomputable def c_l_szGroup : Code := Tryd.f18.body.getD .skip
theorem ok_l_szGroup : FOk Tryd.prog 18 (F_l_szGroup) := by
  let K := 0
  exact
  fok_of_run (T := t_l_szGroup K) (H := h_l_szGroup) (K := K) (c := c_l_szGroup) (ts := [.tmp 4]) Tryd.func18 (by kernel_rfl) (by kernel_rfl) (by kernel_rfl) rfl
    (tokc (ok_l_szIntS) (tok0 tys_ok)) mixed
    (fun v => by kernel_rfl)

noncomputable def F_l_toIntS (K : Nat) : FSp := { ps := [.val false (.sl (.i .i64)) [.r]], rs := [(false, (.sl (.i .i64)), [.x 0])], fn := fun v => l_toIntS K v.1 }
noncomputable def t_l_toIntS (K : Nat) : Tab := tabOf (tiOf tys) []
def h_l_toIntS : Hint := ⟨msk [1, 9, 25, 2073, 25, 25, 4], fun _ _ => false⟩
noncomputable def c_l_toIntS : Code := Tryd.f51.body.getD .skip
noncomputable def l_toIntS.g0 (K : Nat) (a0 : List Int) (n : Nat) (q0 : List Int) (q1 : Int) : Option ((List Int) × Unit) :=
  lpg (t_l_toIntS K) h_l_toIntS K c_l_toIntS [.r, .r, .l, .r, .b] n ⟨[.one (.val .r (.sl (.i .i64)) a0), .dead, .dead, .one (.val (.x 0) (.sl (.i .i64)) q0), .one (.val .f (.i .i64) q1)] ++ List.replicate 17 .dead, List.replicate 22 none⟩ (endK (t_l_toIntS K).toEnv (F_l_toIntS K) [.tmp 2])
theorem l_toIntS.ok0 (K : Nat) (a0 : List Int) (n : Nat) : l_toIntS.g0 K a0 n = l_toIntS.l0 K a0 n := by
  induction n with
  | zero =>
    funext q0 q1
    kernel_rfl
  | succ n ih =>
    funext q0 q1
    have e : l_toIntS.g0 K a0 (n + 1) q0 q1 = l_toIntS.l0b K a0 (l_toIntS.g0 K a0 n) q0 q1 := by kernel_rfl
    rw [ih] at e
    refine e.trans ?_
    kernel_rfl
theorem ok_l_toIntS (K : Nat) : FOk Tryd.prog 51 (F_l_toIntS K) :=
  fok_of_run (T := t_l_toIntS K) (H := h_l_toIntS) (K := K) (c := c_l_toIntS) (ts := [.tmp 2]) Tryd.func51 (by kernel_rfl) (by kernel_rfl) (by kernel_rfl) rfl
    (tok0 tys_ok) mixed
    (fun v => by
    have k0 := l_toIntS.ok0 K v.1 K
    have e : run (t_l_toIntS K) h_l_toIntS K c_l_toIntS (initSt (F_l_toIntS K).pk (F_l_toIntS K).ps Tryd.f51.ntmps (lv _ v)) (endK (t_l_toIntS K).toEnv (F_l_toIntS K) [.tmp 2]) = l_toIntS.b K v.1 (l_toIntS.g0 K v.1 K) := by kernel_rfl
    rw [k0] at e
    refine e.trans ?_
    kernel_rfl)

noncomputable def F_l_toGroup (K : Nat) : FSp := { ps := [.val true eGroup [.f, .r, .r, .r]], rs := [(true, eGroup, [.f, .x 0, .x 0, .x 0])], fn := fun v => l_toGroup K v.1 }
noncomputable def t_l_toGroup (K : Nat) : Tab := tabOf (tiOf tys) [(51, F_l_toIntS K)]
def h_l_toGroup : Hint := ⟨msk [6, 14, 14, 14, 14, 12, 4], fun _ _ => false⟩
noncomputable def c_l_toGroup : Code := Tryd.f20.body.getD .skip
theorem ok_l_toGroup (K : Nat) : FOk Tryd.prog 20 (F_l_toGroup K) :=
  fok_of_run (T := t_l_toGroup K) (H := h_l_toGroup) (K := K) (c := c_l_toGroup) (ts := [.cell 2 45]) Tryd.func20 (by kernel_rfl) (by kernel_rfl) (by kernel_rfl) rfl
    (tokc (ok_l_toIntS K) (tok0 tys_ok)) mixed
    (fun v => by kernel_rfl)

noncomputable def F_s_Digits (K : Nat) : FSp := { ps := [.val false (.i .i64) [.f]], rs := [(false, .s, [.f])], fn := fun v => s_Digits K v.1 }
noncomputable def t_s_Digits (K : Nat) : Tab := tabOf (tiOf tys) []
def h_s_Digits : Hint := ⟨msk [1, 129, 4, 9, 25, 2073, 57, 32825, 57, 25, 25, 134217744, 4, 4], fun _ _ => false⟩
noncomputable def c_s_Digits : Code := Tryd.f37.body.getD .skip
noncomputable def s_Digits.g0 (K : Nat) (a0 : Int) (n : Nat) (q0 : Int) (q1 : ByteArray) : Option (ByteArray × Unit) :=
  lpg (t_s_Digits K) h_s_Digits K c_s_Digits [.r, .r, .r, .r, .l, .b] n ⟨[.one (.val .f (.i .i64) q0), .dead, .dead, .one (.val .f .b (decide (a0 < 0))), .one (.val .f .s q1)] ++ List.replicate 26 .dead, List.replicate 31 none⟩ (endK (t_s_Digits K).toEnv (F_s_Digits K) [.tmp 2])
theorem s_Digits.ok0 (K : Nat) (a0 : Int) (n : Nat) : s_Digits.g0 K a0 n = s_Digits.l0 K a0 n := by
  induction n with
  | zero =>
    funext q0 q1
    kernel_rfl
  | succ n ih =>
    funext q0 q1
    have e : s_Digits.g0 K a0 (n + 1) q0 q1 = s_Digits.l0b K a0 (s_Digits.g0 K a0 n) q0 q1 := by kernel_rfl
    rw [ih] at e
    refine e.trans ?_
    kernel_rfl
theorem ok_s_Digits (K : Nat) : FOk Tryd.prog 37 (F_s_Digits K) :=
  fok_of_run (T := t_s_Digits K) (H := h_s_Digits) (K := K) (c := c_s_Digits) (ts := [.tmp 2]) Tryd.func37 (by kernel_rfl) (by kernel_rfl) (by kernel_rfl) rfl
    (tok0 tys_ok) mixed
    (fun v => by
    have k0 := s_Digits.ok0 K v.1 K
    have e : run (t_s_Digits K) h_s_Digits K c_s_Digits (initSt (F_s_Digits K).pk (F_s_Digits K).ps Tryd.f37.ntmps (lv _ v)) (endK (t_s_Digits K).toEnv (F_s_Digits K) [.tmp 2]) = s_Digits.b K v.1 (s_Digits.g0 K v.1 K) := by kernel_rfl
    rw [k0] at e
    refine e.trans ?_
    kernel_rfl)

noncomputable def F_s_GroupText (K : Nat) : FSp := { ps := [.val true eGroup [.f, .r, .r, .r]], rs := [(false, .s, [.f])], fn := fun v => s_GroupText K v.1 }
noncomputable def t_s_GroupText (K : Nat) : Tab := tabOf (tiOf tys) [(37, F_s_Digits K)]
def h_s_GroupText : Hint := ⟨msk [2, 10, 26, 8218, 26, 26, 536870938, 26, 10, 42, 35184372088874, 42, 42, 4], fun _ _ => false⟩
noncomputable def c_s_GroupText : Code := Tryd.f19.body.getD .skip
noncomputable def s_GroupText.g0 (K : Nat) (a0 : TGroup) (n : Nat) (q0 : ByteArray) (q1 : Int) : Option (ByteArray × Unit) :=
  lpg (t_s_GroupText K) h_s_GroupText K c_s_GroupText [.r, .r, .l, .r, .b] n ⟨[.dead, .one (.ptr 1 1 0), .dead, .one (.val .f .s q0), .one (.val .f (.i .i64) q1)] ++ List.replicate 53 .dead, [none, some (1, [.val .f (.i .i64) a0.1, .val .r (.sl (.i .i64)) a0.2.1, .val .r (.sl (.i .i64)) a0.2.2.1, .val .r (.sl (.i .i64)) a0.2.2.2])] ++ List.replicate 56 none⟩ (endK (t_s_GroupText K).toEnv (F_s_GroupText K) [.tmp 2])
noncomputable def s_GroupText.g1 (K : Nat) (a0 : TGroup) (n : Nat) (q2 : ByteArray) (q3 : Int) : Option (ByteArray × Unit) :=
  lpg (t_s_GroupText K) h_s_GroupText K c_s_GroupText [.r, .r, .r, .r, .l, .r, .b] n ⟨[.dead, .one (.ptr 1 1 0), .dead, .one (.val .f .s q2), .dead, .one (.val .f (.i .i64) q3)] ++ List.replicate 52 .dead, [none, some (1, [.val .f (.i .i64) a0.1, .val .r (.sl (.i .i64)) a0.2.1, .val .r (.sl (.i .i64)) a0.2.2.1, .val .r (.sl (.i .i64)) a0.2.2.2])] ++ List.replicate 56 none⟩ (endK (t_s_GroupText K).toEnv (F_s_GroupText K) [.tmp 2])
theorem s_GroupText.ok1 (K : Nat) (a0 : TGroup) (n : Nat) : s_GroupText.g1 K a0 n = s_GroupText.l1 K a0 n := by
  induction n with
  | zero =>
    funext q2 q3
    kernel_rfl
  | succ n ih =>
    funext q2 q3
    have e : s_GroupText.g1 K a0 (n + 1) q2 q3 = s_GroupText.l1b K a0 (s_GroupText.g1 K a0 n) q2 q3 := by kernel_rfl
    rw [ih] at e
    refine e.trans ?_
    kernel_rfl
theorem s_GroupText.ok0 (K : Nat) (a0 : TGroup) (n : Nat) : s_GroupText.g0 K a0 n = s_GroupText.l0 K a0 n := by
  induction n with
  | zero =>
    funext q0 q1
    kernel_rfl
  | succ n ih =>
    have k1 := s_GroupText.ok1 K a0 K
    funext q0 q1
    have e : s_GroupText.g0 K a0 (n + 1) q0 q1 = s_GroupText.l0b K a0 (s_GroupText.g0 K a0 n) (s_GroupText.g1 K a0 K) q0 q1 := by kernel_rfl
    rw [ih, k1] at e
    refine e.trans ?_
    kernel_rfl
theorem ok_s_GroupText (K : Nat) : FOk Tryd.prog 19 (F_s_GroupText K) :=
  fok_of_run (T := t_s_GroupText K) (H := h_s_GroupText) (K := K) (c := c_s_GroupText) (ts := [.tmp 2]) Tryd.func19 (by kernel_rfl) (by kernel_rfl) (by kernel_rfl) rfl
    (tokc (ok_s_Digits K) (tok0 tys_ok)) mixed
    (fun v => by
    have k0 := s_GroupText.ok0 K v.1 K
    have e : run (t_s_GroupText K) h_s_GroupText K c_s_GroupText (initSt (F_s_GroupText K).pk (F_s_GroupText K).ps Tryd.f19.ntmps (lv _ v)) (endK (t_s_GroupText K).toEnv (F_s_GroupText K) [.tmp 2]) = s_GroupText.b K v.1 (s_GroupText.g0 K v.1 K) := by kernel_rfl
    rw [k0] at e
    refine e.trans ?_
    kernel_rfl)

noncomputable def F_i_Digits : FSp := { ps := [.val false (.i .i64) [.f]], rs := [(false, .s, [.f])], fn := fun v => i_Digits v.1 }
noncomputable def t_i_Digits (K : Nat) : Tab := tabOf (tiOf tys) [(72, F_lItoa)]
def h_i_Digits : Hint := ⟨msk [1, 4], fun _ _ => false⟩
noncomputable def c_i_Digits : Code := Tryd.f36.body.getD .skip
theorem ok_i_Digits : FOk Tryd.prog 36 (F_i_Digits) := by
  let K := 0
  exact
  fok_of_run (T := t_i_Digits K) (H := h_i_Digits) (K := K) (c := c_i_Digits) (ts := [.tmp 2]) Tryd.func36 (by kernel_rfl) (by kernel_rfl) (by kernel_rfl) rfl
    (tokc (ok_lItoa) (tok0 tys_ok)) mixed
    (fun v => by kernel_rfl)

noncomputable def F_i_GroupText (K : Nat) : FSp := { ps := [.val true eGroup [.f, .r, .r, .r]], rs := [(false, .s, [.f])], fn := fun v => i_GroupText K v.1 }
noncomputable def t_i_GroupText (K : Nat) : Tab := tabOf (tiOf tys) [(36, F_i_Digits), (52, F_lJoin)]
def h_i_GroupText : Hint := ⟨msk [2, 10, 114698, 245770, 114746, 114778, 134332506, 114762, 114698, 114698, 10, 492581209243656, 1055531162664968, 492581209243912, 492581209243656, 492581209243656, 4], fun _ _ => false⟩
noncomputable def c_i_GroupText : Code := Tryd.f21.body.getD .skip
noncomputable def i_GroupText.g0 (K : Nat) (a0 : TGroup) (n : Nat) (q0 : List ByteArray) (q1 : Int) : Option (ByteArray × Unit) :=
  lpg (t_i_GroupText K) h_i_GroupText K c_i_GroupText [.r, .r, .l, .r, .b] n ⟨[.dead, .one (.ptr 1 1 0), .dead, .one (.val (.x 0) (.sl .s) q0)] ++ List.replicate 10 .dead ++ [.one (.val .r (.sl (.i .i64)) a0.2.1), .one (.val .f (.i .i64) ((a0.2.1.length : Nat) : Int)), .one (.val .f (.i .i64) q1)] ++ List.replicate 43 .dead, [none, some (1, [.val .f (.i .i64) a0.1, .val .r (.sl (.i .i64)) a0.2.1, .val .r (.sl (.i .i64)) a0.2.2.1, .val .r (.sl (.i .i64)) a0.2.2.2])] ++ List.replicate 58 none⟩ (endK (t_i_GroupText K).toEnv (F_i_GroupText K) [.tmp 2])
noncomputable def i_GroupText.g1 (K : Nat) (a0 : TGroup) (n : Nat) (q2 : List ByteArray) (q3 : Int) : Option (ByteArray × Unit) :=
  lpg (t_i_GroupText K) h_i_GroupText K c_i_GroupText [.r, .r, .r, .r, .l, .r, .b] n ⟨[.dead, .dead, .dead, .one (.val (.x 0) (.sl .s) q2)] ++ List.replicate 42 .dead ++ [.one (.val .r (.sl (.i .i64)) a0.2.2.2), .one (.val .f (.i .i64) ((a0.2.2.2.length : Nat) : Int)), .one (.val .f (.i .i64) q3)] ++ List.replicate 11 .dead, List.replicate 60 none⟩ (endK (t_i_GroupText K).toEnv (F_i_GroupText K) [.tmp 2])
theorem i_GroupText.ok1 (K : Nat) (a0 : TGroup) (n : Nat) : i_GroupText.g1 K a0 n = i_GroupText.l1 K a0 n := by
  induction n with
  | zero =>
    funext q2 q3
    kernel_rfl
  | succ n ih =>
    funext q2 q3
    have e : i_GroupText.g1 K a0 (n + 1) q2 q3 = i_GroupText.l1b K a0 (i_GroupText.g1 K a0 n) q2 q3 := by kernel_rfl
    rw [ih] at e
    refine e.trans ?_
    kernel_rfl
theorem i_GroupText.ok0 (K : Nat) (a0 : TGroup) (n : Nat) : i_GroupText.g0 K a0 n = i_GroupText.l0 K a0 n := by
  induction n with
  | zero =>
    funext q0 q1
    kernel_rfl
  | succ n ih =>
    have k1 := i_GroupText.ok1 K a0 K
    funext q0 q1
    have e : i_GroupText.g0 K a0 (n + 1) q0 q1 = i_GroupText.l0b K a0 (i_GroupText.g0 K a0 n) (i_GroupText.g1 K a0 K) q0 q1 := by kernel_rfl
    rw [ih, k1] at e
    refine e.trans ?_
    kernel_rfl
theorem ok_i_GroupText (K : Nat) : FOk Tryd.prog 21 (F_i_GroupText K) :=
  fok_of_run (T := t_i_GroupText K) (H := h_i_GroupText) (K := K) (c := c_i_GroupText) (ts := [.tmp 2]) Tryd.func21 (by kernel_rfl) (by kernel_rfl) (by kernel_rfl) rfl
    (tokc (ok_i_Digits) (tokc (ok_lJoin) (tok0 tys_ok))) mixed
    (fun v => by
    have k0 := i_GroupText.ok0 K v.1 K
    have e : run (t_i_GroupText K) h_i_GroupText K c_i_GroupText (initSt (F_i_GroupText K).pk (F_i_GroupText K).ps Tryd.f21.ntmps (lv _ v)) (endK (t_i_GroupText K).toEnv (F_i_GroupText K) [.tmp 2]) = i_GroupText.b K v.1 (i_GroupText.g0 K v.1 K) := by kernel_rfl
    rw [k0] at e
    refine e.trans ?_
    kernel_rfl)

noncomputable def F_l_eqIntS (K : Nat) : FSp := { ps := [.val false (.sl (.i .i64)) [.r], .val false (.sl (.i .i64)) [.r]], rs := [(false, .b, [.f])], fn := fun v => l_eqIntS K v.1 v.2.1 }
noncomputable def t_l_eqIntS (K : Nat) : Tab := tabOf (tiOf tys) []
def h_l_eqIntS : Hint := ⟨msk [3, 1027, 16, 35, 16419, 35, 33554467, 16, 16], fun _ _ => false⟩
noncomputable def c_l_eqIntS : Code := Tryd.f53.body.getD .skip
noncomputable def l_eqIntS.g0 (K : Nat) (a0 : List Int) (a1 : List Int) (n : Nat) (q0 : Int) : Option (Bool × Unit) :=
  lpg (t_l_eqIntS K) h_l_eqIntS K c_l_eqIntS [.r, .r, .l, .r, .b] n ⟨[.one (.val .r (.sl (.i .i64)) a0), .one (.val .r (.sl (.i .i64)) a1), .dead, .dead, .dead, .one (.val .f (.i .i64) q0)] ++ List.replicate 20 .dead, List.replicate 26 none⟩ (endK (t_l_eqIntS K).toEnv (F_l_eqIntS K) [.tmp 4])
theorem l_eqIntS.ok0 (K : Nat) (a0 : List Int) (a1 : List Int) (n : Nat) : l_eqIntS.g0 K a0 a1 n = l_eqIntS.l0 K a0 a1 n := by
  induction n with
  | zero =>
    funext q0
    kernel_rfl
  | succ n ih =>
    funext q0
    have e : l_eqIntS.g0 K a0 a1 (n + 1) q0 = l_eqIntS.l0b K a0 a1 (l_eqIntS.g0 K a0 a1 n) q0 := by kernel_rfl
    rw [ih] at e
    refine e.trans ?_
    kernel_rfl
theorem ok_l_eqIntS (K : Nat) : FOk Tryd.prog 53 (F_l_eqIntS K) :=
  fok_of_run (T := t_l_eqIntS K) (H := h_l_eqIntS) (K := K) (c := c_l_eqIntS) (ts := [.tmp 4]) Tryd.func53 (by kernel_rfl) (by kernel_rfl) (by kernel_rfl) rfl
    (tok0 tys_ok) mixed
    (fun v => by
    have k0 := l_eqIntS.ok0 K v.1 v.2.1 K
    have e : run (t_l_eqIntS K) h_l_eqIntS K c_l_eqIntS (initSt (F_l_eqIntS K).pk (F_l_eqIntS K).ps Tryd.f53.ntmps (lv _ v)) (endK (t_l_eqIntS K).toEnv (F_l_eqIntS K) [.tmp 4]) = l_eqIntS.b K v.1 v.2.1 (l_eqIntS.g0 K v.1 v.2.1 K) := by kernel_rfl
    rw [k0] at e
    refine e.trans ?_
    kernel_rfl)

noncomputable def F_l_eqGroup (K : Nat) : FSp := { ps := [.val true eGroup [.f, .r, .r, .r], .val true eGroup [.f, .r, .r, .r]], rs := [(false, .b, [.f])], fn := fun v => l_eqGroup K v.1 v.2.1 }
noncomputable def t_l_eqGroup (K : Nat) : Tab := tabOf (tiOf tys) [(53, F_l_eqIntS K)]
def h_l_eqGroup : Hint := ⟨msk [12, 524, 16, 32780, 16, 2097164, 16, 134217728, 16, 16], fun _ _ => false⟩
noncomputable def c_l_eqGroup : Code := Tryd.f22.body.getD .skip
theorem ok_l_eqGroup (K : Nat) : FOk Tryd.prog 22 (F_l_eqGroup K) :=
  fok_of_run (T := t_l_eqGroup K) (H := h_l_eqGroup) (K := K) (c := c_l_eqGroup) (ts := [.tmp 4]) Tryd.func22 (by kernel_rfl) (by kernel_rfl) (by kernel_rfl) rfl
    (tokc (ok_l_eqIntS K) (tok0 tys_ok)) mixed
    (fun v => by kernel_rfl)

noncomputable def F_l_FnExactGroupText (K : Nat) : FSp := lawF [(true, eGroup)] fun v => l_FnExactGroupText K v.1
noncomputable def t_l_FnExactGroupText (K : Nat) : Tab := tabOf (tiOf tys) [(18, F_l_szGroup), (20, F_l_toGroup K), (19, F_s_GroupText K), (21, F_i_GroupText K), (22, F_l_eqGroup K)]
def h_l_FnExactGroupText : Hint := ⟨msk [2, 10, 10, 2050, 4, 18, 50, 114, 2097186, 4, 67108864, 4, 4], fun _ _ => false⟩
noncomputable def c_l_FnExactGroupText : Code := Tryd.f5.body.getD .skip
theorem ok_l_FnExactGroupText (K : Nat) : FOk Tryd.prog 5 (F_l_FnExactGroupText K) :=
  fok_of_run (T := t_l_FnExactGroupText K) (H := h_l_FnExactGroupText) (K := K) (c := c_l_FnExactGroupText) (ts := [.tmp 2]) Tryd.func5 (by kernel_rfl) (by kernel_rfl) (by kernel_rfl) rfl
    (tokc (ok_l_szGroup) (tokc (ok_l_toGroup K) (tokc (ok_s_GroupText K) (tokc (ok_i_GroupText K) (tokc (ok_l_eqGroup K) (tok0 tys_ok)))))) mixed
    (fun v => by kernel_rfl)

end Go.Proofs.YtilemnhdgfhkiaaDoor.Gt
