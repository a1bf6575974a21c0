/- The functions compute what is told of them. -/
import Derived.Test.YtilemnhdgfhkiaaDoorCsSh
import Derived.Test.YtilemnhdgfhkiaaDoorCsLib
set_option linter.all false
set_option maxRecDepth 100000
namespace Go.Proofs.YtilemnhdgfhkiaaDoor.Cs
open Go Go.Kn

def tys : List (TypeId × TInf) := [
  (3, { agg := false, e := (.i .i64), bytes := 8 }),
  (4, { agg := false, e := .b, bytes := 1 }),
  (5, { agg := false, e := (.i .u8), bytes := 1 }),
  (9, { agg := false, e := .s, bytes := 16 }),
  (40, { agg := false, e := (.sl (.i .i64)), bytes := 24, el := 3 }),
  (50, { agg := true, e := eCmd, bytes := 80, fs := [(0, 1, false), (1, 1, false), (2, 1, false), (3, 1, false), (4, 1, false), (5, 1, false), (6, 1, false), (7, 1, false)], eq := true }),
  (55, { agg := false, e := (.sl (.i .u8)), bytes := 24, el := 5 }),
  (104, { agg := false, e := (.sl .s), bytes := 24, el := 9 }),
  (160, { agg := false, e := .er, bytes := 16 })]
theorem tys_ok : TabOk Tryd.prog (tiOf tys) := tabOk_of (by kernel_rfl)
theorem mixed : Tryd.prog.follows .mixedOrders = true := by kernel_rfl

noncomputable def F_s_l19Words (K : Nat) : FSp := { ps := [.val false .s [.f]], rs := [(false, (.sl .s), [.x 0])], fn := fun v => s_l19Words K v.1 }
noncomputable def t_s_l19Words (K : Nat) : Tab := tabOf (tiOf tys) []
def h_s_l19Words : Hint := ⟨msk [1, 9, 25, 57, 1081, 57, 4194361, 41, 57, 4], fun _ _ => false⟩
noncomputable def c_s_l19Words : Code := Tryd.f55.body.getD .skip
noncomputable def s_l19Words.g0 (K : Nat) (a0 : ByteArray) (n : Nat) (q0 : List ByteArray) (q1 : Int) (q2 : Int) : Option ((List ByteArray) × Unit) :=
  lpg (t_s_l19Words K) h_s_l19Words K c_s_l19Words [.r, .r, .r, .l, .r, .b] n ⟨[.one (.val .f .s a0), .dead, .dead, .one (.val (.x 0) (.sl .s) q0), .one (.val .f (.i .i64) q1), .one (.val .f (.i .i64) q2)] ++ List.replicate 27 .dead, List.replicate 33 none⟩ (endK (t_s_l19Words K).toEnv (F_s_l19Words K) [.tmp 2])
theorem s_l19Words.ok0 (K : Nat) (a0 : ByteArray) (n : Nat) : s_l19Words.g0 K a0 n = s_l19Words.l0 K a0 n := by
  induction n with
  | zero =>
    funext q0 q1 q2
    kernel_rfl
  | succ n ih =>
    funext q0 q1 q2
    have e : s_l19Words.g0 K a0 (n + 1) q0 q1 q2 = s_l19Words.l0b K a0 (s_l19Words.g0 K a0 n) q0 q1 q2 := by kernel_rfl
    rw [ih] at e
    refine e.trans ?_
    kernel_rfl
theorem ok_s_l19Words (K : Nat) : FOk Tryd.prog 55 (F_s_l19Words K) :=
  fok_of_run (T := t_s_l19Words K) (H := h_s_l19Words) (K := K) (c := c_s_l19Words) (ts := [.tmp 2]) Tryd.func55 (by kernel_rfl) (by kernel_rfl) (by kernel_rfl) rfl
    (tok0 tys_ok) mixed
    (fun v => by
    have k0 := s_l19Words.ok0 K v.1 K
    have e : run (t_s_l19Words K) h_s_l19Words K c_s_l19Words (initSt (F_s_l19Words K).pk (F_s_l19Words K).ps Tryd.f55.ntmps (lv _ v)) (endK (t_s_l19Words K).toEnv (F_s_l19Words K) [.tmp 2]) = s_l19Words.b K v.1 (s_l19Words.g0 K v.1 K) := by kernel_rfl
    rw [k0] at e
    refine e.trans ?_
    kernel_rfl)

noncomputable def F_s_l1In : FSp := { ps := [.val false (.i .i64) [.f], .val false (.i .i64) [.f], .val false (.i .i64) [.f]], rs := [(false, .b, [.f])], fn := fun v => s_l1In v.1 v.2.1 v.2.2.1 }
noncomputable def t_s_l1In (K : Nat) : Tab := tabOf (tiOf tys) []
def h_s_l1In : Hint := ⟨msk [7, 64], fun _ _ => false⟩
noncomputable def c_s_l1In : Code := Tryd.f45.body.getD .skip
theorem ok_s_l1In : FOk Tryd.prog 45 (F_s_l1In) := by
  let K := 0
  exact
  fok_of_run (T := t_s_l1In K) (H := h_s_l1In) (K := K) (c := c_s_l1In) (ts := [.tmp 6]) Tryd.func45 (by kernel_rfl) (by kernel_rfl) (by kernel_rfl) rfl
    (tok0 tys_ok) mixed
    (fun v => by kernel_rfl)

noncomputable def F_s_l19Op (K : Nat) : FSp := { ps := [.val false .s [.f]], rs := [(false, (.i .i64), [.f])], fn := fun v => s_l19Op K v.1 }
noncomputable def t_s_l19Op (K : Nat) : Tab := tabOf (tiOf tys) []
def h_s_l19Op : Hint := ⟨msk [1, 9, 25, 537, 25, 131097, 4, 4], fun _ _ => false⟩
noncomputable def c_s_l19Op : Code := Tryd.f96.body.getD .skip
noncomputable def s_l19Op.g0 (K : Nat) (a0 : ByteArray) (n : Nat) (q0 : Int) : Option (Int × Unit) :=
  lpg (t_s_l19Op K) h_s_l19Op K c_s_l19Op [.r, .r, .l, .r, .b] n ⟨[.one (.val .f .s a0), .dead, .dead, .one (.val (.x 0) (.sl .s) [ByteArray.empty, (bs [112, 117, 116]), (bs [103, 101, 116]), (bs [101, 112, 111, 99, 104]), (bs [106, 111, 105, 110]), (bs [108, 101, 97, 118, 101]), (bs [109, 97, 114, 107]), (bs [114, 101, 97, 100]), (bs [116, 105, 99, 107]), (bs [116, 114, 105, 109]), (bs [112, 97, 99, 107])]), .one (.val .f (.i .i64) q0)] ++ List.replicate 14 .dead, List.replicate 19 none⟩ (endK (t_s_l19Op K).toEnv (F_s_l19Op K) [.tmp 2])
theorem s_l19Op.ok0 (K : Nat) (a0 : ByteArray) (n : Nat) : s_l19Op.g0 K a0 n = s_l19Op.l0 K a0 n := by
  induction n with
  | zero =>
    funext q0
    kernel_rfl
  | succ n ih =>
    funext q0
    have e : s_l19Op.g0 K a0 (n + 1) q0 = s_l19Op.l0b K a0 (s_l19Op.g0 K a0 n) q0 := by kernel_rfl
    rw [ih] at e
    refine e.trans ?_
    kernel_rfl
theorem ok_s_l19Op (K : Nat) : FOk Tryd.prog 96 (F_s_l19Op K) :=
  fok_of_run (T := t_s_l19Op K) (H := h_s_l19Op) (K := K) (c := c_s_l19Op) (ts := [.tmp 2]) Tryd.func96 (by kernel_rfl) (by kernel_rfl) (by kernel_rfl) rfl
    (tok0 tys_ok) mixed
    (fun v => by
    have k0 := s_l19Op.ok0 K v.1 K
    have e : run (t_s_l19Op K) h_s_l19Op K c_s_l19Op (initSt (F_s_l19Op K).pk (F_s_l19Op K).ps Tryd.f96.ntmps (lv _ v)) (endK (t_s_l19Op K).toEnv (F_s_l19Op K) [.tmp 2]) = s_l19Op.b K v.1 (s_l19Op.g0 K v.1 K) := by kernel_rfl
    rw [k0] at e
    refine e.trans ?_
    kernel_rfl)

noncomputable def F_s_Digits (K : Nat) : FSp := { ps := [.val false (.i .i64) [.f]], rs := [(false, .s, [.f])], fn := fun v => s_Digits K v.1 }
noncomputable def t_s_Digits (K : Nat) : Tab := tabOf (tiOf tys) []
def h_s_Digits : Hint := ⟨msk [1, 129, 4, 9, 25, 2073, 57, 32825, 57, 25, 25, 134217744, 4, 4], fun _ _ => false⟩
noncomputable def c_s_Digits : Code := Tryd.f37.body.getD .skip
noncomputable def s_Digits.g0 (K : Nat) (a0 : Int) (n : Nat) (q0 : Int) (q1 : ByteArray) : Option (ByteArray × Unit) :=
  lpg (t_s_Digits K) h_s_Digits K c_s_Digits [.r, .r, .r, .r, .l, .b] n ⟨[.one (.val .f (.i .i64) q0), .dead, .dead, .one (.val .f .b (decide (a0 < 0))), .one (.val .f .s q1)] ++ List.replicate 26 .dead, List.replicate 31 none⟩ (endK (t_s_Digits K).toEnv (F_s_Digits K) [.tmp 2])
theorem s_Digits.ok0 (K : Nat) (a0 : Int) (n : Nat) : s_Digits.g0 K a0 n = s_Digits.l0 K a0 n := by
  induction n with
  | zero =>
    funext q0 q1
    kernel_rfl
  | succ n ih =>
    funext q0 q1
    have e : s_Digits.g0 K a0 (n + 1) q0 q1 = s_Digits.l0b K a0 (s_Digits.g0 K a0 n) q0 q1 := by kernel_rfl
    rw [ih] at e
    refine e.trans ?_
    kernel_rfl
theorem ok_s_Digits (K : Nat) : FOk Tryd.prog 37 (F_s_Digits K) :=
  fok_of_run (T := t_s_Digits K) (H := h_s_Digits) (K := K) (c := c_s_Digits) (ts := [.tmp 2]) Tryd.func37 (by kernel_rfl) (by kernel_rfl) (by kernel_rfl) rfl
    (tok0 tys_ok) mixed
    (fun v => by
    have k0 := s_Digits.ok0 K v.1 K
    have e : run (t_s_Digits K) h_s_Digits K c_s_Digits (initSt (F_s_Digits K).pk (F_s_Digits K).ps Tryd.f37.ntmps (lv _ v)) (endK (t_s_Digits K).toEnv (F_s_Digits K) [.tmp 2]) = s_Digits.b K v.1 (s_Digits.g0 K v.1 K) := by kernel_rfl
    rw [k0] at e
    refine e.trans ?_
    kernel_rfl)

noncomputable def F_s_l19Num (K : Nat) : FSp := { ps := [.val false .s [.f]], rs := [(false, (.i .i64), [.f])], fn := fun v => s_l19Num K v.1 }
noncomputable def t_s_l19Num (K : Nat) : Tab := tabOf (tiOf tys) [(37, F_s_Digits K)]
def h_s_l19Num : Hint := ⟨msk [1, 4097, 4, 9, 25, 65561, 25, 268435481, 4, 25, 1099511627784, 4, 4], fun _ _ => false⟩
noncomputable def c_s_l19Num : Code := Tryd.f97.body.getD .skip
noncomputable def s_l19Num.g0 (K : Nat) (a0 : ByteArray) (n : Nat) (q0 : Int) (q1 : Int) : Option (Int × Unit) :=
  lpg (t_s_l19Num K) h_s_l19Num K c_s_l19Num [.r, .r, .r, .l, .r, .b] n ⟨[.one (.val .f .s a0), .dead, .dead, .one (.val .f (.i .i64) q0), .one (.val .f (.i .i64) q1)] ++ List.replicate 37 .dead, List.replicate 42 none⟩ (endK (t_s_l19Num K).toEnv (F_s_l19Num K) [.tmp 2])
theorem s_l19Num.ok0 (K : Nat) (a0 : ByteArray) (n : Nat) : s_l19Num.g0 K a0 n = s_l19Num.l0 K a0 n := by
  induction n with
  | zero =>
    funext q0 q1
    kernel_rfl
  | succ n ih =>
    funext q0 q1
    have e : s_l19Num.g0 K a0 (n + 1) q0 q1 = s_l19Num.l0b K a0 (s_l19Num.g0 K a0 n) q0 q1 := by kernel_rfl
    rw [ih] at e
    refine e.trans ?_
    kernel_rfl
theorem ok_s_l19Num (K : Nat) : FOk Tryd.prog 97 (F_s_l19Num K) :=
  fok_of_run (T := t_s_l19Num K) (H := h_s_l19Num) (K := K) (c := c_s_l19Num) (ts := [.tmp 2]) Tryd.func97 (by kernel_rfl) (by kernel_rfl) (by kernel_rfl) rfl
    (tokc (ok_s_Digits K) (tok0 tys_ok)) mixed
    (fun v => by
    have k0 := s_l19Num.ok0 K v.1 K
    have e : run (t_s_l19Num K) h_s_l19Num K c_s_l19Num (initSt (F_s_l19Num K).pk (F_s_l19Num K).ps Tryd.f97.ntmps (lv _ v)) (endK (t_s_l19Num K).toEnv (F_s_l19Num K) [.tmp 2]) = s_l19Num.b K v.1 (s_l19Num.g0 K v.1 K) := by kernel_rfl
    rw [k0] at e
    refine e.trans ?_
    kernel_rfl)

noncomputable def F_s_l2Text (K : Nat) : FSp := { ps := [.val false .s [.f]], rs := [(false, .b, [.f])], fn := fun v => s_l2Text K v.1 }
noncomputable def t_s_l2Text (K : Nat) : Tab := tabOf (tiOf tys) []
def h_s_l2Text : Hint := ⟨msk [1, 9, 265, 9, 25, 4294967305, 4, 4], fun _ _ => false⟩
noncomputable def c_s_l2Text : Code := Tryd.f71.body.getD .skip
noncomputable def s_l2Text.g0 (K : Nat) (a0 : ByteArray) (n : Nat) (q0 : Int) : Option (Bool × Unit) :=
  lpg (t_s_l2Text K) h_s_l2Text K c_s_l2Text [.r, .l, .r, .b] n ⟨[.one (.val .f .s a0), .dead, .dead, .one (.val .f (.i .i64) q0)] ++ List.replicate 32 .dead, List.replicate 36 none⟩ (endK (t_s_l2Text K).toEnv (F_s_l2Text K) [.tmp 2])
theorem s_l2Text.ok0 (K : Nat) (a0 : ByteArray) (n : Nat) : s_l2Text.g0 K a0 n = s_l2Text.l0 K a0 n := by
  induction n with
  | zero =>
    funext q0
    kernel_rfl
  | succ n ih =>
    funext q0
    have e : s_l2Text.g0 K a0 (n + 1) q0 = s_l2Text.l0b K a0 (s_l2Text.g0 K a0 n) q0 := by kernel_rfl
    rw [ih] at e
    refine e.trans ?_
    kernel_rfl
theorem ok_s_l2Text (K : Nat) : FOk Tryd.prog 71 (F_s_l2Text K) :=
  fok_of_run (T := t_s_l2Text K) (H := h_s_l2Text) (K := K) (c := c_s_l2Text) (ts := [.tmp 2]) Tryd.func71 (by kernel_rfl) (by kernel_rfl) (by kernel_rfl) rfl
    (tok0 tys_ok) mixed
    (fun v => by
    have k0 := s_l2Text.ok0 K v.1 K
    have e : run (t_s_l2Text K) h_s_l2Text K c_s_l2Text (initSt (F_s_l2Text K).pk (F_s_l2Text K).ps Tryd.f71.ntmps (lv _ v)) (endK (t_s_l2Text K).toEnv (F_s_l2Text K) [.tmp 2]) = s_l2Text.b K v.1 (s_l2Text.g0 K v.1 K) := by kernel_rfl
    rw [k0] at e
    refine e.trans ?_
    kernel_rfl)

noncomputable def F_s_CmdOk (K : Nat) : FSp := { ps := [.val true eCmd [.f, .f, .f, .f, .f, .f, .f, .f]], rs := [(false, .b, [.f])], fn := fun v => s_CmdOk K v.1 }
noncomputable def t_s_CmdOk (K : Nat) : Tab := tabOf (tiOf tys) [(45, F_s_l1In), (71, F_s_l2Text K)]
def h_s_CmdOk : Hint := ⟨msk [2, 34, 4, 4], fun _ _ => false⟩
noncomputable def c_s_CmdOk : Code := Tryd.f33.body.getD .skip
theorem ok_s_CmdOk (K : Nat) : FOk Tryd.prog 33 (F_s_CmdOk K) :=
  fok_of_run (T := t_s_CmdOk K) (H := h_s_CmdOk) (K := K) (c := c_s_CmdOk) (ts := [.tmp 2]) Tryd.func33 (by kernel_rfl) (by kernel_rfl) (by kernel_rfl) rfl
    (tokc (ok_s_l1In) (tokc (ok_s_l2Text K) (tok0 tys_ok))) mixed
    (fun v => by kernel_rfl)

noncomputable def F_s_l19Cmd (K : Nat) : FSp := { ps := [.val false (.sl .s) [.r]], rs := [(true, eCmd, [.f, .f, .f, .f, .f, .f, .f, .f]), (false, .b, [.f])], fn := fun v => s_l19Cmd K v.1 }
noncomputable def t_s_l19Cmd (K : Nat) : Tab := tabOf (tiOf tys) [(45, F_s_l1In), (96, F_s_l19Op K), (97, F_s_l19Num K), (33, F_s_CmdOk K)]
def h_s_l19Cmd : Hint := ⟨msk [5, 261, 12, 21, 536870933, 21, 68719476757, 21, 9223372036854775828, 12, 12], fun _ _ => false⟩
noncomputable def c_s_l19Cmd : Code := Tryd.f54.body.getD .skip
theorem ok_s_l19Cmd (K : Nat) : FOk Tryd.prog 54 (F_s_l19Cmd K) :=
  fok_of_run (T := t_s_l19Cmd K) (H := h_s_l19Cmd) (K := K) (c := c_s_l19Cmd) (ts := [.cell 2 50, .tmp 3]) Tryd.func54 (by kernel_rfl) (by kernel_rfl) (by kernel_rfl) rfl
    (tokc (ok_s_l1In) (tokc (ok_s_l19Op K) (tokc (ok_s_l19Num K) (tokc (ok_s_CmdOk K) (tok0 tys_ok))))) mixed
    (fun v => by kernel_rfl)

noncomputable def F_s_CmdSaid (K : Nat) : FSp := { ps := [.val false .s [.f]], rs := [(true, eCmd, [.f, .f, .f, .f, .f, .f, .f, .f]), (false, .b, [.f])], fn := fun v => s_CmdSaid K v.1 }
noncomputable def t_s_CmdSaid (K : Nat) : Tab := tabOf (tiOf tys) [(55, F_s_l19Words K), (54, F_s_l19Cmd K)]
def h_s_CmdSaid : Hint := ⟨msk [5, 52, 12], fun _ _ => false⟩
noncomputable def c_s_CmdSaid : Code := Tryd.f23.body.getD .skip
theorem ok_s_CmdSaid (K : Nat) : FOk Tryd.prog 23 (F_s_CmdSaid K) :=
  fok_of_run (T := t_s_CmdSaid K) (H := h_s_CmdSaid) (K := K) (c := c_s_CmdSaid) (ts := [.cell 2 50, .tmp 3]) Tryd.func23 (by kernel_rfl) (by kernel_rfl) (by kernel_rfl) rfl
    (tokc (ok_s_l19Words K) (tokc (ok_s_l19Cmd K) (tok0 tys_ok))) mixed
    (fun v => by kernel_rfl)

noncomputable def F_i_within : FSp := { ps := [.val false (.i .i64) [.f], .val false (.i .i64) [.f], .val false (.i .i64) [.f]], rs := [(false, .b, [.f])], fn := fun v => i_within v.1 v.2.1 v.2.2.1 }
noncomputable def t_i_within (K : Nat) : Tab := tabOf (tiOf tys) []
def h_i_within : Hint := ⟨msk [7, 64], fun _ _ => false⟩
noncomputable def c_i_within : Code := Tryd.f46.body.getD .skip
theorem ok_i_within : FOk Tryd.prog 46 (F_i_within) := by
  let K := 0
  exact
  fok_of_run (T := t_i_within K) (H := h_i_within) (K := K) (c := c_i_within) (ts := [.tmp 6]) Tryd.func46 (by kernel_rfl) (by kernel_rfl) (by kernel_rfl) rfl
    (tok0 tys_ok) mixed
    (fun v => by kernel_rfl)

noncomputable def F_sl_Index (K : Nat) : FSp := { ps := [.val false (.sl .s) [.r], .val false .s [.f]], rs := [(false, (.i .i64), [.f])], fn := fun v => sl_Index K v.1 v.2.1 }
noncomputable def t_sl_Index (K : Nat) : Tab := tabOf (tiOf tys) []
def h_sl_Index : Hint := ⟨msk [3, 387, 899, 419, 65955, 16, 387, 16], fun _ _ => false⟩
noncomputable def c_sl_Index : Code := Tryd.f59.body.getD .skip
noncomputable def sl_Index.g0 (K : Nat) (a0 : List ByteArray) (a1 : ByteArray) (n : Nat) (q0 : Int) : Option (Int × Unit) :=
  lpg (t_sl_Index K) h_sl_Index K c_sl_Index [.r, .l, .r, .b] n ⟨[.one (.val .r (.sl .s) a0), .one (.val .f .s a1)] ++ List.replicate 5 .dead ++ [.one (.val .f (.i .i64) ((a0.length : Nat) : Int)), .one (.val .f (.i .i64) q0)] ++ List.replicate 10 .dead, List.replicate 19 none⟩ (endK (t_sl_Index K).toEnv (F_sl_Index K) [.tmp 4])
theorem sl_Index.ok0 (K : Nat) (a0 : List ByteArray) (a1 : ByteArray) (n : Nat) : sl_Index.g0 K a0 a1 n = sl_Index.l0 K a0 a1 n := by
  induction n with
  | zero =>
    funext q0
    kernel_rfl
  | succ n ih =>
    funext q0
    have e : sl_Index.g0 K a0 a1 (n + 1) q0 = sl_Index.l0b K a0 a1 (sl_Index.g0 K a0 a1 n) q0 := by kernel_rfl
    rw [ih] at e
    refine e.trans ?_
    kernel_rfl
theorem ok_sl_Index (K : Nat) : FOk Tryd.prog 59 (F_sl_Index K) :=
  fok_of_run (T := t_sl_Index K) (H := h_sl_Index) (K := K) (c := c_sl_Index) (ts := [.tmp 4]) Tryd.func59 (by kernel_rfl) (by kernel_rfl) (by kernel_rfl) rfl
    (tok0 tys_ok) mixed
    (fun v => by
    have k0 := sl_Index.ok0 K v.1 v.2.1 K
    have e : run (t_sl_Index K) h_sl_Index K c_sl_Index (initSt (F_sl_Index K).pk (F_sl_Index K).ps Tryd.f59.ntmps (lv _ v)) (endK (t_sl_Index K).toEnv (F_sl_Index K) [.tmp 4]) = sl_Index.b K v.1 v.2.1 (sl_Index.g0 K v.1 v.2.1 K) := by kernel_rfl
    rw [k0] at e
    refine e.trans ?_
    kernel_rfl)

noncomputable def F_sl_Contains (K : Nat) : FSp := { ps := [.val false (.sl .s) [.r], .val false .s [.f]], rs := [(false, .b, [.f])], fn := fun v => sl_Contains K v.1 v.2.1 }
noncomputable def t_sl_Contains (K : Nat) : Tab := tabOf (tiOf tys) [(59, F_sl_Index K)]
def h_sl_Contains : Hint := ⟨msk [3, 16], fun _ _ => false⟩
noncomputable def c_sl_Contains : Code := Tryd.f57.body.getD .skip
theorem ok_sl_Contains (K : Nat) : FOk Tryd.prog 57 (F_sl_Contains K) :=
  fok_of_run (T := t_sl_Contains K) (H := h_sl_Contains) (K := K) (c := c_sl_Contains) (ts := [.tmp 4]) Tryd.func57 (by kernel_rfl) (by kernel_rfl) (by kernel_rfl) rfl
    (tokc (ok_sl_Index K) (tok0 tys_ok)) mixed
    (fun v => by kernel_rfl)

noncomputable def F_i_Digits : FSp := { ps := [.val false (.i .i64) [.f]], rs := [(false, .s, [.f])], fn := fun v => i_Digits v.1 }
noncomputable def t_i_Digits (K : Nat) : Tab := tabOf (tiOf tys) [(72, F_lItoa)]
def h_i_Digits : Hint := ⟨msk [1, 4], fun _ _ => false⟩
noncomputable def c_i_Digits : Code := Tryd.f36.body.getD .skip
theorem ok_i_Digits : FOk Tryd.prog 36 (F_i_Digits) := by
  let K := 0
  exact
  fok_of_run (T := t_i_Digits K) (H := h_i_Digits) (K := K) (c := c_i_Digits) (ts := [.tmp 2]) Tryd.func36 (by kernel_rfl) (by kernel_rfl) (by kernel_rfl) rfl
    (tokc (ok_lItoa) (tok0 tys_ok)) mixed
    (fun v => by kernel_rfl)

noncomputable def F_i_numberSaid : FSp := { ps := [.val false .s [.f]], rs := [(false, (.i .i64), [.f]), (false, .b, [.f])], fn := fun v => i_numberSaid v.1 }
noncomputable def t_i_numberSaid (K : Nat) : Tab := tabOf (tiOf tys) [(130, F_lAtoi), (36, F_i_Digits)]
def h_i_numberSaid : Hint := ⟨msk [1, 49, 12], fun _ _ => false⟩
noncomputable def c_i_numberSaid : Code := Tryd.f99.body.getD .skip
theorem ok_i_numberSaid : FOk Tryd.prog 99 (F_i_numberSaid) := by
  let K := 0
  exact
  fok_of_run (T := t_i_numberSaid K) (H := h_i_numberSaid) (K := K) (c := c_i_numberSaid) (ts := [.tmp 2, .tmp 3]) Tryd.func99 (by kernel_rfl) (by kernel_rfl) (by kernel_rfl) rfl
    (tokc (ok_lAtoi) (tokc (ok_i_Digits) (tok0 tys_ok))) mixed
    (fun v => by kernel_rfl)

noncomputable def F_i_numbersSaid (K : Nat) : FSp := { ps := [.val false (.sl .s) [.r]], rs := [(false, (.sl (.i .i64)), [.x 0]), (false, .b, [.f])], fn := fun v => i_numbersSaid K v.1 }
noncomputable def t_i_numbersSaid (K : Nat) : Tab := tabOf (tiOf tys) [(99, F_i_numberSaid)]
def h_i_numbersSaid : Hint := ⟨msk [1, 17, 3601, 7697, 3665, 3985, 2100881, 12, 3601, 3601, 12], fun _ _ => false⟩
noncomputable def c_i_numbersSaid : Code := Tryd.f58.body.getD .skip
noncomputable def i_numbersSaid.g0 (K : Nat) (a0 : List ByteArray) (n : Nat) (q0 : List Int) (q1 : Int) : Option ((List Int) × Bool × Unit) :=
  lpg (t_i_numbersSaid K) h_i_numbersSaid K c_i_numbersSaid [.r, .r, .l, .r, .b] n ⟨[.one (.val .r (.sl .s) a0), .dead, .dead, .dead, .one (.val (.x 0) (.sl (.i .i64)) q0)] ++ List.replicate 4 .dead ++ [.one (.val .r (.sl .s) a0), .one (.val .f (.i .i64) ((a0.length : Nat) : Int)), .one (.val .f (.i .i64) q1)] ++ List.replicate 16 .dead, List.replicate 28 none⟩ (endK (t_i_numbersSaid K).toEnv (F_i_numbersSaid K) [.tmp 2, .tmp 3])
theorem i_numbersSaid.ok0 (K : Nat) (a0 : List ByteArray) (n : Nat) : i_numbersSaid.g0 K a0 n = i_numbersSaid.l0 K a0 n := by
  induction n with
  | zero =>
    funext q0 q1
    kernel_rfl
  | succ n ih =>
    funext q0 q1
    have e : i_numbersSaid.g0 K a0 (n + 1) q0 q1 = i_numbersSaid.l0b K a0 (i_numbersSaid.g0 K a0 n) q0 q1 := by kernel_rfl
    rw [ih] at e
    refine e.trans ?_
    kernel_rfl
theorem ok_i_numbersSaid (K : Nat) : FOk Tryd.prog 58 (F_i_numbersSaid K) :=
  fok_of_run (T := t_i_numbersSaid K) (H := h_i_numbersSaid) (K := K) (c := c_i_numbersSaid) (ts := [.tmp 2, .tmp 3]) Tryd.func58 (by kernel_rfl) (by kernel_rfl) (by kernel_rfl) rfl
    (tokc (ok_i_numberSaid) (tok0 tys_ok)) mixed
    (fun v => by
    have k0 := i_numbersSaid.ok0 K v.1 K
    have e : run (t_i_numbersSaid K) h_i_numbersSaid K c_i_numbersSaid (initSt (F_i_numbersSaid K).pk (F_i_numbersSaid K).ps Tryd.f58.ntmps (lv _ v)) (endK (t_i_numbersSaid K).toEnv (F_i_numbersSaid K) [.tmp 2, .tmp 3]) = i_numbersSaid.b K v.1 (i_numbersSaid.g0 K v.1 K) := by kernel_rfl
    rw [k0] at e
    refine e.trans ?_
    kernel_rfl)

noncomputable def F_i_opNames : FSp := { ps := [], rs := [(false, (.sl .s), [.x 0])], fn := fun v => i_opNames }
noncomputable def t_i_opNames (K : Nat) : Tab := tabOf (tiOf tys) []
def h_i_opNames : Hint := ⟨msk [0, 1], fun _ _ => false⟩
noncomputable def c_i_opNames : Code := Tryd.f60.body.getD .skip
theorem ok_i_opNames : FOk Tryd.prog 60 (F_i_opNames) := by
  let K := 0
  exact
  fok_of_run (T := t_i_opNames K) (H := h_i_opNames) (K := K) (c := c_i_opNames) (ts := [.tmp 0]) Tryd.func60 (by kernel_rfl) (by kernel_rfl) (by kernel_rfl) rfl
    (tok0 tys_ok) mixed
    (fun v => by kernel_rfl)

noncomputable def F_i_wordsOk (K : Nat) : FSp := { ps := [.val false .s [.f]], rs := [(false, .b, [.f])], fn := fun v => i_wordsOk K v.1 }
noncomputable def t_i_wordsOk (K : Nat) : Tab := tabOf (tiOf tys) []
def h_i_wordsOk : Hint := ⟨msk [1, 9, 265, 9, 25, 2147483657, 4, 4], fun _ _ => false⟩
noncomputable def c_i_wordsOk : Code := Tryd.f70.body.getD .skip
noncomputable def i_wordsOk.g0 (K : Nat) (a0 : ByteArray) (n : Nat) (q0 : Int) : Option (Bool × Unit) :=
  lpg (t_i_wordsOk K) h_i_wordsOk K c_i_wordsOk [.r, .l, .r, .b] n ⟨[.one (.val .f .s a0), .dead, .dead, .one (.val .f (.i .i64) q0)] ++ List.replicate 31 .dead, List.replicate 35 none⟩ (endK (t_i_wordsOk K).toEnv (F_i_wordsOk K) [.tmp 2])
theorem i_wordsOk.ok0 (K : Nat) (a0 : ByteArray) (n : Nat) : i_wordsOk.g0 K a0 n = i_wordsOk.l0 K a0 n := by
  induction n with
  | zero =>
    funext q0
    kernel_rfl
  | succ n ih =>
    funext q0
    have e : i_wordsOk.g0 K a0 (n + 1) q0 = i_wordsOk.l0b K a0 (i_wordsOk.g0 K a0 n) q0 := by kernel_rfl
    rw [ih] at e
    refine e.trans ?_
    kernel_rfl
theorem ok_i_wordsOk (K : Nat) : FOk Tryd.prog 70 (F_i_wordsOk K) :=
  fok_of_run (T := t_i_wordsOk K) (H := h_i_wordsOk) (K := K) (c := c_i_wordsOk) (ts := [.tmp 2]) Tryd.func70 (by kernel_rfl) (by kernel_rfl) (by kernel_rfl) rfl
    (tok0 tys_ok) mixed
    (fun v => by
    have k0 := i_wordsOk.ok0 K v.1 K
    have e : run (t_i_wordsOk K) h_i_wordsOk K c_i_wordsOk (initSt (F_i_wordsOk K).pk (F_i_wordsOk K).ps Tryd.f70.ntmps (lv _ v)) (endK (t_i_wordsOk K).toEnv (F_i_wordsOk K) [.tmp 2]) = i_wordsOk.b K v.1 (i_wordsOk.g0 K v.1 K) := by kernel_rfl
    rw [k0] at e
    refine e.trans ?_
    kernel_rfl)

noncomputable def F_i_CmdOk (K : Nat) : FSp := { ps := [.val true eCmd [.f, .f, .f, .f, .f, .f, .f, .f]], rs := [(false, .b, [.f])], fn := fun v => i_CmdOk K v.1 }
noncomputable def t_i_CmdOk (K : Nat) : Tab := tabOf (tiOf tys) [(46, F_i_within), (70, F_i_wordsOk K)]
def h_i_CmdOk : Hint := ⟨msk [2, 34, 4, 4], fun _ _ => false⟩
noncomputable def c_i_CmdOk : Code := Tryd.f32.body.getD .skip
theorem ok_i_CmdOk (K : Nat) : FOk Tryd.prog 32 (F_i_CmdOk K) :=
  fok_of_run (T := t_i_CmdOk K) (H := h_i_CmdOk) (K := K) (c := c_i_CmdOk) (ts := [.tmp 2]) Tryd.func32 (by kernel_rfl) (by kernel_rfl) (by kernel_rfl) rfl
    (tokc (ok_i_within) (tokc (ok_i_wordsOk K) (tok0 tys_ok))) mixed
    (fun v => by kernel_rfl)

noncomputable def F_i_CmdSaid (K : Nat) : FSp := { ps := [.val false .s [.f]], rs := [(true, eCmd, [.f, .f, .f, .f, .f, .f, .f, .f]), (false, .b, [.f])], fn := fun v => i_CmdSaid K v.1 }
noncomputable def t_i_CmdSaid (K : Nat) : Tab := tabOf (tiOf tys) [(56, F_lSplit), (46, F_i_within), (57, F_sl_Contains K), (58, F_i_numbersSaid K), (60, F_i_opNames), (59, F_sl_Index K), (32, F_i_CmdOk K)]
def h_i_CmdSaid : Hint := ⟨msk [5, 20, 131092, 12, 116, 67108916, 12, 148, 70368744177812, 148, 9007199254741140, 148, 9444732965739290427524, 12, 12], fun _ _ => false⟩
noncomputable def c_i_CmdSaid : Code := Tryd.f24.body.getD .skip
theorem ok_i_CmdSaid (K : Nat) : FOk Tryd.prog 24 (F_i_CmdSaid K) :=
  fok_of_run (T := t_i_CmdSaid K) (H := h_i_CmdSaid) (K := K) (c := c_i_CmdSaid) (ts := [.cell 2 50, .tmp 3]) Tryd.func24 (by kernel_rfl) (by kernel_rfl) (by kernel_rfl) rfl
    (tokc (ok_lSplit) (tokc (ok_i_within) (tokc (ok_sl_Contains K) (tokc (ok_i_numbersSaid K) (tokc (ok_i_opNames) (tokc (ok_sl_Index K) (tokc (ok_i_CmdOk K) (tok0 tys_ok)))))))) mixed
    (fun v => by kernel_rfl)

noncomputable def F_l_eqCmd : FSp := { ps := [.val true eCmd [.f, .f, .f, .f, .f, .f, .f, .f], .val true eCmd [.f, .f, .f, .f, .f, .f, .f, .f]], rs := [(false, .b, [.f])], fn := fun v => l_eqCmd v.1 v.2.1 }
noncomputable def t_l_eqCmd (K : Nat) : Tab := tabOf (tiOf tys) []
def h_l_eqCmd : Hint := ⟨msk [12, 524, 16, 16396, 16, 524300, 16, 16777228, 16, 536870924, 16, 17179869196, 16, 549755813900, 16, 17592186044416, 16, 16], fun _ _ => false⟩
noncomputable def c_l_eqCmd : Code := Tryd.f25.body.getD .skip
theorem ok_l_eqCmd : FOk Tryd.prog 25 (F_l_eqCmd) := by
  let K := 0
  exact
  fok_of_run (T := t_l_eqCmd K) (H := h_l_eqCmd) (K := K) (c := c_l_eqCmd) (ts := [.tmp 4]) Tryd.func25 (by kernel_rfl) (by kernel_rfl) (by kernel_rfl) rfl
    (tok0 tys_ok) mixed
    (fun v => by kernel_rfl)

noncomputable def F_l_FnExactCmdSaid (K : Nat) : FSp := lawF [(false, .s)] fun v => l_FnExactCmdSaid K v.1
noncomputable def t_l_FnExactCmdSaid (K : Nat) : Tab := tabOf (tiOf tys) [(23, F_s_CmdSaid K), (24, F_i_CmdSaid K), (25, F_l_eqCmd)]
def h_l_FnExactCmdSaid : Hint := ⟨msk [1, 513, 4, 25, 120, 268435456, 4, 4], fun _ _ => false⟩
noncomputable def c_l_FnExactCmdSaid : Code := Tryd.f6.body.getD .skip
theorem ok_l_FnExactCmdSaid (K : Nat) : FOk Tryd.prog 6 (F_l_FnExactCmdSaid K) :=
  fok_of_run (T := t_l_FnExactCmdSaid K) (H := h_l_FnExactCmdSaid) (K := K) (c := c_l_FnExactCmdSaid) (ts := [.tmp 2]) Tryd.func6 (by kernel_rfl) (by kernel_rfl) (by kernel_rfl) rfl
    (tokc (ok_s_CmdSaid K) (tokc (ok_i_CmdSaid K) (tokc (ok_l_eqCmd) (tok0 tys_ok)))) mixed
    (fun v => by kernel_rfl)

end Go.Proofs.YtilemnhdgfhkiaaDoor.Cs
