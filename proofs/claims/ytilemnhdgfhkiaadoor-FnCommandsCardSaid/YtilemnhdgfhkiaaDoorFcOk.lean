/- The functions compute what is told of them. -/
import Derived.Test.YtilemnhdgfhkiaaDoorFcSh
import Derived.Test.YtilemnhdgfhkiaaDoorFcLib
set_option linter.all false
set_option maxRecDepth 100000
namespace Go.Proofs.YtilemnhdgfhkiaaDoor.Fc
open Go Go.Kn

def tys : List (TypeId × TInf) := [
  (3, { agg := false, e := (.i .i64), bytes := 8 }),
  (4, { agg := false, e := .b, bytes := 1 }),
  (5, { agg := false, e := (.i .u8), bytes := 1 }),
  (9, { agg := false, e := .s, bytes := 16 }),
  (40, { agg := false, e := (.sl (.i .i64)), bytes := 24, el := 3 }),
  (50, { agg := true, e := eCmd, bytes := 80, fs := [(0, 1, false), (1, 1, false), (2, 1, false), (3, 1, false), (4, 1, false), (5, 1, false), (6, 1, false), (7, 1, false)], eq := true }),
  (55, { agg := false, e := (.sl (.i .u8)), bytes := 24, el := 5 }),
  (60, { agg := true, e := eSetup, bytes := 32, fs := [(0, 1, false), (1, 1, false), (2, 1, false), (3, 1, false)] }),
  (104, { agg := false, e := (.sl .s), bytes := 24, el := 9 }),
  (160, { agg := false, e := .er, bytes := 16 }),
  (169, { agg := true, e := el1Cur, bytes := 40, fs := [(0, 1, false), (1, 1, false), (2, 1, false)] })]
theorem tys_ok : TabOk Tryd.prog (tiOf tys) := tabOk_of (by kernel_rfl)
theorem mixed : Tryd.prog.follows .mixedOrders = true := by kernel_rfl

noncomputable def F_l_big : FSp := { ps := [.val false (.sl (.i .u8)) [.r]], rs := [(false, .b, [.f])], fn := fun v => l_big v.1 }
noncomputable def t_l_big (K : Nat) : Tab := tabOf (tiOf tys) []
def h_l_big : Hint := ⟨msk [1, 4], fun _ _ => false⟩
noncomputable def c_l_big : Code := Tryd.f26.body.getD .skip
theorem ok_l_big : FOk Tryd.prog 26 (F_l_big) := by
  let K := 0
  exact
  fok_of_run (T := t_l_big K) (H := h_l_big) (K := K) (c := c_l_big) (ts := [.tmp 2]) Tryd.func26 (by kernel_rfl) (by kernel_rfl) (by kernel_rfl) rfl
    (tok0 tys_ok) mixed
    (fun v => by kernel_rfl)

noncomputable def F_s_l1New (K : Nat) : FSp := { ps := [.val false (.sl (.i .u8)) [.f]], rs := [(true, el1Cur, [.f, .f, .f])], fn := fun v => s_l1New K v.1, nv := true }
noncomputable def t_s_l1New (K : Nat) : Tab := tabOf (tiOf tys) []
def h_s_l1New : Hint := ⟨msk [1, 9, 25, 32793, 25, 25, 2147483652], fun _ _ => false⟩
noncomputable def c_s_l1New : Code := Tryd.f61.body.getD .skip
noncomputable def s_l1New.g0 (K : Nat) (a0 : List Int) (n : Nat) (q0 : Int) (q1 : Int) : Option (Tl1Cur × Unit) :=
  lpg (t_s_l1New K) h_s_l1New K c_s_l1New [.r, .r, .l, .r, .b] n ⟨[.one (.val .f (.sl (.i .u8)) a0), .dead, .dead, .one (.val .f (.i .i64) q0), .one (.val .f (.i .i64) q1)] ++ List.replicate 27 .dead, List.replicate 32 none⟩ (nvK (t_s_l1New K).toEnv (F_s_l1New K) 2)
theorem s_l1New.ok0 (K : Nat) (a0 : List Int) (n : Nat) : s_l1New.g0 K a0 n = s_l1New.l0 K a0 n := by
  induction n with
  | zero =>
    funext q0 q1
    kernel_rfl
  | succ n ih =>
    funext q0 q1
    have e : s_l1New.g0 K a0 (n + 1) q0 q1 = s_l1New.l0b K a0 (s_l1New.g0 K a0 n) q0 q1 := by kernel_rfl
    rw [ih] at e
    refine e.trans ?_
    kernel_rfl
theorem ok_s_l1New (K : Nat) : FOk Tryd.prog 61 (F_s_l1New K) :=
  fok_nv (T := t_s_l1New K) (H := h_s_l1New) (K := K) (c := c_s_l1New) (t := 2) Tryd.func61 (by kernel_rfl) (by kernel_rfl) (by kernel_rfl) (by decide)
    (tok0 tys_ok) mixed
    (fun v => by
    have k0 := s_l1New.ok0 K v.1 K
    have e : run (t_s_l1New K) h_s_l1New K c_s_l1New (initSt (F_s_l1New K).pk (F_s_l1New K).ps Tryd.f61.ntmps (lv _ v)) (nvK (t_s_l1New K).toEnv (F_s_l1New K) 2) = s_l1New.b K v.1 (s_l1New.g0 K v.1 K) := by kernel_rfl
    rw [k0] at e
    refine e.trans ?_
    kernel_rfl)

noncomputable def F_s_l1Byte : FSp := { ps := [.ptr el1Cur [.f, .f, .f]], rs := [(false, (.i .i64), [.f])], fn := fun v => s_l1Byte v.1 }
noncomputable def t_s_l1Byte (K : Nat) : Tab := tabOf (tiOf tys) []
def h_s_l1Byte : Hint := ⟨msk [1, 1, 9, 17179869193, 9, 9, 5], fun _ _ => false⟩
noncomputable def c_s_l1Byte : Code := Tryd.f102.body.getD .skip
theorem ok_s_l1Byte : FOk Tryd.prog 102 (F_s_l1Byte) := by
  let K := 0
  exact
  fok_of_run (T := t_s_l1Byte K) (H := h_s_l1Byte) (K := K) (c := c_s_l1Byte) (ts := [.tmp 2]) Tryd.func102 (by kernel_rfl) (by kernel_rfl) (by kernel_rfl) rfl
    (tok0 tys_ok) mixed
    (fun v => by kernel_rfl)

noncomputable def F_s_l1Below : FSp := { ps := [.ptr el1Cur [.f, .f, .f], .val false (.i .i64) [.f]], rs := [(false, (.i .i64), [.f])], fn := fun v => s_l1Below v.1 v.2.1 }
noncomputable def t_s_l1Below (K : Nat) : Tab := tabOf (tiOf tys) [(102, F_s_l1Byte)]
def h_s_l1Below : Hint := ⟨msk [3, 1027, 17, 4099, 17, 35, 99, 227, 483, 17], fun _ _ => false⟩
noncomputable def c_s_l1Below : Code := Tryd.f67.body.getD .skip
theorem ok_s_l1Below : FOk Tryd.prog 67 (F_s_l1Below) := by
  let K := 0
  exact
  fok_of_run (T := t_s_l1Below K) (H := h_s_l1Below) (K := K) (c := c_s_l1Below) (ts := [.tmp 4]) Tryd.func67 (by kernel_rfl) (by kernel_rfl) (by kernel_rfl) rfl
    (tokc (ok_s_l1Byte) (tok0 tys_ok)) mixed
    (fun v => by kernel_rfl)

noncomputable def F_s_l1Once : FSp := { ps := [.ptr el1Cur [.f, .f, .f], .val false (.i .i64) [.f]], rs := [(false, .b, [.f])], fn := fun v => s_l1Once v.1 v.2.1 }
noncomputable def t_s_l1Once (K : Nat) : Tab := tabOf (tiOf tys) [(67, F_s_l1Below)]
def h_s_l1Once : Hint := ⟨msk [3, 17], fun _ _ => false⟩
noncomputable def c_s_l1Once : Code := Tryd.f68.body.getD .skip
theorem ok_s_l1Once : FOk Tryd.prog 68 (F_s_l1Once) := by
  let K := 0
  exact
  fok_of_run (T := t_s_l1Once K) (H := h_s_l1Once) (K := K) (c := c_s_l1Once) (ts := [.tmp 4]) Tryd.func68 (by kernel_rfl) (by kernel_rfl) (by kernel_rfl) rfl
    (tokc (ok_s_l1Below) (tok0 tys_ok)) mixed
    (fun v => by kernel_rfl)

noncomputable def F_s_l1PickInt : FSp := { ps := [.ptr el1Cur [.f, .f, .f], .val false (.sl (.i .i64)) [.r]], rs := [(false, (.i .i64), [.f])], fn := fun v => s_l1PickInt v.1 v.2.1 }
noncomputable def t_s_l1PickInt (K : Nat) : Tab := tabOf (tiOf tys) [(67, F_s_l1Below)]
def h_s_l1PickInt : Hint := ⟨msk [3, 17], fun _ _ => false⟩
noncomputable def c_s_l1PickInt : Code := Tryd.f64.body.getD .skip
theorem ok_s_l1PickInt : FOk Tryd.prog 64 (F_s_l1PickInt) := by
  let K := 0
  exact
  fok_of_run (T := t_s_l1PickInt K) (H := h_s_l1PickInt) (K := K) (c := c_s_l1PickInt) (ts := [.tmp 4]) Tryd.func64 (by kernel_rfl) (by kernel_rfl) (by kernel_rfl) rfl
    (tokc (ok_s_l1Below) (tok0 tys_ok)) mixed
    (fun v => by kernel_rfl)

noncomputable def F_s_l1Pick : FSp := { ps := [.ptr el1Cur [.f, .f, .f], .val false (.sl .s) [.r]], rs := [(false, .s, [.f])], fn := fun v => s_l1Pick v.1 v.2.1 }
noncomputable def t_s_l1Pick (K : Nat) : Tab := tabOf (tiOf tys) [(67, F_s_l1Below)]
def h_s_l1Pick : Hint := ⟨msk [3, 17], fun _ _ => false⟩
noncomputable def c_s_l1Pick : Code := Tryd.f69.body.getD .skip
theorem ok_s_l1Pick : FOk Tryd.prog 69 (F_s_l1Pick) := by
  let K := 0
  exact
  fok_of_run (T := t_s_l1Pick K) (H := h_s_l1Pick) (K := K) (c := c_s_l1Pick) (ts := [.tmp 4]) Tryd.func69 (by kernel_rfl) (by kernel_rfl) (by kernel_rfl) rfl
    (tokc (ok_s_l1Below) (tok0 tys_ok)) mixed
    (fun v => by kernel_rfl)

noncomputable def F_s_l2DrawText : FSp := { ps := [.ptr el1Cur [.f, .f, .f]], rs := [(false, .s, [.f])], fn := fun v => s_l2DrawText v.1 }
noncomputable def t_s_l2DrawText (K : Nat) : Tab := tabOf (tiOf tys) [(69, F_s_l1Pick)]
def h_s_l2DrawText : Hint := ⟨msk [1, 5], fun _ _ => false⟩
noncomputable def c_s_l2DrawText : Code := Tryd.f131.body.getD .skip
theorem ok_s_l2DrawText : FOk Tryd.prog 131 (F_s_l2DrawText) := by
  let K := 0
  exact
  fok_of_run (T := t_s_l2DrawText K) (H := h_s_l2DrawText) (K := K) (c := c_s_l2DrawText) (ts := [.tmp 2]) Tryd.func131 (by kernel_rfl) (by kernel_rfl) (by kernel_rfl) rfl
    (tokc (ok_s_l1Pick) (tok0 tys_ok)) mixed
    (fun v => by kernel_rfl)

noncomputable def F_s_l2DrawBody : FSp := { ps := [.ptr el1Cur [.f, .f, .f]], rs := [(true, eCmd, [.f, .f, .f, .f, .f, .f, .f, .f])], fn := fun v => s_l2DrawBody v.1 }
noncomputable def t_s_l2DrawBody (K : Nat) : Tab := tabOf (tiOf tys) [(64, F_s_l1PickInt), (67, F_s_l1Below), (131, F_s_l2DrawText)]
def h_s_l2DrawBody : Hint := ⟨msk [5, 13, 32781, 98317, 13, 13, 13, 268435469, 13, 5], fun _ _ => false⟩
noncomputable def c_s_l2DrawBody : Code := Tryd.f100.body.getD .skip
theorem ok_s_l2DrawBody : FOk Tryd.prog 100 (F_s_l2DrawBody) := by
  let K := 0
  exact
  fok_of_run (T := t_s_l2DrawBody K) (H := h_s_l2DrawBody) (K := K) (c := c_s_l2DrawBody) (ts := [.cell 2 50]) Tryd.func100 (by kernel_rfl) (by kernel_rfl) (by kernel_rfl) rfl
    (tokc (ok_s_l1PickInt) (tokc (ok_s_l1Below) (tokc (ok_s_l2DrawText) (tok0 tys_ok)))) mixed
    (fun v => by kernel_rfl)

noncomputable def F_s_l2DrawRight : FSp := { ps := [.ptr el1Cur [.f, .f, .f]], rs := [(true, eCmd, [.f, .f, .f, .f, .f, .f, .f, .f])], fn := fun v => s_l2DrawRight v.1 }
noncomputable def t_s_l2DrawRight (K : Nat) : Tab := tabOf (tiOf tys) [(68, F_s_l1Once), (100, F_s_l2DrawBody), (67, F_s_l1Below)]
def h_s_l2DrawRight : Hint := ⟨msk [5, 37, 5, 13, 13, 13, 5], fun _ _ => false⟩
noncomputable def c_s_l2DrawRight : Code := Tryd.f63.body.getD .skip
theorem ok_s_l2DrawRight : FOk Tryd.prog 63 (F_s_l2DrawRight) := by
  let K := 0
  exact
  fok_of_run (T := t_s_l2DrawRight K) (H := h_s_l2DrawRight) (K := K) (c := c_s_l2DrawRight) (ts := [.cell 2 50]) Tryd.func63 (by kernel_rfl) (by kernel_rfl) (by kernel_rfl) rfl
    (tokc (ok_s_l1Once) (tokc (ok_s_l2DrawBody) (tokc (ok_s_l1Below) (tok0 tys_ok)))) mixed
    (fun v => by kernel_rfl)

noncomputable def F_s_l2Spoil : FSp := { ps := [.ptr el1Cur [.f, .f, .f], .val true eCmd [.f, .f, .f, .f, .f, .f, .f, .f]], rs := [(true, eCmd, [.f, .f, .f, .f, .f, .f, .f, .f])], fn := fun v => s_l2Spoil v.1 v.2.1 }
noncomputable def t_s_l2Spoil (K : Nat) : Tab := tabOf (tiOf tys) [(67, F_s_l1Below), (64, F_s_l1PickInt), (69, F_s_l1Pick)]
def h_s_l2Spoil : Hint := ⟨msk [25, 89, 217, 25, 8281, 25, 524377, 25, 33554521, 25, 2147483673, 25, 17], fun _ _ => false⟩
noncomputable def c_s_l2Spoil : Code := Tryd.f62.body.getD .skip
theorem ok_s_l2Spoil : FOk Tryd.prog 62 (F_s_l2Spoil) := by
  let K := 0
  exact
  fok_of_run (T := t_s_l2Spoil K) (H := h_s_l2Spoil) (K := K) (c := c_s_l2Spoil) (ts := [.cell 4 50]) Tryd.func62 (by kernel_rfl) (by kernel_rfl) (by kernel_rfl) rfl
    (tokc (ok_s_l1Below) (tokc (ok_s_l1PickInt) (tokc (ok_s_l1Pick) (tok0 tys_ok)))) mixed
    (fun v => by kernel_rfl)

noncomputable def F_s_DrawCmdOk (K : Nat) : FSp := { ps := [.val false (.sl (.i .u8)) [.f]], rs := [(true, eCmd, [.f, .f, .f, .f, .f, .f, .f, .f])], fn := fun v => s_DrawCmdOk K v.1 }
noncomputable def t_s_DrawCmdOk (K : Nat) : Tab := tabOf (tiOf tys) [(61, F_s_l1New K), (63, F_s_l2DrawRight), (62, F_s_l2Spoil)]
def h_s_DrawCmdOk : Hint := ⟨msk [5, 44, 4], fun _ _ => false⟩
noncomputable def c_s_DrawCmdOk : Code := Tryd.f27.body.getD .skip
theorem ok_s_DrawCmdOk (K : Nat) : FOk Tryd.prog 27 (F_s_DrawCmdOk K) :=
  fok_of_run (T := t_s_DrawCmdOk K) (H := h_s_DrawCmdOk) (K := K) (c := c_s_DrawCmdOk) (ts := [.cell 2 50]) Tryd.func27 (by kernel_rfl) (by kernel_rfl) (by kernel_rfl) rfl
    (tokc (ok_s_l1New K) (tokc (ok_s_l2DrawRight) (tokc (ok_s_l2Spoil) (tok0 tys_ok)))) mixed
    (fun v => by kernel_rfl)

noncomputable def F_s_DrawCmdText (K : Nat) : FSp := { ps := [.val false (.sl (.i .u8)) [.f]], rs := [(true, eCmd, [.f, .f, .f, .f, .f, .f, .f, .f])], fn := fun v => s_DrawCmdText K v.1 }
noncomputable def t_s_DrawCmdText (K : Nat) : Tab := tabOf (tiOf tys) [(27, F_s_DrawCmdOk K)]
def h_s_DrawCmdText : Hint := ⟨msk [5, 4], fun _ _ => false⟩
noncomputable def c_s_DrawCmdText : Code := Tryd.f28.body.getD .skip
theorem ok_s_DrawCmdText (K : Nat) : FOk Tryd.prog 28 (F_s_DrawCmdText K) :=
  fok_of_run (T := t_s_DrawCmdText K) (H := h_s_DrawCmdText) (K := K) (c := c_s_DrawCmdText) (ts := [.cell 2 50]) Tryd.func28 (by kernel_rfl) (by kernel_rfl) (by kernel_rfl) rfl
    (tokc (ok_s_DrawCmdOk K) (tok0 tys_ok)) mixed
    (fun v => by kernel_rfl)

noncomputable def F_s_DrawDigits (K : Nat) : FSp := { ps := [.val false (.sl (.i .u8)) [.f]], rs := [(false, (.i .i64), [.f])], fn := fun v => s_DrawDigits K v.1 }
noncomputable def t_s_DrawDigits (K : Nat) : Tab := tabOf (tiOf tys) [(61, F_s_l1New K), (64, F_s_l1PickInt)]
def h_s_DrawDigits : Hint := ⟨msk [1, 4], fun _ _ => false⟩
noncomputable def c_s_DrawDigits : Code := Tryd.f29.body.getD .skip
theorem ok_s_DrawDigits (K : Nat) : FOk Tryd.prog 29 (F_s_DrawDigits K) :=
  fok_of_run (T := t_s_DrawDigits K) (H := h_s_DrawDigits) (K := K) (c := c_s_DrawDigits) (ts := [.tmp 2]) Tryd.func29 (by kernel_rfl) (by kernel_rfl) (by kernel_rfl) rfl
    (tokc (ok_s_l1New K) (tokc (ok_s_l1PickInt) (tok0 tys_ok))) mixed
    (fun v => by kernel_rfl)

noncomputable def F_s_l1DrawRight : FSp := { ps := [.ptr el1Cur [.f, .f, .f]], rs := [(true, eSetup, [.f, .f, .f, .f])], fn := fun v => s_l1DrawRight v.1 }
noncomputable def t_s_l1DrawRight (K : Nat) : Tab := tabOf (tiOf tys) [(67, F_s_l1Below), (64, F_s_l1PickInt)]
def h_s_l1DrawRight : Hint := ⟨msk [5, 5], fun _ _ => false⟩
noncomputable def c_s_l1DrawRight : Code := Tryd.f101.body.getD .skip
theorem ok_s_l1DrawRight : FOk Tryd.prog 101 (F_s_l1DrawRight) := by
  let K := 0
  exact
  fok_of_run (T := t_s_l1DrawRight K) (H := h_s_l1DrawRight) (K := K) (c := c_s_l1DrawRight) (ts := [.cell 2 60]) Tryd.func101 (by kernel_rfl) (by kernel_rfl) (by kernel_rfl) rfl
    (tokc (ok_s_l1Below) (tokc (ok_s_l1PickInt) (tok0 tys_ok))) mixed
    (fun v => by kernel_rfl)

noncomputable def F_s_l1Draw : FSp := { ps := [.ptr el1Cur [.f, .f, .f]], rs := [(true, eSetup, [.f, .f, .f, .f])], fn := fun v => s_l1Draw v.1 }
noncomputable def t_s_l1Draw (K : Nat) : Tab := tabOf (tiOf tys) [(101, F_s_l1DrawRight), (67, F_s_l1Below), (64, F_s_l1PickInt)]
def h_s_l1Draw : Hint := ⟨msk [5, 13, 141, 397, 13, 16525, 13, 1048717, 13, 67108877, 13, 5], fun _ _ => false⟩
noncomputable def c_s_l1Draw : Code := Tryd.f65.body.getD .skip
theorem ok_s_l1Draw : FOk Tryd.prog 65 (F_s_l1Draw) := by
  let K := 0
  exact
  fok_of_run (T := t_s_l1Draw K) (H := h_s_l1Draw) (K := K) (c := c_s_l1Draw) (ts := [.cell 2 60]) Tryd.func65 (by kernel_rfl) (by kernel_rfl) (by kernel_rfl) rfl
    (tokc (ok_s_l1DrawRight) (tokc (ok_s_l1Below) (tokc (ok_s_l1PickInt) (tok0 tys_ok)))) mixed
    (fun v => by kernel_rfl)

noncomputable def F_s_DrawSetupOk (K : Nat) : FSp := { ps := [.val false (.sl (.i .u8)) [.f]], rs := [(true, eSetup, [.f, .f, .f, .f])], fn := fun v => s_DrawSetupOk K v.1 }
noncomputable def t_s_DrawSetupOk (K : Nat) : Tab := tabOf (tiOf tys) [(61, F_s_l1New K), (65, F_s_l1Draw)]
def h_s_DrawSetupOk : Hint := ⟨msk [5, 4], fun _ _ => false⟩
noncomputable def c_s_DrawSetupOk : Code := Tryd.f30.body.getD .skip
theorem ok_s_DrawSetupOk (K : Nat) : FOk Tryd.prog 30 (F_s_DrawSetupOk K) :=
  fok_of_run (T := t_s_DrawSetupOk K) (H := h_s_DrawSetupOk) (K := K) (c := c_s_DrawSetupOk) (ts := [.cell 2 60]) Tryd.func30 (by kernel_rfl) (by kernel_rfl) (by kernel_rfl) rfl
    (tokc (ok_s_l1New K) (tokc (ok_s_l1Draw) (tok0 tys_ok))) mixed
    (fun v => by kernel_rfl)

noncomputable def F_s_l19DrawCmd : FSp := { ps := [.ptr el1Cur [.f, .f, .f]], rs := [(false, .s, [.f])], fn := fun v => s_l19DrawCmd v.1 }
noncomputable def t_s_l19DrawCmd (K : Nat) : Tab := tabOf (tiOf tys) [(69, F_s_l1Pick)]
def h_s_l19DrawCmd : Hint := ⟨msk [1, 5], fun _ _ => false⟩
noncomputable def c_s_l19DrawCmd : Code := Tryd.f66.body.getD .skip
theorem ok_s_l19DrawCmd : FOk Tryd.prog 66 (F_s_l19DrawCmd) := by
  let K := 0
  exact
  fok_of_run (T := t_s_l19DrawCmd K) (H := h_s_l19DrawCmd) (K := K) (c := c_s_l19DrawCmd) (ts := [.tmp 2]) Tryd.func66 (by kernel_rfl) (by kernel_rfl) (by kernel_rfl) rfl
    (tokc (ok_s_l1Pick) (tok0 tys_ok)) mixed
    (fun v => by kernel_rfl)

noncomputable def F_s_DrawCmdSaid (K : Nat) : FSp := { ps := [.val false (.sl (.i .u8)) [.f]], rs := [(false, .s, [.f])], fn := fun v => s_DrawCmdSaid K v.1 }
noncomputable def t_s_DrawCmdSaid (K : Nat) : Tab := tabOf (tiOf tys) [(61, F_s_l1New K), (66, F_s_l19DrawCmd), (67, F_s_l1Below), (68, F_s_l1Once), (69, F_s_l1Pick)]
def h_s_DrawCmdSaid : Hint := ⟨msk [1, 136, 152, 184, 65720, 4, 4], fun _ _ => false⟩
noncomputable def c_s_DrawCmdSaid : Code := Tryd.f31.body.getD .skip
theorem ok_s_DrawCmdSaid (K : Nat) : FOk Tryd.prog 31 (F_s_DrawCmdSaid K) :=
  fok_of_run (T := t_s_DrawCmdSaid K) (H := h_s_DrawCmdSaid) (K := K) (c := c_s_DrawCmdSaid) (ts := [.tmp 2]) Tryd.func31 (by kernel_rfl) (by kernel_rfl) (by kernel_rfl) rfl
    (tokc (ok_s_l1New K) (tokc (ok_s_l19DrawCmd) (tokc (ok_s_l1Below) (tokc (ok_s_l1Once) (tokc (ok_s_l1Pick) (tok0 tys_ok)))))) mixed
    (fun v => by kernel_rfl)

noncomputable def F_i_within : FSp := { ps := [.val false (.i .i64) [.f], .val false (.i .i64) [.f], .val false (.i .i64) [.f]], rs := [(false, .b, [.f])], fn := fun v => i_within v.1 v.2.1 v.2.2.1 }
noncomputable def t_i_within (K : Nat) : Tab := tabOf (tiOf tys) []
def h_i_within : Hint := ⟨msk [7, 64], fun _ _ => false⟩
noncomputable def c_i_within : Code := Tryd.f46.body.getD .skip
theorem ok_i_within : FOk Tryd.prog 46 (F_i_within) := by
  let K := 0
  exact
  fok_of_run (T := t_i_within K) (H := h_i_within) (K := K) (c := c_i_within) (ts := [.tmp 6]) Tryd.func46 (by kernel_rfl) (by kernel_rfl) (by kernel_rfl) rfl
    (tok0 tys_ok) mixed
    (fun v => by kernel_rfl)

noncomputable def F_sl_Index (K : Nat) : FSp := { ps := [.val false (.sl .s) [.r], .val false .s [.f]], rs := [(false, (.i .i64), [.f])], fn := fun v => sl_Index K v.1 v.2.1 }
noncomputable def t_sl_Index (K : Nat) : Tab := tabOf (tiOf tys) []
def h_sl_Index : Hint := ⟨msk [3, 387, 899, 419, 65955, 16, 387, 16], fun _ _ => false⟩
noncomputable def c_sl_Index : Code := Tryd.f59.body.getD .skip
noncomputable def sl_Index.g0 (K : Nat) (a0 : List ByteArray) (a1 : ByteArray) (n : Nat) (q0 : Int) : Option (Int × Unit) :=
  lpg (t_sl_Index K) h_sl_Index K c_sl_Index [.r, .l, .r, .b] n ⟨[.one (.val .r (.sl .s) a0), .one (.val .f .s a1)] ++ List.replicate 5 .dead ++ [.one (.val .f (.i .i64) ((a0.length : Nat) : Int)), .one (.val .f (.i .i64) q0)] ++ List.replicate 10 .dead, List.replicate 19 none⟩ (endK (t_sl_Index K).toEnv (F_sl_Index K) [.tmp 4])
theorem sl_Index.ok0 (K : Nat) (a0 : List ByteArray) (a1 : ByteArray) (n : Nat) : sl_Index.g0 K a0 a1 n = sl_Index.l0 K a0 a1 n := by
  induction n with
  | zero =>
    funext q0
    kernel_rfl
  | succ n ih =>
    funext q0
    have e : sl_Index.g0 K a0 a1 (n + 1) q0 = sl_Index.l0b K a0 a1 (sl_Index.g0 K a0 a1 n) q0 := by kernel_rfl
    rw [ih] at e
    refine e.trans ?_
    kernel_rfl
theorem ok_sl_Index (K : Nat) : FOk Tryd.prog 59 (F_sl_Index K) :=
  fok_of_run (T := t_sl_Index K) (H := h_sl_Index) (K := K) (c := c_sl_Index) (ts := [.tmp 4]) Tryd.func59 (by kernel_rfl) (by kernel_rfl) (by kernel_rfl) rfl
    (tok0 tys_ok) mixed
    (fun v => by
    have k0 := sl_Index.ok0 K v.1 v.2.1 K
    have e : run (t_sl_Index K) h_sl_Index K c_sl_Index (initSt (F_sl_Index K).pk (F_sl_Index K).ps Tryd.f59.ntmps (lv _ v)) (endK (t_sl_Index K).toEnv (F_sl_Index K) [.tmp 4]) = sl_Index.b K v.1 v.2.1 (sl_Index.g0 K v.1 v.2.1 K) := by kernel_rfl
    rw [k0] at e
    refine e.trans ?_
    kernel_rfl)

noncomputable def F_sl_Contains (K : Nat) : FSp := { ps := [.val false (.sl .s) [.r], .val false .s [.f]], rs := [(false, .b, [.f])], fn := fun v => sl_Contains K v.1 v.2.1 }
noncomputable def t_sl_Contains (K : Nat) : Tab := tabOf (tiOf tys) [(59, F_sl_Index K)]
def h_sl_Contains : Hint := ⟨msk [3, 16], fun _ _ => false⟩
noncomputable def c_sl_Contains : Code := Tryd.f57.body.getD .skip
theorem ok_sl_Contains (K : Nat) : FOk Tryd.prog 57 (F_sl_Contains K) :=
  fok_of_run (T := t_sl_Contains K) (H := h_sl_Contains) (K := K) (c := c_sl_Contains) (ts := [.tmp 4]) Tryd.func57 (by kernel_rfl) (by kernel_rfl) (by kernel_rfl) rfl
    (tokc (ok_sl_Index K) (tok0 tys_ok)) mixed
    (fun v => by kernel_rfl)

noncomputable def F_i_Digits : FSp := { ps := [.val false (.i .i64) [.f]], rs := [(false, .s, [.f])], fn := fun v => i_Digits v.1 }
noncomputable def t_i_Digits (K : Nat) : Tab := tabOf (tiOf tys) [(72, F_lItoa)]
def h_i_Digits : Hint := ⟨msk [1, 4], fun _ _ => false⟩
noncomputable def c_i_Digits : Code := Tryd.f36.body.getD .skip
theorem ok_i_Digits : FOk Tryd.prog 36 (F_i_Digits) := by
  let K := 0
  exact
  fok_of_run (T := t_i_Digits K) (H := h_i_Digits) (K := K) (c := c_i_Digits) (ts := [.tmp 2]) Tryd.func36 (by kernel_rfl) (by kernel_rfl) (by kernel_rfl) rfl
    (tokc (ok_lItoa) (tok0 tys_ok)) mixed
    (fun v => by kernel_rfl)

noncomputable def F_i_numberSaid : FSp := { ps := [.val false .s [.f]], rs := [(false, (.i .i64), [.f]), (false, .b, [.f])], fn := fun v => i_numberSaid v.1 }
noncomputable def t_i_numberSaid (K : Nat) : Tab := tabOf (tiOf tys) [(130, F_lAtoi), (36, F_i_Digits)]
def h_i_numberSaid : Hint := ⟨msk [1, 49, 12], fun _ _ => false⟩
noncomputable def c_i_numberSaid : Code := Tryd.f99.body.getD .skip
theorem ok_i_numberSaid : FOk Tryd.prog 99 (F_i_numberSaid) := by
  let K := 0
  exact
  fok_of_run (T := t_i_numberSaid K) (H := h_i_numberSaid) (K := K) (c := c_i_numberSaid) (ts := [.tmp 2, .tmp 3]) Tryd.func99 (by kernel_rfl) (by kernel_rfl) (by kernel_rfl) rfl
    (tokc (ok_lAtoi) (tokc (ok_i_Digits) (tok0 tys_ok))) mixed
    (fun v => by kernel_rfl)

noncomputable def F_i_numbersSaid (K : Nat) : FSp := { ps := [.val false (.sl .s) [.r]], rs := [(false, (.sl (.i .i64)), [.x 0]), (false, .b, [.f])], fn := fun v => i_numbersSaid K v.1 }
noncomputable def t_i_numbersSaid (K : Nat) : Tab := tabOf (tiOf tys) [(99, F_i_numberSaid)]
def h_i_numbersSaid : Hint := ⟨msk [1, 17, 3601, 7697, 3665, 3985, 2100881, 12, 3601, 3601, 12], fun _ _ => false⟩
noncomputable def c_i_numbersSaid : Code := Tryd.f58.body.getD .skip
noncomputable def i_numbersSaid.g0 (K : Nat) (a0 : List ByteArray) (n : Nat) (q0 : List Int) (q1 : Int) : Option ((List Int) × Bool × Unit) :=
  lpg (t_i_numbersSaid K) h_i_numbersSaid K c_i_numbersSaid [.r, .r, .l, .r, .b] n ⟨[.one (.val .r (.sl .s) a0), .dead, .dead, .dead, .one (.val (.x 0) (.sl (.i .i64)) q0)] ++ List.replicate 4 .dead ++ [.one (.val .r (.sl .s) a0), .one (.val .f (.i .i64) ((a0.length : Nat) : Int)), .one (.val .f (.i .i64) q1)] ++ List.replicate 16 .dead, List.replicate 28 none⟩ (endK (t_i_numbersSaid K).toEnv (F_i_numbersSaid K) [.tmp 2, .tmp 3])
theorem i_numbersSaid.ok0 (K : Nat) (a0 : List ByteArray) (n : Nat) : i_numbersSaid.g0 K a0 n = i_numbersSaid.l0 K a0 n := by
  induction n with
  | zero =>
    funext q0 q1
    kernel_rfl
  | succ n ih =>
    funext q0 q1
    have e : i_numbersSaid.g0 K a0 (n + 1) q0 q1 = i_numbersSaid.l0b K a0 (i_numbersSaid.g0 K a0 n) q0 q1 := by kernel_rfl
    rw [ih] at e
    refine e.trans ?_
    kernel_rfl
theorem ok_i_numbersSaid (K : Nat) : FOk Tryd.prog 58 (F_i_numbersSaid K) :=
  fok_of_run (T := t_i_numbersSaid K) (H := h_i_numbersSaid) (K := K) (c := c_i_numbersSaid) (ts := [.tmp 2, .tmp 3]) Tryd.func58 (by kernel_rfl) (by kernel_rfl) (by kernel_rfl) rfl
    (tokc (ok_i_numberSaid) (tok0 tys_ok)) mixed
    (fun v => by
    have k0 := i_numbersSaid.ok0 K v.1 K
    have e : run (t_i_numbersSaid K) h_i_numbersSaid K c_i_numbersSaid (initSt (F_i_numbersSaid K).pk (F_i_numbersSaid K).ps Tryd.f58.ntmps (lv _ v)) (endK (t_i_numbersSaid K).toEnv (F_i_numbersSaid K) [.tmp 2, .tmp 3]) = i_numbersSaid.b K v.1 (i_numbersSaid.g0 K v.1 K) := by kernel_rfl
    rw [k0] at e
    refine e.trans ?_
    kernel_rfl)

noncomputable def F_i_opNames : FSp := { ps := [], rs := [(false, (.sl .s), [.x 0])], fn := fun v => i_opNames }
noncomputable def t_i_opNames (K : Nat) : Tab := tabOf (tiOf tys) []
def h_i_opNames : Hint := ⟨msk [0, 1], fun _ _ => false⟩
noncomputable def c_i_opNames : Code := Tryd.f60.body.getD .skip
theorem ok_i_opNames : FOk Tryd.prog 60 (F_i_opNames) := by
  let K := 0
  exact
  fok_of_run (T := t_i_opNames K) (H := h_i_opNames) (K := K) (c := c_i_opNames) (ts := [.tmp 0]) Tryd.func60 (by kernel_rfl) (by kernel_rfl) (by kernel_rfl) rfl
    (tok0 tys_ok) mixed
    (fun v => by kernel_rfl)

noncomputable def F_i_wordsOk (K : Nat) : FSp := { ps := [.val false .s [.f]], rs := [(false, .b, [.f])], fn := fun v => i_wordsOk K v.1 }
noncomputable def t_i_wordsOk (K : Nat) : Tab := tabOf (tiOf tys) []
def h_i_wordsOk : Hint := ⟨msk [1, 9, 265, 9, 25, 2147483657, 4, 4], fun _ _ => false⟩
noncomputable def c_i_wordsOk : Code := Tryd.f70.body.getD .skip
noncomputable def i_wordsOk.g0 (K : Nat) (a0 : ByteArray) (n : Nat) (q0 : Int) : Option (Bool × Unit) :=
  lpg (t_i_wordsOk K) h_i_wordsOk K c_i_wordsOk [.r, .l, .r, .b] n ⟨[.one (.val .f .s a0), .dead, .dead, .one (.val .f (.i .i64) q0)] ++ List.replicate 31 .dead, List.replicate 35 none⟩ (endK (t_i_wordsOk K).toEnv (F_i_wordsOk K) [.tmp 2])
theorem i_wordsOk.ok0 (K : Nat) (a0 : ByteArray) (n : Nat) : i_wordsOk.g0 K a0 n = i_wordsOk.l0 K a0 n := by
  induction n with
  | zero =>
    funext q0
    kernel_rfl
  | succ n ih =>
    funext q0
    have e : i_wordsOk.g0 K a0 (n + 1) q0 = i_wordsOk.l0b K a0 (i_wordsOk.g0 K a0 n) q0 := by kernel_rfl
    rw [ih] at e
    refine e.trans ?_
    kernel_rfl
theorem ok_i_wordsOk (K : Nat) : FOk Tryd.prog 70 (F_i_wordsOk K) :=
  fok_of_run (T := t_i_wordsOk K) (H := h_i_wordsOk) (K := K) (c := c_i_wordsOk) (ts := [.tmp 2]) Tryd.func70 (by kernel_rfl) (by kernel_rfl) (by kernel_rfl) rfl
    (tok0 tys_ok) mixed
    (fun v => by
    have k0 := i_wordsOk.ok0 K v.1 K
    have e : run (t_i_wordsOk K) h_i_wordsOk K c_i_wordsOk (initSt (F_i_wordsOk K).pk (F_i_wordsOk K).ps Tryd.f70.ntmps (lv _ v)) (endK (t_i_wordsOk K).toEnv (F_i_wordsOk K) [.tmp 2]) = i_wordsOk.b K v.1 (i_wordsOk.g0 K v.1 K) := by kernel_rfl
    rw [k0] at e
    refine e.trans ?_
    kernel_rfl)

noncomputable def F_i_CmdOk (K : Nat) : FSp := { ps := [.val true eCmd [.f, .f, .f, .f, .f, .f, .f, .f]], rs := [(false, .b, [.f])], fn := fun v => i_CmdOk K v.1 }
noncomputable def t_i_CmdOk (K : Nat) : Tab := tabOf (tiOf tys) [(46, F_i_within), (70, F_i_wordsOk K)]
def h_i_CmdOk : Hint := ⟨msk [2, 34, 4, 4], fun _ _ => false⟩
noncomputable def c_i_CmdOk : Code := Tryd.f32.body.getD .skip
theorem ok_i_CmdOk (K : Nat) : FOk Tryd.prog 32 (F_i_CmdOk K) :=
  fok_of_run (T := t_i_CmdOk K) (H := h_i_CmdOk) (K := K) (c := c_i_CmdOk) (ts := [.tmp 2]) Tryd.func32 (by kernel_rfl) (by kernel_rfl) (by kernel_rfl) rfl
    (tokc (ok_i_within) (tokc (ok_i_wordsOk K) (tok0 tys_ok))) mixed
    (fun v => by kernel_rfl)

noncomputable def F_i_CmdSaid (K : Nat) : FSp := { ps := [.val false .s [.f]], rs := [(true, eCmd, [.f, .f, .f, .f, .f, .f, .f, .f]), (false, .b, [.f])], fn := fun v => i_CmdSaid K v.1 }
noncomputable def t_i_CmdSaid (K : Nat) : Tab := tabOf (tiOf tys) [(56, F_lSplit), (46, F_i_within), (57, F_sl_Contains K), (58, F_i_numbersSaid K), (60, F_i_opNames), (59, F_sl_Index K), (32, F_i_CmdOk K)]
def h_i_CmdSaid : Hint := ⟨msk [5, 20, 131092, 12, 116, 67108916, 12, 148, 70368744177812, 148, 9007199254741140, 148, 9444732965739290427524, 12, 12], fun _ _ => false⟩
noncomputable def c_i_CmdSaid : Code := Tryd.f24.body.getD .skip
theorem ok_i_CmdSaid (K : Nat) : FOk Tryd.prog 24 (F_i_CmdSaid K) :=
  fok_of_run (T := t_i_CmdSaid K) (H := h_i_CmdSaid) (K := K) (c := c_i_CmdSaid) (ts := [.cell 2 50, .tmp 3]) Tryd.func24 (by kernel_rfl) (by kernel_rfl) (by kernel_rfl) rfl
    (tokc (ok_lSplit) (tokc (ok_i_within) (tokc (ok_sl_Contains K) (tokc (ok_i_numbersSaid K) (tokc (ok_i_opNames) (tokc (ok_sl_Index K) (tokc (ok_i_CmdOk K) (tok0 tys_ok)))))))) mixed
    (fun v => by kernel_rfl)

noncomputable def F_s_l19Words (K : Nat) : FSp := { ps := [.val false .s [.f]], rs := [(false, (.sl .s), [.x 0])], fn := fun v => s_l19Words K v.1 }
noncomputable def t_s_l19Words (K : Nat) : Tab := tabOf (tiOf tys) []
def h_s_l19Words : Hint := ⟨msk [1, 9, 25, 57, 1081, 57, 4194361, 41, 57, 4], fun _ _ => false⟩
noncomputable def c_s_l19Words : Code := Tryd.f55.body.getD .skip
noncomputable def s_l19Words.g0 (K : Nat) (a0 : ByteArray) (n : Nat) (q0 : List ByteArray) (q1 : Int) (q2 : Int) : Option ((List ByteArray) × Unit) :=
  lpg (t_s_l19Words K) h_s_l19Words K c_s_l19Words [.r, .r, .r, .l, .r, .b] n ⟨[.one (.val .f .s a0), .dead, .dead, .one (.val (.x 0) (.sl .s) q0), .one (.val .f (.i .i64) q1), .one (.val .f (.i .i64) q2)] ++ List.replicate 27 .dead, List.replicate 33 none⟩ (endK (t_s_l19Words K).toEnv (F_s_l19Words K) [.tmp 2])
theorem s_l19Words.ok0 (K : Nat) (a0 : ByteArray) (n : Nat) : s_l19Words.g0 K a0 n = s_l19Words.l0 K a0 n := by
  induction n with
  | zero =>
    funext q0 q1 q2
    kernel_rfl
  | succ n ih =>
    funext q0 q1 q2
    have e : s_l19Words.g0 K a0 (n + 1) q0 q1 q2 = s_l19Words.l0b K a0 (s_l19Words.g0 K a0 n) q0 q1 q2 := by kernel_rfl
    rw [ih] at e
    refine e.trans ?_
    kernel_rfl
theorem ok_s_l19Words (K : Nat) : FOk Tryd.prog 55 (F_s_l19Words K) :=
  fok_of_run (T := t_s_l19Words K) (H := h_s_l19Words) (K := K) (c := c_s_l19Words) (ts := [.tmp 2]) Tryd.func55 (by kernel_rfl) (by kernel_rfl) (by kernel_rfl) rfl
    (tok0 tys_ok) mixed
    (fun v => by
    have k0 := s_l19Words.ok0 K v.1 K
    have e : run (t_s_l19Words K) h_s_l19Words K c_s_l19Words (initSt (F_s_l19Words K).pk (F_s_l19Words K).ps Tryd.f55.ntmps (lv _ v)) (endK (t_s_l19Words K).toEnv (F_s_l19Words K) [.tmp 2]) = s_l19Words.b K v.1 (s_l19Words.g0 K v.1 K) := by kernel_rfl
    rw [k0] at e
    refine e.trans ?_
    kernel_rfl)

noncomputable def F_s_l1In : FSp := { ps := [.val false (.i .i64) [.f], .val false (.i .i64) [.f], .val false (.i .i64) [.f]], rs := [(false, .b, [.f])], fn := fun v => s_l1In v.1 v.2.1 v.2.2.1 }
noncomputable def t_s_l1In (K : Nat) : Tab := tabOf (tiOf tys) []
def h_s_l1In : Hint := ⟨msk [7, 64], fun _ _ => false⟩
noncomputable def c_s_l1In : Code := Tryd.f45.body.getD .skip
theorem ok_s_l1In : FOk Tryd.prog 45 (F_s_l1In) := by
  let K := 0
  exact
  fok_of_run (T := t_s_l1In K) (H := h_s_l1In) (K := K) (c := c_s_l1In) (ts := [.tmp 6]) Tryd.func45 (by kernel_rfl) (by kernel_rfl) (by kernel_rfl) rfl
    (tok0 tys_ok) mixed
    (fun v => by kernel_rfl)

noncomputable def F_s_l19Op (K : Nat) : FSp := { ps := [.val false .s [.f]], rs := [(false, (.i .i64), [.f])], fn := fun v => s_l19Op K v.1 }
noncomputable def t_s_l19Op (K : Nat) : Tab := tabOf (tiOf tys) []
def h_s_l19Op : Hint := ⟨msk [1, 9, 25, 537, 25, 131097, 4, 4], fun _ _ => false⟩
noncomputable def c_s_l19Op : Code := Tryd.f96.body.getD .skip
noncomputable def s_l19Op.g0 (K : Nat) (a0 : ByteArray) (n : Nat) (q0 : Int) : Option (Int × Unit) :=
  lpg (t_s_l19Op K) h_s_l19Op K c_s_l19Op [.r, .r, .l, .r, .b] n ⟨[.one (.val .f .s a0), .dead, .dead, .one (.val (.x 0) (.sl .s) [ByteArray.empty, (bs [112, 117, 116]), (bs [103, 101, 116]), (bs [101, 112, 111, 99, 104]), (bs [106, 111, 105, 110]), (bs [108, 101, 97, 118, 101]), (bs [109, 97, 114, 107]), (bs [114, 101, 97, 100]), (bs [116, 105, 99, 107]), (bs [116, 114, 105, 109]), (bs [112, 97, 99, 107])]), .one (.val .f (.i .i64) q0)] ++ List.replicate 14 .dead, List.replicate 19 none⟩ (endK (t_s_l19Op K).toEnv (F_s_l19Op K) [.tmp 2])
theorem s_l19Op.ok0 (K : Nat) (a0 : ByteArray) (n : Nat) : s_l19Op.g0 K a0 n = s_l19Op.l0 K a0 n := by
  induction n with
  | zero =>
    funext q0
    kernel_rfl
  | succ n ih =>
    funext q0
    have e : s_l19Op.g0 K a0 (n + 1) q0 = s_l19Op.l0b K a0 (s_l19Op.g0 K a0 n) q0 := by kernel_rfl
    rw [ih] at e
    refine e.trans ?_
    kernel_rfl
theorem ok_s_l19Op (K : Nat) : FOk Tryd.prog 96 (F_s_l19Op K) :=
  fok_of_run (T := t_s_l19Op K) (H := h_s_l19Op) (K := K) (c := c_s_l19Op) (ts := [.tmp 2]) Tryd.func96 (by kernel_rfl) (by kernel_rfl) (by kernel_rfl) rfl
    (tok0 tys_ok) mixed
    (fun v => by
    have k0 := s_l19Op.ok0 K v.1 K
    have e : run (t_s_l19Op K) h_s_l19Op K c_s_l19Op (initSt (F_s_l19Op K).pk (F_s_l19Op K).ps Tryd.f96.ntmps (lv _ v)) (endK (t_s_l19Op K).toEnv (F_s_l19Op K) [.tmp 2]) = s_l19Op.b K v.1 (s_l19Op.g0 K v.1 K) := by kernel_rfl
    rw [k0] at e
    refine e.trans ?_
    kernel_rfl)

noncomputable def F_s_Digits (K : Nat) : FSp := { ps := [.val false (.i .i64) [.f]], rs := [(false, .s, [.f])], fn := fun v => s_Digits K v.1 }
noncomputable def t_s_Digits (K : Nat) : Tab := tabOf (tiOf tys) []
def h_s_Digits : Hint := ⟨msk [1, 129, 4, 9, 25, 2073, 57, 32825, 57, 25, 25, 134217744, 4, 4], fun _ _ => false⟩
noncomputable def c_s_Digits : Code := Tryd.f37.body.getD .skip
noncomputable def s_Digits.g0 (K : Nat) (a0 : Int) (n : Nat) (q0 : Int) (q1 : ByteArray) : Option (ByteArray × Unit) :=
  lpg (t_s_Digits K) h_s_Digits K c_s_Digits [.r, .r, .r, .r, .l, .b] n ⟨[.one (.val .f (.i .i64) q0), .dead, .dead, .one (.val .f .b (decide (a0 < 0))), .one (.val .f .s q1)] ++ List.replicate 26 .dead, List.replicate 31 none⟩ (endK (t_s_Digits K).toEnv (F_s_Digits K) [.tmp 2])
theorem s_Digits.ok0 (K : Nat) (a0 : Int) (n : Nat) : s_Digits.g0 K a0 n = s_Digits.l0 K a0 n := by
  induction n with
  | zero =>
    funext q0 q1
    kernel_rfl
  | succ n ih =>
    funext q0 q1
    have e : s_Digits.g0 K a0 (n + 1) q0 q1 = s_Digits.l0b K a0 (s_Digits.g0 K a0 n) q0 q1 := by kernel_rfl
    rw [ih] at e
    refine e.trans ?_
    kernel_rfl
theorem ok_s_Digits (K : Nat) : FOk Tryd.prog 37 (F_s_Digits K) :=
  fok_of_run (T := t_s_Digits K) (H := h_s_Digits) (K := K) (c := c_s_Digits) (ts := [.tmp 2]) Tryd.func37 (by kernel_rfl) (by kernel_rfl) (by kernel_rfl) rfl
    (tok0 tys_ok) mixed
    (fun v => by
    have k0 := s_Digits.ok0 K v.1 K
    have e : run (t_s_Digits K) h_s_Digits K c_s_Digits (initSt (F_s_Digits K).pk (F_s_Digits K).ps Tryd.f37.ntmps (lv _ v)) (endK (t_s_Digits K).toEnv (F_s_Digits K) [.tmp 2]) = s_Digits.b K v.1 (s_Digits.g0 K v.1 K) := by kernel_rfl
    rw [k0] at e
    refine e.trans ?_
    kernel_rfl)

noncomputable def F_s_l19Num (K : Nat) : FSp := { ps := [.val false .s [.f]], rs := [(false, (.i .i64), [.f])], fn := fun v => s_l19Num K v.1 }
noncomputable def t_s_l19Num (K : Nat) : Tab := tabOf (tiOf tys) [(37, F_s_Digits K)]
def h_s_l19Num : Hint := ⟨msk [1, 4097, 4, 9, 25, 65561, 25, 268435481, 4, 25, 1099511627784, 4, 4], fun _ _ => false⟩
noncomputable def c_s_l19Num : Code := Tryd.f97.body.getD .skip
noncomputable def s_l19Num.g0 (K : Nat) (a0 : ByteArray) (n : Nat) (q0 : Int) (q1 : Int) : Option (Int × Unit) :=
  lpg (t_s_l19Num K) h_s_l19Num K c_s_l19Num [.r, .r, .r, .l, .r, .b] n ⟨[.one (.val .f .s a0), .dead, .dead, .one (.val .f (.i .i64) q0), .one (.val .f (.i .i64) q1)] ++ List.replicate 37 .dead, List.replicate 42 none⟩ (endK (t_s_l19Num K).toEnv (F_s_l19Num K) [.tmp 2])
theorem s_l19Num.ok0 (K : Nat) (a0 : ByteArray) (n : Nat) : s_l19Num.g0 K a0 n = s_l19Num.l0 K a0 n := by
  induction n with
  | zero =>
    funext q0 q1
    kernel_rfl
  | succ n ih =>
    funext q0 q1
    have e : s_l19Num.g0 K a0 (n + 1) q0 q1 = s_l19Num.l0b K a0 (s_l19Num.g0 K a0 n) q0 q1 := by kernel_rfl
    rw [ih] at e
    refine e.trans ?_
    kernel_rfl
theorem ok_s_l19Num (K : Nat) : FOk Tryd.prog 97 (F_s_l19Num K) :=
  fok_of_run (T := t_s_l19Num K) (H := h_s_l19Num) (K := K) (c := c_s_l19Num) (ts := [.tmp 2]) Tryd.func97 (by kernel_rfl) (by kernel_rfl) (by kernel_rfl) rfl
    (tokc (ok_s_Digits K) (tok0 tys_ok)) mixed
    (fun v => by
    have k0 := s_l19Num.ok0 K v.1 K
    have e : run (t_s_l19Num K) h_s_l19Num K c_s_l19Num (initSt (F_s_l19Num K).pk (F_s_l19Num K).ps Tryd.f97.ntmps (lv _ v)) (endK (t_s_l19Num K).toEnv (F_s_l19Num K) [.tmp 2]) = s_l19Num.b K v.1 (s_l19Num.g0 K v.1 K) := by kernel_rfl
    rw [k0] at e
    refine e.trans ?_
    kernel_rfl)

noncomputable def F_s_l2Text (K : Nat) : FSp := { ps := [.val false .s [.f]], rs := [(false, .b, [.f])], fn := fun v => s_l2Text K v.1 }
noncomputable def t_s_l2Text (K : Nat) : Tab := tabOf (tiOf tys) []
def h_s_l2Text : Hint := ⟨msk [1, 9, 265, 9, 25, 4294967305, 4, 4], fun _ _ => false⟩
noncomputable def c_s_l2Text : Code := Tryd.f71.body.getD .skip
noncomputable def s_l2Text.g0 (K : Nat) (a0 : ByteArray) (n : Nat) (q0 : Int) : Option (Bool × Unit) :=
  lpg (t_s_l2Text K) h_s_l2Text K c_s_l2Text [.r, .l, .r, .b] n ⟨[.one (.val .f .s a0), .dead, .dead, .one (.val .f (.i .i64) q0)] ++ List.replicate 32 .dead, List.replicate 36 none⟩ (endK (t_s_l2Text K).toEnv (F_s_l2Text K) [.tmp 2])
theorem s_l2Text.ok0 (K : Nat) (a0 : ByteArray) (n : Nat) : s_l2Text.g0 K a0 n = s_l2Text.l0 K a0 n := by
  induction n with
  | zero =>
    funext q0
    kernel_rfl
  | succ n ih =>
    funext q0
    have e : s_l2Text.g0 K a0 (n + 1) q0 = s_l2Text.l0b K a0 (s_l2Text.g0 K a0 n) q0 := by kernel_rfl
    rw [ih] at e
    refine e.trans ?_
    kernel_rfl
theorem ok_s_l2Text (K : Nat) : FOk Tryd.prog 71 (F_s_l2Text K) :=
  fok_of_run (T := t_s_l2Text K) (H := h_s_l2Text) (K := K) (c := c_s_l2Text) (ts := [.tmp 2]) Tryd.func71 (by kernel_rfl) (by kernel_rfl) (by kernel_rfl) rfl
    (tok0 tys_ok) mixed
    (fun v => by
    have k0 := s_l2Text.ok0 K v.1 K
    have e : run (t_s_l2Text K) h_s_l2Text K c_s_l2Text (initSt (F_s_l2Text K).pk (F_s_l2Text K).ps Tryd.f71.ntmps (lv _ v)) (endK (t_s_l2Text K).toEnv (F_s_l2Text K) [.tmp 2]) = s_l2Text.b K v.1 (s_l2Text.g0 K v.1 K) := by kernel_rfl
    rw [k0] at e
    refine e.trans ?_
    kernel_rfl)

noncomputable def F_s_CmdOk (K : Nat) : FSp := { ps := [.val true eCmd [.f, .f, .f, .f, .f, .f, .f, .f]], rs := [(false, .b, [.f])], fn := fun v => s_CmdOk K v.1 }
noncomputable def t_s_CmdOk (K : Nat) : Tab := tabOf (tiOf tys) [(45, F_s_l1In), (71, F_s_l2Text K)]
def h_s_CmdOk : Hint := ⟨msk [2, 34, 4, 4], fun _ _ => false⟩
noncomputable def c_s_CmdOk : Code := Tryd.f33.body.getD .skip
theorem ok_s_CmdOk (K : Nat) : FOk Tryd.prog 33 (F_s_CmdOk K) :=
  fok_of_run (T := t_s_CmdOk K) (H := h_s_CmdOk) (K := K) (c := c_s_CmdOk) (ts := [.tmp 2]) Tryd.func33 (by kernel_rfl) (by kernel_rfl) (by kernel_rfl) rfl
    (tokc (ok_s_l1In) (tokc (ok_s_l2Text K) (tok0 tys_ok))) mixed
    (fun v => by kernel_rfl)

noncomputable def F_s_l19Cmd (K : Nat) : FSp := { ps := [.val false (.sl .s) [.r]], rs := [(true, eCmd, [.f, .f, .f, .f, .f, .f, .f, .f]), (false, .b, [.f])], fn := fun v => s_l19Cmd K v.1 }
noncomputable def t_s_l19Cmd (K : Nat) : Tab := tabOf (tiOf tys) [(45, F_s_l1In), (96, F_s_l19Op K), (97, F_s_l19Num K), (33, F_s_CmdOk K)]
def h_s_l19Cmd : Hint := ⟨msk [5, 261, 12, 21, 536870933, 21, 68719476757, 21, 9223372036854775828, 12, 12], fun _ _ => false⟩
noncomputable def c_s_l19Cmd : Code := Tryd.f54.body.getD .skip
theorem ok_s_l19Cmd (K : Nat) : FOk Tryd.prog 54 (F_s_l19Cmd K) :=
  fok_of_run (T := t_s_l19Cmd K) (H := h_s_l19Cmd) (K := K) (c := c_s_l19Cmd) (ts := [.cell 2 50, .tmp 3]) Tryd.func54 (by kernel_rfl) (by kernel_rfl) (by kernel_rfl) rfl
    (tokc (ok_s_l1In) (tokc (ok_s_l19Op K) (tokc (ok_s_l19Num K) (tokc (ok_s_CmdOk K) (tok0 tys_ok))))) mixed
    (fun v => by kernel_rfl)

noncomputable def F_s_CmdSaid (K : Nat) : FSp := { ps := [.val false .s [.f]], rs := [(true, eCmd, [.f, .f, .f, .f, .f, .f, .f, .f]), (false, .b, [.f])], fn := fun v => s_CmdSaid K v.1 }
noncomputable def t_s_CmdSaid (K : Nat) : Tab := tabOf (tiOf tys) [(55, F_s_l19Words K), (54, F_s_l19Cmd K)]
def h_s_CmdSaid : Hint := ⟨msk [5, 52, 12], fun _ _ => false⟩
noncomputable def c_s_CmdSaid : Code := Tryd.f23.body.getD .skip
theorem ok_s_CmdSaid (K : Nat) : FOk Tryd.prog 23 (F_s_CmdSaid K) :=
  fok_of_run (T := t_s_CmdSaid K) (H := h_s_CmdSaid) (K := K) (c := c_s_CmdSaid) (ts := [.cell 2 50, .tmp 3]) Tryd.func23 (by kernel_rfl) (by kernel_rfl) (by kernel_rfl) rfl
    (tokc (ok_s_l19Words K) (tokc (ok_s_l19Cmd K) (tok0 tys_ok))) mixed
    (fun v => by kernel_rfl)

noncomputable def F_i_CmdText (K : Nat) : FSp := { ps := [.val true eCmd [.f, .f, .f, .f, .f, .f, .f, .f]], rs := [(false, .s, [.f])], fn := fun v => i_CmdText K v.1 }
noncomputable def t_i_CmdText (K : Nat) : Tab := tabOf (tiOf tys) [(46, F_i_within), (60, F_i_opNames), (36, F_i_Digits), (52, F_lJoin)]
def h_i_CmdText : Hint := ⟨msk [2, 130, 4, 10, 1034, 10, 16, 4], fun _ _ => false⟩
noncomputable def c_i_CmdText : Code := Tryd.f34.body.getD .skip
theorem ok_i_CmdText (K : Nat) : FOk Tryd.prog 34 (F_i_CmdText K) :=
  fok_of_run (T := t_i_CmdText K) (H := h_i_CmdText) (K := K) (c := c_i_CmdText) (ts := [.tmp 2]) Tryd.func34 (by kernel_rfl) (by kernel_rfl) (by kernel_rfl) rfl
    (tokc (ok_i_within) (tokc (ok_i_opNames) (tokc (ok_i_Digits) (tokc (ok_lJoin) (tok0 tys_ok))))) mixed
    (fun v => by kernel_rfl)

noncomputable def F_s_CmdText (K : Nat) : FSp := { ps := [.val true eCmd [.f, .f, .f, .f, .f, .f, .f, .f]], rs := [(false, .s, [.f])], fn := fun v => s_CmdText K v.1 }
noncomputable def t_s_CmdText (K : Nat) : Tab := tabOf (tiOf tys) [(45, F_s_l1In), (37, F_s_Digits K)]
def h_s_CmdText : Hint := ⟨msk [2, 130, 4, 10, 26, 65562, 26, 4], fun _ _ => false⟩
noncomputable def c_s_CmdText : Code := Tryd.f35.body.getD .skip
theorem ok_s_CmdText (K : Nat) : FOk Tryd.prog 35 (F_s_CmdText K) :=
  fok_of_run (T := t_s_CmdText K) (H := h_s_CmdText) (K := K) (c := c_s_CmdText) (ts := [.tmp 2]) Tryd.func35 (by kernel_rfl) (by kernel_rfl) (by kernel_rfl) rfl
    (tokc (ok_s_l1In) (tokc (ok_s_Digits K) (tok0 tys_ok))) mixed
    (fun v => by kernel_rfl)

noncomputable def F_i_SetupOk : FSp := { ps := [.val true eSetup [.f, .f, .f, .f]], rs := [(false, .b, [.f])], fn := fun v => i_SetupOk v.1 }
noncomputable def t_i_SetupOk (K : Nat) : Tab := tabOf (tiOf tys) [(46, F_i_within)]
def h_i_SetupOk : Hint := ⟨msk [2, 4], fun _ _ => false⟩
noncomputable def c_i_SetupOk : Code := Tryd.f38.body.getD .skip
theorem ok_i_SetupOk : FOk Tryd.prog 38 (F_i_SetupOk) := by
  let K := 0
  exact
  fok_of_run (T := t_i_SetupOk K) (H := h_i_SetupOk) (K := K) (c := c_i_SetupOk) (ts := [.tmp 2]) Tryd.func38 (by kernel_rfl) (by kernel_rfl) (by kernel_rfl) rfl
    (tokc (ok_i_within) (tok0 tys_ok)) mixed
    (fun v => by kernel_rfl)

noncomputable def F_s_SetupOk : FSp := { ps := [.val true eSetup [.f, .f, .f, .f]], rs := [(false, .b, [.f])], fn := fun v => s_SetupOk v.1 }
noncomputable def t_s_SetupOk (K : Nat) : Tab := tabOf (tiOf tys) [(45, F_s_l1In)]
def h_s_SetupOk : Hint := ⟨msk [2, 4], fun _ _ => false⟩
noncomputable def c_s_SetupOk : Code := Tryd.f39.body.getD .skip
theorem ok_s_SetupOk : FOk Tryd.prog 39 (F_s_SetupOk) := by
  let K := 0
  exact
  fok_of_run (T := t_s_SetupOk K) (H := h_s_SetupOk) (K := K) (c := c_s_SetupOk) (ts := [.tmp 2]) Tryd.func39 (by kernel_rfl) (by kernel_rfl) (by kernel_rfl) rfl
    (tokc (ok_s_l1In) (tok0 tys_ok)) mixed
    (fun v => by kernel_rfl)

noncomputable def F_l_FnCommands (K : Nat) : FSp := lawF [(false, (.sl (.i .u8)))] fun v => l_FnCommands K v.1
noncomputable def t_l_FnCommands (K : Nat) : Tab := tabOf (tiOf tys) [(26, F_l_big), (27, F_s_DrawCmdOk K), (28, F_s_DrawCmdText K), (29, F_s_DrawDigits K), (30, F_s_DrawSetupOk K), (31, F_s_DrawCmdSaid K), (24, F_i_CmdSaid K), (23, F_s_CmdSaid K), (32, F_i_CmdOk K), (33, F_s_CmdOk K), (34, F_i_CmdText K), (35, F_s_CmdText K), (36, F_i_Digits), (37, F_s_Digits K), (38, F_i_SetupOk), (39, F_s_SetupOk)]
def h_l_FnCommands : Hint := ⟨msk [1, 8193, 4, 25, 57, 121, 248, 1016, 3960, 590295810358705652496, 4, 4], fun _ _ => false⟩
noncomputable def c_l_FnCommands : Code := Tryd.f7.body.getD .skip
theorem ok_l_FnCommands (K : Nat) : FOk Tryd.prog 7 (F_l_FnCommands K) :=
  fok_of_run (T := t_l_FnCommands K) (H := h_l_FnCommands) (K := K) (c := c_l_FnCommands) (ts := [.tmp 2]) Tryd.func7 (by kernel_rfl) (by kernel_rfl) (by kernel_rfl) rfl
    (tokc (ok_l_big) (tokc (ok_s_DrawCmdOk K) (tokc (ok_s_DrawCmdText K) (tokc (ok_s_DrawDigits K) (tokc (ok_s_DrawSetupOk K) (tokc (ok_s_DrawCmdSaid K) (tokc (ok_i_CmdSaid K) (tokc (ok_s_CmdSaid K) (tokc (ok_i_CmdOk K) (tokc (ok_s_CmdOk K) (tokc (ok_i_CmdText K) (tokc (ok_s_CmdText K) (tokc (ok_i_Digits) (tokc (ok_s_Digits K) (tokc (ok_i_SetupOk) (tokc (ok_s_SetupOk) (tok0 tys_ok))))))))))))))))) mixed
    (fun v => by kernel_rfl)

end Go.Proofs.YtilemnhdgfhkiaaDoor.Fc
