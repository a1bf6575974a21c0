/- The functions compute what is told of them. -/
import Derived.Test.YtilemnhdgfhkiaaGreatDoorWtSh
import Derived.Test.YtilemnhdgfhkiaaGreatDoorWtLib
set_option linter.all false
set_option maxRecDepth 100000
namespace Go.Proofs.YtilemnhdgfhkiaaGreatDoor.Wt
open Go Go.Kn

def tys : List (TypeId × TInf) := [
  (3, { agg := false, e := (.i .i64), bytes := 8 }),
  (4, { agg := false, e := .b, bytes := 1 }),
  (5, { agg := false, e := (.i .u8), bytes := 1 }),
  (9, { agg := false, e := .s, bytes := 16 }),
  (23, { agg := true, e := eSetup, bytes := 32, fs := [(0, 1, false), (1, 1, false), (2, 1, false), (3, 1, false)] }),
  (24, { agg := false, e := (.sl ePeer), bytes := 24, el := 93 }),
  (25, { agg := false, e := (.sl eRpc), bytes := 24, el := 96 }),
  (26, { agg := false, e := (.sl eCmd), bytes := 24, el := 99 }),
  (27, { agg := false, e := (.sl (.i .i64)), bytes := 24, el := 3 }),
  (28, { agg := false, e := (.sl eHeard), bytes := 24, el := 104 }),
  (30, { agg := true, e := eWorld, bytes := 184, fs := [(0, 4, true), (4, 1, false), (5, 1, false), (6, 1, false), (7, 1, false), (8, 1, false), (9, 1, false), (10, 1, false)] }),
  (33, { agg := true, e := eSetup, bytes := 32, fs := [(0, 1, false), (1, 1, false), (2, 1, false), (3, 1, false)] }),
  (34, { agg := false, e := (.sl ePeer), bytes := 24, el := 66 }),
  (35, { agg := false, e := (.sl eRpc), bytes := 24, el := 109 }),
  (36, { agg := false, e := (.sl eCmd), bytes := 24, el := 111 }),
  (37, { agg := false, e := (.sl eHeard), bytes := 24, el := 115 }),
  (39, { agg := true, e := eWorld, bytes := 184, fs := [(0, 4, true), (4, 1, false), (5, 1, false), (6, 1, false), (7, 1, false), (8, 1, false), (9, 1, false), (10, 1, false)] }),
  (50, { agg := false, e := (.sl eEntry), bytes := 24, el := 131 }),
  (52, { agg := true, e := eLog, bytes := 40, fs := [(0, 1, false), (1, 1, false), (2, 1, false)] }),
  (53, { agg := false, e := (.sl eRow), bytes := 24, el := 181 }),
  (54, { agg := false, e := (.sl eMaker), bytes := 24, el := 185 }),
  (55, { agg := false, e := (.sl eGroup), bytes := 24, el := 187 }),
  (56, { agg := false, e := (.sl eAnswer), bytes := 24, el := 113 }),
  (58, { agg := true, e := eKeep, bytes := 128, fs := [(0, 1, false), (1, 1, false), (2, 1, false), (3, 1, false), (4, 1, false), (5, 1, false)] }),
  (60, { agg := true, e := eHard, bytes := 184, fs := [(0, 1, false), (1, 1, false), (2, 3, true), (5, 6, true)] }),
  (61, { agg := false, e := (.sl .b), bytes := 24, el := 4 }),
  (62, { agg := false, e := (.sl (.i .u8)), bytes := 24, el := 5 }),
  (64, { agg := true, e := eDisk, bytes := 32, fs := [(0, 1, false), (1, 1, false)] }),
  (66, { agg := true, e := ePeer, bytes := 464, fs := [(0, 1, false), (1, 11, true), (12, 1, false), (13, 1, false), (14, 1, false), (15, 1, false), (16, 1, false), (17, 6, true), (23, 2, true), (25, 1, false)] }),
  (80, { agg := false, e := (.sl eEntry), bytes := 24, el := 152 }),
  (82, { agg := true, e := eLog, bytes := 40, fs := [(0, 1, false), (1, 1, false), (2, 1, false)] }),
  (83, { agg := false, e := (.sl eRow), bytes := 24, el := 171 }),
  (84, { agg := false, e := (.sl eMaker), bytes := 24, el := 175 }),
  (85, { agg := false, e := (.sl eGroup), bytes := 24, el := 178 }),
  (86, { agg := false, e := (.sl eAnswer), bytes := 24, el := 102 }),
  (88, { agg := true, e := eKeep, bytes := 128, fs := [(0, 1, false), (1, 1, false), (2, 1, false), (3, 1, false), (4, 1, false), (5, 1, false)] }),
  (90, { agg := true, e := eHard, bytes := 184, fs := [(0, 1, false), (1, 1, false), (2, 3, true), (5, 6, true)] }),
  (91, { agg := true, e := eDisk, bytes := 32, fs := [(0, 1, false), (1, 1, false)] }),
  (93, { agg := true, e := ePeer, bytes := 464, fs := [(0, 1, false), (1, 11, true), (12, 1, false), (13, 1, false), (14, 1, false), (15, 1, false), (16, 1, false), (17, 6, true), (23, 2, true), (25, 1, false)] }),
  (96, { agg := true, e := eRpc, bytes := 104, fs := [(0, 1, false), (1, 1, false), (2, 1, false), (3, 1, false), (4, 1, false), (5, 1, false), (6, 1, false), (7, 1, false), (8, 1, false), (9, 1, false)] }),
  (99, { agg := true, e := eCmd, bytes := 80, fs := [(0, 1, false), (1, 1, false), (2, 1, false), (3, 1, false), (4, 1, false), (5, 1, false), (6, 1, false), (7, 1, false)] }),
  (102, { agg := true, e := eAnswer, bytes := 48, fs := [(0, 1, false), (1, 1, false), (2, 1, false), (3, 1, false)] }),
  (104, { agg := true, e := eHeard, bytes := 80, fs := [(0, 1, false), (1, 1, false), (2, 4, true), (6, 1, false), (7, 1, false)] }),
  (109, { agg := true, e := eRpc, bytes := 104, fs := [(0, 1, false), (1, 1, false), (2, 1, false), (3, 1, false), (4, 1, false), (5, 1, false), (6, 1, false), (7, 1, false), (8, 1, false), (9, 1, false)] }),
  (111, { agg := true, e := eCmd, bytes := 80, fs := [(0, 1, false), (1, 1, false), (2, 1, false), (3, 1, false), (4, 1, false), (5, 1, false), (6, 1, false), (7, 1, false)] }),
  (113, { agg := true, e := eAnswer, bytes := 48, fs := [(0, 1, false), (1, 1, false), (2, 1, false), (3, 1, false)] }),
  (115, { agg := true, e := eHeard, bytes := 80, fs := [(0, 1, false), (1, 1, false), (2, 4, true), (6, 1, false), (7, 1, false)] }),
  (117, { agg := false, e := (.sl .s), bytes := 24, el := 9 }),
  (131, { agg := true, e := eEntry, bytes := 88, fs := [(0, 1, false), (1, 8, true)] }),
  (152, { agg := true, e := eEntry, bytes := 88, fs := [(0, 1, false), (1, 8, true)] }),
  (169, { agg := false, e := (.sl eItem), bytes := 24, el := 214 }),
  (171, { agg := true, e := eRow, bytes := 40, fs := [(0, 1, false), (1, 1, false), (2, 1, false)] }),
  (173, { agg := false, e := (.sl eMark), bytes := 24, el := 220 }),
  (175, { agg := true, e := eMaker, bytes := 56, fs := [(0, 1, false), (1, 1, false), (2, 1, false), (3, 1, false), (4, 1, false)] }),
  (178, { agg := true, e := eGroup, bytes := 80, fs := [(0, 1, false), (1, 1, false), (2, 1, false), (3, 1, false)] }),
  (179, { agg := false, e := (.sl eItem), bytes := 24, el := 215 }),
  (181, { agg := true, e := eRow, bytes := 40, fs := [(0, 1, false), (1, 1, false), (2, 1, false)] }),
  (183, { agg := false, e := (.sl eMark), bytes := 24, el := 218 }),
  (185, { agg := true, e := eMaker, bytes := 56, fs := [(0, 1, false), (1, 1, false), (2, 1, false), (3, 1, false), (4, 1, false)] }),
  (187, { agg := true, e := eGroup, bytes := 80, fs := [(0, 1, false), (1, 1, false), (2, 1, false), (3, 1, false)] }),
  (214, { agg := true, e := eItem, bytes := 56, fs := [(0, 1, false), (1, 1, false), (2, 1, false), (3, 1, false), (4, 1, false)] }),
  (215, { agg := true, e := eItem, bytes := 56, fs := [(0, 1, false), (1, 1, false), (2, 1, false), (3, 1, false), (4, 1, false)] }),
  (218, { agg := true, e := eMark, bytes := 16, fs := [(0, 1, false), (1, 1, false)] }),
  (220, { agg := true, e := eMark, bytes := 16, fs := [(0, 1, false), (1, 1, false)] })]
theorem tys_ok : TabOk Tryz.prog (tiOf tys) := tabOk_of (by kernel_rfl)
theorem mixed : Tryz.prog.follows .mixedOrders = true := by kernel_rfl

noncomputable def F_l_szCmd : FSp := { ps := [.val true eCmd [.f, .f, .f, .f, .f, .f, .f, .f], .val false (.i .i64) [.f]], rs := [(false, (.i .i64), [.f])], fn := fun v => l_szCmd v.1 v.2.1 }
noncomputable def t_l_szCmd (K : Nat) : Tab := tabOf (tiOf tys) []
def h_l_szCmd : Hint := ⟨msk [6, 6, 2054, 18, 2, 262146, 18, 18], fun _ _ => false⟩
noncomputable def c_l_szCmd : Code := Tryz.f32.body.getD .skip
theorem ok_l_szCmd : FOk Tryz.prog 32 (F_l_szCmd) := by
  let K := 0
  exact
  fok_of_run (T := t_l_szCmd K) (H := h_l_szCmd) (K := K) (c := c_l_szCmd) (ts := [.tmp 4]) Tryz.func32 (by kernel_rfl) (by kernel_rfl) (by kernel_rfl) rfl
    (tok0 tys_ok) mixed
    (fun v => by kernel_rfl)

noncomputable def F_l_szEntry : FSp := { ps := [.val true eEntry [.f, .f, .f, .f, .f, .f, .f, .f, .f], .val false (.i .i64) [.f]], rs := [(false, (.i .i64), [.f])], fn := fun v => l_szEntry v.1 v.2.1 }
noncomputable def t_l_szEntry (K : Nat) : Tab := tabOf (tiOf tys) [(32, F_l_szCmd)]
def h_l_szEntry : Hint := ⟨msk [6, 2, 1026, 18, 18], fun _ _ => false⟩
noncomputable def c_l_szEntry : Code := Tryz.f71.body.getD .skip
theorem ok_l_szEntry : FOk Tryz.prog 71 (F_l_szEntry) := by
  let K := 0
  exact
  fok_of_run (T := t_l_szEntry K) (H := h_l_szEntry) (K := K) (c := c_l_szEntry) (ts := [.tmp 4]) Tryz.func71 (by kernel_rfl) (by kernel_rfl) (by kernel_rfl) rfl
    (tokc (ok_l_szCmd) (tok0 tys_ok)) mixed
    (fun v => by kernel_rfl)

noncomputable def F_l_szEntryS (K : Nat) : FSp := { ps := [.val false (.sl eEntry) [.r], .val false (.i .i64) [.f]], rs := [(false, (.i .i64), [.f])], fn := fun v => l_szEntryS K v.1 v.2.1 }
noncomputable def t_l_szEntryS (K : Nat) : Tab := tabOf (tiOf tys) [(71, F_l_szEntry)]
def h_l_szEntryS : Hint := ⟨msk [3, 3, 2051, 18, 35, 32803, 35, 35, 33554467, 18, 18], fun _ _ => false⟩
noncomputable def c_l_szEntryS : Code := Tryz.f50.body.getD .skip
noncomputable def l_szEntryS.g0 (K : Nat) (a0 : List TEntry) (a1 : Int) (n : Nat) (q0 : Int) (q1 : Int) : Option (Int × Unit) :=
  lpg (t_l_szEntryS K) h_l_szEntryS K c_l_szEntryS [.r, .r, .r, .l, .r, .b] n ⟨[.one (.val .r (.sl eEntry) a0), .one (.val .f (.i .i64) q0), .dead, .dead, .dead, .one (.val .f (.i .i64) q1)] ++ List.replicate 21 .dead, List.replicate 27 none⟩ (endK (t_l_szEntryS K).toEnv (F_l_szEntryS K) [.tmp 4])
theorem l_szEntryS.ok0 (K : Nat) (a0 : List TEntry) (a1 : Int) (n : Nat) : l_szEntryS.g0 K a0 a1 n = l_szEntryS.l0 K a0 a1 n := by
  induction n with
  | zero =>
    funext q0 q1
    kernel_rfl
  | succ n ih =>
    funext q0 q1
    have e : l_szEntryS.g0 K a0 a1 (n + 1) q0 q1 = l_szEntryS.l0b K a0 a1 (l_szEntryS.g0 K a0 a1 n) q0 q1 := by kernel_rfl
    rw [ih] at e
    refine e.trans ?_
    kernel_rfl
theorem ok_l_szEntryS (K : Nat) : FOk Tryz.prog 50 (F_l_szEntryS K) :=
  fok_of_run (T := t_l_szEntryS K) (H := h_l_szEntryS) (K := K) (c := c_l_szEntryS) (ts := [.tmp 4]) Tryz.func50 (by kernel_rfl) (by kernel_rfl) (by kernel_rfl) rfl
    (tokc (ok_l_szEntry) (tok0 tys_ok)) mixed
    (fun v => by
    have k0 := l_szEntryS.ok0 K v.1 v.2.1 K
    have e : run (t_l_szEntryS K) h_l_szEntryS K c_l_szEntryS (initSt (F_l_szEntryS K).pk (F_l_szEntryS K).ps Tryz.f50.ntmps (lv _ v)) (endK (t_l_szEntryS K).toEnv (F_l_szEntryS K) [.tmp 4]) = l_szEntryS.b K v.1 v.2.1 (l_szEntryS.g0 K v.1 v.2.1 K) := by kernel_rfl
    rw [k0] at e
    refine e.trans ?_
    kernel_rfl)

noncomputable def F_l_szLog (K : Nat) : FSp := { ps := [.val true eLog [.f, .f, .r], .val false (.i .i64) [.f]], rs := [(false, (.i .i64), [.f])], fn := fun v => l_szLog K v.1 v.2.1 }
noncomputable def t_l_szLog (K : Nat) : Tab := tabOf (tiOf tys) [(50, F_l_szEntryS K)]
def h_l_szLog : Hint := ⟨msk [6, 2, 1026, 18, 18], fun _ _ => false⟩
noncomputable def c_l_szLog : Code := Tryz.f65.body.getD .skip
theorem ok_l_szLog (K : Nat) : FOk Tryz.prog 65 (F_l_szLog K) :=
  fok_of_run (T := t_l_szLog K) (H := h_l_szLog) (K := K) (c := c_l_szLog) (ts := [.tmp 4]) Tryz.func65 (by kernel_rfl) (by kernel_rfl) (by kernel_rfl) rfl
    (tokc (ok_l_szEntryS K) (tok0 tys_ok)) mixed
    (fun v => by kernel_rfl)

noncomputable def F_l_szItem : FSp := { ps := [.val true eItem [.f, .f, .f, .f, .f], .val false (.i .i64) [.f]], rs := [(false, (.i .i64), [.f])], fn := fun v => l_szItem v.1 v.2.1 }
noncomputable def t_l_szItem (K : Nat) : Tab := tabOf (tiOf tys) []
def h_l_szItem : Hint := ⟨msk [6, 6, 2054, 18, 2, 262146, 18, 18], fun _ _ => false⟩
noncomputable def c_l_szItem : Code := Tryz.f111.body.getD .skip
theorem ok_l_szItem : FOk Tryz.prog 111 (F_l_szItem) := by
  let K := 0
  exact
  fok_of_run (T := t_l_szItem K) (H := h_l_szItem) (K := K) (c := c_l_szItem) (ts := [.tmp 4]) Tryz.func111 (by kernel_rfl) (by kernel_rfl) (by kernel_rfl) rfl
    (tok0 tys_ok) mixed
    (fun v => by kernel_rfl)

noncomputable def F_l_szItemS (K : Nat) : FSp := { ps := [.val false (.sl eItem) [.r], .val false (.i .i64) [.f]], rs := [(false, (.i .i64), [.f])], fn := fun v => l_szItemS K v.1 v.2.1 }
noncomputable def t_l_szItemS (K : Nat) : Tab := tabOf (tiOf tys) [(111, F_l_szItem)]
def h_l_szItemS : Hint := ⟨msk [3, 3, 2051, 18, 35, 32803, 35, 35, 33554467, 18, 18], fun _ _ => false⟩
noncomputable def c_l_szItemS : Code := Tryz.f100.body.getD .skip
noncomputable def l_szItemS.g0 (K : Nat) (a0 : List TItem) (a1 : Int) (n : Nat) (q0 : Int) (q1 : Int) : Option (Int × Unit) :=
  lpg (t_l_szItemS K) h_l_szItemS K c_l_szItemS [.r, .r, .r, .l, .r, .b] n ⟨[.one (.val .r (.sl eItem) a0), .one (.val .f (.i .i64) q0), .dead, .dead, .dead, .one (.val .f (.i .i64) q1)] ++ List.replicate 21 .dead, List.replicate 27 none⟩ (endK (t_l_szItemS K).toEnv (F_l_szItemS K) [.tmp 4])
theorem l_szItemS.ok0 (K : Nat) (a0 : List TItem) (a1 : Int) (n : Nat) : l_szItemS.g0 K a0 a1 n = l_szItemS.l0 K a0 a1 n := by
  induction n with
  | zero =>
    funext q0 q1
    kernel_rfl
  | succ n ih =>
    funext q0 q1
    have e : l_szItemS.g0 K a0 a1 (n + 1) q0 q1 = l_szItemS.l0b K a0 a1 (l_szItemS.g0 K a0 a1 n) q0 q1 := by kernel_rfl
    rw [ih] at e
    refine e.trans ?_
    kernel_rfl
theorem ok_l_szItemS (K : Nat) : FOk Tryz.prog 100 (F_l_szItemS K) :=
  fok_of_run (T := t_l_szItemS K) (H := h_l_szItemS) (K := K) (c := c_l_szItemS) (ts := [.tmp 4]) Tryz.func100 (by kernel_rfl) (by kernel_rfl) (by kernel_rfl) rfl
    (tokc (ok_l_szItem) (tok0 tys_ok)) mixed
    (fun v => by
    have k0 := l_szItemS.ok0 K v.1 v.2.1 K
    have e : run (t_l_szItemS K) h_l_szItemS K c_l_szItemS (initSt (F_l_szItemS K).pk (F_l_szItemS K).ps Tryz.f100.ntmps (lv _ v)) (endK (t_l_szItemS K).toEnv (F_l_szItemS K) [.tmp 4]) = l_szItemS.b K v.1 v.2.1 (l_szItemS.g0 K v.1 v.2.1 K) := by kernel_rfl
    rw [k0] at e
    refine e.trans ?_
    kernel_rfl)

noncomputable def F_l_szRow (K : Nat) : FSp := { ps := [.val true eRow [.f, .f, .r], .val false (.i .i64) [.f]], rs := [(false, (.i .i64), [.f])], fn := fun v => l_szRow K v.1 v.2.1 }
noncomputable def t_l_szRow (K : Nat) : Tab := tabOf (tiOf tys) [(100, F_l_szItemS K)]
def h_l_szRow : Hint := ⟨msk [6, 2, 1026, 18, 18], fun _ _ => false⟩
noncomputable def c_l_szRow : Code := Tryz.f87.body.getD .skip
theorem ok_l_szRow (K : Nat) : FOk Tryz.prog 87 (F_l_szRow K) :=
  fok_of_run (T := t_l_szRow K) (H := h_l_szRow) (K := K) (c := c_l_szRow) (ts := [.tmp 4]) Tryz.func87 (by kernel_rfl) (by kernel_rfl) (by kernel_rfl) rfl
    (tokc (ok_l_szItemS K) (tok0 tys_ok)) mixed
    (fun v => by kernel_rfl)

noncomputable def F_l_szRowS (K : Nat) : FSp := { ps := [.val false (.sl eRow) [.r], .val false (.i .i64) [.f]], rs := [(false, (.i .i64), [.f])], fn := fun v => l_szRowS K v.1 v.2.1 }
noncomputable def t_l_szRowS (K : Nat) : Tab := tabOf (tiOf tys) [(87, F_l_szRow K)]
def h_l_szRowS : Hint := ⟨msk [3, 3, 2051, 18, 35, 32803, 35, 35, 33554467, 18, 18], fun _ _ => false⟩
noncomputable def c_l_szRowS : Code := Tryz.f66.body.getD .skip
noncomputable def l_szRowS.g0 (K : Nat) (a0 : List TRow) (a1 : Int) (n : Nat) (q0 : Int) (q1 : Int) : Option (Int × Unit) :=
  lpg (t_l_szRowS K) h_l_szRowS K c_l_szRowS [.r, .r, .r, .l, .r, .b] n ⟨[.one (.val .r (.sl eRow) a0), .one (.val .f (.i .i64) q0), .dead, .dead, .dead, .one (.val .f (.i .i64) q1)] ++ List.replicate 21 .dead, List.replicate 27 none⟩ (endK (t_l_szRowS K).toEnv (F_l_szRowS K) [.tmp 4])
theorem l_szRowS.ok0 (K : Nat) (a0 : List TRow) (a1 : Int) (n : Nat) : l_szRowS.g0 K a0 a1 n = l_szRowS.l0 K a0 a1 n := by
  induction n with
  | zero =>
    funext q0 q1
    kernel_rfl
  | succ n ih =>
    funext q0 q1
    have e : l_szRowS.g0 K a0 a1 (n + 1) q0 q1 = l_szRowS.l0b K a0 a1 (l_szRowS.g0 K a0 a1 n) q0 q1 := by kernel_rfl
    rw [ih] at e
    refine e.trans ?_
    kernel_rfl
theorem ok_l_szRowS (K : Nat) : FOk Tryz.prog 66 (F_l_szRowS K) :=
  fok_of_run (T := t_l_szRowS K) (H := h_l_szRowS) (K := K) (c := c_l_szRowS) (ts := [.tmp 4]) Tryz.func66 (by kernel_rfl) (by kernel_rfl) (by kernel_rfl) rfl
    (tokc (ok_l_szRow K) (tok0 tys_ok)) mixed
    (fun v => by
    have k0 := l_szRowS.ok0 K v.1 v.2.1 K
    have e : run (t_l_szRowS K) h_l_szRowS K c_l_szRowS (initSt (F_l_szRowS K).pk (F_l_szRowS K).ps Tryz.f66.ntmps (lv _ v)) (endK (t_l_szRowS K).toEnv (F_l_szRowS K) [.tmp 4]) = l_szRowS.b K v.1 v.2.1 (l_szRowS.g0 K v.1 v.2.1 K) := by kernel_rfl
    rw [k0] at e
    refine e.trans ?_
    kernel_rfl)

noncomputable def F_l_szMarkS : FSp := { ps := [.val false (.sl eMark) [.r], .val false (.i .i64) [.f]], rs := [(false, (.i .i64), [.f])], fn := fun v => l_szMarkS v.1 v.2.1 }
noncomputable def t_l_szMarkS (K : Nat) : Tab := tabOf (tiOf tys) []
def h_l_szMarkS : Hint := ⟨msk [3, 2, 1026, 18, 18], fun _ _ => false⟩
noncomputable def c_l_szMarkS : Code := Tryz.f101.body.getD .skip
theorem ok_l_szMarkS : FOk Tryz.prog 101 (F_l_szMarkS) := by
  let K := 0
  exact
  fok_of_run (T := t_l_szMarkS K) (H := h_l_szMarkS) (K := K) (c := c_l_szMarkS) (ts := [.tmp 4]) Tryz.func101 (by kernel_rfl) (by kernel_rfl) (by kernel_rfl) rfl
    (tok0 tys_ok) mixed
    (fun v => by kernel_rfl)

noncomputable def F_l_szMaker : FSp := { ps := [.val true eMaker [.f, .f, .f, .f, .r], .val false (.i .i64) [.f]], rs := [(false, (.i .i64), [.f])], fn := fun v => l_szMaker v.1 v.2.1 }
noncomputable def t_l_szMaker (K : Nat) : Tab := tabOf (tiOf tys) [(101, F_l_szMarkS)]
def h_l_szMaker : Hint := ⟨msk [6, 2, 1026, 18, 18], fun _ _ => false⟩
noncomputable def c_l_szMaker : Code := Tryz.f88.body.getD .skip
theorem ok_l_szMaker : FOk Tryz.prog 88 (F_l_szMaker) := by
  let K := 0
  exact
  fok_of_run (T := t_l_szMaker K) (H := h_l_szMaker) (K := K) (c := c_l_szMaker) (ts := [.tmp 4]) Tryz.func88 (by kernel_rfl) (by kernel_rfl) (by kernel_rfl) rfl
    (tokc (ok_l_szMarkS) (tok0 tys_ok)) mixed
    (fun v => by kernel_rfl)

noncomputable def F_l_szMakerS (K : Nat) : FSp := { ps := [.val false (.sl eMaker) [.r], .val false (.i .i64) [.f]], rs := [(false, (.i .i64), [.f])], fn := fun v => l_szMakerS K v.1 v.2.1 }
noncomputable def t_l_szMakerS (K : Nat) : Tab := tabOf (tiOf tys) [(88, F_l_szMaker)]
def h_l_szMakerS : Hint := ⟨msk [3, 3, 2051, 18, 35, 32803, 35, 35, 33554467, 18, 18], fun _ _ => false⟩
noncomputable def c_l_szMakerS : Code := Tryz.f67.body.getD .skip
noncomputable def l_szMakerS.g0 (K : Nat) (a0 : List TMaker) (a1 : Int) (n : Nat) (q0 : Int) (q1 : Int) : Option (Int × Unit) :=
  lpg (t_l_szMakerS K) h_l_szMakerS K c_l_szMakerS [.r, .r, .r, .l, .r, .b] n ⟨[.one (.val .r (.sl eMaker) a0), .one (.val .f (.i .i64) q0), .dead, .dead, .dead, .one (.val .f (.i .i64) q1)] ++ List.replicate 21 .dead, List.replicate 27 none⟩ (endK (t_l_szMakerS K).toEnv (F_l_szMakerS K) [.tmp 4])
theorem l_szMakerS.ok0 (K : Nat) (a0 : List TMaker) (a1 : Int) (n : Nat) : l_szMakerS.g0 K a0 a1 n = l_szMakerS.l0 K a0 a1 n := by
  induction n with
  | zero =>
    funext q0 q1
    kernel_rfl
  | succ n ih =>
    funext q0 q1
    have e : l_szMakerS.g0 K a0 a1 (n + 1) q0 q1 = l_szMakerS.l0b K a0 a1 (l_szMakerS.g0 K a0 a1 n) q0 q1 := by kernel_rfl
    rw [ih] at e
    refine e.trans ?_
    kernel_rfl
theorem ok_l_szMakerS (K : Nat) : FOk Tryz.prog 67 (F_l_szMakerS K) :=
  fok_of_run (T := t_l_szMakerS K) (H := h_l_szMakerS) (K := K) (c := c_l_szMakerS) (ts := [.tmp 4]) Tryz.func67 (by kernel_rfl) (by kernel_rfl) (by kernel_rfl) rfl
    (tokc (ok_l_szMaker) (tok0 tys_ok)) mixed
    (fun v => by
    have k0 := l_szMakerS.ok0 K v.1 v.2.1 K
    have e : run (t_l_szMakerS K) h_l_szMakerS K c_l_szMakerS (initSt (F_l_szMakerS K).pk (F_l_szMakerS K).ps Tryz.f67.ntmps (lv _ v)) (endK (t_l_szMakerS K).toEnv (F_l_szMakerS K) [.tmp 4]) = l_szMakerS.b K v.1 v.2.1 (l_szMakerS.g0 K v.1 v.2.1 K) := by kernel_rfl
    rw [k0] at e
    refine e.trans ?_
    kernel_rfl)

noncomputable def F_l_szIntS : FSp := { ps := [.val false (.sl (.i .i64)) [.r], .val false (.i .i64) [.f]], rs := [(false, (.i .i64), [.f])], fn := fun v => l_szIntS v.1 v.2.1 }
noncomputable def t_l_szIntS (K : Nat) : Tab := tabOf (tiOf tys) []
def h_l_szIntS : Hint := ⟨msk [3, 2, 1026, 18, 18], fun _ _ => false⟩
noncomputable def c_l_szIntS : Code := Tryz.f12.body.getD .skip
theorem ok_l_szIntS : FOk Tryz.prog 12 (F_l_szIntS) := by
  let K := 0
  exact
  fok_of_run (T := t_l_szIntS K) (H := h_l_szIntS) (K := K) (c := c_l_szIntS) (ts := [.tmp 4]) Tryz.func12 (by kernel_rfl) (by kernel_rfl) (by kernel_rfl) rfl
    (tok0 tys_ok) mixed
    (fun v => by kernel_rfl)

noncomputable def F_l_szGroup : FSp := { ps := [.val true eGroup [.f, .r, .r, .r], .val false (.i .i64) [.f]], rs := [(false, (.i .i64), [.f])], fn := fun v => l_szGroup v.1 v.2.1 }
noncomputable def t_l_szGroup (K : Nat) : Tab := tabOf (tiOf tys) [(12, F_l_szIntS)]
def h_l_szGroup : Hint := ⟨msk [6, 6, 1030, 18, 6, 65542, 18, 2, 4194306, 18, 18], fun _ _ => false⟩
noncomputable def c_l_szGroup : Code := Tryz.f89.body.getD .skip
theorem ok_l_szGroup : FOk Tryz.prog 89 (F_l_szGroup) := by
  let K := 0
  exact
  fok_of_run (T := t_l_szGroup K) (H := h_l_szGroup) (K := K) (c := c_l_szGroup) (ts := [.tmp 4]) Tryz.func89 (by kernel_rfl) (by kernel_rfl) (by kernel_rfl) rfl
    (tokc (ok_l_szIntS) (tok0 tys_ok)) mixed
    (fun v => by kernel_rfl)

noncomputable def F_l_szGroupS (K : Nat) : FSp := { ps := [.val false (.sl eGroup) [.r], .val false (.i .i64) [.f]], rs := [(false, (.i .i64), [.f])], fn := fun v => l_szGroupS K v.1 v.2.1 }
noncomputable def t_l_szGroupS (K : Nat) : Tab := tabOf (tiOf tys) [(89, F_l_szGroup)]
def h_l_szGroupS : Hint := ⟨msk [3, 3, 2051, 18, 35, 32803, 35, 35, 33554467, 18, 18], fun _ _ => false⟩
noncomputable def c_l_szGroupS : Code := Tryz.f68.body.getD .skip
noncomputable def l_szGroupS.g0 (K : Nat) (a0 : List TGroup) (a1 : Int) (n : Nat) (q0 : Int) (q1 : Int) : Option (Int × Unit) :=
  lpg (t_l_szGroupS K) h_l_szGroupS K c_l_szGroupS [.r, .r, .r, .l, .r, .b] n ⟨[.one (.val .r (.sl eGroup) a0), .one (.val .f (.i .i64) q0), .dead, .dead, .dead, .one (.val .f (.i .i64) q1)] ++ List.replicate 21 .dead, List.replicate 27 none⟩ (endK (t_l_szGroupS K).toEnv (F_l_szGroupS K) [.tmp 4])
theorem l_szGroupS.ok0 (K : Nat) (a0 : List TGroup) (a1 : Int) (n : Nat) : l_szGroupS.g0 K a0 a1 n = l_szGroupS.l0 K a0 a1 n := by
  induction n with
  | zero =>
    funext q0 q1
    kernel_rfl
  | succ n ih =>
    funext q0 q1
    have e : l_szGroupS.g0 K a0 a1 (n + 1) q0 q1 = l_szGroupS.l0b K a0 a1 (l_szGroupS.g0 K a0 a1 n) q0 q1 := by kernel_rfl
    rw [ih] at e
    refine e.trans ?_
    kernel_rfl
theorem ok_l_szGroupS (K : Nat) : FOk Tryz.prog 68 (F_l_szGroupS K) :=
  fok_of_run (T := t_l_szGroupS K) (H := h_l_szGroupS) (K := K) (c := c_l_szGroupS) (ts := [.tmp 4]) Tryz.func68 (by kernel_rfl) (by kernel_rfl) (by kernel_rfl) rfl
    (tokc (ok_l_szGroup) (tok0 tys_ok)) mixed
    (fun v => by
    have k0 := l_szGroupS.ok0 K v.1 v.2.1 K
    have e : run (t_l_szGroupS K) h_l_szGroupS K c_l_szGroupS (initSt (F_l_szGroupS K).pk (F_l_szGroupS K).ps Tryz.f68.ntmps (lv _ v)) (endK (t_l_szGroupS K).toEnv (F_l_szGroupS K) [.tmp 4]) = l_szGroupS.b K v.1 v.2.1 (l_szGroupS.g0 K v.1 v.2.1 K) := by kernel_rfl
    rw [k0] at e
    refine e.trans ?_
    kernel_rfl)

noncomputable def F_l_szAnswer : FSp := { ps := [.val true eAnswer [.f, .f, .f, .f], .val false (.i .i64) [.f]], rs := [(false, (.i .i64), [.f])], fn := fun v => l_szAnswer v.1 v.2.1 }
noncomputable def t_l_szAnswer (K : Nat) : Tab := tabOf (tiOf tys) []
def h_l_szAnswer : Hint := ⟨msk [6, 6, 2054, 18, 2, 262146, 18, 18], fun _ _ => false⟩
noncomputable def c_l_szAnswer : Code := Tryz.f51.body.getD .skip
theorem ok_l_szAnswer : FOk Tryz.prog 51 (F_l_szAnswer) := by
  let K := 0
  exact
  fok_of_run (T := t_l_szAnswer K) (H := h_l_szAnswer) (K := K) (c := c_l_szAnswer) (ts := [.tmp 4]) Tryz.func51 (by kernel_rfl) (by kernel_rfl) (by kernel_rfl) rfl
    (tok0 tys_ok) mixed
    (fun v => by kernel_rfl)

noncomputable def F_l_szAnswerS (K : Nat) : FSp := { ps := [.val false (.sl eAnswer) [.r], .val false (.i .i64) [.f]], rs := [(false, (.i .i64), [.f])], fn := fun v => l_szAnswerS K v.1 v.2.1 }
noncomputable def t_l_szAnswerS (K : Nat) : Tab := tabOf (tiOf tys) [(51, F_l_szAnswer)]
def h_l_szAnswerS : Hint := ⟨msk [3, 3, 2051, 18, 35, 32803, 35, 35, 33554467, 18, 18], fun _ _ => false⟩
noncomputable def c_l_szAnswerS : Code := Tryz.f69.body.getD .skip
noncomputable def l_szAnswerS.g0 (K : Nat) (a0 : List TAnswer) (a1 : Int) (n : Nat) (q0 : Int) (q1 : Int) : Option (Int × Unit) :=
  lpg (t_l_szAnswerS K) h_l_szAnswerS K c_l_szAnswerS [.r, .r, .r, .l, .r, .b] n ⟨[.one (.val .r (.sl eAnswer) a0), .one (.val .f (.i .i64) q0), .dead, .dead, .dead, .one (.val .f (.i .i64) q1)] ++ List.replicate 21 .dead, List.replicate 27 none⟩ (endK (t_l_szAnswerS K).toEnv (F_l_szAnswerS K) [.tmp 4])
theorem l_szAnswerS.ok0 (K : Nat) (a0 : List TAnswer) (a1 : Int) (n : Nat) : l_szAnswerS.g0 K a0 a1 n = l_szAnswerS.l0 K a0 a1 n := by
  induction n with
  | zero =>
    funext q0 q1
    kernel_rfl
  | succ n ih =>
    funext q0 q1
    have e : l_szAnswerS.g0 K a0 a1 (n + 1) q0 q1 = l_szAnswerS.l0b K a0 a1 (l_szAnswerS.g0 K a0 a1 n) q0 q1 := by kernel_rfl
    rw [ih] at e
    refine e.trans ?_
    kernel_rfl
theorem ok_l_szAnswerS (K : Nat) : FOk Tryz.prog 69 (F_l_szAnswerS K) :=
  fok_of_run (T := t_l_szAnswerS K) (H := h_l_szAnswerS) (K := K) (c := c_l_szAnswerS) (ts := [.tmp 4]) Tryz.func69 (by kernel_rfl) (by kernel_rfl) (by kernel_rfl) rfl
    (tokc (ok_l_szAnswer) (tok0 tys_ok)) mixed
    (fun v => by
    have k0 := l_szAnswerS.ok0 K v.1 v.2.1 K
    have e : run (t_l_szAnswerS K) h_l_szAnswerS K c_l_szAnswerS (initSt (F_l_szAnswerS K).pk (F_l_szAnswerS K).ps Tryz.f69.ntmps (lv _ v)) (endK (t_l_szAnswerS K).toEnv (F_l_szAnswerS K) [.tmp 4]) = l_szAnswerS.b K v.1 v.2.1 (l_szAnswerS.g0 K v.1 v.2.1 K) := by kernel_rfl
    rw [k0] at e
    refine e.trans ?_
    kernel_rfl)

noncomputable def F_l_szKeep (K : Nat) : FSp := { ps := [.val true eKeep [.r, .r, .r, .f, .r, .r], .val false (.i .i64) [.f]], rs := [(false, (.i .i64), [.f])], fn := fun v => l_szKeep K v.1 v.2.1 }
noncomputable def t_l_szKeep (K : Nat) : Tab := tabOf (tiOf tys) [(66, F_l_szRowS K), (67, F_l_szMakerS K), (68, F_l_szGroupS K), (12, F_l_szIntS), (69, F_l_szAnswerS K)]
def h_l_szKeep : Hint := ⟨msk [6, 6, 1030, 18, 6, 65542, 18, 6, 4194310, 18, 6, 268435462, 18, 2, 17179869186, 18, 18], fun _ _ => false⟩
noncomputable def c_l_szKeep : Code := Tryz.f48.body.getD .skip
theorem ok_l_szKeep (K : Nat) : FOk Tryz.prog 48 (F_l_szKeep K) :=
  fok_of_run (T := t_l_szKeep K) (H := h_l_szKeep) (K := K) (c := c_l_szKeep) (ts := [.tmp 4]) Tryz.func48 (by kernel_rfl) (by kernel_rfl) (by kernel_rfl) rfl
    (tokc (ok_l_szRowS K) (tokc (ok_l_szMakerS K) (tokc (ok_l_szGroupS K) (tokc (ok_l_szIntS) (tokc (ok_l_szAnswerS K) (tok0 tys_ok)))))) mixed
    (fun v => by kernel_rfl)

noncomputable def F_l_szHard (K : Nat) : FSp := { ps := [.val true eHard [.f, .f, .f, .f, .r, .r, .r, .r, .f, .r, .r], .val false (.i .i64) [.f]], rs := [(false, (.i .i64), [.f])], fn := fun v => l_szHard K v.1 v.2.1 }
noncomputable def t_l_szHard (K : Nat) : Tab := tabOf (tiOf tys) [(65, F_l_szLog K), (48, F_l_szKeep K)]
def h_l_szHard : Hint := ⟨msk [6, 6, 1030, 18, 2, 65538, 18, 18], fun _ _ => false⟩
noncomputable def c_l_szHard : Code := Tryz.f46.body.getD .skip
theorem ok_l_szHard (K : Nat) : FOk Tryz.prog 46 (F_l_szHard K) :=
  fok_of_run (T := t_l_szHard K) (H := h_l_szHard) (K := K) (c := c_l_szHard) (ts := [.tmp 4]) Tryz.func46 (by kernel_rfl) (by kernel_rfl) (by kernel_rfl) rfl
    (tokc (ok_l_szLog K) (tokc (ok_l_szKeep K) (tok0 tys_ok))) mixed
    (fun v => by kernel_rfl)

noncomputable def F_l_szBoolS : FSp := { ps := [.val false (.sl .b) [.r], .val false (.i .i64) [.f]], rs := [(false, (.i .i64), [.f])], fn := fun v => l_szBoolS v.1 v.2.1 }
noncomputable def t_l_szBoolS (K : Nat) : Tab := tabOf (tiOf tys) []
def h_l_szBoolS : Hint := ⟨msk [3, 2, 1026, 18, 18], fun _ _ => false⟩
noncomputable def c_l_szBoolS : Code := Tryz.f47.body.getD .skip
theorem ok_l_szBoolS : FOk Tryz.prog 47 (F_l_szBoolS) := by
  let K := 0
  exact
  fok_of_run (T := t_l_szBoolS K) (H := h_l_szBoolS) (K := K) (c := c_l_szBoolS) (ts := [.tmp 4]) Tryz.func47 (by kernel_rfl) (by kernel_rfl) (by kernel_rfl) rfl
    (tok0 tys_ok) mixed
    (fun v => by kernel_rfl)

noncomputable def F_l_szByteS : FSp := { ps := [.val false (.sl (.i .u8)) [.r], .val false (.i .i64) [.f]], rs := [(false, (.i .i64), [.f])], fn := fun v => l_szByteS v.1 v.2.1 }
noncomputable def t_l_szByteS (K : Nat) : Tab := tabOf (tiOf tys) []
def h_l_szByteS : Hint := ⟨msk [3, 2, 1026, 18, 18], fun _ _ => false⟩
noncomputable def c_l_szByteS : Code := Tryz.f70.body.getD .skip
theorem ok_l_szByteS : FOk Tryz.prog 70 (F_l_szByteS) := by
  let K := 0
  exact
  fok_of_run (T := t_l_szByteS K) (H := h_l_szByteS) (K := K) (c := c_l_szByteS) (ts := [.tmp 4]) Tryz.func70 (by kernel_rfl) (by kernel_rfl) (by kernel_rfl) rfl
    (tok0 tys_ok) mixed
    (fun v => by kernel_rfl)

noncomputable def F_l_szDisk : FSp := { ps := [.val true eDisk [.r, .f], .val false (.i .i64) [.f]], rs := [(false, (.i .i64), [.f])], fn := fun v => l_szDisk v.1 v.2.1 }
noncomputable def t_l_szDisk (K : Nat) : Tab := tabOf (tiOf tys) [(70, F_l_szByteS)]
def h_l_szDisk : Hint := ⟨msk [6, 2, 1026, 18, 18], fun _ _ => false⟩
noncomputable def c_l_szDisk : Code := Tryz.f49.body.getD .skip
theorem ok_l_szDisk : FOk Tryz.prog 49 (F_l_szDisk) := by
  let K := 0
  exact
  fok_of_run (T := t_l_szDisk K) (H := h_l_szDisk) (K := K) (c := c_l_szDisk) (ts := [.tmp 4]) Tryz.func49 (by kernel_rfl) (by kernel_rfl) (by kernel_rfl) rfl
    (tokc (ok_l_szByteS) (tok0 tys_ok)) mixed
    (fun v => by kernel_rfl)

noncomputable def F_l_szRpc (K : Nat) : FSp := { ps := [.val true eRpc [.f, .f, .f, .f, .f, .f, .f, .r, .f, .f], .val false (.i .i64) [.f]], rs := [(false, (.i .i64), [.f])], fn := fun v => l_szRpc K v.1 v.2.1 }
noncomputable def t_l_szRpc (K : Nat) : Tab := tabOf (tiOf tys) [(50, F_l_szEntryS K)]
def h_l_szRpc : Hint := ⟨msk [6, 6, 1030, 18, 2, 131074, 18, 18], fun _ _ => false⟩
noncomputable def c_l_szRpc : Code := Tryz.f31.body.getD .skip
theorem ok_l_szRpc (K : Nat) : FOk Tryz.prog 31 (F_l_szRpc K) :=
  fok_of_run (T := t_l_szRpc K) (H := h_l_szRpc) (K := K) (c := c_l_szRpc) (ts := [.tmp 4]) Tryz.func31 (by kernel_rfl) (by kernel_rfl) (by kernel_rfl) rfl
    (tokc (ok_l_szEntryS K) (tok0 tys_ok)) mixed
    (fun v => by kernel_rfl)

noncomputable def F_l_szRpcS (K : Nat) : FSp := { ps := [.val false (.sl eRpc) [.r], .val false (.i .i64) [.f]], rs := [(false, (.i .i64), [.f])], fn := fun v => l_szRpcS K v.1 v.2.1 }
noncomputable def t_l_szRpcS (K : Nat) : Tab := tabOf (tiOf tys) [(31, F_l_szRpc K)]
def h_l_szRpcS : Hint := ⟨msk [3, 3, 2051, 18, 35, 32803, 35, 35, 33554467, 18, 18], fun _ _ => false⟩
noncomputable def c_l_szRpcS : Code := Tryz.f10.body.getD .skip
noncomputable def l_szRpcS.g0 (K : Nat) (a0 : List TRpc) (a1 : Int) (n : Nat) (q0 : Int) (q1 : Int) : Option (Int × Unit) :=
  lpg (t_l_szRpcS K) h_l_szRpcS K c_l_szRpcS [.r, .r, .r, .l, .r, .b] n ⟨[.one (.val .r (.sl eRpc) a0), .one (.val .f (.i .i64) q0), .dead, .dead, .dead, .one (.val .f (.i .i64) q1)] ++ List.replicate 21 .dead, List.replicate 27 none⟩ (endK (t_l_szRpcS K).toEnv (F_l_szRpcS K) [.tmp 4])
theorem l_szRpcS.ok0 (K : Nat) (a0 : List TRpc) (a1 : Int) (n : Nat) : l_szRpcS.g0 K a0 a1 n = l_szRpcS.l0 K a0 a1 n := by
  induction n with
  | zero =>
    funext q0 q1
    kernel_rfl
  | succ n ih =>
    funext q0 q1
    have e : l_szRpcS.g0 K a0 a1 (n + 1) q0 q1 = l_szRpcS.l0b K a0 a1 (l_szRpcS.g0 K a0 a1 n) q0 q1 := by kernel_rfl
    rw [ih] at e
    refine e.trans ?_
    kernel_rfl
theorem ok_l_szRpcS (K : Nat) : FOk Tryz.prog 10 (F_l_szRpcS K) :=
  fok_of_run (T := t_l_szRpcS K) (H := h_l_szRpcS) (K := K) (c := c_l_szRpcS) (ts := [.tmp 4]) Tryz.func10 (by kernel_rfl) (by kernel_rfl) (by kernel_rfl) rfl
    (tokc (ok_l_szRpc K) (tok0 tys_ok)) mixed
    (fun v => by
    have k0 := l_szRpcS.ok0 K v.1 v.2.1 K
    have e : run (t_l_szRpcS K) h_l_szRpcS K c_l_szRpcS (initSt (F_l_szRpcS K).pk (F_l_szRpcS K).ps Tryz.f10.ntmps (lv _ v)) (endK (t_l_szRpcS K).toEnv (F_l_szRpcS K) [.tmp 4]) = l_szRpcS.b K v.1 v.2.1 (l_szRpcS.g0 K v.1 v.2.1 K) := by kernel_rfl
    rw [k0] at e
    refine e.trans ?_
    kernel_rfl)

noncomputable def F_l_szPeer (K : Nat) : FSp := { ps := [.val true ePeer [.f, .f, .f, .f, .f, .r, .r, .r, .r, .f, .r, .r, .f, .r, .r, .r, .f, .r, .r, .r, .f, .r, .r, .r, .f, .r], .val false (.i .i64) [.f]], rs := [(false, (.i .i64), [.f])], fn := fun v => l_szPeer K v.1 v.2.1 }
noncomputable def t_l_szPeer (K : Nat) : Tab := tabOf (tiOf tys) [(46, F_l_szHard K), (47, F_l_szBoolS), (12, F_l_szIntS), (48, F_l_szKeep K), (49, F_l_szDisk), (10, F_l_szRpcS K)]
def h_l_szPeer : Hint := ⟨msk [6, 6, 1030, 18, 6, 65542, 18, 6, 4194310, 18, 6, 268435462, 18, 6, 17179869190, 18, 6, 1099511627782, 18, 2, 70368744177666, 18, 18], fun _ _ => false⟩
noncomputable def c_l_szPeer : Code := Tryz.f30.body.getD .skip
theorem ok_l_szPeer (K : Nat) : FOk Tryz.prog 30 (F_l_szPeer K) :=
  fok_of_run (T := t_l_szPeer K) (H := h_l_szPeer) (K := K) (c := c_l_szPeer) (ts := [.tmp 4]) Tryz.func30 (by kernel_rfl) (by kernel_rfl) (by kernel_rfl) rfl
    (tokc (ok_l_szHard K) (tokc (ok_l_szBoolS) (tokc (ok_l_szIntS) (tokc (ok_l_szKeep K) (tokc (ok_l_szDisk) (tokc (ok_l_szRpcS K) (tok0 tys_ok))))))) mixed
    (fun v => by kernel_rfl)

noncomputable def F_l_szPeerS (K : Nat) : FSp := { ps := [.val false (.sl ePeer) [.r], .val false (.i .i64) [.f]], rs := [(false, (.i .i64), [.f])], fn := fun v => l_szPeerS K v.1 v.2.1 }
noncomputable def t_l_szPeerS (K : Nat) : Tab := tabOf (tiOf tys) [(30, F_l_szPeer K)]
def h_l_szPeerS : Hint := ⟨msk [3, 3, 2051, 18, 35, 32803, 35, 35, 33554467, 18, 18], fun _ _ => false⟩
noncomputable def c_l_szPeerS : Code := Tryz.f9.body.getD .skip
noncomputable def l_szPeerS.g0 (K : Nat) (a0 : List TPeer) (a1 : Int) (n : Nat) (q0 : Int) (q1 : Int) : Option (Int × Unit) :=
  lpg (t_l_szPeerS K) h_l_szPeerS K c_l_szPeerS [.r, .r, .r, .l, .r, .b] n ⟨[.one (.val .r (.sl ePeer) a0), .one (.val .f (.i .i64) q0), .dead, .dead, .dead, .one (.val .f (.i .i64) q1)] ++ List.replicate 21 .dead, List.replicate 27 none⟩ (endK (t_l_szPeerS K).toEnv (F_l_szPeerS K) [.tmp 4])
theorem l_szPeerS.ok0 (K : Nat) (a0 : List TPeer) (a1 : Int) (n : Nat) : l_szPeerS.g0 K a0 a1 n = l_szPeerS.l0 K a0 a1 n := by
  induction n with
  | zero =>
    funext q0 q1
    kernel_rfl
  | succ n ih =>
    funext q0 q1
    have e : l_szPeerS.g0 K a0 a1 (n + 1) q0 q1 = l_szPeerS.l0b K a0 a1 (l_szPeerS.g0 K a0 a1 n) q0 q1 := by kernel_rfl
    rw [ih] at e
    refine e.trans ?_
    kernel_rfl
theorem ok_l_szPeerS (K : Nat) : FOk Tryz.prog 9 (F_l_szPeerS K) :=
  fok_of_run (T := t_l_szPeerS K) (H := h_l_szPeerS) (K := K) (c := c_l_szPeerS) (ts := [.tmp 4]) Tryz.func9 (by kernel_rfl) (by kernel_rfl) (by kernel_rfl) rfl
    (tokc (ok_l_szPeer K) (tok0 tys_ok)) mixed
    (fun v => by
    have k0 := l_szPeerS.ok0 K v.1 v.2.1 K
    have e : run (t_l_szPeerS K) h_l_szPeerS K c_l_szPeerS (initSt (F_l_szPeerS K).pk (F_l_szPeerS K).ps Tryz.f9.ntmps (lv _ v)) (endK (t_l_szPeerS K).toEnv (F_l_szPeerS K) [.tmp 4]) = l_szPeerS.b K v.1 v.2.1 (l_szPeerS.g0 K v.1 v.2.1 K) := by kernel_rfl
    rw [k0] at e
    refine e.trans ?_
    kernel_rfl)

noncomputable def F_l_szCmdS (K : Nat) : FSp := { ps := [.val false (.sl eCmd) [.r], .val false (.i .i64) [.f]], rs := [(false, (.i .i64), [.f])], fn := fun v => l_szCmdS K v.1 v.2.1 }
noncomputable def t_l_szCmdS (K : Nat) : Tab := tabOf (tiOf tys) [(32, F_l_szCmd)]
def h_l_szCmdS : Hint := ⟨msk [3, 3, 2051, 18, 35, 32803, 35, 35, 33554467, 18, 18], fun _ _ => false⟩
noncomputable def c_l_szCmdS : Code := Tryz.f11.body.getD .skip
noncomputable def l_szCmdS.g0 (K : Nat) (a0 : List TCmd) (a1 : Int) (n : Nat) (q0 : Int) (q1 : Int) : Option (Int × Unit) :=
  lpg (t_l_szCmdS K) h_l_szCmdS K c_l_szCmdS [.r, .r, .r, .l, .r, .b] n ⟨[.one (.val .r (.sl eCmd) a0), .one (.val .f (.i .i64) q0), .dead, .dead, .dead, .one (.val .f (.i .i64) q1)] ++ List.replicate 21 .dead, List.replicate 27 none⟩ (endK (t_l_szCmdS K).toEnv (F_l_szCmdS K) [.tmp 4])
theorem l_szCmdS.ok0 (K : Nat) (a0 : List TCmd) (a1 : Int) (n : Nat) : l_szCmdS.g0 K a0 a1 n = l_szCmdS.l0 K a0 a1 n := by
  induction n with
  | zero =>
    funext q0 q1
    kernel_rfl
  | succ n ih =>
    funext q0 q1
    have e : l_szCmdS.g0 K a0 a1 (n + 1) q0 q1 = l_szCmdS.l0b K a0 a1 (l_szCmdS.g0 K a0 a1 n) q0 q1 := by kernel_rfl
    rw [ih] at e
    refine e.trans ?_
    kernel_rfl
theorem ok_l_szCmdS (K : Nat) : FOk Tryz.prog 11 (F_l_szCmdS K) :=
  fok_of_run (T := t_l_szCmdS K) (H := h_l_szCmdS) (K := K) (c := c_l_szCmdS) (ts := [.tmp 4]) Tryz.func11 (by kernel_rfl) (by kernel_rfl) (by kernel_rfl) rfl
    (tokc (ok_l_szCmd) (tok0 tys_ok)) mixed
    (fun v => by
    have k0 := l_szCmdS.ok0 K v.1 v.2.1 K
    have e : run (t_l_szCmdS K) h_l_szCmdS K c_l_szCmdS (initSt (F_l_szCmdS K).pk (F_l_szCmdS K).ps Tryz.f11.ntmps (lv _ v)) (endK (t_l_szCmdS K).toEnv (F_l_szCmdS K) [.tmp 4]) = l_szCmdS.b K v.1 v.2.1 (l_szCmdS.g0 K v.1 v.2.1 K) := by kernel_rfl
    rw [k0] at e
    refine e.trans ?_
    kernel_rfl)

noncomputable def F_l_szHeard : FSp := { ps := [.val true eHeard [.f, .f, .f, .f, .f, .f, .f, .f], .val false (.i .i64) [.f]], rs := [(false, (.i .i64), [.f])], fn := fun v => l_szHeard v.1 v.2.1 }
noncomputable def t_l_szHeard (K : Nat) : Tab := tabOf (tiOf tys) [(51, F_l_szAnswer)]
def h_l_szHeard : Hint := ⟨msk [6, 2, 1026, 18, 18], fun _ _ => false⟩
noncomputable def c_l_szHeard : Code := Tryz.f33.body.getD .skip
theorem ok_l_szHeard : FOk Tryz.prog 33 (F_l_szHeard) := by
  let K := 0
  exact
  fok_of_run (T := t_l_szHeard K) (H := h_l_szHeard) (K := K) (c := c_l_szHeard) (ts := [.tmp 4]) Tryz.func33 (by kernel_rfl) (by kernel_rfl) (by kernel_rfl) rfl
    (tokc (ok_l_szAnswer) (tok0 tys_ok)) mixed
    (fun v => by kernel_rfl)

noncomputable def F_l_szHeardS (K : Nat) : FSp := { ps := [.val false (.sl eHeard) [.r], .val false (.i .i64) [.f]], rs := [(false, (.i .i64), [.f])], fn := fun v => l_szHeardS K v.1 v.2.1 }
noncomputable def t_l_szHeardS (K : Nat) : Tab := tabOf (tiOf tys) [(33, F_l_szHeard)]
def h_l_szHeardS : Hint := ⟨msk [3, 3, 2051, 18, 35, 32803, 35, 35, 33554467, 18, 18], fun _ _ => false⟩
noncomputable def c_l_szHeardS : Code := Tryz.f13.body.getD .skip
noncomputable def l_szHeardS.g0 (K : Nat) (a0 : List THeard) (a1 : Int) (n : Nat) (q0 : Int) (q1 : Int) : Option (Int × Unit) :=
  lpg (t_l_szHeardS K) h_l_szHeardS K c_l_szHeardS [.r, .r, .r, .l, .r, .b] n ⟨[.one (.val .r (.sl eHeard) a0), .one (.val .f (.i .i64) q0), .dead, .dead, .dead, .one (.val .f (.i .i64) q1)] ++ List.replicate 21 .dead, List.replicate 27 none⟩ (endK (t_l_szHeardS K).toEnv (F_l_szHeardS K) [.tmp 4])
theorem l_szHeardS.ok0 (K : Nat) (a0 : List THeard) (a1 : Int) (n : Nat) : l_szHeardS.g0 K a0 a1 n = l_szHeardS.l0 K a0 a1 n := by
  induction n with
  | zero =>
    funext q0 q1
    kernel_rfl
  | succ n ih =>
    funext q0 q1
    have e : l_szHeardS.g0 K a0 a1 (n + 1) q0 q1 = l_szHeardS.l0b K a0 a1 (l_szHeardS.g0 K a0 a1 n) q0 q1 := by kernel_rfl
    rw [ih] at e
    refine e.trans ?_
    kernel_rfl
theorem ok_l_szHeardS (K : Nat) : FOk Tryz.prog 13 (F_l_szHeardS K) :=
  fok_of_run (T := t_l_szHeardS K) (H := h_l_szHeardS) (K := K) (c := c_l_szHeardS) (ts := [.tmp 4]) Tryz.func13 (by kernel_rfl) (by kernel_rfl) (by kernel_rfl) rfl
    (tokc (ok_l_szHeard) (tok0 tys_ok)) mixed
    (fun v => by
    have k0 := l_szHeardS.ok0 K v.1 v.2.1 K
    have e : run (t_l_szHeardS K) h_l_szHeardS K c_l_szHeardS (initSt (F_l_szHeardS K).pk (F_l_szHeardS K).ps Tryz.f13.ntmps (lv _ v)) (endK (t_l_szHeardS K).toEnv (F_l_szHeardS K) [.tmp 4]) = l_szHeardS.b K v.1 v.2.1 (l_szHeardS.g0 K v.1 v.2.1 K) := by kernel_rfl
    rw [k0] at e
    refine e.trans ?_
    kernel_rfl)

noncomputable def F_l_szWorld (K : Nat) : FSp := { ps := [.val true eWorld [.f, .f, .f, .f, .f, .r, .r, .r, .r, .r, .r], .val false (.i .i64) [.f]], rs := [(false, (.i .i64), [.f])], fn := fun v => l_szWorld K v.1 v.2.1 }
noncomputable def t_l_szWorld (K : Nat) : Tab := tabOf (tiOf tys) [(9, F_l_szPeerS K), (10, F_l_szRpcS K), (11, F_l_szCmdS K), (12, F_l_szIntS), (13, F_l_szHeardS K)]
def h_l_szWorld : Hint := ⟨msk [6, 6, 1030, 18, 6, 65542, 18, 6, 4194310, 18, 6, 268435462, 18, 6, 17179869190, 18, 2, 1099511627778, 18, 18], fun _ _ => false⟩
noncomputable def c_l_szWorld : Code := Tryz.f4.body.getD .skip
theorem ok_l_szWorld (K : Nat) : FOk Tryz.prog 4 (F_l_szWorld K) :=
  fok_of_run (T := t_l_szWorld K) (H := h_l_szWorld) (K := K) (c := c_l_szWorld) (ts := [.tmp 4]) Tryz.func4 (by kernel_rfl) (by kernel_rfl) (by kernel_rfl) rfl
    (tokc (ok_l_szPeerS K) (tokc (ok_l_szRpcS K) (tokc (ok_l_szCmdS K) (tokc (ok_l_szIntS) (tokc (ok_l_szHeardS K) (tok0 tys_ok)))))) mixed
    (fun v => by kernel_rfl)

noncomputable def F_l_toSetup : FSp := { ps := [.val true eSetup [.f, .f, .f, .f]], rs := [(true, eSetup, [.f, .f, .f, .f])], fn := fun v => l_toSetup v.1 }
noncomputable def t_l_toSetup (K : Nat) : Tab := tabOf (tiOf tys) []
def h_l_toSetup : Hint := ⟨msk [6, 14, 14, 14, 14, 12, 4], fun _ _ => false⟩
noncomputable def c_l_toSetup : Code := Tryz.f16.body.getD .skip
theorem ok_l_toSetup : FOk Tryz.prog 16 (F_l_toSetup) := by
  let K := 0
  exact
  fok_of_run (T := t_l_toSetup K) (H := h_l_toSetup) (K := K) (c := c_l_toSetup) (ts := [.cell 2 33]) Tryz.func16 (by kernel_rfl) (by kernel_rfl) (by kernel_rfl) rfl
    (tok0 tys_ok) mixed
    (fun v => by kernel_rfl)

noncomputable def F_l_toCmd : FSp := { ps := [.val true eCmd [.f, .f, .f, .f, .f, .f, .f, .f]], rs := [(true, eCmd, [.f, .f, .f, .f, .f, .f, .f, .f])], fn := fun v => l_toCmd v.1 }
noncomputable def t_l_toCmd (K : Nat) : Tab := tabOf (tiOf tys) []
def h_l_toCmd : Hint := ⟨msk [6, 14, 14, 14, 14, 14, 14, 14, 14, 12, 4], fun _ _ => false⟩
noncomputable def c_l_toCmd : Code := Tryz.f37.body.getD .skip
theorem ok_l_toCmd : FOk Tryz.prog 37 (F_l_toCmd) := by
  let K := 0
  exact
  fok_of_run (T := t_l_toCmd K) (H := h_l_toCmd) (K := K) (c := c_l_toCmd) (ts := [.cell 2 111]) Tryz.func37 (by kernel_rfl) (by kernel_rfl) (by kernel_rfl) rfl
    (tok0 tys_ok) mixed
    (fun v => by kernel_rfl)

noncomputable def F_l_toEntry : FSp := { ps := [.val true eEntry [.f, .f, .f, .f, .f, .f, .f, .f, .f]], rs := [(true, eEntry, [.f, .f, .f, .f, .f, .f, .f, .f, .f])], fn := fun v => l_toEntry v.1 }
noncomputable def t_l_toEntry (K : Nat) : Tab := tabOf (tiOf tys) [(37, F_l_toCmd)]
def h_l_toEntry : Hint := ⟨msk [6, 14, 14, 12, 4], fun _ _ => false⟩
noncomputable def c_l_toEntry : Code := Tryz.f78.body.getD .skip
theorem ok_l_toEntry : FOk Tryz.prog 78 (F_l_toEntry) := by
  let K := 0
  exact
  fok_of_run (T := t_l_toEntry K) (H := h_l_toEntry) (K := K) (c := c_l_toEntry) (ts := [.cell 2 131]) Tryz.func78 (by kernel_rfl) (by kernel_rfl) (by kernel_rfl) rfl
    (tokc (ok_l_toCmd) (tok0 tys_ok)) mixed
    (fun v => by kernel_rfl)

noncomputable def F_l_toEntryS (K : Nat) : FSp := { ps := [.val false (.sl eEntry) [.r]], rs := [(false, (.sl eEntry), [.x 0])], fn := fun v => l_toEntryS K v.1 }
noncomputable def t_l_toEntryS (K : Nat) : Tab := tabOf (tiOf tys) [(78, F_l_toEntry)]
def h_l_toEntryS : Hint := ⟨msk [1, 9, 25, 2073, 25, 25, 4], fun _ _ => false⟩
noncomputable def c_l_toEntryS : Code := Tryz.f56.body.getD .skip
noncomputable def l_toEntryS.g0 (K : Nat) (a0 : List TEntry) (n : Nat) (q0 : List TEntry) (q1 : Int) : Option ((List TEntry) × Unit) :=
  lpg (t_l_toEntryS K) h_l_toEntryS K c_l_toEntryS [.r, .r, .l, .r, .b] n ⟨[.one (.val .r (.sl eEntry) a0), .dead, .dead, .one (.val (.x 0) (.sl eEntry) q0), .one (.val .f (.i .i64) q1)] ++ List.replicate 18 .dead, List.replicate 23 none⟩ (endK (t_l_toEntryS K).toEnv (F_l_toEntryS K) [.tmp 2])
theorem l_toEntryS.ok0 (K : Nat) (a0 : List TEntry) (n : Nat) : l_toEntryS.g0 K a0 n = l_toEntryS.l0 K a0 n := by
  induction n with
  | zero =>
    funext q0 q1
    kernel_rfl
  | succ n ih =>
    funext q0 q1
    have e : l_toEntryS.g0 K a0 (n + 1) q0 q1 = l_toEntryS.l0b K a0 (l_toEntryS.g0 K a0 n) q0 q1 := by kernel_rfl
    rw [ih] at e
    refine e.trans ?_
    kernel_rfl
theorem ok_l_toEntryS (K : Nat) : FOk Tryz.prog 56 (F_l_toEntryS K) :=
  fok_of_run (T := t_l_toEntryS K) (H := h_l_toEntryS) (K := K) (c := c_l_toEntryS) (ts := [.tmp 2]) Tryz.func56 (by kernel_rfl) (by kernel_rfl) (by kernel_rfl) rfl
    (tokc (ok_l_toEntry) (tok0 tys_ok)) mixed
    (fun v => by
    have k0 := l_toEntryS.ok0 K v.1 K
    have e : run (t_l_toEntryS K) h_l_toEntryS K c_l_toEntryS (initSt (F_l_toEntryS K).pk (F_l_toEntryS K).ps Tryz.f56.ntmps (lv _ v)) (endK (t_l_toEntryS K).toEnv (F_l_toEntryS K) [.tmp 2]) = l_toEntryS.b K v.1 (l_toEntryS.g0 K v.1 K) := by kernel_rfl
    rw [k0] at e
    refine e.trans ?_
    kernel_rfl)

noncomputable def F_l_toLog (K : Nat) : FSp := { ps := [.val true eLog [.f, .f, .r]], rs := [(true, eLog, [.f, .f, .x 0])], fn := fun v => l_toLog K v.1 }
noncomputable def t_l_toLog (K : Nat) : Tab := tabOf (tiOf tys) [(56, F_l_toEntryS K)]
def h_l_toLog : Hint := ⟨msk [6, 14, 14, 14, 12, 4], fun _ _ => false⟩
noncomputable def c_l_toLog : Code := Tryz.f72.body.getD .skip
theorem ok_l_toLog (K : Nat) : FOk Tryz.prog 72 (F_l_toLog K) :=
  fok_of_run (T := t_l_toLog K) (H := h_l_toLog) (K := K) (c := c_l_toLog) (ts := [.cell 2 52]) Tryz.func72 (by kernel_rfl) (by kernel_rfl) (by kernel_rfl) rfl
    (tokc (ok_l_toEntryS K) (tok0 tys_ok)) mixed
    (fun v => by kernel_rfl)

noncomputable def F_l_toItem : FSp := { ps := [.val true eItem [.f, .f, .f, .f, .f]], rs := [(true, eItem, [.f, .f, .f, .f, .f])], fn := fun v => l_toItem v.1 }
noncomputable def t_l_toItem (K : Nat) : Tab := tabOf (tiOf tys) []
def h_l_toItem : Hint := ⟨msk [6, 14, 14, 14, 14, 14, 12, 4], fun _ _ => false⟩
noncomputable def c_l_toItem : Code := Tryz.f112.body.getD .skip
theorem ok_l_toItem : FOk Tryz.prog 112 (F_l_toItem) := by
  let K := 0
  exact
  fok_of_run (T := t_l_toItem K) (H := h_l_toItem) (K := K) (c := c_l_toItem) (ts := [.cell 2 215]) Tryz.func112 (by kernel_rfl) (by kernel_rfl) (by kernel_rfl) rfl
    (tok0 tys_ok) mixed
    (fun v => by kernel_rfl)

noncomputable def F_l_toItemS (K : Nat) : FSp := { ps := [.val false (.sl eItem) [.r]], rs := [(false, (.sl eItem), [.x 0])], fn := fun v => l_toItemS K v.1 }
noncomputable def t_l_toItemS (K : Nat) : Tab := tabOf (tiOf tys) [(112, F_l_toItem)]
def h_l_toItemS : Hint := ⟨msk [1, 9, 25, 2073, 25, 25, 4], fun _ _ => false⟩
noncomputable def c_l_toItemS : Code := Tryz.f102.body.getD .skip
noncomputable def l_toItemS.g0 (K : Nat) (a0 : List TItem) (n : Nat) (q0 : List TItem) (q1 : Int) : Option ((List TItem) × Unit) :=
  lpg (t_l_toItemS K) h_l_toItemS K c_l_toItemS [.r, .r, .l, .r, .b] n ⟨[.one (.val .r (.sl eItem) a0), .dead, .dead, .one (.val (.x 0) (.sl eItem) q0), .one (.val .f (.i .i64) q1)] ++ List.replicate 18 .dead, List.replicate 23 none⟩ (endK (t_l_toItemS K).toEnv (F_l_toItemS K) [.tmp 2])
theorem l_toItemS.ok0 (K : Nat) (a0 : List TItem) (n : Nat) : l_toItemS.g0 K a0 n = l_toItemS.l0 K a0 n := by
  induction n with
  | zero =>
    funext q0 q1
    kernel_rfl
  | succ n ih =>
    funext q0 q1
    have e : l_toItemS.g0 K a0 (n + 1) q0 q1 = l_toItemS.l0b K a0 (l_toItemS.g0 K a0 n) q0 q1 := by kernel_rfl
    rw [ih] at e
    refine e.trans ?_
    kernel_rfl
theorem ok_l_toItemS (K : Nat) : FOk Tryz.prog 102 (F_l_toItemS K) :=
  fok_of_run (T := t_l_toItemS K) (H := h_l_toItemS) (K := K) (c := c_l_toItemS) (ts := [.tmp 2]) Tryz.func102 (by kernel_rfl) (by kernel_rfl) (by kernel_rfl) rfl
    (tokc (ok_l_toItem) (tok0 tys_ok)) mixed
    (fun v => by
    have k0 := l_toItemS.ok0 K v.1 K
    have e : run (t_l_toItemS K) h_l_toItemS K c_l_toItemS (initSt (F_l_toItemS K).pk (F_l_toItemS K).ps Tryz.f102.ntmps (lv _ v)) (endK (t_l_toItemS K).toEnv (F_l_toItemS K) [.tmp 2]) = l_toItemS.b K v.1 (l_toItemS.g0 K v.1 K) := by kernel_rfl
    rw [k0] at e
    refine e.trans ?_
    kernel_rfl)

noncomputable def F_l_toRow (K : Nat) : FSp := { ps := [.val true eRow [.f, .f, .r]], rs := [(true, eRow, [.f, .f, .x 0])], fn := fun v => l_toRow K v.1 }
noncomputable def t_l_toRow (K : Nat) : Tab := tabOf (tiOf tys) [(102, F_l_toItemS K)]
def h_l_toRow : Hint := ⟨msk [6, 14, 14, 14, 12, 4], fun _ _ => false⟩
noncomputable def c_l_toRow : Code := Tryz.f90.body.getD .skip
theorem ok_l_toRow (K : Nat) : FOk Tryz.prog 90 (F_l_toRow K) :=
  fok_of_run (T := t_l_toRow K) (H := h_l_toRow) (K := K) (c := c_l_toRow) (ts := [.cell 2 181]) Tryz.func90 (by kernel_rfl) (by kernel_rfl) (by kernel_rfl) rfl
    (tokc (ok_l_toItemS K) (tok0 tys_ok)) mixed
    (fun v => by kernel_rfl)

noncomputable def F_l_toRowS (K : Nat) : FSp := { ps := [.val false (.sl eRow) [.r]], rs := [(false, (.sl eRow), [.x 0])], fn := fun v => l_toRowS K v.1 }
noncomputable def t_l_toRowS (K : Nat) : Tab := tabOf (tiOf tys) [(90, F_l_toRow K)]
def h_l_toRowS : Hint := ⟨msk [1, 9, 25, 2073, 25, 25, 4], fun _ _ => false⟩
noncomputable def c_l_toRowS : Code := Tryz.f73.body.getD .skip
noncomputable def l_toRowS.g0 (K : Nat) (a0 : List TRow) (n : Nat) (q0 : List TRow) (q1 : Int) : Option ((List TRow) × Unit) :=
  lpg (t_l_toRowS K) h_l_toRowS K c_l_toRowS [.r, .r, .l, .r, .b] n ⟨[.one (.val .r (.sl eRow) a0), .dead, .dead, .one (.val (.x 0) (.sl eRow) q0), .one (.val .f (.i .i64) q1)] ++ List.replicate 18 .dead, List.replicate 23 none⟩ (endK (t_l_toRowS K).toEnv (F_l_toRowS K) [.tmp 2])
theorem l_toRowS.ok0 (K : Nat) (a0 : List TRow) (n : Nat) : l_toRowS.g0 K a0 n = l_toRowS.l0 K a0 n := by
  induction n with
  | zero =>
    funext q0 q1
    kernel_rfl
  | succ n ih =>
    funext q0 q1
    have e : l_toRowS.g0 K a0 (n + 1) q0 q1 = l_toRowS.l0b K a0 (l_toRowS.g0 K a0 n) q0 q1 := by kernel_rfl
    rw [ih] at e
    refine e.trans ?_
    kernel_rfl
theorem ok_l_toRowS (K : Nat) : FOk Tryz.prog 73 (F_l_toRowS K) :=
  fok_of_run (T := t_l_toRowS K) (H := h_l_toRowS) (K := K) (c := c_l_toRowS) (ts := [.tmp 2]) Tryz.func73 (by kernel_rfl) (by kernel_rfl) (by kernel_rfl) rfl
    (tokc (ok_l_toRow K) (tok0 tys_ok)) mixed
    (fun v => by
    have k0 := l_toRowS.ok0 K v.1 K
    have e : run (t_l_toRowS K) h_l_toRowS K c_l_toRowS (initSt (F_l_toRowS K).pk (F_l_toRowS K).ps Tryz.f73.ntmps (lv _ v)) (endK (t_l_toRowS K).toEnv (F_l_toRowS K) [.tmp 2]) = l_toRowS.b K v.1 (l_toRowS.g0 K v.1 K) := by kernel_rfl
    rw [k0] at e
    refine e.trans ?_
    kernel_rfl)

noncomputable def F_l_toMark : FSp := { ps := [.val true eMark [.f, .f]], rs := [(true, eMark, [.f, .f])], fn := fun v => l_toMark v.1 }
noncomputable def t_l_toMark (K : Nat) : Tab := tabOf (tiOf tys) []
def h_l_toMark : Hint := ⟨msk [6, 14, 14, 12, 4], fun _ _ => false⟩
noncomputable def c_l_toMark : Code := Tryz.f113.body.getD .skip
theorem ok_l_toMark : FOk Tryz.prog 113 (F_l_toMark) := by
  let K := 0
  exact
  fok_of_run (T := t_l_toMark K) (H := h_l_toMark) (K := K) (c := c_l_toMark) (ts := [.cell 2 218]) Tryz.func113 (by kernel_rfl) (by kernel_rfl) (by kernel_rfl) rfl
    (tok0 tys_ok) mixed
    (fun v => by kernel_rfl)

noncomputable def F_l_toMarkS (K : Nat) : FSp := { ps := [.val false (.sl eMark) [.r]], rs := [(false, (.sl eMark), [.x 0])], fn := fun v => l_toMarkS K v.1 }
noncomputable def t_l_toMarkS (K : Nat) : Tab := tabOf (tiOf tys) [(113, F_l_toMark)]
def h_l_toMarkS : Hint := ⟨msk [1, 9, 25, 2073, 25, 25, 4], fun _ _ => false⟩
noncomputable def c_l_toMarkS : Code := Tryz.f103.body.getD .skip
noncomputable def l_toMarkS.g0 (K : Nat) (a0 : List TMark) (n : Nat) (q0 : List TMark) (q1 : Int) : Option ((List TMark) × Unit) :=
  lpg (t_l_toMarkS K) h_l_toMarkS K c_l_toMarkS [.r, .r, .l, .r, .b] n ⟨[.one (.val .r (.sl eMark) a0), .dead, .dead, .one (.val (.x 0) (.sl eMark) q0), .one (.val .f (.i .i64) q1)] ++ List.replicate 18 .dead, List.replicate 23 none⟩ (endK (t_l_toMarkS K).toEnv (F_l_toMarkS K) [.tmp 2])
theorem l_toMarkS.ok0 (K : Nat) (a0 : List TMark) (n : Nat) : l_toMarkS.g0 K a0 n = l_toMarkS.l0 K a0 n := by
  induction n with
  | zero =>
    funext q0 q1
    kernel_rfl
  | succ n ih =>
    funext q0 q1
    have e : l_toMarkS.g0 K a0 (n + 1) q0 q1 = l_toMarkS.l0b K a0 (l_toMarkS.g0 K a0 n) q0 q1 := by kernel_rfl
    rw [ih] at e
    refine e.trans ?_
    kernel_rfl
theorem ok_l_toMarkS (K : Nat) : FOk Tryz.prog 103 (F_l_toMarkS K) :=
  fok_of_run (T := t_l_toMarkS K) (H := h_l_toMarkS) (K := K) (c := c_l_toMarkS) (ts := [.tmp 2]) Tryz.func103 (by kernel_rfl) (by kernel_rfl) (by kernel_rfl) rfl
    (tokc (ok_l_toMark) (tok0 tys_ok)) mixed
    (fun v => by
    have k0 := l_toMarkS.ok0 K v.1 K
    have e : run (t_l_toMarkS K) h_l_toMarkS K c_l_toMarkS (initSt (F_l_toMarkS K).pk (F_l_toMarkS K).ps Tryz.f103.ntmps (lv _ v)) (endK (t_l_toMarkS K).toEnv (F_l_toMarkS K) [.tmp 2]) = l_toMarkS.b K v.1 (l_toMarkS.g0 K v.1 K) := by kernel_rfl
    rw [k0] at e
    refine e.trans ?_
    kernel_rfl)

noncomputable def F_l_toMaker (K : Nat) : FSp := { ps := [.val true eMaker [.f, .f, .f, .f, .r]], rs := [(true, eMaker, [.f, .f, .f, .f, .x 0])], fn := fun v => l_toMaker K v.1 }
noncomputable def t_l_toMaker (K : Nat) : Tab := tabOf (tiOf tys) [(103, F_l_toMarkS K)]
def h_l_toMaker : Hint := ⟨msk [6, 14, 14, 14, 14, 14, 12, 4], fun _ _ => false⟩
noncomputable def c_l_toMaker : Code := Tryz.f91.body.getD .skip
theorem ok_l_toMaker (K : Nat) : FOk Tryz.prog 91 (F_l_toMaker K) :=
  fok_of_run (T := t_l_toMaker K) (H := h_l_toMaker) (K := K) (c := c_l_toMaker) (ts := [.cell 2 185]) Tryz.func91 (by kernel_rfl) (by kernel_rfl) (by kernel_rfl) rfl
    (tokc (ok_l_toMarkS K) (tok0 tys_ok)) mixed
    (fun v => by kernel_rfl)

noncomputable def F_l_toMakerS (K : Nat) : FSp := { ps := [.val false (.sl eMaker) [.r]], rs := [(false, (.sl eMaker), [.x 0])], fn := fun v => l_toMakerS K v.1 }
noncomputable def t_l_toMakerS (K : Nat) : Tab := tabOf (tiOf tys) [(91, F_l_toMaker K)]
def h_l_toMakerS : Hint := ⟨msk [1, 9, 25, 2073, 25, 25, 4], fun _ _ => false⟩
noncomputable def c_l_toMakerS : Code := Tryz.f74.body.getD .skip
noncomputable def l_toMakerS.g0 (K : Nat) (a0 : List TMaker) (n : Nat) (q0 : List TMaker) (q1 : Int) : Option ((List TMaker) × Unit) :=
  lpg (t_l_toMakerS K) h_l_toMakerS K c_l_toMakerS [.r, .r, .l, .r, .b] n ⟨[.one (.val .r (.sl eMaker) a0), .dead, .dead, .one (.val (.x 0) (.sl eMaker) q0), .one (.val .f (.i .i64) q1)] ++ List.replicate 18 .dead, List.replicate 23 none⟩ (endK (t_l_toMakerS K).toEnv (F_l_toMakerS K) [.tmp 2])
theorem l_toMakerS.ok0 (K : Nat) (a0 : List TMaker) (n : Nat) : l_toMakerS.g0 K a0 n = l_toMakerS.l0 K a0 n := by
  induction n with
  | zero =>
    funext q0 q1
    kernel_rfl
  | succ n ih =>
    funext q0 q1
    have e : l_toMakerS.g0 K a0 (n + 1) q0 q1 = l_toMakerS.l0b K a0 (l_toMakerS.g0 K a0 n) q0 q1 := by kernel_rfl
    rw [ih] at e
    refine e.trans ?_
    kernel_rfl
theorem ok_l_toMakerS (K : Nat) : FOk Tryz.prog 74 (F_l_toMakerS K) :=
  fok_of_run (T := t_l_toMakerS K) (H := h_l_toMakerS) (K := K) (c := c_l_toMakerS) (ts := [.tmp 2]) Tryz.func74 (by kernel_rfl) (by kernel_rfl) (by kernel_rfl) rfl
    (tokc (ok_l_toMaker K) (tok0 tys_ok)) mixed
    (fun v => by
    have k0 := l_toMakerS.ok0 K v.1 K
    have e : run (t_l_toMakerS K) h_l_toMakerS K c_l_toMakerS (initSt (F_l_toMakerS K).pk (F_l_toMakerS K).ps Tryz.f74.ntmps (lv _ v)) (endK (t_l_toMakerS K).toEnv (F_l_toMakerS K) [.tmp 2]) = l_toMakerS.b K v.1 (l_toMakerS.g0 K v.1 K) := by kernel_rfl
    rw [k0] at e
    refine e.trans ?_
    kernel_rfl)

noncomputable def F_l_toIntS (K : Nat) : FSp := { ps := [.val false (.sl (.i .i64)) [.r]], rs := [(false, (.sl (.i .i64)), [.x 0])], fn := fun v => l_toIntS K v.1 }
noncomputable def t_l_toIntS (K : Nat) : Tab := tabOf (tiOf tys) []
def h_l_toIntS : Hint := ⟨msk [1, 9, 25, 2073, 25, 25, 4], fun _ _ => false⟩
noncomputable def c_l_toIntS : Code := Tryz.f20.body.getD .skip
noncomputable def l_toIntS.g0 (K : Nat) (a0 : List Int) (n : Nat) (q0 : List Int) (q1 : Int) : Option ((List Int) × Unit) :=
  lpg (t_l_toIntS K) h_l_toIntS K c_l_toIntS [.r, .r, .l, .r, .b] n ⟨[.one (.val .r (.sl (.i .i64)) a0), .dead, .dead, .one (.val (.x 0) (.sl (.i .i64)) q0), .one (.val .f (.i .i64) q1)] ++ List.replicate 17 .dead, List.replicate 22 none⟩ (endK (t_l_toIntS K).toEnv (F_l_toIntS K) [.tmp 2])
theorem l_toIntS.ok0 (K : Nat) (a0 : List Int) (n : Nat) : l_toIntS.g0 K a0 n = l_toIntS.l0 K a0 n := by
  induction n with
  | zero =>
    funext q0 q1
    kernel_rfl
  | succ n ih =>
    funext q0 q1
    have e : l_toIntS.g0 K a0 (n + 1) q0 q1 = l_toIntS.l0b K a0 (l_toIntS.g0 K a0 n) q0 q1 := by kernel_rfl
    rw [ih] at e
    refine e.trans ?_
    kernel_rfl
theorem ok_l_toIntS (K : Nat) : FOk Tryz.prog 20 (F_l_toIntS K) :=
  fok_of_run (T := t_l_toIntS K) (H := h_l_toIntS) (K := K) (c := c_l_toIntS) (ts := [.tmp 2]) Tryz.func20 (by kernel_rfl) (by kernel_rfl) (by kernel_rfl) rfl
    (tok0 tys_ok) mixed
    (fun v => by
    have k0 := l_toIntS.ok0 K v.1 K
    have e : run (t_l_toIntS K) h_l_toIntS K c_l_toIntS (initSt (F_l_toIntS K).pk (F_l_toIntS K).ps Tryz.f20.ntmps (lv _ v)) (endK (t_l_toIntS K).toEnv (F_l_toIntS K) [.tmp 2]) = l_toIntS.b K v.1 (l_toIntS.g0 K v.1 K) := by kernel_rfl
    rw [k0] at e
    refine e.trans ?_
    kernel_rfl)

noncomputable def F_l_toGroup (K : Nat) : FSp := { ps := [.val true eGroup [.f, .r, .r, .r]], rs := [(true, eGroup, [.f, .x 0, .x 0, .x 0])], fn := fun v => l_toGroup K v.1 }
noncomputable def t_l_toGroup (K : Nat) : Tab := tabOf (tiOf tys) [(20, F_l_toIntS K)]
def h_l_toGroup : Hint := ⟨msk [6, 14, 14, 14, 14, 12, 4], fun _ _ => false⟩
noncomputable def c_l_toGroup : Code := Tryz.f92.body.getD .skip
theorem ok_l_toGroup (K : Nat) : FOk Tryz.prog 92 (F_l_toGroup K) :=
  fok_of_run (T := t_l_toGroup K) (H := h_l_toGroup) (K := K) (c := c_l_toGroup) (ts := [.cell 2 187]) Tryz.func92 (by kernel_rfl) (by kernel_rfl) (by kernel_rfl) rfl
    (tokc (ok_l_toIntS K) (tok0 tys_ok)) mixed
    (fun v => by kernel_rfl)

noncomputable def F_l_toGroupS (K : Nat) : FSp := { ps := [.val false (.sl eGroup) [.r]], rs := [(false, (.sl eGroup), [.x 0])], fn := fun v => l_toGroupS K v.1 }
noncomputable def t_l_toGroupS (K : Nat) : Tab := tabOf (tiOf tys) [(92, F_l_toGroup K)]
def h_l_toGroupS : Hint := ⟨msk [1, 9, 25, 2073, 25, 25, 4], fun _ _ => false⟩
noncomputable def c_l_toGroupS : Code := Tryz.f75.body.getD .skip
noncomputable def l_toGroupS.g0 (K : Nat) (a0 : List TGroup) (n : Nat) (q0 : List TGroup) (q1 : Int) : Option ((List TGroup) × Unit) :=
  lpg (t_l_toGroupS K) h_l_toGroupS K c_l_toGroupS [.r, .r, .l, .r, .b] n ⟨[.one (.val .r (.sl eGroup) a0), .dead, .dead, .one (.val (.x 0) (.sl eGroup) q0), .one (.val .f (.i .i64) q1)] ++ List.replicate 18 .dead, List.replicate 23 none⟩ (endK (t_l_toGroupS K).toEnv (F_l_toGroupS K) [.tmp 2])
theorem l_toGroupS.ok0 (K : Nat) (a0 : List TGroup) (n : Nat) : l_toGroupS.g0 K a0 n = l_toGroupS.l0 K a0 n := by
  induction n with
  | zero =>
    funext q0 q1
    kernel_rfl
  | succ n ih =>
    funext q0 q1
    have e : l_toGroupS.g0 K a0 (n + 1) q0 q1 = l_toGroupS.l0b K a0 (l_toGroupS.g0 K a0 n) q0 q1 := by kernel_rfl
    rw [ih] at e
    refine e.trans ?_
    kernel_rfl
theorem ok_l_toGroupS (K : Nat) : FOk Tryz.prog 75 (F_l_toGroupS K) :=
  fok_of_run (T := t_l_toGroupS K) (H := h_l_toGroupS) (K := K) (c := c_l_toGroupS) (ts := [.tmp 2]) Tryz.func75 (by kernel_rfl) (by kernel_rfl) (by kernel_rfl) rfl
    (tokc (ok_l_toGroup K) (tok0 tys_ok)) mixed
    (fun v => by
    have k0 := l_toGroupS.ok0 K v.1 K
    have e : run (t_l_toGroupS K) h_l_toGroupS K c_l_toGroupS (initSt (F_l_toGroupS K).pk (F_l_toGroupS K).ps Tryz.f75.ntmps (lv _ v)) (endK (t_l_toGroupS K).toEnv (F_l_toGroupS K) [.tmp 2]) = l_toGroupS.b K v.1 (l_toGroupS.g0 K v.1 K) := by kernel_rfl
    rw [k0] at e
    refine e.trans ?_
    kernel_rfl)

noncomputable def F_l_toAnswer : FSp := { ps := [.val true eAnswer [.f, .f, .f, .f]], rs := [(true, eAnswer, [.f, .f, .f, .f])], fn := fun v => l_toAnswer v.1 }
noncomputable def t_l_toAnswer (K : Nat) : Tab := tabOf (tiOf tys) []
def h_l_toAnswer : Hint := ⟨msk [6, 14, 14, 14, 14, 12, 4], fun _ _ => false⟩
noncomputable def c_l_toAnswer : Code := Tryz.f57.body.getD .skip
theorem ok_l_toAnswer : FOk Tryz.prog 57 (F_l_toAnswer) := by
  let K := 0
  exact
  fok_of_run (T := t_l_toAnswer K) (H := h_l_toAnswer) (K := K) (c := c_l_toAnswer) (ts := [.cell 2 113]) Tryz.func57 (by kernel_rfl) (by kernel_rfl) (by kernel_rfl) rfl
    (tok0 tys_ok) mixed
    (fun v => by kernel_rfl)

noncomputable def F_l_toAnswerS (K : Nat) : FSp := { ps := [.val false (.sl eAnswer) [.r]], rs := [(false, (.sl eAnswer), [.x 0])], fn := fun v => l_toAnswerS K v.1 }
noncomputable def t_l_toAnswerS (K : Nat) : Tab := tabOf (tiOf tys) [(57, F_l_toAnswer)]
def h_l_toAnswerS : Hint := ⟨msk [1, 9, 25, 2073, 25, 25, 4], fun _ _ => false⟩
noncomputable def c_l_toAnswerS : Code := Tryz.f76.body.getD .skip
noncomputable def l_toAnswerS.g0 (K : Nat) (a0 : List TAnswer) (n : Nat) (q0 : List TAnswer) (q1 : Int) : Option ((List TAnswer) × Unit) :=
  lpg (t_l_toAnswerS K) h_l_toAnswerS K c_l_toAnswerS [.r, .r, .l, .r, .b] n ⟨[.one (.val .r (.sl eAnswer) a0), .dead, .dead, .one (.val (.x 0) (.sl eAnswer) q0), .one (.val .f (.i .i64) q1)] ++ List.replicate 18 .dead, List.replicate 23 none⟩ (endK (t_l_toAnswerS K).toEnv (F_l_toAnswerS K) [.tmp 2])
theorem l_toAnswerS.ok0 (K : Nat) (a0 : List TAnswer) (n : Nat) : l_toAnswerS.g0 K a0 n = l_toAnswerS.l0 K a0 n := by
  induction n with
  | zero =>
    funext q0 q1
    kernel_rfl
  | succ n ih =>
    funext q0 q1
    have e : l_toAnswerS.g0 K a0 (n + 1) q0 q1 = l_toAnswerS.l0b K a0 (l_toAnswerS.g0 K a0 n) q0 q1 := by kernel_rfl
    rw [ih] at e
    refine e.trans ?_
    kernel_rfl
theorem ok_l_toAnswerS (K : Nat) : FOk Tryz.prog 76 (F_l_toAnswerS K) :=
  fok_of_run (T := t_l_toAnswerS K) (H := h_l_toAnswerS) (K := K) (c := c_l_toAnswerS) (ts := [.tmp 2]) Tryz.func76 (by kernel_rfl) (by kernel_rfl) (by kernel_rfl) rfl
    (tokc (ok_l_toAnswer) (tok0 tys_ok)) mixed
    (fun v => by
    have k0 := l_toAnswerS.ok0 K v.1 K
    have e : run (t_l_toAnswerS K) h_l_toAnswerS K c_l_toAnswerS (initSt (F_l_toAnswerS K).pk (F_l_toAnswerS K).ps Tryz.f76.ntmps (lv _ v)) (endK (t_l_toAnswerS K).toEnv (F_l_toAnswerS K) [.tmp 2]) = l_toAnswerS.b K v.1 (l_toAnswerS.g0 K v.1 K) := by kernel_rfl
    rw [k0] at e
    refine e.trans ?_
    kernel_rfl)

noncomputable def F_l_toKeep (K : Nat) : FSp := { ps := [.val true eKeep [.r, .r, .r, .f, .r, .r]], rs := [(true, eKeep, [.x 0, .x 0, .x 0, .f, .x 0, .x 0])], fn := fun v => l_toKeep K v.1 }
noncomputable def t_l_toKeep (K : Nat) : Tab := tabOf (tiOf tys) [(73, F_l_toRowS K), (74, F_l_toMakerS K), (75, F_l_toGroupS K), (20, F_l_toIntS K), (76, F_l_toAnswerS K)]
def h_l_toKeep : Hint := ⟨msk [6, 14, 14, 14, 14, 14, 14, 12, 4], fun _ _ => false⟩
noncomputable def c_l_toKeep : Code := Tryz.f54.body.getD .skip
theorem ok_l_toKeep (K : Nat) : FOk Tryz.prog 54 (F_l_toKeep K) :=
  fok_of_run (T := t_l_toKeep K) (H := h_l_toKeep) (K := K) (c := c_l_toKeep) (ts := [.cell 2 58]) Tryz.func54 (by kernel_rfl) (by kernel_rfl) (by kernel_rfl) rfl
    (tokc (ok_l_toRowS K) (tokc (ok_l_toMakerS K) (tokc (ok_l_toGroupS K) (tokc (ok_l_toIntS K) (tokc (ok_l_toAnswerS K) (tok0 tys_ok)))))) mixed
    (fun v => by kernel_rfl)

noncomputable def F_l_toHard (K : Nat) : FSp := { ps := [.val true eHard [.f, .f, .f, .f, .r, .r, .r, .r, .f, .r, .r]], rs := [(true, eHard, [.f, .f, .f, .f, .x 0, .x 0, .x 0, .x 0, .f, .x 0, .x 0])], fn := fun v => l_toHard K v.1 }
noncomputable def t_l_toHard (K : Nat) : Tab := tabOf (tiOf tys) [(72, F_l_toLog K), (54, F_l_toKeep K)]
def h_l_toHard : Hint := ⟨msk [6, 14, 14, 14, 14, 12, 4], fun _ _ => false⟩
noncomputable def c_l_toHard : Code := Tryz.f52.body.getD .skip
theorem ok_l_toHard (K : Nat) : FOk Tryz.prog 52 (F_l_toHard K) :=
  fok_of_run (T := t_l_toHard K) (H := h_l_toHard) (K := K) (c := c_l_toHard) (ts := [.cell 2 60]) Tryz.func52 (by kernel_rfl) (by kernel_rfl) (by kernel_rfl) rfl
    (tokc (ok_l_toLog K) (tokc (ok_l_toKeep K) (tok0 tys_ok))) mixed
    (fun v => by kernel_rfl)

noncomputable def F_l_toBoolS (K : Nat) : FSp := { ps := [.val false (.sl .b) [.r]], rs := [(false, (.sl .b), [.x 0])], fn := fun v => l_toBoolS K v.1 }
noncomputable def t_l_toBoolS (K : Nat) : Tab := tabOf (tiOf tys) []
def h_l_toBoolS : Hint := ⟨msk [1, 9, 25, 2073, 25, 25, 4], fun _ _ => false⟩
noncomputable def c_l_toBoolS : Code := Tryz.f53.body.getD .skip
noncomputable def l_toBoolS.g0 (K : Nat) (a0 : List Bool) (n : Nat) (q0 : List Bool) (q1 : Int) : Option ((List Bool) × Unit) :=
  lpg (t_l_toBoolS K) h_l_toBoolS K c_l_toBoolS [.r, .r, .l, .r, .b] n ⟨[.one (.val .r (.sl .b) a0), .dead, .dead, .one (.val (.x 0) (.sl .b) q0), .one (.val .f (.i .i64) q1)] ++ List.replicate 17 .dead, List.replicate 22 none⟩ (endK (t_l_toBoolS K).toEnv (F_l_toBoolS K) [.tmp 2])
theorem l_toBoolS.ok0 (K : Nat) (a0 : List Bool) (n : Nat) : l_toBoolS.g0 K a0 n = l_toBoolS.l0 K a0 n := by
  induction n with
  | zero =>
    funext q0 q1
    kernel_rfl
  | succ n ih =>
    funext q0 q1
    have e : l_toBoolS.g0 K a0 (n + 1) q0 q1 = l_toBoolS.l0b K a0 (l_toBoolS.g0 K a0 n) q0 q1 := by kernel_rfl
    rw [ih] at e
    refine e.trans ?_
    kernel_rfl
theorem ok_l_toBoolS (K : Nat) : FOk Tryz.prog 53 (F_l_toBoolS K) :=
  fok_of_run (T := t_l_toBoolS K) (H := h_l_toBoolS) (K := K) (c := c_l_toBoolS) (ts := [.tmp 2]) Tryz.func53 (by kernel_rfl) (by kernel_rfl) (by kernel_rfl) rfl
    (tok0 tys_ok) mixed
    (fun v => by
    have k0 := l_toBoolS.ok0 K v.1 K
    have e : run (t_l_toBoolS K) h_l_toBoolS K c_l_toBoolS (initSt (F_l_toBoolS K).pk (F_l_toBoolS K).ps Tryz.f53.ntmps (lv _ v)) (endK (t_l_toBoolS K).toEnv (F_l_toBoolS K) [.tmp 2]) = l_toBoolS.b K v.1 (l_toBoolS.g0 K v.1 K) := by kernel_rfl
    rw [k0] at e
    refine e.trans ?_
    kernel_rfl)

noncomputable def F_l_toByteS (K : Nat) : FSp := { ps := [.val false (.sl (.i .u8)) [.r]], rs := [(false, (.sl (.i .u8)), [.x 0])], fn := fun v => l_toByteS K v.1 }
noncomputable def t_l_toByteS (K : Nat) : Tab := tabOf (tiOf tys) []
def h_l_toByteS : Hint := ⟨msk [1, 9, 25, 2073, 25, 25, 4], fun _ _ => false⟩
noncomputable def c_l_toByteS : Code := Tryz.f77.body.getD .skip
noncomputable def l_toByteS.g0 (K : Nat) (a0 : List Int) (n : Nat) (q0 : List Int) (q1 : Int) : Option ((List Int) × Unit) :=
  lpg (t_l_toByteS K) h_l_toByteS K c_l_toByteS [.r, .r, .l, .r, .b] n ⟨[.one (.val .r (.sl (.i .u8)) a0), .dead, .dead, .one (.val (.x 0) (.sl (.i .u8)) q0), .one (.val .f (.i .i64) q1)] ++ List.replicate 17 .dead, List.replicate 22 none⟩ (endK (t_l_toByteS K).toEnv (F_l_toByteS K) [.tmp 2])
theorem l_toByteS.ok0 (K : Nat) (a0 : List Int) (n : Nat) : l_toByteS.g0 K a0 n = l_toByteS.l0 K a0 n := by
  induction n with
  | zero =>
    funext q0 q1
    kernel_rfl
  | succ n ih =>
    funext q0 q1
    have e : l_toByteS.g0 K a0 (n + 1) q0 q1 = l_toByteS.l0b K a0 (l_toByteS.g0 K a0 n) q0 q1 := by kernel_rfl
    rw [ih] at e
    refine e.trans ?_
    kernel_rfl
theorem ok_l_toByteS (K : Nat) : FOk Tryz.prog 77 (F_l_toByteS K) :=
  fok_of_run (T := t_l_toByteS K) (H := h_l_toByteS) (K := K) (c := c_l_toByteS) (ts := [.tmp 2]) Tryz.func77 (by kernel_rfl) (by kernel_rfl) (by kernel_rfl) rfl
    (tok0 tys_ok) mixed
    (fun v => by
    have k0 := l_toByteS.ok0 K v.1 K
    have e : run (t_l_toByteS K) h_l_toByteS K c_l_toByteS (initSt (F_l_toByteS K).pk (F_l_toByteS K).ps Tryz.f77.ntmps (lv _ v)) (endK (t_l_toByteS K).toEnv (F_l_toByteS K) [.tmp 2]) = l_toByteS.b K v.1 (l_toByteS.g0 K v.1 K) := by kernel_rfl
    rw [k0] at e
    refine e.trans ?_
    kernel_rfl)

noncomputable def F_l_toDisk (K : Nat) : FSp := { ps := [.val true eDisk [.r, .f]], rs := [(true, eDisk, [.x 0, .f])], fn := fun v => l_toDisk K v.1 }
noncomputable def t_l_toDisk (K : Nat) : Tab := tabOf (tiOf tys) [(77, F_l_toByteS K)]
def h_l_toDisk : Hint := ⟨msk [6, 14, 14, 12, 4], fun _ _ => false⟩
noncomputable def c_l_toDisk : Code := Tryz.f55.body.getD .skip
theorem ok_l_toDisk (K : Nat) : FOk Tryz.prog 55 (F_l_toDisk K) :=
  fok_of_run (T := t_l_toDisk K) (H := h_l_toDisk) (K := K) (c := c_l_toDisk) (ts := [.cell 2 64]) Tryz.func55 (by kernel_rfl) (by kernel_rfl) (by kernel_rfl) rfl
    (tokc (ok_l_toByteS K) (tok0 tys_ok)) mixed
    (fun v => by kernel_rfl)

noncomputable def F_l_toRpc (K : Nat) : FSp := { ps := [.val true eRpc [.f, .f, .f, .f, .f, .f, .f, .r, .f, .f]], rs := [(true, eRpc, [.f, .f, .f, .f, .f, .f, .f, .x 0, .f, .f])], fn := fun v => l_toRpc K v.1 }
noncomputable def t_l_toRpc (K : Nat) : Tab := tabOf (tiOf tys) [(56, F_l_toEntryS K)]
def h_l_toRpc : Hint := ⟨msk [6, 14, 14, 14, 14, 14, 14, 14, 14, 14, 14, 12, 4], fun _ _ => false⟩
noncomputable def c_l_toRpc : Code := Tryz.f36.body.getD .skip
theorem ok_l_toRpc (K : Nat) : FOk Tryz.prog 36 (F_l_toRpc K) :=
  fok_of_run (T := t_l_toRpc K) (H := h_l_toRpc) (K := K) (c := c_l_toRpc) (ts := [.cell 2 109]) Tryz.func36 (by kernel_rfl) (by kernel_rfl) (by kernel_rfl) rfl
    (tokc (ok_l_toEntryS K) (tok0 tys_ok)) mixed
    (fun v => by kernel_rfl)

noncomputable def F_l_toRpcS (K : Nat) : FSp := { ps := [.val false (.sl eRpc) [.r]], rs := [(false, (.sl eRpc), [.x 0])], fn := fun v => l_toRpcS K v.1 }
noncomputable def t_l_toRpcS (K : Nat) : Tab := tabOf (tiOf tys) [(36, F_l_toRpc K)]
def h_l_toRpcS : Hint := ⟨msk [1, 9, 25, 2073, 25, 25, 4], fun _ _ => false⟩
noncomputable def c_l_toRpcS : Code := Tryz.f18.body.getD .skip
noncomputable def l_toRpcS.g0 (K : Nat) (a0 : List TRpc) (n : Nat) (q0 : List TRpc) (q1 : Int) : Option ((List TRpc) × Unit) :=
  lpg (t_l_toRpcS K) h_l_toRpcS K c_l_toRpcS [.r, .r, .l, .r, .b] n ⟨[.one (.val .r (.sl eRpc) a0), .dead, .dead, .one (.val (.x 0) (.sl eRpc) q0), .one (.val .f (.i .i64) q1)] ++ List.replicate 18 .dead, List.replicate 23 none⟩ (endK (t_l_toRpcS K).toEnv (F_l_toRpcS K) [.tmp 2])
theorem l_toRpcS.ok0 (K : Nat) (a0 : List TRpc) (n : Nat) : l_toRpcS.g0 K a0 n = l_toRpcS.l0 K a0 n := by
  induction n with
  | zero =>
    funext q0 q1
    kernel_rfl
  | succ n ih =>
    funext q0 q1
    have e : l_toRpcS.g0 K a0 (n + 1) q0 q1 = l_toRpcS.l0b K a0 (l_toRpcS.g0 K a0 n) q0 q1 := by kernel_rfl
    rw [ih] at e
    refine e.trans ?_
    kernel_rfl
theorem ok_l_toRpcS (K : Nat) : FOk Tryz.prog 18 (F_l_toRpcS K) :=
  fok_of_run (T := t_l_toRpcS K) (H := h_l_toRpcS) (K := K) (c := c_l_toRpcS) (ts := [.tmp 2]) Tryz.func18 (by kernel_rfl) (by kernel_rfl) (by kernel_rfl) rfl
    (tokc (ok_l_toRpc K) (tok0 tys_ok)) mixed
    (fun v => by
    have k0 := l_toRpcS.ok0 K v.1 K
    have e : run (t_l_toRpcS K) h_l_toRpcS K c_l_toRpcS (initSt (F_l_toRpcS K).pk (F_l_toRpcS K).ps Tryz.f18.ntmps (lv _ v)) (endK (t_l_toRpcS K).toEnv (F_l_toRpcS K) [.tmp 2]) = l_toRpcS.b K v.1 (l_toRpcS.g0 K v.1 K) := by kernel_rfl
    rw [k0] at e
    refine e.trans ?_
    kernel_rfl)

noncomputable def F_l_toPeer (K : Nat) : FSp := { ps := [.val true ePeer [.f, .f, .f, .f, .f, .r, .r, .r, .r, .f, .r, .r, .f, .r, .r, .r, .f, .r, .r, .r, .f, .r, .r, .r, .f, .r]], rs := [(true, ePeer, [.f, .f, .f, .f, .f, .x 0, .x 0, .x 0, .x 0, .f, .x 0, .x 0, .f, .x 0, .x 0, .x 0, .f, .x 0, .x 0, .x 0, .f, .x 0, .x 0, .x 0, .f, .x 0])], fn := fun v => l_toPeer K v.1 }
noncomputable def t_l_toPeer (K : Nat) : Tab := tabOf (tiOf tys) [(52, F_l_toHard K), (53, F_l_toBoolS K), (20, F_l_toIntS K), (54, F_l_toKeep K), (55, F_l_toDisk K), (18, F_l_toRpcS K)]
def h_l_toPeer : Hint := ⟨msk [6, 14, 14, 14, 14, 14, 14, 14, 14, 14, 14, 12, 4], fun _ _ => false⟩
noncomputable def c_l_toPeer : Code := Tryz.f35.body.getD .skip
theorem ok_l_toPeer (K : Nat) : FOk Tryz.prog 35 (F_l_toPeer K) :=
  fok_of_run (T := t_l_toPeer K) (H := h_l_toPeer) (K := K) (c := c_l_toPeer) (ts := [.cell 2 66]) Tryz.func35 (by kernel_rfl) (by kernel_rfl) (by kernel_rfl) rfl
    (tokc (ok_l_toHard K) (tokc (ok_l_toBoolS K) (tokc (ok_l_toIntS K) (tokc (ok_l_toKeep K) (tokc (ok_l_toDisk K) (tokc (ok_l_toRpcS K) (tok0 tys_ok))))))) mixed
    (fun v => by kernel_rfl)

noncomputable def F_l_toPeerS (K : Nat) : FSp := { ps := [.val false (.sl ePeer) [.r]], rs := [(false, (.sl ePeer), [.x 0])], fn := fun v => l_toPeerS K v.1 }
noncomputable def t_l_toPeerS (K : Nat) : Tab := tabOf (tiOf tys) [(35, F_l_toPeer K)]
def h_l_toPeerS : Hint := ⟨msk [1, 9, 25, 2073, 25, 25, 4], fun _ _ => false⟩
noncomputable def c_l_toPeerS : Code := Tryz.f17.body.getD .skip
noncomputable def l_toPeerS.g0 (K : Nat) (a0 : List TPeer) (n : Nat) (q0 : List TPeer) (q1 : Int) : Option ((List TPeer) × Unit) :=
  lpg (t_l_toPeerS K) h_l_toPeerS K c_l_toPeerS [.r, .r, .l, .r, .b] n ⟨[.one (.val .r (.sl ePeer) a0), .dead, .dead, .one (.val (.x 0) (.sl ePeer) q0), .one (.val .f (.i .i64) q1)] ++ List.replicate 18 .dead, List.replicate 23 none⟩ (endK (t_l_toPeerS K).toEnv (F_l_toPeerS K) [.tmp 2])
theorem l_toPeerS.ok0 (K : Nat) (a0 : List TPeer) (n : Nat) : l_toPeerS.g0 K a0 n = l_toPeerS.l0 K a0 n := by
  induction n with
  | zero =>
    funext q0 q1
    kernel_rfl
  | succ n ih =>
    funext q0 q1
    have e : l_toPeerS.g0 K a0 (n + 1) q0 q1 = l_toPeerS.l0b K a0 (l_toPeerS.g0 K a0 n) q0 q1 := by kernel_rfl
    rw [ih] at e
    refine e.trans ?_
    kernel_rfl
theorem ok_l_toPeerS (K : Nat) : FOk Tryz.prog 17 (F_l_toPeerS K) :=
  fok_of_run (T := t_l_toPeerS K) (H := h_l_toPeerS) (K := K) (c := c_l_toPeerS) (ts := [.tmp 2]) Tryz.func17 (by kernel_rfl) (by kernel_rfl) (by kernel_rfl) rfl
    (tokc (ok_l_toPeer K) (tok0 tys_ok)) mixed
    (fun v => by
    have k0 := l_toPeerS.ok0 K v.1 K
    have e : run (t_l_toPeerS K) h_l_toPeerS K c_l_toPeerS (initSt (F_l_toPeerS K).pk (F_l_toPeerS K).ps Tryz.f17.ntmps (lv _ v)) (endK (t_l_toPeerS K).toEnv (F_l_toPeerS K) [.tmp 2]) = l_toPeerS.b K v.1 (l_toPeerS.g0 K v.1 K) := by kernel_rfl
    rw [k0] at e
    refine e.trans ?_
    kernel_rfl)

noncomputable def F_l_toCmdS (K : Nat) : FSp := { ps := [.val false (.sl eCmd) [.r]], rs := [(false, (.sl eCmd), [.x 0])], fn := fun v => l_toCmdS K v.1 }
noncomputable def t_l_toCmdS (K : Nat) : Tab := tabOf (tiOf tys) [(37, F_l_toCmd)]
def h_l_toCmdS : Hint := ⟨msk [1, 9, 25, 2073, 25, 25, 4], fun _ _ => false⟩
noncomputable def c_l_toCmdS : Code := Tryz.f19.body.getD .skip
noncomputable def l_toCmdS.g0 (K : Nat) (a0 : List TCmd) (n : Nat) (q0 : List TCmd) (q1 : Int) : Option ((List TCmd) × Unit) :=
  lpg (t_l_toCmdS K) h_l_toCmdS K c_l_toCmdS [.r, .r, .l, .r, .b] n ⟨[.one (.val .r (.sl eCmd) a0), .dead, .dead, .one (.val (.x 0) (.sl eCmd) q0), .one (.val .f (.i .i64) q1)] ++ List.replicate 18 .dead, List.replicate 23 none⟩ (endK (t_l_toCmdS K).toEnv (F_l_toCmdS K) [.tmp 2])
theorem l_toCmdS.ok0 (K : Nat) (a0 : List TCmd) (n : Nat) : l_toCmdS.g0 K a0 n = l_toCmdS.l0 K a0 n := by
  induction n with
  | zero =>
    funext q0 q1
    kernel_rfl
  | succ n ih =>
    funext q0 q1
    have e : l_toCmdS.g0 K a0 (n + 1) q0 q1 = l_toCmdS.l0b K a0 (l_toCmdS.g0 K a0 n) q0 q1 := by kernel_rfl
    rw [ih] at e
    refine e.trans ?_
    kernel_rfl
theorem ok_l_toCmdS (K : Nat) : FOk Tryz.prog 19 (F_l_toCmdS K) :=
  fok_of_run (T := t_l_toCmdS K) (H := h_l_toCmdS) (K := K) (c := c_l_toCmdS) (ts := [.tmp 2]) Tryz.func19 (by kernel_rfl) (by kernel_rfl) (by kernel_rfl) rfl
    (tokc (ok_l_toCmd) (tok0 tys_ok)) mixed
    (fun v => by
    have k0 := l_toCmdS.ok0 K v.1 K
    have e : run (t_l_toCmdS K) h_l_toCmdS K c_l_toCmdS (initSt (F_l_toCmdS K).pk (F_l_toCmdS K).ps Tryz.f19.ntmps (lv _ v)) (endK (t_l_toCmdS K).toEnv (F_l_toCmdS K) [.tmp 2]) = l_toCmdS.b K v.1 (l_toCmdS.g0 K v.1 K) := by kernel_rfl
    rw [k0] at e
    refine e.trans ?_
    kernel_rfl)

noncomputable def F_l_toHeard : FSp := { ps := [.val true eHeard [.f, .f, .f, .f, .f, .f, .f, .f]], rs := [(true, eHeard, [.f, .f, .f, .f, .f, .f, .f, .f])], fn := fun v => l_toHeard v.1 }
noncomputable def t_l_toHeard (K : Nat) : Tab := tabOf (tiOf tys) [(57, F_l_toAnswer)]
def h_l_toHeard : Hint := ⟨msk [6, 14, 14, 14, 14, 14, 12, 4], fun _ _ => false⟩
noncomputable def c_l_toHeard : Code := Tryz.f38.body.getD .skip
theorem ok_l_toHeard : FOk Tryz.prog 38 (F_l_toHeard) := by
  let K := 0
  exact
  fok_of_run (T := t_l_toHeard K) (H := h_l_toHeard) (K := K) (c := c_l_toHeard) (ts := [.cell 2 115]) Tryz.func38 (by kernel_rfl) (by kernel_rfl) (by kernel_rfl) rfl
    (tokc (ok_l_toAnswer) (tok0 tys_ok)) mixed
    (fun v => by kernel_rfl)

noncomputable def F_l_toHeardS (K : Nat) : FSp := { ps := [.val false (.sl eHeard) [.r]], rs := [(false, (.sl eHeard), [.x 0])], fn := fun v => l_toHeardS K v.1 }
noncomputable def t_l_toHeardS (K : Nat) : Tab := tabOf (tiOf tys) [(38, F_l_toHeard)]
def h_l_toHeardS : Hint := ⟨msk [1, 9, 25, 2073, 25, 25, 4], fun _ _ => false⟩
noncomputable def c_l_toHeardS : Code := Tryz.f21.body.getD .skip
noncomputable def l_toHeardS.g0 (K : Nat) (a0 : List THeard) (n : Nat) (q0 : List THeard) (q1 : Int) : Option ((List THeard) × Unit) :=
  lpg (t_l_toHeardS K) h_l_toHeardS K c_l_toHeardS [.r, .r, .l, .r, .b] n ⟨[.one (.val .r (.sl eHeard) a0), .dead, .dead, .one (.val (.x 0) (.sl eHeard) q0), .one (.val .f (.i .i64) q1)] ++ List.replicate 18 .dead, List.replicate 23 none⟩ (endK (t_l_toHeardS K).toEnv (F_l_toHeardS K) [.tmp 2])
theorem l_toHeardS.ok0 (K : Nat) (a0 : List THeard) (n : Nat) : l_toHeardS.g0 K a0 n = l_toHeardS.l0 K a0 n := by
  induction n with
  | zero =>
    funext q0 q1
    kernel_rfl
  | succ n ih =>
    funext q0 q1
    have e : l_toHeardS.g0 K a0 (n + 1) q0 q1 = l_toHeardS.l0b K a0 (l_toHeardS.g0 K a0 n) q0 q1 := by kernel_rfl
    rw [ih] at e
    refine e.trans ?_
    kernel_rfl
theorem ok_l_toHeardS (K : Nat) : FOk Tryz.prog 21 (F_l_toHeardS K) :=
  fok_of_run (T := t_l_toHeardS K) (H := h_l_toHeardS) (K := K) (c := c_l_toHeardS) (ts := [.tmp 2]) Tryz.func21 (by kernel_rfl) (by kernel_rfl) (by kernel_rfl) rfl
    (tokc (ok_l_toHeard) (tok0 tys_ok)) mixed
    (fun v => by
    have k0 := l_toHeardS.ok0 K v.1 K
    have e : run (t_l_toHeardS K) h_l_toHeardS K c_l_toHeardS (initSt (F_l_toHeardS K).pk (F_l_toHeardS K).ps Tryz.f21.ntmps (lv _ v)) (endK (t_l_toHeardS K).toEnv (F_l_toHeardS K) [.tmp 2]) = l_toHeardS.b K v.1 (l_toHeardS.g0 K v.1 K) := by kernel_rfl
    rw [k0] at e
    refine e.trans ?_
    kernel_rfl)

noncomputable def F_l_toWorld (K : Nat) : FSp := { ps := [.val true eWorld [.f, .f, .f, .f, .f, .r, .r, .r, .r, .r, .r]], rs := [(true, eWorld, [.f, .f, .f, .f, .f, .x 0, .x 0, .x 0, .x 0, .x 0, .x 0])], fn := fun v => l_toWorld K v.1 }
noncomputable def t_l_toWorld (K : Nat) : Tab := tabOf (tiOf tys) [(16, F_l_toSetup), (17, F_l_toPeerS K), (18, F_l_toRpcS K), (19, F_l_toCmdS K), (20, F_l_toIntS K), (21, F_l_toHeardS K)]
def h_l_toWorld : Hint := ⟨msk [6, 14, 14, 14, 14, 14, 14, 14, 14, 12, 4], fun _ _ => false⟩
noncomputable def c_l_toWorld : Code := Tryz.f6.body.getD .skip
theorem ok_l_toWorld (K : Nat) : FOk Tryz.prog 6 (F_l_toWorld K) :=
  fok_of_run (T := t_l_toWorld K) (H := h_l_toWorld) (K := K) (c := c_l_toWorld) (ts := [.cell 2 39]) Tryz.func6 (by kernel_rfl) (by kernel_rfl) (by kernel_rfl) rfl
    (tokc (ok_l_toSetup) (tokc (ok_l_toPeerS K) (tokc (ok_l_toRpcS K) (tokc (ok_l_toCmdS K) (tokc (ok_l_toIntS K) (tokc (ok_l_toHeardS K) (tok0 tys_ok))))))) mixed
    (fun v => by kernel_rfl)

noncomputable def F_s_Digits (K : Nat) : FSp := { ps := [.val false (.i .i64) [.f]], rs := [(false, .s, [.f])], fn := fun v => s_Digits K v.1 }
noncomputable def t_s_Digits (K : Nat) : Tab := tabOf (tiOf tys) []
def h_s_Digits : Hint := ⟨msk [1, 129, 4, 9, 25, 2073, 57, 32825, 57, 25, 25, 134217744, 4, 4], fun _ _ => false⟩
noncomputable def c_s_Digits : Code := Tryz.f14.body.getD .skip
noncomputable def s_Digits.g0 (K : Nat) (a0 : Int) (n : Nat) (q0 : Int) (q1 : ByteArray) : Option (ByteArray × Unit) :=
  lpg (t_s_Digits K) h_s_Digits K c_s_Digits [.r, .r, .r, .r, .l, .b] n ⟨[.one (.val .f (.i .i64) q0), .dead, .dead, .one (.val .f .b (decide (a0 < 0))), .one (.val .f .s q1)] ++ List.replicate 26 .dead, List.replicate 31 none⟩ (endK (t_s_Digits K).toEnv (F_s_Digits K) [.tmp 2])
theorem s_Digits.ok0 (K : Nat) (a0 : Int) (n : Nat) : s_Digits.g0 K a0 n = s_Digits.l0 K a0 n := by
  induction n with
  | zero =>
    funext q0 q1
    kernel_rfl
  | succ n ih =>
    funext q0 q1
    have e : s_Digits.g0 K a0 (n + 1) q0 q1 = s_Digits.l0b K a0 (s_Digits.g0 K a0 n) q0 q1 := by kernel_rfl
    rw [ih] at e
    refine e.trans ?_
    kernel_rfl
theorem ok_s_Digits (K : Nat) : FOk Tryz.prog 14 (F_s_Digits K) :=
  fok_of_run (T := t_s_Digits K) (H := h_s_Digits) (K := K) (c := c_s_Digits) (ts := [.tmp 2]) Tryz.func14 (by kernel_rfl) (by kernel_rfl) (by kernel_rfl) rfl
    (tok0 tys_ok) mixed
    (fun v => by
    have k0 := s_Digits.ok0 K v.1 K
    have e : run (t_s_Digits K) h_s_Digits K c_s_Digits (initSt (F_s_Digits K).pk (F_s_Digits K).ps Tryz.f14.ntmps (lv _ v)) (endK (t_s_Digits K).toEnv (F_s_Digits K) [.tmp 2]) = s_Digits.b K v.1 (s_Digits.g0 K v.1 K) := by kernel_rfl
    rw [k0] at e
    refine e.trans ?_
    kernel_rfl)

noncomputable def F_s_LastOf : FSp := { ps := [.val true eLog [.f, .f, .r]], rs := [(false, (.i .i64), [.f]), (false, (.i .i64), [.f])], fn := fun v => s_LastOf v.1 }
noncomputable def t_s_LastOf (K : Nat) : Tab := tabOf (tiOf tys) []
def h_s_LastOf : Hint := ⟨msk [2, 18, 530, 12, 12], fun _ _ => false⟩
noncomputable def c_s_LastOf : Code := Tryz.f34.body.getD .skip
theorem ok_s_LastOf : FOk Tryz.prog 34 (F_s_LastOf) := by
  let K := 0
  exact
  fok_of_run (T := t_s_LastOf K) (H := h_s_LastOf) (K := K) (c := c_s_LastOf) (ts := [.tmp 2, .tmp 3]) Tryz.func34 (by kernel_rfl) (by kernel_rfl) (by kernel_rfl) rfl
    (tok0 tys_ok) mixed
    (fun v => by kernel_rfl)

noncomputable def F_s_PeerText (K : Nat) : FSp := { ps := [.val true ePeer [.f, .f, .f, .f, .f, .r, .r, .r, .r, .f, .r, .r, .f, .r, .r, .r, .f, .r, .r, .r, .f, .r, .r, .r, .f, .r]], rs := [(false, .s, [.f])], fn := fun v => s_PeerText K v.1 }
noncomputable def t_s_PeerText (K : Nat) : Tab := tabOf (tiOf tys) [(34, F_s_LastOf), (14, F_s_Digits K)]
def h_s_PeerText : Hint := ⟨msk [2, 10, 522, 1546, 10, 4106, 10, 26, 72, 200, 274877907144, 200, 200, 4], fun _ _ => false⟩
noncomputable def c_s_PeerText : Code := Tryz.f15.body.getD .skip
noncomputable def s_PeerText.g0 (K : Nat) (a0 : TPeer) (n : Nat) (q2 : ByteArray) (v2 : Int × Int × Unit) (q3 : Int) : Option (ByteArray × Unit) :=
  lpg (t_s_PeerText K) h_s_PeerText K c_s_PeerText [.r, .r, .r, .r, .r, .l, .r, .b] n ⟨[.dead, .dead, .dead, .one (.val .f .s q2), .dead, .dead, .one (.val (.x 0) (.sl (.i .i64)) [a0.2.1.1, v2.1, a0.2.2.2.2.2.2.1, a0.2.1.2.2.1.1, ((a0.2.2.2.2.2.2.2.2.2.length : Nat) : Int)]), .one (.val .f (.i .i64) q3)] ++ List.replicate 42 .dead, List.replicate 50 none⟩ (endK (t_s_PeerText K).toEnv (F_s_PeerText K) [.tmp 2])
theorem s_PeerText.ok0 (K : Nat) (a0 : TPeer) (n : Nat) : s_PeerText.g0 K a0 n = s_PeerText.l0 K a0 n := by
  induction n with
  | zero =>
    funext q2 v2 q3
    kernel_rfl
  | succ n ih =>
    funext q2 v2 q3
    have e : s_PeerText.g0 K a0 (n + 1) q2 v2 q3 = s_PeerText.l0b K a0 (s_PeerText.g0 K a0 n) q2 v2 q3 := by kernel_rfl
    rw [ih] at e
    refine e.trans ?_
    kernel_rfl
theorem ok_s_PeerText (K : Nat) : FOk Tryz.prog 15 (F_s_PeerText K) :=
  fok_of_run (T := t_s_PeerText K) (H := h_s_PeerText) (K := K) (c := c_s_PeerText) (ts := [.tmp 2]) Tryz.func15 (by kernel_rfl) (by kernel_rfl) (by kernel_rfl) rfl
    (tokc (ok_s_LastOf) (tokc (ok_s_Digits K) (tok0 tys_ok))) mixed
    (fun v => by
    have k0 := s_PeerText.ok0 K v.1 K
    have e : run (t_s_PeerText K) h_s_PeerText K c_s_PeerText (initSt (F_s_PeerText K).pk (F_s_PeerText K).ps Tryz.f15.ntmps (lv _ v)) (endK (t_s_PeerText K).toEnv (F_s_PeerText K) [.tmp 2]) = s_PeerText.b K v.1 (s_PeerText.g0 K v.1 K) := by kernel_rfl
    rw [k0] at e
    refine e.trans ?_
    kernel_rfl)

noncomputable def F_s_WorldText (K : Nat) : FSp := { ps := [.val true eWorld [.f, .f, .f, .f, .f, .r, .r, .r, .r, .r, .r]], rs := [(false, .s, [.f])], fn := fun v => s_WorldText K v.1 }
noncomputable def t_s_WorldText (K : Nat) : Tab := tabOf (tiOf tys) [(14, F_s_Digits K), (15, F_s_PeerText K)]
def h_s_WorldText : Hint := ⟨msk [2, 10, 26, 538, 26, 26, 4], fun _ _ => false⟩
noncomputable def c_s_WorldText : Code := Tryz.f5.body.getD .skip
noncomputable def s_WorldText.g0 (K : Nat) (a0 : TWorld) (n : Nat) (q0 : ByteArray) (q1 : Int) : Option (ByteArray × Unit) :=
  lpg (t_s_WorldText K) h_s_WorldText K c_s_WorldText [.r, .r, .l, .r, .b] n ⟨[.dead, .one (.ptr 1 1 0), .dead, .one (.val .f .s q0), .one (.val .f (.i .i64) q1)] ++ List.replicate 40 .dead, [none, some (1, [.val .f (.i .i64) a0.1.1, .val .f (.i .i64) a0.1.2.1, .val .f (.i .i64) a0.1.2.2.1, .val .f (.i .i64) a0.1.2.2.2, .val .f (.i .i64) a0.2.1, .val .r (.sl ePeer) a0.2.2.1, .val .r (.sl eRpc) a0.2.2.2.1, .val .r (.sl eCmd) a0.2.2.2.2.1, .val .r (.sl (.i .i64)) a0.2.2.2.2.2.1, .val .r (.sl eHeard) a0.2.2.2.2.2.2.1, .val .r (.sl eCmd) a0.2.2.2.2.2.2.2])] ++ List.replicate 43 none⟩ (endK (t_s_WorldText K).toEnv (F_s_WorldText K) [.tmp 2])
theorem s_WorldText.ok0 (K : Nat) (a0 : TWorld) (n : Nat) : s_WorldText.g0 K a0 n = s_WorldText.l0 K a0 n := by
  induction n with
  | zero =>
    funext q0 q1
    kernel_rfl
  | succ n ih =>
    funext q0 q1
    have e : s_WorldText.g0 K a0 (n + 1) q0 q1 = s_WorldText.l0b K a0 (s_WorldText.g0 K a0 n) q0 q1 := by kernel_rfl
    rw [ih] at e
    refine e.trans ?_
    kernel_rfl
theorem ok_s_WorldText (K : Nat) : FOk Tryz.prog 5 (F_s_WorldText K) :=
  fok_of_run (T := t_s_WorldText K) (H := h_s_WorldText) (K := K) (c := c_s_WorldText) (ts := [.tmp 2]) Tryz.func5 (by kernel_rfl) (by kernel_rfl) (by kernel_rfl) rfl
    (tokc (ok_s_Digits K) (tokc (ok_s_PeerText K) (tok0 tys_ok))) mixed
    (fun v => by
    have k0 := s_WorldText.ok0 K v.1 K
    have e : run (t_s_WorldText K) h_s_WorldText K c_s_WorldText (initSt (F_s_WorldText K).pk (F_s_WorldText K).ps Tryz.f5.ntmps (lv _ v)) (endK (t_s_WorldText K).toEnv (F_s_WorldText K) [.tmp 2]) = s_WorldText.b K v.1 (s_WorldText.g0 K v.1 K) := by kernel_rfl
    rw [k0] at e
    refine e.trans ?_
    kernel_rfl)

noncomputable def F_i_Digits : FSp := { ps := [.val false (.i .i64) [.f]], rs := [(false, .s, [.f])], fn := fun v => i_Digits v.1 }
noncomputable def t_i_Digits (K : Nat) : Tab := tabOf (tiOf tys) [(39, F_lItoa)]
def h_i_Digits : Hint := ⟨msk [1, 4], fun _ _ => false⟩
noncomputable def c_i_Digits : Code := Tryz.f22.body.getD .skip
theorem ok_i_Digits : FOk Tryz.prog 22 (F_i_Digits) := by
  let K := 0
  exact
  fok_of_run (T := t_i_Digits K) (H := h_i_Digits) (K := K) (c := c_i_Digits) (ts := [.tmp 2]) Tryz.func22 (by kernel_rfl) (by kernel_rfl) (by kernel_rfl) rfl
    (tokc (ok_lItoa) (tok0 tys_ok)) mixed
    (fun v => by kernel_rfl)

noncomputable def F_i_within : FSp := { ps := [.val false (.i .i64) [.f], .val false (.i .i64) [.f], .val false (.i .i64) [.f]], rs := [(false, .b, [.f])], fn := fun v => i_within v.1 v.2.1 v.2.2.1 }
noncomputable def t_i_within (K : Nat) : Tab := tabOf (tiOf tys) []
def h_i_within : Hint := ⟨msk [7, 64], fun _ _ => false⟩
noncomputable def c_i_within : Code := Tryz.f40.body.getD .skip
theorem ok_i_within : FOk Tryz.prog 40 (F_i_within) := by
  let K := 0
  exact
  fok_of_run (T := t_i_within K) (H := h_i_within) (K := K) (c := c_i_within) (ts := [.tmp 6]) Tryz.func40 (by kernel_rfl) (by kernel_rfl) (by kernel_rfl) rfl
    (tok0 tys_ok) mixed
    (fun v => by kernel_rfl)

noncomputable def F_i_last : FSp := { ps := [.val true eLog [.f, .f, .r]], rs := [(false, (.i .i64), [.f])], fn := fun v => i_last v.1 }
noncomputable def t_i_last (K : Nat) : Tab := tabOf (tiOf tys) []
def h_i_last : Hint := ⟨msk [2, 4], fun _ _ => false⟩
noncomputable def c_i_last : Code := Tryz.f41.body.getD .skip
theorem ok_i_last : FOk Tryz.prog 41 (F_i_last) := by
  let K := 0
  exact
  fok_of_run (T := t_i_last K) (H := h_i_last) (K := K) (c := c_i_last) (ts := [.tmp 2]) Tryz.func41 (by kernel_rfl) (by kernel_rfl) (by kernel_rfl) rfl
    (tok0 tys_ok) mixed
    (fun v => by kernel_rfl)

noncomputable def F_i_PeerText (K : Nat) : FSp := { ps := [.val true ePeer [.f, .f, .f, .f, .f, .r, .r, .r, .r, .f, .r, .r, .f, .r, .r, .r, .f, .r, .r, .r, .f, .r, .r, .r, .f, .r]], rs := [(false, .s, [.f])], fn := fun v => i_PeerText K v.1 }
noncomputable def t_i_PeerText (K : Nat) : Tab := tabOf (tiOf tys) [(40, F_i_within), (41, F_i_last), (22, F_i_Digits)]
def h_i_PeerText : Hint := ⟨msk [2, 10, 26, 16410, 18, 34, 962072674336, 2061584302112, 962072674464, 962072674336, 962072674336, 4], fun _ _ => false⟩
noncomputable def c_i_PeerText : Code := Tryz.f23.body.getD .skip
noncomputable def i_PeerText.g0 (K : Nat) (a0 : TPeer) (n : Nat) (q2 : ByteArray) (v2 : Int × Unit) (q3 : Int) : Option (ByteArray × Unit) :=
  lpg (t_i_PeerText K) h_i_PeerText K c_i_PeerText [.r, .r, .r, .r, .r, .l, .r, .b] n ⟨List.replicate 5 .dead ++ [.one (.val .f .s q2)] ++ List.replicate 31 .dead ++ [.one (.val (.x 0) (.sl (.i .i64)) [a0.2.1.1, v2.1, a0.2.2.2.2.2.2.1, a0.2.1.2.2.1.1, ((a0.2.2.2.2.2.2.2.2.2.length : Nat) : Int)]), .one (.val .f (.i .i64) 5), .one (.val .f (.i .i64) q3)] ++ List.replicate 10 .dead, List.replicate 50 none⟩ (endK (t_i_PeerText K).toEnv (F_i_PeerText K) [.tmp 2])
noncomputable def i_PeerText.g1 (K : Nat) (a0 : TPeer) (n : Nat) (q4 : ByteArray) (v4 : Int × Unit) (q5 : Int) : Option (ByteArray × Unit) :=
  lpg (t_i_PeerText K) h_i_PeerText K c_i_PeerText [.r, .r, .r, .r, .r, .l, .r, .b] n ⟨List.replicate 5 .dead ++ [.one (.val .f .s q4)] ++ List.replicate 31 .dead ++ [.one (.val (.x 0) (.sl (.i .i64)) [a0.2.1.1, v4.1, a0.2.2.2.2.2.2.1, a0.2.1.2.2.1.1, ((a0.2.2.2.2.2.2.2.2.2.length : Nat) : Int)]), .one (.val .f (.i .i64) 5), .one (.val .f (.i .i64) q5)] ++ List.replicate 10 .dead, List.replicate 50 none⟩ (endK (t_i_PeerText K).toEnv (F_i_PeerText K) [.tmp 2])
theorem i_PeerText.ok0 (K : Nat) (a0 : TPeer) (n : Nat) : i_PeerText.g0 K a0 n = i_PeerText.l0 K a0 n := by
  induction n with
  | zero =>
    funext q2 v2 q3
    kernel_rfl
  | succ n ih =>
    funext q2 v2 q3
    have e : i_PeerText.g0 K a0 (n + 1) q2 v2 q3 = i_PeerText.l0b K a0 (i_PeerText.g0 K a0 n) q2 v2 q3 := by kernel_rfl
    rw [ih] at e
    refine e.trans ?_
    kernel_rfl
theorem i_PeerText.ok1 (K : Nat) (a0 : TPeer) (n : Nat) : i_PeerText.g1 K a0 n = i_PeerText.l1 K a0 n := by
  induction n with
  | zero =>
    funext q4 v4 q5
    kernel_rfl
  | succ n ih =>
    funext q4 v4 q5
    have e : i_PeerText.g1 K a0 (n + 1) q4 v4 q5 = i_PeerText.l1b K a0 (i_PeerText.g1 K a0 n) q4 v4 q5 := by kernel_rfl
    rw [ih] at e
    refine e.trans ?_
    kernel_rfl
theorem ok_i_PeerText (K : Nat) : FOk Tryz.prog 23 (F_i_PeerText K) :=
  fok_of_run (T := t_i_PeerText K) (H := h_i_PeerText) (K := K) (c := c_i_PeerText) (ts := [.tmp 2]) Tryz.func23 (by kernel_rfl) (by kernel_rfl) (by kernel_rfl) rfl
    (tokc (ok_i_within) (tokc (ok_i_last) (tokc (ok_i_Digits) (tok0 tys_ok)))) mixed
    (fun v => by
    have k0 := i_PeerText.ok0 K v.1 K
    have k1 := i_PeerText.ok1 K v.1 K
    have e : run (t_i_PeerText K) h_i_PeerText K c_i_PeerText (initSt (F_i_PeerText K).pk (F_i_PeerText K).ps Tryz.f23.ntmps (lv _ v)) (endK (t_i_PeerText K).toEnv (F_i_PeerText K) [.tmp 2]) = i_PeerText.b K v.1 (i_PeerText.g0 K v.1 K) (i_PeerText.g1 K v.1 K) := by kernel_rfl
    rw [k0, k1] at e
    refine e.trans ?_
    kernel_rfl)

noncomputable def F_i_WorldText (K : Nat) : FSp := { ps := [.val true eWorld [.f, .f, .f, .f, .f, .r, .r, .r, .r, .r, .r]], rs := [(false, .s, [.f])], fn := fun v => i_WorldText K v.1 }
noncomputable def t_i_WorldText (K : Nat) : Tab := tabOf (tiOf tys) [(22, F_i_Digits), (23, F_i_PeerText K)]
def h_i_WorldText : Hint := ⟨msk [2, 10, 906, 1930, 954, 906, 906, 4], fun _ _ => false⟩
noncomputable def c_i_WorldText : Code := Tryz.f7.body.getD .skip
noncomputable def i_WorldText.g0 (K : Nat) (a0 : TWorld) (n : Nat) (q0 : ByteArray) (q1 : Int) : Option (ByteArray × Unit) :=
  lpg (t_i_WorldText K) h_i_WorldText K c_i_WorldText [.r, .r, .l, .r, .b] n ⟨[.dead, .one (.ptr 1 1 0), .dead, .one (.val .f .s q0), .dead, .dead, .dead, .one (.val .r (.sl ePeer) a0.2.2.1), .one (.val .f (.i .i64) ((a0.2.2.1.length : Nat) : Int)), .one (.val .f (.i .i64) q1)] ++ List.replicate 34 .dead, [none, some (1, [.val .f (.i .i64) a0.1.1, .val .f (.i .i64) a0.1.2.1, .val .f (.i .i64) a0.1.2.2.1, .val .f (.i .i64) a0.1.2.2.2, .val .f (.i .i64) a0.2.1, .val .r (.sl ePeer) a0.2.2.1, .val .r (.sl eRpc) a0.2.2.2.1, .val .r (.sl eCmd) a0.2.2.2.2.1, .val .r (.sl (.i .i64)) a0.2.2.2.2.2.1, .val .r (.sl eHeard) a0.2.2.2.2.2.2.1, .val .r (.sl eCmd) a0.2.2.2.2.2.2.2])] ++ List.replicate 42 none⟩ (endK (t_i_WorldText K).toEnv (F_i_WorldText K) [.tmp 2])
theorem i_WorldText.ok0 (K : Nat) (a0 : TWorld) (n : Nat) : i_WorldText.g0 K a0 n = i_WorldText.l0 K a0 n := by
  induction n with
  | zero =>
    funext q0 q1
    kernel_rfl
  | succ n ih =>
    funext q0 q1
    have e : i_WorldText.g0 K a0 (n + 1) q0 q1 = i_WorldText.l0b K a0 (i_WorldText.g0 K a0 n) q0 q1 := by kernel_rfl
    rw [ih] at e
    refine e.trans ?_
    kernel_rfl
theorem ok_i_WorldText (K : Nat) : FOk Tryz.prog 7 (F_i_WorldText K) :=
  fok_of_run (T := t_i_WorldText K) (H := h_i_WorldText) (K := K) (c := c_i_WorldText) (ts := [.tmp 2]) Tryz.func7 (by kernel_rfl) (by kernel_rfl) (by kernel_rfl) rfl
    (tokc (ok_i_Digits) (tokc (ok_i_PeerText K) (tok0 tys_ok))) mixed
    (fun v => by
    have k0 := i_WorldText.ok0 K v.1 K
    have e : run (t_i_WorldText K) h_i_WorldText K c_i_WorldText (initSt (F_i_WorldText K).pk (F_i_WorldText K).ps Tryz.f7.ntmps (lv _ v)) (endK (t_i_WorldText K).toEnv (F_i_WorldText K) [.tmp 2]) = i_WorldText.b K v.1 (i_WorldText.g0 K v.1 K) := by kernel_rfl
    rw [k0] at e
    refine e.trans ?_
    kernel_rfl)

noncomputable def F_l_eqSetup : FSp := { ps := [.val true eSetup [.f, .f, .f, .f], .val true eSetup [.f, .f, .f, .f]], rs := [(false, .b, [.f])], fn := fun v => l_eqSetup v.1 v.2.1 }
noncomputable def t_l_eqSetup (K : Nat) : Tab := tabOf (tiOf tys) []
def h_l_eqSetup : Hint := ⟨msk [12, 524, 16, 16396, 16, 524300, 16, 16777216, 16, 16], fun _ _ => false⟩
noncomputable def c_l_eqSetup : Code := Tryz.f24.body.getD .skip
theorem ok_l_eqSetup : FOk Tryz.prog 24 (F_l_eqSetup) := by
  let K := 0
  exact
  fok_of_run (T := t_l_eqSetup K) (H := h_l_eqSetup) (K := K) (c := c_l_eqSetup) (ts := [.tmp 4]) Tryz.func24 (by kernel_rfl) (by kernel_rfl) (by kernel_rfl) rfl
    (tok0 tys_ok) mixed
    (fun v => by kernel_rfl)

noncomputable def F_l_eqCmd : FSp := { ps := [.val true eCmd [.f, .f, .f, .f, .f, .f, .f, .f], .val true eCmd [.f, .f, .f, .f, .f, .f, .f, .f]], rs := [(false, .b, [.f])], fn := fun v => l_eqCmd v.1 v.2.1 }
noncomputable def t_l_eqCmd (K : Nat) : Tab := tabOf (tiOf tys) []
def h_l_eqCmd : Hint := ⟨msk [12, 524, 16, 16396, 16, 524300, 16, 16777228, 16, 536870924, 16, 17179869196, 16, 549755813900, 16, 17592186044416, 16, 16], fun _ _ => false⟩
noncomputable def c_l_eqCmd : Code := Tryz.f44.body.getD .skip
theorem ok_l_eqCmd : FOk Tryz.prog 44 (F_l_eqCmd) := by
  let K := 0
  exact
  fok_of_run (T := t_l_eqCmd K) (H := h_l_eqCmd) (K := K) (c := c_l_eqCmd) (ts := [.tmp 4]) Tryz.func44 (by kernel_rfl) (by kernel_rfl) (by kernel_rfl) rfl
    (tok0 tys_ok) mixed
    (fun v => by kernel_rfl)

noncomputable def F_l_eqEntry : FSp := { ps := [.val true eEntry [.f, .f, .f, .f, .f, .f, .f, .f, .f], .val true eEntry [.f, .f, .f, .f, .f, .f, .f, .f, .f]], rs := [(false, .b, [.f])], fn := fun v => l_eqEntry v.1 v.2.1 }
noncomputable def t_l_eqEntry (K : Nat) : Tab := tabOf (tiOf tys) [(44, F_l_eqCmd)]
def h_l_eqEntry : Hint := ⟨msk [12, 524, 16, 32768, 16, 16], fun _ _ => false⟩
noncomputable def c_l_eqEntry : Code := Tryz.f86.body.getD .skip
theorem ok_l_eqEntry : FOk Tryz.prog 86 (F_l_eqEntry) := by
  let K := 0
  exact
  fok_of_run (T := t_l_eqEntry K) (H := h_l_eqEntry) (K := K) (c := c_l_eqEntry) (ts := [.tmp 4]) Tryz.func86 (by kernel_rfl) (by kernel_rfl) (by kernel_rfl) rfl
    (tokc (ok_l_eqCmd) (tok0 tys_ok)) mixed
    (fun v => by kernel_rfl)

noncomputable def F_l_eqEntryS (K : Nat) : FSp := { ps := [.val false (.sl eEntry) [.r], .val false (.sl eEntry) [.r]], rs := [(false, .b, [.f])], fn := fun v => l_eqEntryS K v.1 v.2.1 }
noncomputable def t_l_eqEntryS (K : Nat) : Tab := tabOf (tiOf tys) [(86, F_l_eqEntry)]
def h_l_eqEntryS : Hint := ⟨msk [3, 1027, 16, 35, 16419, 35, 67108899, 16, 16], fun _ _ => false⟩
noncomputable def c_l_eqEntryS : Code := Tryz.f63.body.getD .skip
noncomputable def l_eqEntryS.g0 (K : Nat) (a0 : List TEntry) (a1 : List TEntry) (n : Nat) (q0 : Int) : Option (Bool × Unit) :=
  lpg (t_l_eqEntryS K) h_l_eqEntryS K c_l_eqEntryS [.r, .r, .l, .r, .b] n ⟨[.one (.val .r (.sl eEntry) a0), .one (.val .r (.sl eEntry) a1), .dead, .dead, .dead, .one (.val .f (.i .i64) q0)] ++ List.replicate 21 .dead, List.replicate 27 none⟩ (endK (t_l_eqEntryS K).toEnv (F_l_eqEntryS K) [.tmp 4])
theorem l_eqEntryS.ok0 (K : Nat) (a0 : List TEntry) (a1 : List TEntry) (n : Nat) : l_eqEntryS.g0 K a0 a1 n = l_eqEntryS.l0 K a0 a1 n := by
  induction n with
  | zero =>
    funext q0
    kernel_rfl
  | succ n ih =>
    funext q0
    have e : l_eqEntryS.g0 K a0 a1 (n + 1) q0 = l_eqEntryS.l0b K a0 a1 (l_eqEntryS.g0 K a0 a1 n) q0 := by kernel_rfl
    rw [ih] at e
    refine e.trans ?_
    kernel_rfl
theorem ok_l_eqEntryS (K : Nat) : FOk Tryz.prog 63 (F_l_eqEntryS K) :=
  fok_of_run (T := t_l_eqEntryS K) (H := h_l_eqEntryS) (K := K) (c := c_l_eqEntryS) (ts := [.tmp 4]) Tryz.func63 (by kernel_rfl) (by kernel_rfl) (by kernel_rfl) rfl
    (tokc (ok_l_eqEntry) (tok0 tys_ok)) mixed
    (fun v => by
    have k0 := l_eqEntryS.ok0 K v.1 v.2.1 K
    have e : run (t_l_eqEntryS K) h_l_eqEntryS K c_l_eqEntryS (initSt (F_l_eqEntryS K).pk (F_l_eqEntryS K).ps Tryz.f63.ntmps (lv _ v)) (endK (t_l_eqEntryS K).toEnv (F_l_eqEntryS K) [.tmp 4]) = l_eqEntryS.b K v.1 v.2.1 (l_eqEntryS.g0 K v.1 v.2.1 K) := by kernel_rfl
    rw [k0] at e
    refine e.trans ?_
    kernel_rfl)

noncomputable def F_l_eqLog (K : Nat) : FSp := { ps := [.val true eLog [.f, .f, .r], .val true eLog [.f, .f, .r]], rs := [(false, .b, [.f])], fn := fun v => l_eqLog K v.1 v.2.1 }
noncomputable def t_l_eqLog (K : Nat) : Tab := tabOf (tiOf tys) [(63, F_l_eqEntryS K)]
def h_l_eqLog : Hint := ⟨msk [12, 524, 16, 16396, 16, 1048576, 16, 16], fun _ _ => false⟩
noncomputable def c_l_eqLog : Code := Tryz.f80.body.getD .skip
theorem ok_l_eqLog (K : Nat) : FOk Tryz.prog 80 (F_l_eqLog K) :=
  fok_of_run (T := t_l_eqLog K) (H := h_l_eqLog) (K := K) (c := c_l_eqLog) (ts := [.tmp 4]) Tryz.func80 (by kernel_rfl) (by kernel_rfl) (by kernel_rfl) rfl
    (tokc (ok_l_eqEntryS K) (tok0 tys_ok)) mixed
    (fun v => by kernel_rfl)

noncomputable def F_l_eqItem : FSp := { ps := [.val true eItem [.f, .f, .f, .f, .f], .val true eItem [.f, .f, .f, .f, .f]], rs := [(false, .b, [.f])], fn := fun v => l_eqItem v.1 v.2.1 }
noncomputable def t_l_eqItem (K : Nat) : Tab := tabOf (tiOf tys) []
def h_l_eqItem : Hint := ⟨msk [12, 524, 16, 16396, 16, 524300, 16, 16777228, 16, 536870912, 16, 16], fun _ _ => false⟩
noncomputable def c_l_eqItem : Code := Tryz.f116.body.getD .skip
theorem ok_l_eqItem : FOk Tryz.prog 116 (F_l_eqItem) := by
  let K := 0
  exact
  fok_of_run (T := t_l_eqItem K) (H := h_l_eqItem) (K := K) (c := c_l_eqItem) (ts := [.tmp 4]) Tryz.func116 (by kernel_rfl) (by kernel_rfl) (by kernel_rfl) rfl
    (tok0 tys_ok) mixed
    (fun v => by kernel_rfl)

noncomputable def F_l_eqItemS (K : Nat) : FSp := { ps := [.val false (.sl eItem) [.r], .val false (.sl eItem) [.r]], rs := [(false, .b, [.f])], fn := fun v => l_eqItemS K v.1 v.2.1 }
noncomputable def t_l_eqItemS (K : Nat) : Tab := tabOf (tiOf tys) [(116, F_l_eqItem)]
def h_l_eqItemS : Hint := ⟨msk [3, 1027, 16, 35, 16419, 35, 67108899, 16, 16], fun _ _ => false⟩
noncomputable def c_l_eqItemS : Code := Tryz.f109.body.getD .skip
noncomputable def l_eqItemS.g0 (K : Nat) (a0 : List TItem) (a1 : List TItem) (n : Nat) (q0 : Int) : Option (Bool × Unit) :=
  lpg (t_l_eqItemS K) h_l_eqItemS K c_l_eqItemS [.r, .r, .l, .r, .b] n ⟨[.one (.val .r (.sl eItem) a0), .one (.val .r (.sl eItem) a1), .dead, .dead, .dead, .one (.val .f (.i .i64) q0)] ++ List.replicate 21 .dead, List.replicate 27 none⟩ (endK (t_l_eqItemS K).toEnv (F_l_eqItemS K) [.tmp 4])
theorem l_eqItemS.ok0 (K : Nat) (a0 : List TItem) (a1 : List TItem) (n : Nat) : l_eqItemS.g0 K a0 a1 n = l_eqItemS.l0 K a0 a1 n := by
  induction n with
  | zero =>
    funext q0
    kernel_rfl
  | succ n ih =>
    funext q0
    have e : l_eqItemS.g0 K a0 a1 (n + 1) q0 = l_eqItemS.l0b K a0 a1 (l_eqItemS.g0 K a0 a1 n) q0 := by kernel_rfl
    rw [ih] at e
    refine e.trans ?_
    kernel_rfl
theorem ok_l_eqItemS (K : Nat) : FOk Tryz.prog 109 (F_l_eqItemS K) :=
  fok_of_run (T := t_l_eqItemS K) (H := h_l_eqItemS) (K := K) (c := c_l_eqItemS) (ts := [.tmp 4]) Tryz.func109 (by kernel_rfl) (by kernel_rfl) (by kernel_rfl) rfl
    (tokc (ok_l_eqItem) (tok0 tys_ok)) mixed
    (fun v => by
    have k0 := l_eqItemS.ok0 K v.1 v.2.1 K
    have e : run (t_l_eqItemS K) h_l_eqItemS K c_l_eqItemS (initSt (F_l_eqItemS K).pk (F_l_eqItemS K).ps Tryz.f109.ntmps (lv _ v)) (endK (t_l_eqItemS K).toEnv (F_l_eqItemS K) [.tmp 4]) = l_eqItemS.b K v.1 v.2.1 (l_eqItemS.g0 K v.1 v.2.1 K) := by kernel_rfl
    rw [k0] at e
    refine e.trans ?_
    kernel_rfl)

noncomputable def F_l_eqRow (K : Nat) : FSp := { ps := [.val true eRow [.f, .f, .r], .val true eRow [.f, .f, .r]], rs := [(false, .b, [.f])], fn := fun v => l_eqRow K v.1 v.2.1 }
noncomputable def t_l_eqRow (K : Nat) : Tab := tabOf (tiOf tys) [(109, F_l_eqItemS K)]
def h_l_eqRow : Hint := ⟨msk [12, 524, 16, 16396, 16, 1048576, 16, 16], fun _ _ => false⟩
noncomputable def c_l_eqRow : Code := Tryz.f97.body.getD .skip
theorem ok_l_eqRow (K : Nat) : FOk Tryz.prog 97 (F_l_eqRow K) :=
  fok_of_run (T := t_l_eqRow K) (H := h_l_eqRow) (K := K) (c := c_l_eqRow) (ts := [.tmp 4]) Tryz.func97 (by kernel_rfl) (by kernel_rfl) (by kernel_rfl) rfl
    (tokc (ok_l_eqItemS K) (tok0 tys_ok)) mixed
    (fun v => by kernel_rfl)

noncomputable def F_l_eqRowS (K : Nat) : FSp := { ps := [.val false (.sl eRow) [.r], .val false (.sl eRow) [.r]], rs := [(false, .b, [.f])], fn := fun v => l_eqRowS K v.1 v.2.1 }
noncomputable def t_l_eqRowS (K : Nat) : Tab := tabOf (tiOf tys) [(97, F_l_eqRow K)]
def h_l_eqRowS : Hint := ⟨msk [3, 1027, 16, 35, 16419, 35, 67108899, 16, 16], fun _ _ => false⟩
noncomputable def c_l_eqRowS : Code := Tryz.f81.body.getD .skip
noncomputable def l_eqRowS.g0 (K : Nat) (a0 : List TRow) (a1 : List TRow) (n : Nat) (q0 : Int) : Option (Bool × Unit) :=
  lpg (t_l_eqRowS K) h_l_eqRowS K c_l_eqRowS [.r, .r, .l, .r, .b] n ⟨[.one (.val .r (.sl eRow) a0), .one (.val .r (.sl eRow) a1), .dead, .dead, .dead, .one (.val .f (.i .i64) q0)] ++ List.replicate 21 .dead, List.replicate 27 none⟩ (endK (t_l_eqRowS K).toEnv (F_l_eqRowS K) [.tmp 4])
theorem l_eqRowS.ok0 (K : Nat) (a0 : List TRow) (a1 : List TRow) (n : Nat) : l_eqRowS.g0 K a0 a1 n = l_eqRowS.l0 K a0 a1 n := by
  induction n with
  | zero =>
    funext q0
    kernel_rfl
  | succ n ih =>
    funext q0
    have e : l_eqRowS.g0 K a0 a1 (n + 1) q0 = l_eqRowS.l0b K a0 a1 (l_eqRowS.g0 K a0 a1 n) q0 := by kernel_rfl
    rw [ih] at e
    refine e.trans ?_
    kernel_rfl
theorem ok_l_eqRowS (K : Nat) : FOk Tryz.prog 81 (F_l_eqRowS K) :=
  fok_of_run (T := t_l_eqRowS K) (H := h_l_eqRowS) (K := K) (c := c_l_eqRowS) (ts := [.tmp 4]) Tryz.func81 (by kernel_rfl) (by kernel_rfl) (by kernel_rfl) rfl
    (tokc (ok_l_eqRow K) (tok0 tys_ok)) mixed
    (fun v => by
    have k0 := l_eqRowS.ok0 K v.1 v.2.1 K
    have e : run (t_l_eqRowS K) h_l_eqRowS K c_l_eqRowS (initSt (F_l_eqRowS K).pk (F_l_eqRowS K).ps Tryz.f81.ntmps (lv _ v)) (endK (t_l_eqRowS K).toEnv (F_l_eqRowS K) [.tmp 4]) = l_eqRowS.b K v.1 v.2.1 (l_eqRowS.g0 K v.1 v.2.1 K) := by kernel_rfl
    rw [k0] at e
    refine e.trans ?_
    kernel_rfl)

noncomputable def F_l_eqMark : FSp := { ps := [.val true eMark [.f, .f], .val true eMark [.f, .f]], rs := [(false, .b, [.f])], fn := fun v => l_eqMark v.1 v.2.1 }
noncomputable def t_l_eqMark (K : Nat) : Tab := tabOf (tiOf tys) []
def h_l_eqMark : Hint := ⟨msk [12, 524, 16, 16384, 16, 16], fun _ _ => false⟩
noncomputable def c_l_eqMark : Code := Tryz.f117.body.getD .skip
theorem ok_l_eqMark : FOk Tryz.prog 117 (F_l_eqMark) := by
  let K := 0
  exact
  fok_of_run (T := t_l_eqMark K) (H := h_l_eqMark) (K := K) (c := c_l_eqMark) (ts := [.tmp 4]) Tryz.func117 (by kernel_rfl) (by kernel_rfl) (by kernel_rfl) rfl
    (tok0 tys_ok) mixed
    (fun v => by kernel_rfl)

noncomputable def F_l_eqMarkS (K : Nat) : FSp := { ps := [.val false (.sl eMark) [.r], .val false (.sl eMark) [.r]], rs := [(false, .b, [.f])], fn := fun v => l_eqMarkS K v.1 v.2.1 }
noncomputable def t_l_eqMarkS (K : Nat) : Tab := tabOf (tiOf tys) [(117, F_l_eqMark)]
def h_l_eqMarkS : Hint := ⟨msk [3, 1027, 16, 35, 16419, 35, 67108899, 16, 16], fun _ _ => false⟩
noncomputable def c_l_eqMarkS : Code := Tryz.f110.body.getD .skip
noncomputable def l_eqMarkS.g0 (K : Nat) (a0 : List TMark) (a1 : List TMark) (n : Nat) (q0 : Int) : Option (Bool × Unit) :=
  lpg (t_l_eqMarkS K) h_l_eqMarkS K c_l_eqMarkS [.r, .r, .l, .r, .b] n ⟨[.one (.val .r (.sl eMark) a0), .one (.val .r (.sl eMark) a1), .dead, .dead, .dead, .one (.val .f (.i .i64) q0)] ++ List.replicate 21 .dead, List.replicate 27 none⟩ (endK (t_l_eqMarkS K).toEnv (F_l_eqMarkS K) [.tmp 4])
theorem l_eqMarkS.ok0 (K : Nat) (a0 : List TMark) (a1 : List TMark) (n : Nat) : l_eqMarkS.g0 K a0 a1 n = l_eqMarkS.l0 K a0 a1 n := by
  induction n with
  | zero =>
    funext q0
    kernel_rfl
  | succ n ih =>
    funext q0
    have e : l_eqMarkS.g0 K a0 a1 (n + 1) q0 = l_eqMarkS.l0b K a0 a1 (l_eqMarkS.g0 K a0 a1 n) q0 := by kernel_rfl
    rw [ih] at e
    refine e.trans ?_
    kernel_rfl
theorem ok_l_eqMarkS (K : Nat) : FOk Tryz.prog 110 (F_l_eqMarkS K) :=
  fok_of_run (T := t_l_eqMarkS K) (H := h_l_eqMarkS) (K := K) (c := c_l_eqMarkS) (ts := [.tmp 4]) Tryz.func110 (by kernel_rfl) (by kernel_rfl) (by kernel_rfl) rfl
    (tokc (ok_l_eqMark) (tok0 tys_ok)) mixed
    (fun v => by
    have k0 := l_eqMarkS.ok0 K v.1 v.2.1 K
    have e : run (t_l_eqMarkS K) h_l_eqMarkS K c_l_eqMarkS (initSt (F_l_eqMarkS K).pk (F_l_eqMarkS K).ps Tryz.f110.ntmps (lv _ v)) (endK (t_l_eqMarkS K).toEnv (F_l_eqMarkS K) [.tmp 4]) = l_eqMarkS.b K v.1 v.2.1 (l_eqMarkS.g0 K v.1 v.2.1 K) := by kernel_rfl
    rw [k0] at e
    refine e.trans ?_
    kernel_rfl)

noncomputable def F_l_eqMaker (K : Nat) : FSp := { ps := [.val true eMaker [.f, .f, .f, .f, .r], .val true eMaker [.f, .f, .f, .f, .r]], rs := [(false, .b, [.f])], fn := fun v => l_eqMaker K v.1 v.2.1 }
noncomputable def t_l_eqMaker (K : Nat) : Tab := tabOf (tiOf tys) [(110, F_l_eqMarkS K)]
def h_l_eqMaker : Hint := ⟨msk [12, 524, 16, 16396, 16, 524300, 16, 16777228, 16, 1073741824, 16, 16], fun _ _ => false⟩
noncomputable def c_l_eqMaker : Code := Tryz.f98.body.getD .skip
theorem ok_l_eqMaker (K : Nat) : FOk Tryz.prog 98 (F_l_eqMaker K) :=
  fok_of_run (T := t_l_eqMaker K) (H := h_l_eqMaker) (K := K) (c := c_l_eqMaker) (ts := [.tmp 4]) Tryz.func98 (by kernel_rfl) (by kernel_rfl) (by kernel_rfl) rfl
    (tokc (ok_l_eqMarkS K) (tok0 tys_ok)) mixed
    (fun v => by kernel_rfl)

noncomputable def F_l_eqMakerS (K : Nat) : FSp := { ps := [.val false (.sl eMaker) [.r], .val false (.sl eMaker) [.r]], rs := [(false, .b, [.f])], fn := fun v => l_eqMakerS K v.1 v.2.1 }
noncomputable def t_l_eqMakerS (K : Nat) : Tab := tabOf (tiOf tys) [(98, F_l_eqMaker K)]
def h_l_eqMakerS : Hint := ⟨msk [3, 1027, 16, 35, 16419, 35, 67108899, 16, 16], fun _ _ => false⟩
noncomputable def c_l_eqMakerS : Code := Tryz.f82.body.getD .skip
noncomputable def l_eqMakerS.g0 (K : Nat) (a0 : List TMaker) (a1 : List TMaker) (n : Nat) (q0 : Int) : Option (Bool × Unit) :=
  lpg (t_l_eqMakerS K) h_l_eqMakerS K c_l_eqMakerS [.r, .r, .l, .r, .b] n ⟨[.one (.val .r (.sl eMaker) a0), .one (.val .r (.sl eMaker) a1), .dead, .dead, .dead, .one (.val .f (.i .i64) q0)] ++ List.replicate 21 .dead, List.replicate 27 none⟩ (endK (t_l_eqMakerS K).toEnv (F_l_eqMakerS K) [.tmp 4])
theorem l_eqMakerS.ok0 (K : Nat) (a0 : List TMaker) (a1 : List TMaker) (n : Nat) : l_eqMakerS.g0 K a0 a1 n = l_eqMakerS.l0 K a0 a1 n := by
  induction n with
  | zero =>
    funext q0
    kernel_rfl
  | succ n ih =>
    funext q0
    have e : l_eqMakerS.g0 K a0 a1 (n + 1) q0 = l_eqMakerS.l0b K a0 a1 (l_eqMakerS.g0 K a0 a1 n) q0 := by kernel_rfl
    rw [ih] at e
    refine e.trans ?_
    kernel_rfl
theorem ok_l_eqMakerS (K : Nat) : FOk Tryz.prog 82 (F_l_eqMakerS K) :=
  fok_of_run (T := t_l_eqMakerS K) (H := h_l_eqMakerS) (K := K) (c := c_l_eqMakerS) (ts := [.tmp 4]) Tryz.func82 (by kernel_rfl) (by kernel_rfl) (by kernel_rfl) rfl
    (tokc (ok_l_eqMaker K) (tok0 tys_ok)) mixed
    (fun v => by
    have k0 := l_eqMakerS.ok0 K v.1 v.2.1 K
    have e : run (t_l_eqMakerS K) h_l_eqMakerS K c_l_eqMakerS (initSt (F_l_eqMakerS K).pk (F_l_eqMakerS K).ps Tryz.f82.ntmps (lv _ v)) (endK (t_l_eqMakerS K).toEnv (F_l_eqMakerS K) [.tmp 4]) = l_eqMakerS.b K v.1 v.2.1 (l_eqMakerS.g0 K v.1 v.2.1 K) := by kernel_rfl
    rw [k0] at e
    refine e.trans ?_
    kernel_rfl)

noncomputable def F_l_eqIntS (K : Nat) : FSp := { ps := [.val false (.sl (.i .i64)) [.r], .val false (.sl (.i .i64)) [.r]], rs := [(false, .b, [.f])], fn := fun v => l_eqIntS K v.1 v.2.1 }
noncomputable def t_l_eqIntS (K : Nat) : Tab := tabOf (tiOf tys) []
def h_l_eqIntS : Hint := ⟨msk [3, 1027, 16, 35, 16419, 35, 33554467, 16, 16], fun _ _ => false⟩
noncomputable def c_l_eqIntS : Code := Tryz.f28.body.getD .skip
noncomputable def l_eqIntS.g0 (K : Nat) (a0 : List Int) (a1 : List Int) (n : Nat) (q0 : Int) : Option (Bool × Unit) :=
  lpg (t_l_eqIntS K) h_l_eqIntS K c_l_eqIntS [.r, .r, .l, .r, .b] n ⟨[.one (.val .r (.sl (.i .i64)) a0), .one (.val .r (.sl (.i .i64)) a1), .dead, .dead, .dead, .one (.val .f (.i .i64) q0)] ++ List.replicate 20 .dead, List.replicate 26 none⟩ (endK (t_l_eqIntS K).toEnv (F_l_eqIntS K) [.tmp 4])
theorem l_eqIntS.ok0 (K : Nat) (a0 : List Int) (a1 : List Int) (n : Nat) : l_eqIntS.g0 K a0 a1 n = l_eqIntS.l0 K a0 a1 n := by
  induction n with
  | zero =>
    funext q0
    kernel_rfl
  | succ n ih =>
    funext q0
    have e : l_eqIntS.g0 K a0 a1 (n + 1) q0 = l_eqIntS.l0b K a0 a1 (l_eqIntS.g0 K a0 a1 n) q0 := by kernel_rfl
    rw [ih] at e
    refine e.trans ?_
    kernel_rfl
theorem ok_l_eqIntS (K : Nat) : FOk Tryz.prog 28 (F_l_eqIntS K) :=
  fok_of_run (T := t_l_eqIntS K) (H := h_l_eqIntS) (K := K) (c := c_l_eqIntS) (ts := [.tmp 4]) Tryz.func28 (by kernel_rfl) (by kernel_rfl) (by kernel_rfl) rfl
    (tok0 tys_ok) mixed
    (fun v => by
    have k0 := l_eqIntS.ok0 K v.1 v.2.1 K
    have e : run (t_l_eqIntS K) h_l_eqIntS K c_l_eqIntS (initSt (F_l_eqIntS K).pk (F_l_eqIntS K).ps Tryz.f28.ntmps (lv _ v)) (endK (t_l_eqIntS K).toEnv (F_l_eqIntS K) [.tmp 4]) = l_eqIntS.b K v.1 v.2.1 (l_eqIntS.g0 K v.1 v.2.1 K) := by kernel_rfl
    rw [k0] at e
    refine e.trans ?_
    kernel_rfl)

noncomputable def F_l_eqGroup (K : Nat) : FSp := { ps := [.val true eGroup [.f, .r, .r, .r], .val true eGroup [.f, .r, .r, .r]], rs := [(false, .b, [.f])], fn := fun v => l_eqGroup K v.1 v.2.1 }
noncomputable def t_l_eqGroup (K : Nat) : Tab := tabOf (tiOf tys) [(28, F_l_eqIntS K)]
def h_l_eqGroup : Hint := ⟨msk [12, 524, 16, 32780, 16, 2097164, 16, 134217728, 16, 16], fun _ _ => false⟩
noncomputable def c_l_eqGroup : Code := Tryz.f99.body.getD .skip
theorem ok_l_eqGroup (K : Nat) : FOk Tryz.prog 99 (F_l_eqGroup K) :=
  fok_of_run (T := t_l_eqGroup K) (H := h_l_eqGroup) (K := K) (c := c_l_eqGroup) (ts := [.tmp 4]) Tryz.func99 (by kernel_rfl) (by kernel_rfl) (by kernel_rfl) rfl
    (tokc (ok_l_eqIntS K) (tok0 tys_ok)) mixed
    (fun v => by kernel_rfl)

noncomputable def F_l_eqGroupS (K : Nat) : FSp := { ps := [.val false (.sl eGroup) [.r], .val false (.sl eGroup) [.r]], rs := [(false, .b, [.f])], fn := fun v => l_eqGroupS K v.1 v.2.1 }
noncomputable def t_l_eqGroupS (K : Nat) : Tab := tabOf (tiOf tys) [(99, F_l_eqGroup K)]
def h_l_eqGroupS : Hint := ⟨msk [3, 1027, 16, 35, 16419, 35, 67108899, 16, 16], fun _ _ => false⟩
noncomputable def c_l_eqGroupS : Code := Tryz.f83.body.getD .skip
noncomputable def l_eqGroupS.g0 (K : Nat) (a0 : List TGroup) (a1 : List TGroup) (n : Nat) (q0 : Int) : Option (Bool × Unit) :=
  lpg (t_l_eqGroupS K) h_l_eqGroupS K c_l_eqGroupS [.r, .r, .l, .r, .b] n ⟨[.one (.val .r (.sl eGroup) a0), .one (.val .r (.sl eGroup) a1), .dead, .dead, .dead, .one (.val .f (.i .i64) q0)] ++ List.replicate 21 .dead, List.replicate 27 none⟩ (endK (t_l_eqGroupS K).toEnv (F_l_eqGroupS K) [.tmp 4])
theorem l_eqGroupS.ok0 (K : Nat) (a0 : List TGroup) (a1 : List TGroup) (n : Nat) : l_eqGroupS.g0 K a0 a1 n = l_eqGroupS.l0 K a0 a1 n := by
  induction n with
  | zero =>
    funext q0
    kernel_rfl
  | succ n ih =>
    funext q0
    have e : l_eqGroupS.g0 K a0 a1 (n + 1) q0 = l_eqGroupS.l0b K a0 a1 (l_eqGroupS.g0 K a0 a1 n) q0 := by kernel_rfl
    rw [ih] at e
    refine e.trans ?_
    kernel_rfl
theorem ok_l_eqGroupS (K : Nat) : FOk Tryz.prog 83 (F_l_eqGroupS K) :=
  fok_of_run (T := t_l_eqGroupS K) (H := h_l_eqGroupS) (K := K) (c := c_l_eqGroupS) (ts := [.tmp 4]) Tryz.func83 (by kernel_rfl) (by kernel_rfl) (by kernel_rfl) rfl
    (tokc (ok_l_eqGroup K) (tok0 tys_ok)) mixed
    (fun v => by
    have k0 := l_eqGroupS.ok0 K v.1 v.2.1 K
    have e : run (t_l_eqGroupS K) h_l_eqGroupS K c_l_eqGroupS (initSt (F_l_eqGroupS K).pk (F_l_eqGroupS K).ps Tryz.f83.ntmps (lv _ v)) (endK (t_l_eqGroupS K).toEnv (F_l_eqGroupS K) [.tmp 4]) = l_eqGroupS.b K v.1 v.2.1 (l_eqGroupS.g0 K v.1 v.2.1 K) := by kernel_rfl
    rw [k0] at e
    refine e.trans ?_
    kernel_rfl)

noncomputable def F_l_eqAnswer : FSp := { ps := [.val true eAnswer [.f, .f, .f, .f], .val true eAnswer [.f, .f, .f, .f]], rs := [(false, .b, [.f])], fn := fun v => l_eqAnswer v.1 v.2.1 }
noncomputable def t_l_eqAnswer (K : Nat) : Tab := tabOf (tiOf tys) []
def h_l_eqAnswer : Hint := ⟨msk [12, 524, 16, 16396, 16, 524300, 16, 16777216, 16, 16], fun _ _ => false⟩
noncomputable def c_l_eqAnswer : Code := Tryz.f64.body.getD .skip
theorem ok_l_eqAnswer : FOk Tryz.prog 64 (F_l_eqAnswer) := by
  let K := 0
  exact
  fok_of_run (T := t_l_eqAnswer K) (H := h_l_eqAnswer) (K := K) (c := c_l_eqAnswer) (ts := [.tmp 4]) Tryz.func64 (by kernel_rfl) (by kernel_rfl) (by kernel_rfl) rfl
    (tok0 tys_ok) mixed
    (fun v => by kernel_rfl)

noncomputable def F_l_eqAnswerS (K : Nat) : FSp := { ps := [.val false (.sl eAnswer) [.r], .val false (.sl eAnswer) [.r]], rs := [(false, .b, [.f])], fn := fun v => l_eqAnswerS K v.1 v.2.1 }
noncomputable def t_l_eqAnswerS (K : Nat) : Tab := tabOf (tiOf tys) [(64, F_l_eqAnswer)]
def h_l_eqAnswerS : Hint := ⟨msk [3, 1027, 16, 35, 16419, 35, 67108899, 16, 16], fun _ _ => false⟩
noncomputable def c_l_eqAnswerS : Code := Tryz.f84.body.getD .skip
noncomputable def l_eqAnswerS.g0 (K : Nat) (a0 : List TAnswer) (a1 : List TAnswer) (n : Nat) (q0 : Int) : Option (Bool × Unit) :=
  lpg (t_l_eqAnswerS K) h_l_eqAnswerS K c_l_eqAnswerS [.r, .r, .l, .r, .b] n ⟨[.one (.val .r (.sl eAnswer) a0), .one (.val .r (.sl eAnswer) a1), .dead, .dead, .dead, .one (.val .f (.i .i64) q0)] ++ List.replicate 21 .dead, List.replicate 27 none⟩ (endK (t_l_eqAnswerS K).toEnv (F_l_eqAnswerS K) [.tmp 4])
theorem l_eqAnswerS.ok0 (K : Nat) (a0 : List TAnswer) (a1 : List TAnswer) (n : Nat) : l_eqAnswerS.g0 K a0 a1 n = l_eqAnswerS.l0 K a0 a1 n := by
  induction n with
  | zero =>
    funext q0
    kernel_rfl
  | succ n ih =>
    funext q0
    have e : l_eqAnswerS.g0 K a0 a1 (n + 1) q0 = l_eqAnswerS.l0b K a0 a1 (l_eqAnswerS.g0 K a0 a1 n) q0 := by kernel_rfl
    rw [ih] at e
    refine e.trans ?_
    kernel_rfl
theorem ok_l_eqAnswerS (K : Nat) : FOk Tryz.prog 84 (F_l_eqAnswerS K) :=
  fok_of_run (T := t_l_eqAnswerS K) (H := h_l_eqAnswerS) (K := K) (c := c_l_eqAnswerS) (ts := [.tmp 4]) Tryz.func84 (by kernel_rfl) (by kernel_rfl) (by kernel_rfl) rfl
    (tokc (ok_l_eqAnswer) (tok0 tys_ok)) mixed
    (fun v => by
    have k0 := l_eqAnswerS.ok0 K v.1 v.2.1 K
    have e : run (t_l_eqAnswerS K) h_l_eqAnswerS K c_l_eqAnswerS (initSt (F_l_eqAnswerS K).pk (F_l_eqAnswerS K).ps Tryz.f84.ntmps (lv _ v)) (endK (t_l_eqAnswerS K).toEnv (F_l_eqAnswerS K) [.tmp 4]) = l_eqAnswerS.b K v.1 v.2.1 (l_eqAnswerS.g0 K v.1 v.2.1 K) := by kernel_rfl
    rw [k0] at e
    refine e.trans ?_
    kernel_rfl)

noncomputable def F_l_eqKeep (K : Nat) : FSp := { ps := [.val true eKeep [.r, .r, .r, .f, .r, .r], .val true eKeep [.r, .r, .r, .f, .r, .r]], rs := [(false, .b, [.f])], fn := fun v => l_eqKeep K v.1 v.2.1 }
noncomputable def t_l_eqKeep (K : Nat) : Tab := tabOf (tiOf tys) [(81, F_l_eqRowS K), (82, F_l_eqMakerS K), (83, F_l_eqGroupS K), (28, F_l_eqIntS K), (84, F_l_eqAnswerS K)]
def h_l_eqKeep : Hint := ⟨msk [12, 1036, 16, 65548, 16, 4194316, 16, 134217740, 16, 8589934604, 16, 549755813888, 16, 16], fun _ _ => false⟩
noncomputable def c_l_eqKeep : Code := Tryz.f61.body.getD .skip
theorem ok_l_eqKeep (K : Nat) : FOk Tryz.prog 61 (F_l_eqKeep K) :=
  fok_of_run (T := t_l_eqKeep K) (H := h_l_eqKeep) (K := K) (c := c_l_eqKeep) (ts := [.tmp 4]) Tryz.func61 (by kernel_rfl) (by kernel_rfl) (by kernel_rfl) rfl
    (tokc (ok_l_eqRowS K) (tokc (ok_l_eqMakerS K) (tokc (ok_l_eqGroupS K) (tokc (ok_l_eqIntS K) (tokc (ok_l_eqAnswerS K) (tok0 tys_ok)))))) mixed
    (fun v => by kernel_rfl)

noncomputable def F_l_eqHard (K : Nat) : FSp := { ps := [.val true eHard [.f, .f, .f, .f, .r, .r, .r, .r, .f, .r, .r], .val true eHard [.f, .f, .f, .f, .r, .r, .r, .r, .f, .r, .r]], rs := [(false, .b, [.f])], fn := fun v => l_eqHard K v.1 v.2.1 }
noncomputable def t_l_eqHard (K : Nat) : Tab := tabOf (tiOf tys) [(80, F_l_eqLog K), (61, F_l_eqKeep K)]
def h_l_eqHard : Hint := ⟨msk [12, 524, 16, 16396, 16, 1048588, 16, 67108864, 16, 16], fun _ _ => false⟩
noncomputable def c_l_eqHard : Code := Tryz.f59.body.getD .skip
theorem ok_l_eqHard (K : Nat) : FOk Tryz.prog 59 (F_l_eqHard K) :=
  fok_of_run (T := t_l_eqHard K) (H := h_l_eqHard) (K := K) (c := c_l_eqHard) (ts := [.tmp 4]) Tryz.func59 (by kernel_rfl) (by kernel_rfl) (by kernel_rfl) rfl
    (tokc (ok_l_eqLog K) (tokc (ok_l_eqKeep K) (tok0 tys_ok))) mixed
    (fun v => by kernel_rfl)

noncomputable def F_l_eqBoolS (K : Nat) : FSp := { ps := [.val false (.sl .b) [.r], .val false (.sl .b) [.r]], rs := [(false, .b, [.f])], fn := fun v => l_eqBoolS K v.1 v.2.1 }
noncomputable def t_l_eqBoolS (K : Nat) : Tab := tabOf (tiOf tys) []
def h_l_eqBoolS : Hint := ⟨msk [3, 1027, 16, 35, 16419, 35, 33554467, 16, 16], fun _ _ => false⟩
noncomputable def c_l_eqBoolS : Code := Tryz.f60.body.getD .skip
noncomputable def l_eqBoolS.g0 (K : Nat) (a0 : List Bool) (a1 : List Bool) (n : Nat) (q0 : Int) : Option (Bool × Unit) :=
  lpg (t_l_eqBoolS K) h_l_eqBoolS K c_l_eqBoolS [.r, .r, .l, .r, .b] n ⟨[.one (.val .r (.sl .b) a0), .one (.val .r (.sl .b) a1), .dead, .dead, .dead, .one (.val .f (.i .i64) q0)] ++ List.replicate 20 .dead, List.replicate 26 none⟩ (endK (t_l_eqBoolS K).toEnv (F_l_eqBoolS K) [.tmp 4])
theorem l_eqBoolS.ok0 (K : Nat) (a0 : List Bool) (a1 : List Bool) (n : Nat) : l_eqBoolS.g0 K a0 a1 n = l_eqBoolS.l0 K a0 a1 n := by
  induction n with
  | zero =>
    funext q0
    kernel_rfl
  | succ n ih =>
    funext q0
    have e : l_eqBoolS.g0 K a0 a1 (n + 1) q0 = l_eqBoolS.l0b K a0 a1 (l_eqBoolS.g0 K a0 a1 n) q0 := by kernel_rfl
    rw [ih] at e
    refine e.trans ?_
    kernel_rfl
theorem ok_l_eqBoolS (K : Nat) : FOk Tryz.prog 60 (F_l_eqBoolS K) :=
  fok_of_run (T := t_l_eqBoolS K) (H := h_l_eqBoolS) (K := K) (c := c_l_eqBoolS) (ts := [.tmp 4]) Tryz.func60 (by kernel_rfl) (by kernel_rfl) (by kernel_rfl) rfl
    (tok0 tys_ok) mixed
    (fun v => by
    have k0 := l_eqBoolS.ok0 K v.1 v.2.1 K
    have e : run (t_l_eqBoolS K) h_l_eqBoolS K c_l_eqBoolS (initSt (F_l_eqBoolS K).pk (F_l_eqBoolS K).ps Tryz.f60.ntmps (lv _ v)) (endK (t_l_eqBoolS K).toEnv (F_l_eqBoolS K) [.tmp 4]) = l_eqBoolS.b K v.1 v.2.1 (l_eqBoolS.g0 K v.1 v.2.1 K) := by kernel_rfl
    rw [k0] at e
    refine e.trans ?_
    kernel_rfl)

noncomputable def F_l_eqByteS (K : Nat) : FSp := { ps := [.val false (.sl (.i .u8)) [.r], .val false (.sl (.i .u8)) [.r]], rs := [(false, .b, [.f])], fn := fun v => l_eqByteS K v.1 v.2.1 }
noncomputable def t_l_eqByteS (K : Nat) : Tab := tabOf (tiOf tys) []
def h_l_eqByteS : Hint := ⟨msk [3, 1027, 16, 35, 16419, 35, 33554467, 16, 16], fun _ _ => false⟩
noncomputable def c_l_eqByteS : Code := Tryz.f85.body.getD .skip
noncomputable def l_eqByteS.g0 (K : Nat) (a0 : List Int) (a1 : List Int) (n : Nat) (q0 : Int) : Option (Bool × Unit) :=
  lpg (t_l_eqByteS K) h_l_eqByteS K c_l_eqByteS [.r, .r, .l, .r, .b] n ⟨[.one (.val .r (.sl (.i .u8)) a0), .one (.val .r (.sl (.i .u8)) a1), .dead, .dead, .dead, .one (.val .f (.i .i64) q0)] ++ List.replicate 20 .dead, List.replicate 26 none⟩ (endK (t_l_eqByteS K).toEnv (F_l_eqByteS K) [.tmp 4])
theorem l_eqByteS.ok0 (K : Nat) (a0 : List Int) (a1 : List Int) (n : Nat) : l_eqByteS.g0 K a0 a1 n = l_eqByteS.l0 K a0 a1 n := by
  induction n with
  | zero =>
    funext q0
    kernel_rfl
  | succ n ih =>
    funext q0
    have e : l_eqByteS.g0 K a0 a1 (n + 1) q0 = l_eqByteS.l0b K a0 a1 (l_eqByteS.g0 K a0 a1 n) q0 := by kernel_rfl
    rw [ih] at e
    refine e.trans ?_
    kernel_rfl
theorem ok_l_eqByteS (K : Nat) : FOk Tryz.prog 85 (F_l_eqByteS K) :=
  fok_of_run (T := t_l_eqByteS K) (H := h_l_eqByteS) (K := K) (c := c_l_eqByteS) (ts := [.tmp 4]) Tryz.func85 (by kernel_rfl) (by kernel_rfl) (by kernel_rfl) rfl
    (tok0 tys_ok) mixed
    (fun v => by
    have k0 := l_eqByteS.ok0 K v.1 v.2.1 K
    have e : run (t_l_eqByteS K) h_l_eqByteS K c_l_eqByteS (initSt (F_l_eqByteS K).pk (F_l_eqByteS K).ps Tryz.f85.ntmps (lv _ v)) (endK (t_l_eqByteS K).toEnv (F_l_eqByteS K) [.tmp 4]) = l_eqByteS.b K v.1 v.2.1 (l_eqByteS.g0 K v.1 v.2.1 K) := by kernel_rfl
    rw [k0] at e
    refine e.trans ?_
    kernel_rfl)

noncomputable def F_l_eqDisk (K : Nat) : FSp := { ps := [.val true eDisk [.r, .f], .val true eDisk [.r, .f]], rs := [(false, .b, [.f])], fn := fun v => l_eqDisk K v.1 v.2.1 }
noncomputable def t_l_eqDisk (K : Nat) : Tab := tabOf (tiOf tys) [(85, F_l_eqByteS K)]
def h_l_eqDisk : Hint := ⟨msk [12, 1036, 16, 32768, 16, 16], fun _ _ => false⟩
noncomputable def c_l_eqDisk : Code := Tryz.f62.body.getD .skip
theorem ok_l_eqDisk (K : Nat) : FOk Tryz.prog 62 (F_l_eqDisk K) :=
  fok_of_run (T := t_l_eqDisk K) (H := h_l_eqDisk) (K := K) (c := c_l_eqDisk) (ts := [.tmp 4]) Tryz.func62 (by kernel_rfl) (by kernel_rfl) (by kernel_rfl) rfl
    (tokc (ok_l_eqByteS K) (tok0 tys_ok)) mixed
    (fun v => by kernel_rfl)

noncomputable def F_l_eqRpc (K : Nat) : FSp := { ps := [.val true eRpc [.f, .f, .f, .f, .f, .f, .f, .r, .f, .f], .val true eRpc [.f, .f, .f, .f, .f, .f, .f, .r, .f, .f]], rs := [(false, .b, [.f])], fn := fun v => l_eqRpc K v.1 v.2.1 }
noncomputable def t_l_eqRpc (K : Nat) : Tab := tabOf (tiOf tys) [(63, F_l_eqEntryS K)]
def h_l_eqRpc : Hint := ⟨msk [12, 524, 16, 16396, 16, 524300, 16, 16777228, 16, 536870924, 16, 17179869196, 16, 549755813900, 16, 35184372088844, 16, 1125899906842636, 16, 36028797018963968, 16, 16], fun _ _ => false⟩
noncomputable def c_l_eqRpc : Code := Tryz.f43.body.getD .skip
theorem ok_l_eqRpc (K : Nat) : FOk Tryz.prog 43 (F_l_eqRpc K) :=
  fok_of_run (T := t_l_eqRpc K) (H := h_l_eqRpc) (K := K) (c := c_l_eqRpc) (ts := [.tmp 4]) Tryz.func43 (by kernel_rfl) (by kernel_rfl) (by kernel_rfl) rfl
    (tokc (ok_l_eqEntryS K) (tok0 tys_ok)) mixed
    (fun v => by kernel_rfl)

noncomputable def F_l_eqRpcS (K : Nat) : FSp := { ps := [.val false (.sl eRpc) [.r], .val false (.sl eRpc) [.r]], rs := [(false, .b, [.f])], fn := fun v => l_eqRpcS K v.1 v.2.1 }
noncomputable def t_l_eqRpcS (K : Nat) : Tab := tabOf (tiOf tys) [(43, F_l_eqRpc K)]
def h_l_eqRpcS : Hint := ⟨msk [3, 1027, 16, 35, 16419, 35, 67108899, 16, 16], fun _ _ => false⟩
noncomputable def c_l_eqRpcS : Code := Tryz.f26.body.getD .skip
noncomputable def l_eqRpcS.g0 (K : Nat) (a0 : List TRpc) (a1 : List TRpc) (n : Nat) (q0 : Int) : Option (Bool × Unit) :=
  lpg (t_l_eqRpcS K) h_l_eqRpcS K c_l_eqRpcS [.r, .r, .l, .r, .b] n ⟨[.one (.val .r (.sl eRpc) a0), .one (.val .r (.sl eRpc) a1), .dead, .dead, .dead, .one (.val .f (.i .i64) q0)] ++ List.replicate 21 .dead, List.replicate 27 none⟩ (endK (t_l_eqRpcS K).toEnv (F_l_eqRpcS K) [.tmp 4])
theorem l_eqRpcS.ok0 (K : Nat) (a0 : List TRpc) (a1 : List TRpc) (n : Nat) : l_eqRpcS.g0 K a0 a1 n = l_eqRpcS.l0 K a0 a1 n := by
  induction n with
  | zero =>
    funext q0
    kernel_rfl
  | succ n ih =>
    funext q0
    have e : l_eqRpcS.g0 K a0 a1 (n + 1) q0 = l_eqRpcS.l0b K a0 a1 (l_eqRpcS.g0 K a0 a1 n) q0 := by kernel_rfl
    rw [ih] at e
    refine e.trans ?_
    kernel_rfl
theorem ok_l_eqRpcS (K : Nat) : FOk Tryz.prog 26 (F_l_eqRpcS K) :=
  fok_of_run (T := t_l_eqRpcS K) (H := h_l_eqRpcS) (K := K) (c := c_l_eqRpcS) (ts := [.tmp 4]) Tryz.func26 (by kernel_rfl) (by kernel_rfl) (by kernel_rfl) rfl
    (tokc (ok_l_eqRpc K) (tok0 tys_ok)) mixed
    (fun v => by
    have k0 := l_eqRpcS.ok0 K v.1 v.2.1 K
    have e : run (t_l_eqRpcS K) h_l_eqRpcS K c_l_eqRpcS (initSt (F_l_eqRpcS K).pk (F_l_eqRpcS K).ps Tryz.f26.ntmps (lv _ v)) (endK (t_l_eqRpcS K).toEnv (F_l_eqRpcS K) [.tmp 4]) = l_eqRpcS.b K v.1 v.2.1 (l_eqRpcS.g0 K v.1 v.2.1 K) := by kernel_rfl
    rw [k0] at e
    refine e.trans ?_
    kernel_rfl)

noncomputable def F_l_eqPeer (K : Nat) : FSp := { ps := [.val true ePeer [.f, .f, .f, .f, .f, .r, .r, .r, .r, .f, .r, .r, .f, .r, .r, .r, .f, .r, .r, .r, .f, .r, .r, .r, .f, .r], .val true ePeer [.f, .f, .f, .f, .f, .r, .r, .r, .r, .f, .r, .r, .f, .r, .r, .r, .f, .r, .r, .r, .f, .r, .r, .r, .f, .r]], rs := [(false, .b, [.f])], fn := fun v => l_eqPeer K v.1 v.2.1 }
noncomputable def t_l_eqPeer (K : Nat) : Tab := tabOf (tiOf tys) [(59, F_l_eqHard K), (60, F_l_eqBoolS K), (28, F_l_eqIntS K), (61, F_l_eqKeep K), (62, F_l_eqDisk K), (26, F_l_eqRpcS K)]
def h_l_eqPeer : Hint := ⟨msk [12, 524, 16, 32780, 16, 1048588, 16, 67108876, 16, 4294967308, 16, 274877906956, 16, 8796093022220, 16, 562949953421324, 16, 36028797018963980, 16, 2305843009213693952, 16, 16], fun _ _ => false⟩
noncomputable def c_l_eqPeer : Code := Tryz.f42.body.getD .skip
theorem ok_l_eqPeer (K : Nat) : FOk Tryz.prog 42 (F_l_eqPeer K) :=
  fok_of_run (T := t_l_eqPeer K) (H := h_l_eqPeer) (K := K) (c := c_l_eqPeer) (ts := [.tmp 4]) Tryz.func42 (by kernel_rfl) (by kernel_rfl) (by kernel_rfl) rfl
    (tokc (ok_l_eqHard K) (tokc (ok_l_eqBoolS K) (tokc (ok_l_eqIntS K) (tokc (ok_l_eqKeep K) (tokc (ok_l_eqDisk K) (tokc (ok_l_eqRpcS K) (tok0 tys_ok))))))) mixed
    (fun v => by kernel_rfl)

noncomputable def F_l_eqPeerS (K : Nat) : FSp := { ps := [.val false (.sl ePeer) [.r], .val false (.sl ePeer) [.r]], rs := [(false, .b, [.f])], fn := fun v => l_eqPeerS K v.1 v.2.1 }
noncomputable def t_l_eqPeerS (K : Nat) : Tab := tabOf (tiOf tys) [(42, F_l_eqPeer K)]
def h_l_eqPeerS : Hint := ⟨msk [3, 1027, 16, 35, 16419, 35, 67108899, 16, 16], fun _ _ => false⟩
noncomputable def c_l_eqPeerS : Code := Tryz.f25.body.getD .skip
noncomputable def l_eqPeerS.g0 (K : Nat) (a0 : List TPeer) (a1 : List TPeer) (n : Nat) (q0 : Int) : Option (Bool × Unit) :=
  lpg (t_l_eqPeerS K) h_l_eqPeerS K c_l_eqPeerS [.r, .r, .l, .r, .b] n ⟨[.one (.val .r (.sl ePeer) a0), .one (.val .r (.sl ePeer) a1), .dead, .dead, .dead, .one (.val .f (.i .i64) q0)] ++ List.replicate 21 .dead, List.replicate 27 none⟩ (endK (t_l_eqPeerS K).toEnv (F_l_eqPeerS K) [.tmp 4])
theorem l_eqPeerS.ok0 (K : Nat) (a0 : List TPeer) (a1 : List TPeer) (n : Nat) : l_eqPeerS.g0 K a0 a1 n = l_eqPeerS.l0 K a0 a1 n := by
  induction n with
  | zero =>
    funext q0
    kernel_rfl
  | succ n ih =>
    funext q0
    have e : l_eqPeerS.g0 K a0 a1 (n + 1) q0 = l_eqPeerS.l0b K a0 a1 (l_eqPeerS.g0 K a0 a1 n) q0 := by kernel_rfl
    rw [ih] at e
    refine e.trans ?_
    kernel_rfl
theorem ok_l_eqPeerS (K : Nat) : FOk Tryz.prog 25 (F_l_eqPeerS K) :=
  fok_of_run (T := t_l_eqPeerS K) (H := h_l_eqPeerS) (K := K) (c := c_l_eqPeerS) (ts := [.tmp 4]) Tryz.func25 (by kernel_rfl) (by kernel_rfl) (by kernel_rfl) rfl
    (tokc (ok_l_eqPeer K) (tok0 tys_ok)) mixed
    (fun v => by
    have k0 := l_eqPeerS.ok0 K v.1 v.2.1 K
    have e : run (t_l_eqPeerS K) h_l_eqPeerS K c_l_eqPeerS (initSt (F_l_eqPeerS K).pk (F_l_eqPeerS K).ps Tryz.f25.ntmps (lv _ v)) (endK (t_l_eqPeerS K).toEnv (F_l_eqPeerS K) [.tmp 4]) = l_eqPeerS.b K v.1 v.2.1 (l_eqPeerS.g0 K v.1 v.2.1 K) := by kernel_rfl
    rw [k0] at e
    refine e.trans ?_
    kernel_rfl)

noncomputable def F_l_eqCmdS (K : Nat) : FSp := { ps := [.val false (.sl eCmd) [.r], .val false (.sl eCmd) [.r]], rs := [(false, .b, [.f])], fn := fun v => l_eqCmdS K v.1 v.2.1 }
noncomputable def t_l_eqCmdS (K : Nat) : Tab := tabOf (tiOf tys) [(44, F_l_eqCmd)]
def h_l_eqCmdS : Hint := ⟨msk [3, 1027, 16, 35, 16419, 35, 67108899, 16, 16], fun _ _ => false⟩
noncomputable def c_l_eqCmdS : Code := Tryz.f27.body.getD .skip
noncomputable def l_eqCmdS.g0 (K : Nat) (a0 : List TCmd) (a1 : List TCmd) (n : Nat) (q0 : Int) : Option (Bool × Unit) :=
  lpg (t_l_eqCmdS K) h_l_eqCmdS K c_l_eqCmdS [.r, .r, .l, .r, .b] n ⟨[.one (.val .r (.sl eCmd) a0), .one (.val .r (.sl eCmd) a1), .dead, .dead, .dead, .one (.val .f (.i .i64) q0)] ++ List.replicate 21 .dead, List.replicate 27 none⟩ (endK (t_l_eqCmdS K).toEnv (F_l_eqCmdS K) [.tmp 4])
theorem l_eqCmdS.ok0 (K : Nat) (a0 : List TCmd) (a1 : List TCmd) (n : Nat) : l_eqCmdS.g0 K a0 a1 n = l_eqCmdS.l0 K a0 a1 n := by
  induction n with
  | zero =>
    funext q0
    kernel_rfl
  | succ n ih =>
    funext q0
    have e : l_eqCmdS.g0 K a0 a1 (n + 1) q0 = l_eqCmdS.l0b K a0 a1 (l_eqCmdS.g0 K a0 a1 n) q0 := by kernel_rfl
    rw [ih] at e
    refine e.trans ?_
    kernel_rfl
theorem ok_l_eqCmdS (K : Nat) : FOk Tryz.prog 27 (F_l_eqCmdS K) :=
  fok_of_run (T := t_l_eqCmdS K) (H := h_l_eqCmdS) (K := K) (c := c_l_eqCmdS) (ts := [.tmp 4]) Tryz.func27 (by kernel_rfl) (by kernel_rfl) (by kernel_rfl) rfl
    (tokc (ok_l_eqCmd) (tok0 tys_ok)) mixed
    (fun v => by
    have k0 := l_eqCmdS.ok0 K v.1 v.2.1 K
    have e : run (t_l_eqCmdS K) h_l_eqCmdS K c_l_eqCmdS (initSt (F_l_eqCmdS K).pk (F_l_eqCmdS K).ps Tryz.f27.ntmps (lv _ v)) (endK (t_l_eqCmdS K).toEnv (F_l_eqCmdS K) [.tmp 4]) = l_eqCmdS.b K v.1 v.2.1 (l_eqCmdS.g0 K v.1 v.2.1 K) := by kernel_rfl
    rw [k0] at e
    refine e.trans ?_
    kernel_rfl)

noncomputable def F_l_eqHeard : FSp := { ps := [.val true eHeard [.f, .f, .f, .f, .f, .f, .f, .f], .val true eHeard [.f, .f, .f, .f, .f, .f, .f, .f]], rs := [(false, .b, [.f])], fn := fun v => l_eqHeard v.1 v.2.1 }
noncomputable def t_l_eqHeard (K : Nat) : Tab := tabOf (tiOf tys) [(64, F_l_eqAnswer)]
def h_l_eqHeard : Hint := ⟨msk [12, 524, 16, 16396, 16, 1048588, 16, 33554444, 16, 1073741824, 16, 16], fun _ _ => false⟩
noncomputable def c_l_eqHeard : Code := Tryz.f45.body.getD .skip
theorem ok_l_eqHeard : FOk Tryz.prog 45 (F_l_eqHeard) := by
  let K := 0
  exact
  fok_of_run (T := t_l_eqHeard K) (H := h_l_eqHeard) (K := K) (c := c_l_eqHeard) (ts := [.tmp 4]) Tryz.func45 (by kernel_rfl) (by kernel_rfl) (by kernel_rfl) rfl
    (tokc (ok_l_eqAnswer) (tok0 tys_ok)) mixed
    (fun v => by kernel_rfl)

noncomputable def F_l_eqHeardS (K : Nat) : FSp := { ps := [.val false (.sl eHeard) [.r], .val false (.sl eHeard) [.r]], rs := [(false, .b, [.f])], fn := fun v => l_eqHeardS K v.1 v.2.1 }
noncomputable def t_l_eqHeardS (K : Nat) : Tab := tabOf (tiOf tys) [(45, F_l_eqHeard)]
def h_l_eqHeardS : Hint := ⟨msk [3, 1027, 16, 35, 16419, 35, 67108899, 16, 16], fun _ _ => false⟩
noncomputable def c_l_eqHeardS : Code := Tryz.f29.body.getD .skip
noncomputable def l_eqHeardS.g0 (K : Nat) (a0 : List THeard) (a1 : List THeard) (n : Nat) (q0 : Int) : Option (Bool × Unit) :=
  lpg (t_l_eqHeardS K) h_l_eqHeardS K c_l_eqHeardS [.r, .r, .l, .r, .b] n ⟨[.one (.val .r (.sl eHeard) a0), .one (.val .r (.sl eHeard) a1), .dead, .dead, .dead, .one (.val .f (.i .i64) q0)] ++ List.replicate 21 .dead, List.replicate 27 none⟩ (endK (t_l_eqHeardS K).toEnv (F_l_eqHeardS K) [.tmp 4])
theorem l_eqHeardS.ok0 (K : Nat) (a0 : List THeard) (a1 : List THeard) (n : Nat) : l_eqHeardS.g0 K a0 a1 n = l_eqHeardS.l0 K a0 a1 n := by
  induction n with
  | zero =>
    funext q0
    kernel_rfl
  | succ n ih =>
    funext q0
    have e : l_eqHeardS.g0 K a0 a1 (n + 1) q0 = l_eqHeardS.l0b K a0 a1 (l_eqHeardS.g0 K a0 a1 n) q0 := by kernel_rfl
    rw [ih] at e
    refine e.trans ?_
    kernel_rfl
theorem ok_l_eqHeardS (K : Nat) : FOk Tryz.prog 29 (F_l_eqHeardS K) :=
  fok_of_run (T := t_l_eqHeardS K) (H := h_l_eqHeardS) (K := K) (c := c_l_eqHeardS) (ts := [.tmp 4]) Tryz.func29 (by kernel_rfl) (by kernel_rfl) (by kernel_rfl) rfl
    (tokc (ok_l_eqHeard) (tok0 tys_ok)) mixed
    (fun v => by
    have k0 := l_eqHeardS.ok0 K v.1 v.2.1 K
    have e : run (t_l_eqHeardS K) h_l_eqHeardS K c_l_eqHeardS (initSt (F_l_eqHeardS K).pk (F_l_eqHeardS K).ps Tryz.f29.ntmps (lv _ v)) (endK (t_l_eqHeardS K).toEnv (F_l_eqHeardS K) [.tmp 4]) = l_eqHeardS.b K v.1 v.2.1 (l_eqHeardS.g0 K v.1 v.2.1 K) := by kernel_rfl
    rw [k0] at e
    refine e.trans ?_
    kernel_rfl)

noncomputable def F_l_eqWorld (K : Nat) : FSp := { ps := [.val true eWorld [.f, .f, .f, .f, .f, .r, .r, .r, .r, .r, .r], .val true eWorld [.f, .f, .f, .f, .f, .r, .r, .r, .r, .r, .r]], rs := [(false, .b, [.f])], fn := fun v => l_eqWorld K v.1 v.2.1 }
noncomputable def t_l_eqWorld (K : Nat) : Tab := tabOf (tiOf tys) [(24, F_l_eqSetup), (25, F_l_eqPeerS K), (26, F_l_eqRpcS K), (27, F_l_eqCmdS K), (28, F_l_eqIntS K), (29, F_l_eqHeardS K)]
def h_l_eqWorld : Hint := ⟨msk [12, 1036, 16, 32780, 16, 2097164, 16, 134217740, 16, 8589934604, 16, 549755813900, 16, 35184372088844, 16, 2251799813685248, 16, 16], fun _ _ => false⟩
noncomputable def c_l_eqWorld : Code := Tryz.f8.body.getD .skip
theorem ok_l_eqWorld (K : Nat) : FOk Tryz.prog 8 (F_l_eqWorld K) :=
  fok_of_run (T := t_l_eqWorld K) (H := h_l_eqWorld) (K := K) (c := c_l_eqWorld) (ts := [.tmp 4]) Tryz.func8 (by kernel_rfl) (by kernel_rfl) (by kernel_rfl) rfl
    (tokc (ok_l_eqSetup) (tokc (ok_l_eqPeerS K) (tokc (ok_l_eqRpcS K) (tokc (ok_l_eqCmdS K) (tokc (ok_l_eqIntS K) (tokc (ok_l_eqHeardS K) (tok0 tys_ok))))))) mixed
    (fun v => by kernel_rfl)

noncomputable def F_l_FnExactWorldText (K : Nat) : FSp := lawF [(true, eWorld)] fun v => l_FnExactWorldText K v.1
noncomputable def t_l_FnExactWorldText (K : Nat) : Tab := tabOf (tiOf tys) [(4, F_l_szWorld K), (6, F_l_toWorld K), (5, F_s_WorldText K), (7, F_i_WorldText K), (8, F_l_eqWorld K)]
def h_l_FnExactWorldText : Hint := ⟨msk [2, 10, 10, 2050, 4, 18, 50, 114, 2097186, 4, 67108864, 4, 4], fun _ _ => false⟩
noncomputable def c_l_FnExactWorldText : Code := Tryz.f3.body.getD .skip
theorem ok_l_FnExactWorldText (K : Nat) : FOk Tryz.prog 3 (F_l_FnExactWorldText K) :=
  fok_of_run (T := t_l_FnExactWorldText K) (H := h_l_FnExactWorldText) (K := K) (c := c_l_FnExactWorldText) (ts := [.tmp 2]) Tryz.func3 (by kernel_rfl) (by kernel_rfl) (by kernel_rfl) rfl
    (tokc (ok_l_szWorld K) (tokc (ok_l_toWorld K) (tokc (ok_s_WorldText K) (tokc (ok_i_WorldText K) (tokc (ok_l_eqWorld K) (tok0 tys_ok)))))) mixed
    (fun v => by kernel_rfl)

end Go.Proofs.YtilemnhdgfhkiaaGreatDoor.Wt
