/-
  DERIVED. GIVEN WITH THE SEED: THE CARDS: each row of YtilemnhdgfhkiaaDoorRows.lean that lists a variable, with what it lists TIED to the program's text (the seventh form; the later family's looks); each row that meets fmt, with fmt's text TOLD by the authors' own Lean function (tested against real Go, not proved from fmt's source: count such statements apart). THE CARD IS WHAT COUNTS. Prove the row's statement (the work); the ties are given (YtilemnhdgfhkiaaDoorTie.lean); close each card by the builder's one call (the guide's Derived/Test/ToyasCard.lean, 'card_holds'). Laid BY PROGRAM, IN A SANDBOX (cutbox-door.mjs). By AI agents, Wed Nov 11 2026. No macro, syntax, notation, axiom, sorry.
-/
import Derived.Test.YtilemnhdgfhkiaaDoorRows
import GoSem.ClaimSeven
namespace Go.Proofs.YtilemnhdgfhkiaaDoor
namespace Rows

/-- THE TIED CARD OF 'laws.FnExactAnswerText'. -/
def fnExactAnswerTextCard : Claim7 := { stood := { row := fnExactAnswerTextRow, standIns := [], harness := (true, "22d0a8aee34ebfeace6cc5f11d10a27ae09329d2647523543995deb5766e1b16"), looks := true }, kinds := [], alts := [], laidByText := true, laidKinds := [.data, .data, .data], laidTests := true, laidLooks := .later }
def FnExactAnswerTextCardSaid : Prop := Claim7.holds Tryd.pinned (.plain (OpenSpec.ofChange fnExactAnswerTextSpec)) fnExactAnswerTextCard

/-- THE TIED CARD OF 'laws.FnExactRowText'. -/
def fnExactRowTextCard : Claim7 := { stood := { row := fnExactRowTextRow, standIns := [], harness := (true, "22d0a8aee34ebfeace6cc5f11d10a27ae09329d2647523543995deb5766e1b16"), looks := true }, kinds := [], alts := [], laidByText := true, laidKinds := [.data, .data, .data], laidTests := true, laidLooks := .later }
def FnExactRowTextCardSaid : Prop := Claim7.holds Tryd.pinned (.plain (OpenSpec.ofChange fnExactRowTextSpec)) fnExactRowTextCard

/-- THE TIED CARD OF 'laws.FnExactGroupText'. -/
def fnExactGroupTextCard : Claim7 := { stood := { row := fnExactGroupTextRow, standIns := [], harness := (true, "22d0a8aee34ebfeace6cc5f11d10a27ae09329d2647523543995deb5766e1b16"), looks := true }, kinds := [], alts := [], laidByText := true, laidKinds := [.data, .data, .data], laidTests := true, laidLooks := .later }
def FnExactGroupTextCardSaid : Prop := Claim7.holds Tryd.pinned (.plain (OpenSpec.ofChange fnExactGroupTextSpec)) fnExactGroupTextCard

/-- THE TIED CARD OF 'laws.FnExactCmdSaid'. -/
def fnExactCmdSaidCard : Claim7 := { stood := { row := fnExactCmdSaidRow, standIns := [], harness := (true, "22d0a8aee34ebfeace6cc5f11d10a27ae09329d2647523543995deb5766e1b16"), looks := true }, kinds := [], alts := [], laidByText := true, laidKinds := [.data, .data, .data, .data, .sentinel, .sentinel, .pinned], laidTests := true, laidLooks := .later }
def FnExactCmdSaidCardSaid : Prop := Claim7.holds Tryd.pinned (.plain (OpenSpec.ofChange fnExactCmdSaidSpec)) fnExactCmdSaidCard

/-- THE TIED CARD OF 'laws.FnCommands'. -/
def fnCommandsCard : Claim7 := { stood := { row := fnCommandsRow, standIns := [], harness := (true, "22d0a8aee34ebfeace6cc5f11d10a27ae09329d2647523543995deb5766e1b16"), looks := true }, kinds := [], alts := [], laidByText := true, laidKinds := [.data, .data, .data, .data, .sentinel, .sentinel, .pinned], laidTests := true, laidLooks := .later }
def FnCommandsCardSaid : Prop := Claim7.holds Tryd.pinned (.plain (OpenSpec.ofChange fnCommandsSpec)) fnCommandsCard

/-- THE TIED CARD OF 'laws.FnExactPeerText'. -/
def fnExactPeerTextCard : Claim7 := { stood := { row := fnExactPeerTextRow, standIns := [], harness := (true, "22d0a8aee34ebfeace6cc5f11d10a27ae09329d2647523543995deb5766e1b16"), looks := true }, kinds := [], alts := [], laidByText := true, laidKinds := [.data, .data, .data], laidTests := true, laidLooks := .later }
def FnExactPeerTextCardSaid : Prop := Claim7.holds Tryd.pinned (.plain (OpenSpec.ofChange fnExactPeerTextSpec)) fnExactPeerTextCard

/-- THE SECOND FORM's CARD OF 'laws.FnExactAnswerText'. -/
def fnExactAnswerTextUptoCard : Claim7 := { stood := { row := fnExactAnswerTextUptoRow, standIns := [], harness := (true, "22d0a8aee34ebfeace6cc5f11d10a27ae09329d2647523543995deb5766e1b16"), looks := true }, kinds := [], alts := [], laidByText := true, laidKinds := [.data, .data, .data], laidTests := true, laidLooks := .later }
def FnExactAnswerTextUptoCardSaid : Prop := Claim7.holds Tryd.pinned (.plain (OpenSpec.upto fnExactAnswerTextSpec)) fnExactAnswerTextUptoCard

/-- THE SECOND FORM's CARD OF 'laws.FnExactRowText'. -/
def fnExactRowTextUptoCard : Claim7 := { stood := { row := fnExactRowTextUptoRow, standIns := [], harness := (true, "22d0a8aee34ebfeace6cc5f11d10a27ae09329d2647523543995deb5766e1b16"), looks := true }, kinds := [], alts := [], laidByText := true, laidKinds := [.data, .data, .data], laidTests := true, laidLooks := .later }
def FnExactRowTextUptoCardSaid : Prop := Claim7.holds Tryd.pinned (.plain (OpenSpec.upto fnExactRowTextSpec)) fnExactRowTextUptoCard

/-- THE SECOND FORM's CARD OF 'laws.FnExactGroupText'. -/
def fnExactGroupTextUptoCard : Claim7 := { stood := { row := fnExactGroupTextUptoRow, standIns := [], harness := (true, "22d0a8aee34ebfeace6cc5f11d10a27ae09329d2647523543995deb5766e1b16"), looks := true }, kinds := [], alts := [], laidByText := true, laidKinds := [.data, .data, .data], laidTests := true, laidLooks := .later }
def FnExactGroupTextUptoCardSaid : Prop := Claim7.holds Tryd.pinned (.plain (OpenSpec.upto fnExactGroupTextSpec)) fnExactGroupTextUptoCard

/-- THE SECOND FORM's CARD OF 'laws.FnExactCmdSaid'. -/
def fnExactCmdSaidUptoCard : Claim7 := { stood := { row := fnExactCmdSaidUptoRow, standIns := [], harness := (true, "22d0a8aee34ebfeace6cc5f11d10a27ae09329d2647523543995deb5766e1b16"), looks := true }, kinds := [], alts := [], laidByText := true, laidKinds := [.data, .data, .data, .data, .sentinel, .sentinel, .pinned], laidTests := true, laidLooks := .later }
def FnExactCmdSaidUptoCardSaid : Prop := Claim7.holds Tryd.pinned (.plain (OpenSpec.upto fnExactCmdSaidSpec)) fnExactCmdSaidUptoCard

/-- THE SECOND FORM's CARD OF 'laws.FnCommands'. -/
def fnCommandsUptoCard : Claim7 := { stood := { row := fnCommandsUptoRow, standIns := [], harness := (true, "22d0a8aee34ebfeace6cc5f11d10a27ae09329d2647523543995deb5766e1b16"), looks := true }, kinds := [], alts := [], laidByText := true, laidKinds := [.data, .data, .data, .data, .sentinel, .sentinel, .pinned], laidTests := true, laidLooks := .later }
def FnCommandsUptoCardSaid : Prop := Claim7.holds Tryd.pinned (.plain (OpenSpec.upto fnCommandsSpec)) fnCommandsUptoCard

/-- THE SECOND FORM's CARD OF 'laws.FnExactPeerText'. -/
def fnExactPeerTextUptoCard : Claim7 := { stood := { row := fnExactPeerTextUptoRow, standIns := [], harness := (true, "22d0a8aee34ebfeace6cc5f11d10a27ae09329d2647523543995deb5766e1b16"), looks := true }, kinds := [], alts := [], laidByText := true, laidKinds := [.data, .data, .data], laidTests := true, laidLooks := .later }
def FnExactPeerTextUptoCardSaid : Prop := Claim7.holds Tryd.pinned (.plain (OpenSpec.upto fnExactPeerTextSpec)) fnExactPeerTextUptoCard
end Rows
end Go.Proofs.YtilemnhdgfhkiaaDoor
