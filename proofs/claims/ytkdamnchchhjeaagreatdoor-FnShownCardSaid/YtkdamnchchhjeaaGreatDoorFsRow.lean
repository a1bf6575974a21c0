/- Proved: for every input the law FnShown returns true, and each argument reads afterwards as it read before.
   Conditions: those of the row itself (package-level variables listed by the row read as the program lays them); nothing is assumed beside it. -/
import Derived.Test.YtkdamnchchhjeaaGreatDoorFsOk
import Derived.Test.YtkdamnchchhjeaaGreatDoorFsPl
import Derived.Test.YtkdamnchchhjeaaGreatDoorRows
import Derived.Stop.Joined
import Derived.LaidMore
import Derived.LaidOnce
import Derived.Stop.LaidErr
import Derived.Test.YtkdamnchchhjeaaGreatDoorTie
import Derived.Test.YtkdamnchchhjeaaGreatDoorCards
import Derived.SevenTiedAt
set_option linter.all false
set_option maxRecDepth 100000
namespace Go.Proofs.YtkdamnchchhjeaaGreatDoor.Fs
open Go Go.Kn Go.RowKit Go.ChangeShapes Go.WideShapes Go.ChangeAt
theorem own : ownKnob Tryz.prog.godebug = none := by kernel_rfl
theorem gTab : Tryz.prog.globalNamed pow10 = some 1 := by kernel_rfl
theorem tab_of {W : World} (h : laidMet Tryz.prog Rows.fnShownRow.laid W) : Lib.TabIs Tryz.prog W pow10 .u64 Lib.pow10Tab :=
 Lib.tabIs_of_head gTab (by kernel_rfl) Tryz.underlying213 Tryz.underlying193 (by kernel_rfl) (by kernel_rfl) (h.tail.tail)
theorem ctx_of (w : World) (hs : w.ShapedOpen Tryz.prog) (h : laidMetH Tryz.prog Rows.fnShownRow.laid w) : Ctx.ok w ∧ ∀ b, Ctx.at_ b → b < w.heap.size := by
 rw [MakeChecks.laidMetH_plain _ _ _ (by kernel_rfl)] at h
 have h1 := tab_of h
 exact ⟨h1, x_aip (P := Tryz.prog) (w := w) h1⟩
theorem door_met (os : Os) (args : Array Value) : laidMetH Tryz.prog Rows.fnShownRow.laid ((World.doorLaid Tryz.prog 24 os).forCall (fun _ _ => 0) ⟨#[], args, []⟩).memory :=
 laidMetH_of_parts3 (fuel := 8) (laidMet_of_run' 8 (by kernel_rfl) (by kernel_rfl)) (by kernel_rfl) (by kernel_rfl)
theorem lifted (os : Os) (started : os.Started) (H : Type) (enc : TypeId × Value → H) :
  ReturnsInHanded {} Tryz.checked os 3 .any (fun w args => (Rows.fnShownSpec.pre enc Tryz.prog Tryz.f3 [] false w args ∧ laidMetH Tryz.prog Rows.fnShownRow.laid w) ∧ sizedMet enc Tryz.prog Tryz.f3 (OpenSpec.ofChange Rows.fnShownSpec) false w args)
   (Rows.fnShownSpec.post enc Tryz.prog Tryz.f3 false true false false) :=
 x_wt (C := Tryz.checked) (X := fun w => laidMetH Tryz.prog Rows.fnShownRow.laid w) (fun _ _ hh h => h.of_heap hh) own started (by kernel_rfl) Tryz.func3
  (ChangeSpec.witness_shaped (enc := enc) (C := Tryz.checked) (os := os) (X := fun w _ => laidMetH Tryz.prog Rows.fnShownRow.laid w) false (World.doorLaid Tryz.prog 24 os) #[.slice none 0 0] 8 rfl (World.shaped_of_RefB (by kernel_rfl) (by kernel_rfl)) (by kernel_rfl) (by kernel_rfl) (by kernel_rfl) (door_met os _))
  ctx_of rfl (rt := 4) (by kernel_rfl) Tryz.underlying4 (by kernel_rfl) (es := [(false, (.sl (.i .u8)))]) (by kernel_rfl)
  (fun ds hd => by
   obtain ⟨d0, rfl⟩ := List.length_eq_one_iff.1 hd
   rfl)
  (x_4e (2097152 : Nat)) (fun v hv => law (by decide) v.1 hv.1)
theorem band_ {a b : Bool} (h : a = true) (k : b = true) : (a && b) = true := by rw [h, k]; rfl
set_option maxHeartbeats 4000000 in
theorem closed : joinedFacts Tryz.checked.prog 3 Tryz.f3 Rows.fnShownSpec Rows.fnShownRow = true := by
 unfold joinedFacts
 repeat' with_reducible refine band_ ?_ ?_
 all_goals as_aux_lemma => kernel_rfl
theorem f_holds : Rows.FnShownSaid :=
 OpenClaim.holds_of_wide 3 Tryz.f3 rfl rfl rfl rfl rfl rfl rfl ⟨rfl, rfl, rfl, rfl, rfl⟩ rfl rfl rfl rfl rfl (by kernel_rfl) Tryz.func3 closed
  (of_decide_eq_true (by kernel_rfl)) (by unfold Func.isWrapper; rw [if_neg (of_decide_eq_false (by kernel_rfl))]; exact ⟨rfl, rfl⟩)
  (fun os started H enc _ => lifted os started H enc)
theorem x_afk : Rows.FnShownCardSaid :=
 Claim7.holds_tied_plain_at .later [] [.data, .data, .data] true (true, "b65f8d88c2d6c9b19d7b350ce68c8165f894a77d0e04b1278ea93889054d3afd") false
  f_holds (fun _ h => by cases h) (by kernel_rfl) (fun _ h => by cases h) fnShown_row_tie rfl ⟨rfl, rfl⟩ (by kernel_rfl) rfl
  (fun f fn hf hfn => by
   obtain rfl : f = 3 := (Option.some.inj ((show Tryz.prog.funcNamed "loop.example/g00393/laws.FnShown" = some 3 by kernel_rfl).symm.trans hf)).symm
   obtain rfl : fn = Tryz.f3 := (Option.some.inj (Tryz.func3.symm.trans hfn)).symm
   exact ⟨by kernel_rfl, fun j t ht => by
    have hall : (Tryz.f3.params.toList.all fun t => !Tryz.prog.wantsStandIn t) = true := by kernel_rfl
    have hm : t ∈ Tryz.f3.params.toList := List.mem_of_getElem? (by simpa using ht)
    exact (Bool.not_eq_true' _).mp (List.all_eq_true.1 hall t hm)⟩)
  (by kernel_rfl)
#print axioms x_afk
end Go.Proofs.YtkdamnchchhjeaaGreatDoor.Fs
