/- Proved: for every input the law FnExactPeerText returns true, and each argument reads afterwards as it read before.
   Conditions: those of the row itself (package-level variables listed by the row read as the program lays them); nothing is assumed beside it. -/
import Derived.Test.YtilemnhdgfhkiaaDoorPtOk
import Derived.Test.YtilemnhdgfhkiaaDoorPtPl
import Derived.Test.YtilemnhdgfhkiaaDoorRows
import Derived.Stop.Joined
import Derived.LaidMore
import Derived.LaidOnce
import Derived.Stop.LaidErr
import Derived.Test.YtilemnhdgfhkiaaDoorTie
import Derived.Test.YtilemnhdgfhkiaaDoorCards
import Derived.SevenTiedAt
set_option linter.all false
set_option maxRecDepth 100000
namespace Go.Proofs.YtilemnhdgfhkiaaDoor.Pt
open Go Go.Kn Go.RowKit Go.ChangeShapes Go.WideShapes Go.ChangeAt

theorem own : ownKnob Tryd.prog.godebug = none := by kernel_rfl
theorem gTab : Tryd.prog.globalNamed pow10 = some 1 := by kernel_rfl
theorem tab_of {W : World} (h : laidMet Tryd.prog Rows.fnExactPeerTextRow.laid W) : Lib.TabIs Tryd.prog W pow10 .u64 Lib.pow10Tab :=
  Lib.tabIs_of_head gTab (by kernel_rfl) Tryd.underlying246 Tryd.underlying224 (by kernel_rfl) (by kernel_rfl) (h.tail.tail)
theorem ctx_of (w : World) (hs : w.ShapedOpen Tryd.prog) (h : laidMetH Tryd.prog Rows.fnExactPeerTextRow.laid w) : Ctx.ok w ∧ ∀ b, Ctx.at_ b → b < w.heap.size := by
  rw [MakeChecks.laidMetH_plain _ _ _ (by kernel_rfl)] at h
  have h1 := tab_of h
  exact ⟨h1, textCtx_lt (P := Tryd.prog) (w := w) h1⟩
theorem door_met (os : Os) (args : Array Value) : laidMetH Tryd.prog Rows.fnExactPeerTextRow.laid ((World.doorLaid Tryd.prog 72 os).forCall (fun _ _ => 0) ⟨#[], args, []⟩).memory :=
  laidMetH_of_parts3 (fuel := 8) (laidMet_of_run' 8 (by kernel_rfl) (by kernel_rfl)) (by kernel_rfl) (by kernel_rfl)
theorem lifted (os : Os) (started : os.Started) (H : Type) (enc : TypeId × Value → H) :
    ReturnsInHanded {} Tryd.checked os 8 .any (fun w args => (Rows.fnExactPeerTextSpec.pre enc Tryd.prog Tryd.f8 [] false w args ∧ laidMetH Tryd.prog Rows.fnExactPeerTextRow.laid w) ∧ sizedMet enc Tryd.prog Tryd.f8 (OpenSpec.ofChange Rows.fnExactPeerTextSpec) false w args)
      (Rows.fnExactPeerTextSpec.post enc Tryd.prog Tryd.f8 false true false false) :=
  law_lifted_laid (C := Tryd.checked) (X := fun w => laidMetH Tryd.prog Rows.fnExactPeerTextRow.laid w) (fun _ _ hh h => h.of_heap hh) own started (by kernel_rfl) Tryd.func8
    (ChangeSpec.witness_shaped (enc := enc) (C := Tryd.checked) (os := os) (X := fun w _ => laidMetH Tryd.prog Rows.fnExactPeerTextRow.laid w) false (World.doorLaid Tryd.prog 72 os) #[.agg #[.int .i64 0, .int .i64 0, .int .i64 0, .int .i64 0, .int .i64 0, .slice none 0 0, .slice none 0 0, .slice none 0 0, .slice none 0 0, .int .i64 0, .slice none 0 0, .slice none 0 0, .int .i64 0, .slice none 0 0, .slice none 0 0, .slice none 0 0, .int .i64 0, .slice none 0 0, .slice none 0 0, .slice none 0 0, .int .i64 0, .slice none 0 0, .slice none 0 0, .slice none 0 0, .int .i64 0, .slice none 0 0]] 8 rfl (World.shaped_of_RefB (by kernel_rfl) (by kernel_rfl)) (by kernel_rfl) (by kernel_rfl) (by kernel_rfl) (door_met os _))
    ctx_of rfl (rt := 4) (by kernel_rfl) Tryd.underlying4 (by kernel_rfl) (es := [(true, (.p (.i .i64) (.p (.p (.i .i64) (.p (.i .i64) (.p (.p (.i .i64) (.p (.i .i64) (.sl (.p (.i .i64) (.p (.i .i64) (.p (.i .i64) (.p (.i .i64) (.p (.i .i64) (.p (.i .i64) (.p (.i .i64) (.p .s .s))))))))))) (.p (.sl (.p (.i .i64) (.p (.i .i64) (.sl (.p (.i .i64) (.p .s (.p .s (.p (.i .i64) (.i .i64))))))))) (.p (.sl (.p (.i .i64) (.p (.i .i64) (.p (.i .i64) (.p (.i .i64) (.sl (.p (.i .i64) (.i .i64)))))))) (.p (.sl (.p (.i .i64) (.p (.sl (.i .i64)) (.p (.sl (.i .i64)) (.sl (.i .i64)))))) (.p (.i .i64) (.p (.sl (.i .i64)) (.sl (.p (.i .i64) (.p (.i .i64) (.p .s .s)))))))))))) (.p (.i .i64) (.p (.sl .b) (.p (.sl (.i .i64)) (.p (.sl (.i .i64)) (.p (.i .i64) (.p (.p (.sl (.p (.i .i64) (.p (.i .i64) (.sl (.p (.i .i64) (.p .s (.p .s (.p (.i .i64) (.i .i64))))))))) (.p (.sl (.p (.i .i64) (.p (.i .i64) (.p (.i .i64) (.p (.i .i64) (.sl (.p (.i .i64) (.i .i64)))))))) (.p (.sl (.p (.i .i64) (.p (.sl (.i .i64)) (.p (.sl (.i .i64)) (.sl (.i .i64)))))) (.p (.i .i64) (.p (.sl (.i .i64)) (.sl (.p (.i .i64) (.p (.i .i64) (.p .s .s))))))))) (.p (.p (.sl (.i .u8)) (.i .i64)) (.sl (.p (.i .i64) (.p (.i .i64) (.p (.i .i64) (.p (.i .i64) (.p (.i .i64) (.p (.i .i64) (.p (.i .i64) (.p (.sl (.p (.i .i64) (.p (.i .i64) (.p (.i .i64) (.p (.i .i64) (.p (.i .i64) (.p (.i .i64) (.p (.i .i64) (.p .s .s))))))))) (.p .b .s))))))))))))))))))))]) (by kernel_rfl)
    (fun ds hd => by
      obtain ⟨d0, rfl⟩ := List.length_eq_one_iff.1 hd
      rfl)
    (ok_l_FnExactPeerText (2097152 : Nat)) (fun v hv => law (by decide) v.1 hv.1)
theorem f_holds : Rows.FnExactPeerTextSaid :=
  OpenClaim.holds_of_wide 8 Tryd.f8 rfl rfl rfl rfl rfl rfl rfl ⟨rfl, rfl, rfl, rfl, rfl⟩ rfl rfl rfl rfl rfl (by kernel_rfl) Tryd.func8 (by kernel_rfl)
    (of_decide_eq_true (by kernel_rfl)) (by unfold Func.isWrapper; rw [if_neg (of_decide_eq_false (by kernel_rfl))]; exact ⟨rfl, rfl⟩)
    (fun os started H enc _ => lifted os started H enc)
theorem card_holds : Rows.FnExactPeerTextCardSaid :=
  Claim7.holds_tied_plain_at .later [] [.data, .data, .data] true (true, "22d0a8aee34ebfeace6cc5f11d10a27ae09329d2647523543995deb5766e1b16") true
    f_holds (fun _ h => by cases h) (by kernel_rfl) (fun _ h => by cases h) fnExactPeerText_row_tie rfl ⟨rfl, rfl⟩ (by kernel_rfl) rfl
    (fun f fn hf hfn => by
      obtain rfl : f = 8 := (Option.some.inj ((show Tryd.prog.funcNamed "loop.example/g00393/laws.FnExactPeerText" = some 8 by kernel_rfl).symm.trans hf)).symm
      obtain rfl : fn = Tryd.f8 := (Option.some.inj (Tryd.func8.symm.trans hfn)).symm
      exact ⟨by kernel_rfl, fun j t ht => by
        have hall : (Tryd.f8.params.toList.all fun t => !Tryd.prog.wantsStandIn t) = true := by kernel_rfl
        have hm : t ∈ Tryd.f8.params.toList := List.mem_of_getElem? (by simpa using ht)
        exact (Bool.not_eq_true' _).mp (List.all_eq_true.1 hall t hm)⟩)
    (by kernel_rfl)
#print axioms card_holds
end Go.Proofs.YtilemnhdgfhkiaaDoor.Pt
