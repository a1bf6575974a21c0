/- Proved: for every input the law FnCommands returns true, and each argument reads afterwards as it read before.
   Conditions: those of the row itself (package-level variables listed by the row read as the program lays them); nothing is assumed beside it. -/
import Derived.Test.YtilemnhdgfhkiaaDoorFcOk
import Derived.Test.YtilemnhdgfhkiaaDoorFcPl
import Derived.Test.YtilemnhdgfhkiaaDoorRows
import Derived.Stop.Joined
import Derived.LaidMore
import Derived.LaidOnce
import Derived.Stop.LaidErr
import Derived.Test.YtilemnhdgfhkiaaDoorTie
import Derived.Test.YtilemnhdgfhkiaaDoorCards
import Derived.SevenTiedAt
import Derived.Lay
set_option linter.all false
set_option maxRecDepth 100000
namespace Go.Proofs.YtilemnhdgfhkiaaDoor.Fc
open Go Go.Kn Go.RowKit Go.ChangeShapes Go.WideShapes Go.ChangeAt

theorem own : ownKnob Tryd.prog.godebug = none := by kernel_rfl
theorem gTab : Tryd.prog.globalNamed pow10 = some 1 := by kernel_rfl
theorem tab_of {W : World} (h : laidMet Tryd.prog Rows.fnCommandsRow.laid W) : Lib.TabIs Tryd.prog W pow10 .u64 Lib.pow10Tab :=
  Lib.tabIs_of_head gTab (by kernel_rfl) Tryd.underlying246 Tryd.underlying224 (by kernel_rfl) (by kernel_rfl) (h.tail.tail)
theorem var_iface {P : Program} {n nm : String} {d : DataW Unit} {r : List (String × DataW Unit)} {W : World} {g : Nat} {ti : TypeId} {ms : Array (String × TypeId)}
    (h : laidMet P ((n, .iface nm d) :: r) W) (hg : P.globalNamed n = some g) (ht : (P.globals[g]?).map (·.type) = some ti) (hi : P.underlying ti = some (.interface ms)) : ∃ tp p, W.var? P n = some #[.iface tp p] := by
  obtain ⟨ps, ⟨g0, t0, cs0, f0, p0, q0, hg0, ht0, hv0, hd0, _, _⟩, _⟩ := h
  obtain rfl := Option.some.inj (hg.symm.trans hg0)
  obtain rfl := Option.some.inj (ht.symm.trans ht0)
  obtain ⟨f1, u, v, e, _, _⟩ := iface_of_trod hi hd0
  refine ⟨u, v, hv0.trans ?_⟩
  obtain ⟨l⟩ := cs0
  exact congrArg (fun l : List Value => some (⟨l⟩ : Array Value)) e
theorem synt_of {W : World} (h : laidMet Tryd.prog Rows.fnCommandsRow.laid W) : ∃ tp p, W.var? Tryd.prog "strconv.ErrSyntax" = some #[.iface tp p] :=
  var_iface (h.tail.tail.tail.tail.tail) (g := 4) (ti := 160) (by kernel_rfl) (by kernel_rfl) Tryd.underlying160
theorem range_of {W : World} (h : laidMet Tryd.prog Rows.fnCommandsRow.laid W) : ∃ tp p, W.var? Tryd.prog "strconv.ErrRange" = some #[.iface tp p] :=
  var_iface (h.tail.tail.tail.tail) (g := 5) (ti := 160) (by kernel_rfl) (by kernel_rfl) Tryd.underlying160
theorem ctx_of (w : World) (hs : w.ShapedOpen Tryd.prog) (h : laidMetH Tryd.prog Rows.fnCommandsRow.laid w) : Ctx.ok w ∧ ∀ b, Ctx.at_ b → b < w.heap.size := by
  rw [MakeChecks.laidMetH_plain _ _ _ (by kernel_rfl)] at h
  have h1 := tab_of h
  have h2 : (fullCtx Tryd.prog (Tryd.laysM146_ren.g 1)).ok w := ⟨h1, Tryd.laysM146.s1_3 w hs, synt_of h, range_of h⟩
  exact ⟨h2, fullCtx_lt (P := Tryd.prog) (w := w) h2⟩
theorem lifted (os : Os) (started : os.Started) (H : Type) (enc : TypeId × Value → H) :
    ReturnsInHanded {} Tryd.checked os 7 .any (fun w args => (Rows.fnCommandsSpec.pre enc Tryd.prog Tryd.f7 [] false w args ∧ laidMetH Tryd.prog Rows.fnCommandsRow.laid w) ∧ sizedMet enc Tryd.prog Tryd.f7 (OpenSpec.ofChange Rows.fnCommandsSpec) false w args)
      (Rows.fnCommandsSpec.post enc Tryd.prog Tryd.f7 false true false false) :=
  law_lifted_laid (C := Tryd.checked) (X := fun w => laidMetH Tryd.prog Rows.fnCommandsRow.laid w) (fun _ _ hh h => h.of_heap hh) own started (by kernel_rfl) Tryd.func7
    (ChangeSpec.witness_shaped (enc := enc) (C := Tryd.checked) (os := os) (X := fun w _ => laidMetH Tryd.prog Rows.fnCommandsRow.laid w) false (World.laidAll Tryd.prog os Rows.fnCommandsRow.laid) #[.slice none 0 0] 8 (World.laidAll_os _ _ _) (World.shaped_of_ZipB (by kernel_rfl) (by kernel_rfl)) (by kernel_rfl) (by kernel_rfl) (by kernel_rfl) (by rw [MakeChecks.laidMetH_plain _ _ _ (by kernel_rfl)]; exact laidMet_laidAll _ (by kernel_rfl) (by kernel_rfl)))
    ctx_of rfl (rt := 4) (by kernel_rfl) Tryd.underlying4 (by kernel_rfl) (es := [(false, (.sl (.i .u8)))]) (by kernel_rfl)
    (fun ds hd => by
      obtain ⟨d0, rfl⟩ := List.length_eq_one_iff.1 hd
      rfl)
    (ok_l_FnCommands (2097152 : Nat)) (fun v hv => law (by decide) v.1 hv.1)
theorem f_holds : Rows.FnCommandsSaid :=
  OpenClaim.holds_of_wide 7 Tryd.f7 rfl rfl rfl rfl rfl rfl rfl ⟨rfl, rfl, rfl, rfl, rfl⟩ rfl rfl rfl rfl rfl (by kernel_rfl) Tryd.func7 (by kernel_rfl)
    (of_decide_eq_true (by kernel_rfl)) (by unfold Func.isWrapper; rw [if_neg (of_decide_eq_false (by kernel_rfl))]; exact ⟨rfl, rfl⟩)
    (fun os started H enc _ => lifted os started H enc)
theorem card_holds : Rows.FnCommandsCardSaid :=
  Claim7.holds_tied_plain_at .later [] [.data, .data, .data, .data, .sentinel, .sentinel, .pinned] true (true, "22d0a8aee34ebfeace6cc5f11d10a27ae09329d2647523543995deb5766e1b16") true
    f_holds (fun _ h => by cases h) (by kernel_rfl) (fun _ h => by cases h) fnCommands_row_tie rfl ⟨rfl, rfl⟩ (by kernel_rfl) rfl
    (fun f fn hf hfn => by
      obtain rfl : f = 7 := (Option.some.inj ((show Tryd.prog.funcNamed "loop.example/g00393/laws.FnCommands" = some 7 by kernel_rfl).symm.trans hf)).symm
      obtain rfl : fn = Tryd.f7 := (Option.some.inj (Tryd.func7.symm.trans hfn)).symm
      exact ⟨by kernel_rfl, fun j t ht => by
        have hall : (Tryd.f7.params.toList.all fun t => !Tryd.prog.wantsStandIn t) = true := by kernel_rfl
        have hm : t ∈ Tryd.f7.params.toList := List.mem_of_getElem? (by simpa using ht)
        exact (Bool.not_eq_true' _).mp (List.all_eq_true.1 hall t hm)⟩)
    (by kernel_rfl)
#print axioms card_holds
end Go.Proofs.YtilemnhdgfhkiaaDoor.Fc
