/- The functions of the library that are called, by their contracts. -/
import Derived.Test.YtilemnhdgfhkiaaDoorKc
import Derived.Test.YtilemnhdgfhkiaaDoorFcShelf
import Derived.Test.YtilemnhdgfhkiaaDoorChecked
set_option linter.all false
set_option maxRecDepth 100000
namespace Go.Proofs.YtilemnhdgfhkiaaDoor.Fc
open Go Go.Kn Go.Proofs
open Go.RowKit (Below)

noncomputable instance ctx : Ctx := fullCtx Tryd.prog (Tryd.laysM146_ren.g 1)
theorem ok_lSplit : FOk Tryd.prog 56 F_lSplit :=
  okl_split ⟨_, Tryd.func56, by kernel_rfl, by kernel_rfl⟩ fun s sep w hC hs h1 => by
    obtain ⟨_, ⟨m, hm⟩, _⟩ := hC
    exact Any.strings_Split { Tryd.laysM146 with } Tryd.laysM146.i9 s sep m w hs hm h1
theorem ok_lAtoi : FOk Tryd.prog 130 F_lAtoi :=
  okl_atoi ⟨_, Tryd.func130, by kernel_rfl, by kernel_rfl⟩ fun s w hC hs => by
    obtain ⟨_, _, ⟨tp, p, hv⟩, tp', p', hv'⟩ := hC
    cases h : Lib.atoiAll s.data.toList
    · refine (Any.strconv_Atoi_ok Tryd.laysC172 s (by omega) _ h w).mono fun e w' ⟨he, hw⟩ => ⟨⟨.nilIface, rfl, he⟩, ?_⟩
      rcases hw with rfl | ⟨t, rfl⟩
      · exact Below.refl _ _
      · exact Lib.bytesWorld_below _ _ _
    · exact (Any.strconv_Atoi_syntax_var Tryd.laysC172 s hs h tp p w hv).mono fun e w' ⟨_, he, _, _, hb⟩ => ⟨⟨.iface _ _, rfl, he⟩, hb⟩
    · exact (Any.strconv_Atoi_range_var Tryd.laysC172 s hs h tp' p' w hv').mono fun e w' ⟨_, he, _, _, hb⟩ => ⟨⟨.iface _ _, rfl, he⟩, hb⟩
theorem ok_lItoa : FOk Tryd.prog 72 F_lItoa :=
  okl_itoa ⟨_, Tryd.func72, by kernel_rfl, by kernel_rfl⟩ fun n w hC h0 h1 => (Tryd.strconv_Itoa n h0 h1 w hC.1).mono fun e w' ⟨he, k, os, hw⟩ => ⟨he, hw ▸ grow_below⟩
theorem ok_lJoin : FOk Tryd.prog 52 F_lJoin :=
  okl_join ⟨_, Tryd.func52, by kernel_rfl, by kernel_rfl⟩ Tryd.strings_Join_none Tryd.strings_Join

end Go.Proofs.YtilemnhdgfhkiaaDoor.Fc
