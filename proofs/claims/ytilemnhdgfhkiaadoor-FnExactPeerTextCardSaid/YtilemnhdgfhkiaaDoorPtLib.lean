/- The functions of the library that are called, by their contracts. -/
import Derived.Test.YtilemnhdgfhkiaaDoorKc
import Derived.Test.YtilemnhdgfhkiaaDoorPtShelf
import Derived.Test.YtilemnhdgfhkiaaDoorChecked
set_option linter.all false
set_option maxRecDepth 100000
namespace Go.Proofs.YtilemnhdgfhkiaaDoor.Pt
open Go Go.Kn Go.Proofs
open Go.RowKit (Below)

noncomputable instance ctx : Ctx := textCtx Tryd.prog
theorem ok_lItoa : FOk Tryd.prog 72 F_lItoa :=
  okl_itoa ⟨_, Tryd.func72, by kernel_rfl, by kernel_rfl⟩ fun n w hC h0 h1 => (Tryd.strconv_Itoa n h0 h1 w hC).mono fun e w' ⟨he, k, os, hw⟩ => ⟨he, hw ▸ grow_below⟩

end Go.Proofs.YtilemnhdgfhkiaaDoor.Pt
