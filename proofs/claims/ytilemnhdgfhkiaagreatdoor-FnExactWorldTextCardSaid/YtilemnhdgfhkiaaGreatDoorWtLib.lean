/- The functions of the library that are called, by their contracts. -/
import Derived.Test.YtilemnhdgfhkiaaGreatDoorKc
import Derived.Test.YtilemnhdgfhkiaaGreatDoorWtShelf
import Derived.Test.YtilemnhdgfhkiaaGreatDoorChecked
set_option linter.all false
set_option maxRecDepth 100000
namespace Go.Proofs.YtilemnhdgfhkiaaGreatDoor.Wt
open Go Go.Kn Go.Proofs
open Go.RowKit (Below)

noncomputable instance ctx : Ctx := textCtx Tryz.prog
theorem ok_lItoa : FOk Tryz.prog 39 F_lItoa :=
  okl_itoa ⟨_, Tryz.func39, by kernel_rfl, by kernel_rfl⟩ fun n w hC h0 h1 => (Tryz.strconv_Itoa n h0 h1 w hC).mono fun e w' ⟨he, k, os, hw⟩ => ⟨he, hw ▸ grow_below⟩

end Go.Proofs.YtilemnhdgfhkiaaGreatDoor.Wt
