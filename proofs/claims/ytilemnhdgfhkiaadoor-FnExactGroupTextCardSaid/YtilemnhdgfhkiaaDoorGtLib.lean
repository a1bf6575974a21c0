/- The functions of the library that are called, by their contracts. -/
import Derived.Test.YtilemnhdgfhkiaaDoorKc
import Derived.Test.YtilemnhdgfhkiaaDoorGtShelf
import Derived.Test.YtilemnhdgfhkiaaDoorChecked
set_option linter.all false
set_option maxRecDepth 100000
namespace Go.Proofs.YtilemnhdgfhkiaaDoor.Gt
open Go Go.Kn Go.Proofs
open Go.RowKit (Below)

noncomputable instance ctx : Ctx := textCtx Tryd.prog
theorem ok_lItoa : FOk Tryd.prog 72 F_lItoa :=
  okl_itoa ⟨_, Tryd.func72, by kernel_rfl, by kernel_rfl⟩ fun n w hC h0 h1 => (Tryd.strconv_Itoa n h0 h1 w hC).mono fun e w' ⟨he, k, os, hw⟩ => ⟨he, hw ▸ grow_below⟩
theorem ok_lJoin : FOk Tryd.prog 52 F_lJoin :=
  okl_join ⟨_, Tryd.func52, by kernel_rfl, by kernel_rfl⟩ Tryd.strings_Join_none Tryd.strings_Join

end Go.Proofs.YtilemnhdgfhkiaaDoor.Gt
