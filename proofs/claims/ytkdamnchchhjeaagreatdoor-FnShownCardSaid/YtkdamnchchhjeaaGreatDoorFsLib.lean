/- The functions of the library that are called, by their contracts. -/
import Derived.Test.YtkdamnchchhjeaaGreatDoorKc
import Derived.Test.YtkdamnchchhjeaaGreatDoorFsShelf
import Derived.Test.YtkdamnchchhjeaaGreatDoorChecked
set_option linter.all false
set_option maxRecDepth 100000
namespace Go.Proofs.YtkdamnchchhjeaaGreatDoor.Fs
open Go Go.Kn Go.Proofs
open Go.RowKit (Below)
noncomputable instance ctx : Ctx := x_acz Tryz.prog
theorem ok_lItoa : FOk Tryz.prog 46 x_8d :=
 okl_itoa ⟨_, Tryz.func46, by kernel_rfl, by kernel_rfl⟩ fun n w hC h0 h1 => (Tryz.strconv_Itoa n h0 h1 w hC).mono fun e w' ⟨he, k, os, hw⟩ => ⟨he, hw ▸ x_ac3⟩
theorem ok_lJoin : FOk Tryz.prog 28 x_13 :=
 okl_join ⟨_, Tryz.func28, by kernel_rfl, by kernel_rfl⟩ Tryz.strings_Join_none Tryz.strings_Join
end Go.Proofs.YtkdamnchchhjeaaGreatDoor.Fs
