/- The functions of the library that are called, by their contracts. -/
import Derived.Test.YtoiamgohjmjbiaaGreatKc
import Derived.Test.YtoiamgohjmjbiaaGreatChecked
set_option linter.all false
set_option maxRecDepth 100000
namespace Go.Proofs.YtoiamgohjmjbiaaGreat.Pe
open Go Go.Kn Go.Proofs
open Go.RowKit (Below)
instance ctx:Ctx:=⟨fun _=>False,fun _=>True,fun _ _ _ h=>h⟩
end Go.Proofs.YtoiamgohjmjbiaaGreat.Pe
