/- The functions of the library that are called, by their contracts. -/
import Derived.Test.YtjfnlbdnfglmfaaGreatKc
import Derived.Test.YtjfnlbdnfglmfaaGreatChecked
set_option linter.all false
set_option maxRecDepth 100000
namespace Go.Proofs.YtjfnlbdnfglmfaaGreat.Cu
open Go Go.Kn Go.Proofs
open Go.RowKit (Below)
instance ctx:Ctx:=⟨fun _=>False,fun _=>True,fun _ _ _ h=>h⟩
end Go.Proofs.YtjfnlbdnfglmfaaGreat.Cu
