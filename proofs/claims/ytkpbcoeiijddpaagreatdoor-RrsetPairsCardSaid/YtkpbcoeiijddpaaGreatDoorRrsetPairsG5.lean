/- slices.SortFunc at this program: the library's contract, laid by the kit's own tool in plain words; what it says. -/
import Derived.Test.YtkpbcoeiijddpaaGreatDoorRrsetPairsG4
import Derived.Test.YtkpbcoeiijddpaaGreatDoorProg
import Derived.Shelf.SlSortCmp.NoneTotal
import Derived.Shelf.SlGeneric
import Derived.KernelRfl
set_option maxHeartbeats 1000000
set_option linter.unusedVariables false
set_option linter.unusedSimpArgs false
namespace Go.Proofs
open Go.Shelf
end Go.Proofs
namespace Go.X.G
open Go Go.X Go.Proofs
end Go.X.G
