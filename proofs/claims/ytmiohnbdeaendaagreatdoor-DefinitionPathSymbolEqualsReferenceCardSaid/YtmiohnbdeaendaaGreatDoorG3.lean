/- The start has the shape that the machine's starts have. -/
import Derived.Test.YtmiohnbdeaendaaGreatDoorG2
namespace Go.Proofs.YtmiohnbdeaendaaGreatDoor
open Go Go.ChangeShapes Go.WideShapes Go.ChangeAt Go.RowKit
set_option maxRecDepth 100000
theorem w_ref (os : Os) : (start0 os).variablesRefB Tryz.checked.prog = true := by kernel_rfl
end Go.Proofs.YtmiohnbdeaendaaGreatDoor
