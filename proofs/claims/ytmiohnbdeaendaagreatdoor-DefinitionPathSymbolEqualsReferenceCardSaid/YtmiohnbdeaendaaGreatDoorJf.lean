/- Closed facts of the row: part f. -/
import Derived.Test.YtmiohnbdeaendaaGreatDoorRows
namespace Go.Proofs.YtmiohnbdeaendaaGreatDoor
open Go
set_option maxRecDepth 100000
theorem jf25 : (Tryz.prog.mayEnter) = true := by kernel_rfl
theorem jf26 : ((Rows.definitionPathSymbolEqualsReferenceRow.lifted == Tryz.prog.liftsFinal)) = true := by kernel_rfl
end Go.Proofs.YtmiohnbdeaendaaGreatDoor
