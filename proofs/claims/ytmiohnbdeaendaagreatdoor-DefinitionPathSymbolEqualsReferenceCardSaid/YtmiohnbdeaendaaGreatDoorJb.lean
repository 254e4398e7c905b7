/- Closed facts of the row: part b. -/
import Derived.Test.YtmiohnbdeaendaaGreatDoorRows
namespace Go.Proofs.YtmiohnbdeaendaaGreatDoor
open Go
set_option maxRecDepth 100000
theorem jf9 : ((Rows.definitionPathSymbolEqualsReferenceRow.inPlace == Tryz.prog.inPlace 6)) = true := by kernel_rfl
end Go.Proofs.YtmiohnbdeaendaaGreatDoor
