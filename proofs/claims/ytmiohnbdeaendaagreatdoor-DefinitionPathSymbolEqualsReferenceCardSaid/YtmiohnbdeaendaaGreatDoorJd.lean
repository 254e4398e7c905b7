/- Closed facts of the row: part d. -/
import Derived.Test.YtmiohnbdeaendaaGreatDoorRows
namespace Go.Proofs.YtmiohnbdeaendaaGreatDoor
open Go
set_option maxRecDepth 100000
theorem jf11 : ((Rows.definitionPathSymbolEqualsReferenceRow.recurses == Tryz.prog.recurses 6)) = true := by kernel_rfl
end Go.Proofs.YtmiohnbdeaendaaGreatDoor
