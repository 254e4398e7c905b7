/- Closed facts of the row: part e. -/
import Derived.Test.YtmiohnbdeaendaaGreatDoorRows
namespace Go.Proofs.YtmiohnbdeaendaaGreatDoor
open Go
set_option maxRecDepth 100000
theorem jf12 : ((Rows.definitionPathSymbolEqualsReferenceRow.named == Tryz.prog.varsNamed 6)) = true := by kernel_rfl
end Go.Proofs.YtmiohnbdeaendaaGreatDoor
