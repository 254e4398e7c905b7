/- Closed facts of the row: part a. -/
import Derived.Test.YtmiohnbdeaendaaGreatDoorRows
namespace Go.Proofs.YtmiohnbdeaendaaGreatDoor
open Go
set_option maxRecDepth 100000
theorem jf6 : ((Tryz.prog.stops == [])) = true := by kernel_rfl
theorem jf8 : ((Tryz.prog.stopKnobs == [])) = true := by kernel_rfl
theorem jf22 : ((Rows.definitionPathSymbolEqualsReferenceRow.plainKeys == Tryz.prog.plainKeys)) = true := by kernel_rfl
theorem jf24 : (Tryz.prog.stopsHeard) = true := by kernel_rfl
end Go.Proofs.YtmiohnbdeaendaaGreatDoor
