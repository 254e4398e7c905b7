/- Closed facts of the card: part 1. -/
import Derived.Test.YtmiohnbdeaendaaGreatDoorRows
import Derived.SevenTiedAt
namespace Go.Proofs.YtmiohnbdeaendaaGreatDoor
open Go
set_option maxRecDepth 100000
theorem l_wf : Rows.definitionPathSymbolEqualsReferenceRow.wfByText (OpenSpec.ofChange Rows.definitionPathSymbolEqualsReferenceSpec) = true := by kernel_rfl
theorem l_main : Tryz.pinned.checked.prog.mainIs = some (true, "60845e39b22b985430d8cfbcb75612f2a89de2316a6bdb6dbc1b9613b73a5fc6".toList) := by kernel_rfl
end Go.Proofs.YtmiohnbdeaendaaGreatDoor
