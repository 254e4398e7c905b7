/- Closed facts of the card: part 2. -/
import Derived.Test.YtmiohnbdeaendaaGreatDoorRows
import Derived.SevenTiedAt
namespace Go.Proofs.YtmiohnbdeaendaaGreatDoor
open Go
set_option maxRecDepth 100000
theorem l_looks : true = Tryz.pinned.checked.prog.looks [] := by kernel_rfl
theorem l_stand : ([39, 3, 55].all fun u => !Tryz.prog.wantsStandIn u) = true := by kernel_rfl
end Go.Proofs.YtmiohnbdeaendaaGreatDoor
