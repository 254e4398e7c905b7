/- The tie to the text: the names. -/
import Derived.Test.YtmiohnbdeaendaaGreatDoorT1
import Derived.Test.YtmiohnbdeaendaaGreatDoorRows
import Derived.LaidOnce
namespace Go.Proofs.YtmiohnbdeaendaaGreatDoor
open Go
theorem t_hn : varsNamedLaterB Tryz.prog (varsId Tryz.prog) laidL = true := by kernel_rfl
end Go.Proofs.YtmiohnbdeaendaaGreatDoor
