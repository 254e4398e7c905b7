/- The tie to the text: the kinds. -/
import Derived.Test.YtmiohnbdeaendaaGreatDoorT1
import Derived.Test.YtmiohnbdeaendaaGreatDoorRows
import Derived.LaidOnce
namespace Go.Proofs.YtmiohnbdeaendaaGreatDoor
open Go
theorem t_hk : laidL.map (fun x => Tryz.prog.kindOfLater x.1) = laidK.map some := by kernel_rfl
end Go.Proofs.YtmiohnbdeaendaaGreatDoor
