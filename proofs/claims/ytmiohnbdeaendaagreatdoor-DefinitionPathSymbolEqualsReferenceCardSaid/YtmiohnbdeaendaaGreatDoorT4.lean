/- The tie to the text: the run. -/
import Derived.Test.YtmiohnbdeaendaaGreatDoorT1
import Derived.Test.YtmiohnbdeaendaaGreatDoorRows
import Derived.LaidOnce
namespace Go.Proofs.YtmiohnbdeaendaaGreatDoor
open Go
theorem t_hrun : ∀ os tape, doorLeaves Tryz.prog 400 8 1000 laidL os tape = some (laidL.filter fun x => x.2.handleName?.isNone, (funcsListed laidL).map (·.2.funcsOut)) := fun _ _ => by kernel_rfl
end Go.Proofs.YtmiohnbdeaendaaGreatDoor
