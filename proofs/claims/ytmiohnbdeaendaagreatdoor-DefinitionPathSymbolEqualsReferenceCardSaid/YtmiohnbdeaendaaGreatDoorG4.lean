/- The start's constants lie where they lie at every start. -/
import Derived.Test.YtmiohnbdeaendaaGreatDoorG2
namespace Go.Proofs.YtmiohnbdeaendaaGreatDoor
open Go Go.ChangeShapes Go.WideShapes Go.ChangeAt Go.RowKit
set_option maxRecDepth 100000
theorem w_heap (os : Os) : ((start0 os).heap.toList.drop Tryz.checked.prog.globals.size).take ((begin Tryz.checked.prog (fun _ _ => 0) default).world.heap.size - Tryz.checked.prog.globals.size) =
      (begin Tryz.checked.prog (fun _ _ => 0) default).world.heap.toList.drop Tryz.checked.prog.globals.size := by kernel_rfl
end Go.Proofs.YtmiohnbdeaendaaGreatDoor
