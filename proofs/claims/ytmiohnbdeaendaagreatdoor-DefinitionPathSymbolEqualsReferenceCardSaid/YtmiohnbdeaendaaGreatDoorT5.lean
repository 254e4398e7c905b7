/- The tie to the text. -/
import Derived.Test.YtmiohnbdeaendaaGreatDoorT2
import Derived.Test.YtmiohnbdeaendaaGreatDoorT3
import Derived.Test.YtmiohnbdeaendaaGreatDoorT4
import Derived.SevenTiedAt
import Derived.Test.YtmiohnbdeaendaaGreatDoorRows
import Derived.LaidOnce
namespace Go.Proofs.YtmiohnbdeaendaaGreatDoor
open Go
theorem tie : Tryz.prog.laidByTextLater laidL laidK true := Program.laidByTextLater_by_one 400 8 1000 t_hw t_hw2 t_hroot t_hk t_hg t_hn t_hrun
theorem noOwnUnsafe : Tryz.pinned.checked.prog.headLifts.contains "ownunsafe" = false := by kernel_rfl
theorem row_tie : Rows.definitionPathSymbolEqualsReferenceRow.laidByTextAt .later Tryz.pinned [.data, .listed, .sentinel, .sentinel, .data, .data, .data] true :=
  OpenClaim.laidByTextAt_later rfl rfl tie noOwnUnsafe
end Go.Proofs.YtmiohnbdeaendaaGreatDoor
