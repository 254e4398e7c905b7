/- The closed facts of the row, together. -/
import Derived.Test.YtmiohnbdeaendaaGreatDoorJa
import Derived.Test.YtmiohnbdeaendaaGreatDoorJb
import Derived.Test.YtmiohnbdeaendaaGreatDoorJc
import Derived.Test.YtmiohnbdeaendaaGreatDoorJd
import Derived.Test.YtmiohnbdeaendaaGreatDoorJe
import Derived.Test.YtmiohnbdeaendaaGreatDoorJf
import Derived.Test.YtmiohnbdeaendaaGreatDoorJs
import Derived.JoinedOf
namespace Go.Proofs.YtmiohnbdeaendaaGreatDoor
open Go
set_option maxRecDepth 100000
theorem andT {a b : Bool} (h : a = true) (g : b = true) : (a && b) = true := by rw [h, g]; rfl
theorem path_facts : joinedFacts Tryz.pinned.checked.prog 6 Tryz.f6 Rows.definitionPathSymbolEqualsReferenceSpec Rows.definitionPathSymbolEqualsReferenceRow = true := (andT (andT (andT (andT (andT (andT (andT (andT (andT (andT (andT (andT (andT (andT (andT (andT (andT (andT (andT (andT (andT (andT (andT (andT (andT (andT (andT (andT (andT (andT (andT jf0 jf1) jf2) jf3) jf4) jf5) jf6) jf7) jf8) jf9) jf10) jf11) jf12) jf13) jf14) jf15) jf16) jf17) jf18) jf19) jf20) jf21) jf22) jf23) jf24) jf25) jf26) jf27) jf28) jf29) jf30) jf31)
end Go.Proofs.YtmiohnbdeaendaaGreatDoor
