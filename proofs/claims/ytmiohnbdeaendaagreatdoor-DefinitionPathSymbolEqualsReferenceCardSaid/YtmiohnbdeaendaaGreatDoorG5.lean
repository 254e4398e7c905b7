/- The start's arguments read as data. -/
import Derived.Test.YtmiohnbdeaendaaGreatDoorG2
namespace Go.Proofs.YtmiohnbdeaendaaGreatDoor
open Go Go.ChangeShapes Go.WideShapes Go.ChangeAt Go.RowKit
set_option maxRecDepth 100000
theorem w_pre (os : Os) (H : Type) (enc : TypeId × Value → H) : Rows.definitionPathSymbolEqualsReferenceSpec.preB enc Tryz.checked.prog Tryz.f6 [] false (start0 os).memory args0 8 = true := by kernel_rfl
theorem w_sz (os : Os) (H : Type) (enc : TypeId × Value → H) : Rows.definitionPathSymbolEqualsReferenceSpec.sizedB enc Tryz.checked.prog Tryz.f6 false (start0 os).memory args0 8 = true := by kernel_rfl
end Go.Proofs.YtmiohnbdeaendaaGreatDoor
