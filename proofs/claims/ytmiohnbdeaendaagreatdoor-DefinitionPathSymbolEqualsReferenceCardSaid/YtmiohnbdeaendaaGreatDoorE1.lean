/- Calls of the example, worked out. -/
import Derived.Test.YtmiohnbdeaendaaGreatDoorB0
set_option maxRecDepth 100000
namespace Go.Proofs.YtmiohnbdeaendaaGreatDoor
open Go Go.Proofs Go.Proofs.Ae
set_option linter.unusedSectionVars false
variable [Io]

noncomputable def q0 : Caller := libIdx 450
theorem q0_ok : CallerOk Tryz.prog q0 := idx0_ok
noncomputable def k294k : List SV := []
noncomputable def k294v : SV := .vw 3118 1 0 22
noncomputable def k294a : List (Nat × Atom) := [(3118, .vec [[st [117, 115, 101]], [st [112, 117, 98]], [st [97, 115]], [st [102, 110]], [st [115, 116, 114, 117, 99, 116]], [st [101, 110, 117, 109]], [st [116, 114, 97, 105, 116]], [st [105, 109, 112, 108]], [st [102, 111, 114]], [st [99, 111, 110, 115, 116]], [st [109, 97, 99, 114, 111]], [st [108, 101, 116]], [st [109, 117, 116]], [st [119, 104, 105, 108, 101]], [st [114, 101, 116, 117, 114, 110]], [st [109, 97, 116, 99, 104]], [st [105, 102]], [st [101, 108, 115, 101]], [st [110, 101, 119]], [st [116, 114, 117, 101]], [st [102, 97, 108, 115, 101]], [st [116, 121, 112, 101]]] 1 9)]
theorem k294 : Known Tryz.prog 294 k294k k294v k294a 5070 := known_of (run0_ok q0_ok) (by kernel_rfl)
noncomputable def q_k294 : Caller := orLib (libMove 294 (fun l => beqL beqA l k294k) k294v k294a 5070) q0
theorem q_k294_ok : CallerOk Tryz.prog q_k294 := orLib_ok (k294.move rfl) q0_ok

end Go.Proofs.YtmiohnbdeaendaaGreatDoor
