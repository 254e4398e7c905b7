/- Calls of the example, worked out. -/
import Derived.Test.YtmiohnbdeaendaaGreatDoorE1
set_option maxRecDepth 100000
namespace Go.Proofs.YtmiohnbdeaendaaGreatDoor
open Go Go.Proofs Go.Proofs.Ae
set_option linter.unusedSectionVars false
variable [Io]

noncomputable def k296k : List SV := []
noncomputable def k296v : SV := .vw 508 1 0 6
noncomputable def k296a : List (Nat × Atom) := [(508, .vec [[st [58, 58]], [st [61, 62]], [st [45, 62]], [st [61, 61]], [st [38, 38]], [st [124, 124]]] 1 9)]
theorem k296 : Known Tryz.prog 296 k296k k296v k296a 890 := known_of (run0_ok q_k294_ok) (by kernel_rfl)
noncomputable def q_k296 : Caller := orLib (libMove 296 (fun l => beqL beqA l k296k) k296v k296a 890) q_k294
theorem q_k296_ok : CallerOk Tryz.prog q_k296 := orLib_ok (k296.move rfl) q_k294_ok

noncomputable def k301k : List SV := []
noncomputable def k301v : SV := .vw 1320 1 0 9
noncomputable def k301a : List (Nat × Atom) := [(1320, .vec [[st [117, 115, 101]], [st [112, 117, 98]], [st [102, 110]], [st [115, 116, 114, 117, 99, 116]], [st [101, 110, 117, 109]], [st [116, 114, 97, 105, 116]], [st [105, 109, 112, 108]], [st [99, 111, 110, 115, 116]], [st [109, 97, 99, 114, 111]]] 1 9)]
theorem k301 : Known Tryz.prog 301 k301k k301v k301a 2141 := known_of (run0_ok q_k296_ok) (by kernel_rfl)
noncomputable def q_k301 : Caller := orLib (libMove 301 (fun l => beqL beqA l k301k) k301v k301a 2141) q_k296
theorem q_k301_ok : CallerOk Tryz.prog q_k301 := orLib_ok (k301.move rfl) q_k296_ok

end Go.Proofs.YtmiohnbdeaendaaGreatDoor
