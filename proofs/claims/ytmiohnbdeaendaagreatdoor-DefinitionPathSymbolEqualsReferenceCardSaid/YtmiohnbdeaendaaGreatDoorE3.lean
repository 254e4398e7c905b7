/- Calls of the example, worked out. -/
import Derived.Test.YtmiohnbdeaendaaGreatDoorE2
set_option maxRecDepth 100000
namespace Go.Proofs.YtmiohnbdeaendaaGreatDoor
open Go Go.Proofs Go.Proofs.Ae
set_option linter.unusedSectionVars false
variable [Io]

noncomputable def k114k : List SV := [st [115, 116, 114, 117, 99, 116, 32, 83, 32, 123, 32, 97, 58, 32, 105, 110, 116, 32, 125, 10, 116, 114, 97, 105, 116, 32, 84, 32, 123, 32, 102, 110, 32, 102, 40, 115, 101, 108, 102, 58, 32, 83, 101, 108, 102, 41, 59, 32, 125, 10, 105, 109, 112, 108, 32, 84, 32, 102, 111, 114, 32, 83, 32, 123, 32, 102, 110, 32, 102, 40, 115, 101, 108, 102, 58, 32, 83, 101, 108, 102, 41, 32, 123, 32, 125, 32, 125]]
noncomputable def k114v : SV := .tup [.vw 118661 2 0 57, nn 0]
noncomputable def k114a : List (Nat × Atom) := [(118661, .vec [[nn 104, st [115, 116, 114, 117, 99, 116]], [nn 101, st [32]], [nn 103, st [83]], [nn 101, st [32]], [nn 107, st [123]], [nn 101, st [32]], [nn 103, st [97]], [nn 107, st [58]], [nn 101, st [32]], [nn 103, st [105, 110, 116]], [nn 101, st [32]], [nn 107, st [125]], [nn 101, st [10]], [nn 104, st [116, 114, 97, 105, 116]], [nn 101, st [32]], [nn 103, st [84]], [nn 101, st [32]], [nn 107, st [123]], [nn 101, st [32]], [nn 104, st [102, 110]], [nn 101, st [32]], [nn 103, st [102]], [nn 107, st [40]], [nn 103, st [115, 101, 108, 102]], [nn 107, st [58]], [nn 101, st [32]], [nn 103, st [83, 101, 108, 102]], [nn 107, st [41]], [nn 107, st [59]], [nn 101, st [32]], [nn 107, st [125]], [nn 101, st [10]], [nn 104, st [105, 109, 112, 108]], [nn 101, st [32]], [nn 103, st [84]], [nn 101, st [32]], [nn 104, st [102, 111, 114]], [nn 101, st [32]], [nn 103, st [83]], [nn 101, st [32]], [nn 107, st [123]], [nn 101, st [32]], [nn 104, st [102, 110]], [nn 101, st [32]], [nn 103, st [102]], [nn 107, st [40]], [nn 103, st [115, 101, 108, 102]], [nn 107, st [58]], [nn 101, st [32]], [nn 103, st [83, 101, 108, 102]], [nn 107, st [41]], [nn 101, st [32]], [nn 107, st [123]], [nn 101, st [32]], [nn 107, st [125]], [nn 101, st [32]], [nn 107, st [125]]] 2 273)]
theorem k114 : Known Tryz.prog 114 k114k k114v k114a 118673 := known_of (run0_ok q_k301_ok) (by kernel_rfl)
noncomputable def q_k114 : Caller := orLib (libMove 114 (fun l => beqL beqA l k114k) k114v k114a 118673) q_k301
theorem q_k114_ok : CallerOk Tryz.prog q_k114 := orLib_ok (k114.move rfl) q_k301_ok

end Go.Proofs.YtmiohnbdeaendaaGreatDoor
