/- Calls of the example, worked out. -/
import Derived.Test.YtmiohnbdeaendaaGreatDoorE3
set_option maxRecDepth 100000
namespace Go.Proofs.YtmiohnbdeaendaaGreatDoor
open Go Go.Proofs Go.Proofs.Ae
set_option linter.unusedSectionVars false
variable [Io]

noncomputable def k30k : List SV := [st [115, 116, 114, 117, 99, 116, 32, 83, 32, 123, 32, 97, 58, 32, 105, 110, 116, 32, 125, 10, 116, 114, 97, 105, 116, 32, 84, 32, 123, 32, 102, 110, 32, 102, 40, 115, 101, 108, 102, 58, 32, 83, 101, 108, 102, 41, 59, 32, 125, 10, 105, 109, 112, 108, 32, 84, 32, 102, 111, 114, 32, 83, 32, 123, 32, 102, 110, 32, 102, 40, 115, 101, 108, 102, 58, 32, 83, 101, 108, 102, 41, 32, 123, 32, 125, 32, 125]]
noncomputable def k30v : SV := .tup [.agg [nn 1, nn 0, st [], nn 0, nn 87, ng 0, .vw 157070 7 0 3], .nils, nn 0]
noncomputable def k30a : List (Nat × Atom) := [(157070, .vec [[nn 4, nn 0, st [83], nn 0, nn 19, nn 7, .vw 150484 7 0 2], [nn 6, nn 0, st [84], nn 20, nn 49, nn 26, .vw 153087 7 0 1], [nn 7, nn 0, st [], nn 50, nn 87, ng 0, .vw 156876 7 0 4]] 7 55),
  (150484, .vec [[nn 10, nn 0, st [], nn 8, nn 8, ng 0, .nils], [nn 14, nn 0, st [97], nn 11, nn 17, nn 11, .vw 150435 7 0 1]] 7 55),
  (150435, .vec [[nn 17, nn 0, st [], nn 14, nn 17, ng 0, .vw 150386 7 0 1]] 7 55),
  (150386, .vec [[nn 18, nn 0, st [105, 110, 116], nn 14, nn 17, nn 14, .nils]] 7 55),
  (153087, .vec [[nn 3, nn 0, st [102], nn 30, nn 47, nn 33, .vw 153038 7 0 4]] 7 55),
  (153038, .vec [[nn 10, nn 0, st [], nn 34, nn 34, ng 0, .nils], [nn 12, nn 0, st [], nn 35, nn 46, ng 0, .vw 152609 7 0 1], [nn 0, nn 0, st [], nn 46, nn 46, ng 0, .nils], [nn 0, nn 0, st [], nn 47, nn 47, ng 0, .nils]] 7 55),
  (152609, .vec [[nn 13, nn 0, st [115, 101, 108, 102], nn 35, nn 45, nn 35, .vw 152555 7 0 1]] 7 55),
  (152555, .vec [[nn 17, nn 0, st [], nn 41, nn 45, ng 0, .vw 152506 7 0 1]] 7 55),
  (152506, .vec [[nn 18, nn 0, st [83, 101, 108, 102], nn 41, nn 45, nn 41, .nils]] 7 55),
  (156876, .vec [[nn 10, nn 0, st [], nn 54, nn 54, ng 0, .nils], [nn 17, nn 0, st [], nn 55, nn 56, ng 0, .vw 153939 7 0 1], [nn 17, nn 0, st [], nn 61, nn 62, ng 0, .vw 154532 7 0 1], [nn 3, nn 0, st [102], nn 65, nn 85, nn 68, .vw 156827 7 0 4]] 7 55),
  (153939, .vec [[nn 18, nn 0, st [84], nn 55, nn 56, nn 55, .nils]] 7 55),
  (154532, .vec [[nn 18, nn 0, st [83], nn 61, nn 62, nn 61, .nils]] 7 55),
  (156827, .vec [[nn 10, nn 0, st [], nn 69, nn 69, ng 0, .nils], [nn 12, nn 0, st [], nn 70, nn 81, ng 0, .vw 156135 7 0 1], [nn 0, nn 0, st [], nn 81, nn 81, ng 0, .nils], [nn 21, nn 0, st [], nn 82, nn 85, ng 0, .vw 156633 7 0 1]] 7 55),
  (156135, .vec [[nn 13, nn 0, st [115, 101, 108, 102], nn 70, nn 80, nn 70, .vw 156081 7 0 1]] 7 55),
  (156081, .vec [[nn 17, nn 0, st [], nn 76, nn 80, ng 0, .vw 156032 7 0 1]] 7 55),
  (156032, .vec [[nn 18, nn 0, st [83, 101, 108, 102], nn 76, nn 80, nn 76, .nils]] 7 55),
  (156633, .vec [[nn 0, nn 0, st [], nn 83, nn 83, ng 0, .nils]] 7 55)]
theorem k30 : Known Tryz.prog 30 k30k k30v k30a 157172 := known_of (run0_ok q_k114_ok) (by kernel_rfl)
noncomputable def q_k30 : Caller := orLib (libMove 30 (fun l => beqL beqA l k30k) k30v k30a 157172) q_k114
theorem q_k30_ok : CallerOk Tryz.prog q_k30 := orLib_ok (k30.move rfl) q_k114_ok

end Go.Proofs.YtmiohnbdeaendaaGreatDoor
