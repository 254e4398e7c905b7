/- Calls of the example, worked out. -/
import Derived.Test.YtmiohnbdeaendaaGreatDoorE4
set_option maxRecDepth 100000
namespace Go.Proofs.YtmiohnbdeaendaaGreatDoor
open Go Go.Proofs Go.Proofs.Ae
set_option linter.unusedSectionVars false
variable [Io]

noncomputable def k52k : List SV := [.d (.lst [[(.v (.string ⟨#[109]⟩)), (.v (.string ⟨#[115, 116, 114, 117, 99, 116, 32, 83, 32, 123, 32, 97, 58, 32, 105, 110, 116, 32, 125, 10, 116, 114, 97, 105, 116, 32, 84, 32, 123, 32, 102, 110, 32, 102, 40, 115, 101, 108, 102, 58, 32, 83, 101, 108, 102, 41, 59, 32, 125, 10, 105, 109, 112, 108, 32, 84, 32, 102, 111, 114, 32, 83, 32, 123, 32, 102, 110, 32, 102, 40, 115, 101, 108, 102, 58, 32, 83, 101, 108, 102, 41, 32, 123, 32, 125, 32, 125]⟩))]])]
noncomputable def k52v : SV := .tup [.vw 162794 7 0 1, .nils, nn 0]
noncomputable def k52a : List (Nat × Atom) := [(162794, .vec [[nn 1, nn 0, st [], nn 0, nn 87, ng 0, .vw 162689 7 0 3]] 7 55),
  (162689, .vec [[nn 4, nn 0, st [83], nn 0, nn 19, nn 7, .vw 156103 7 0 2], [nn 6, nn 0, st [84], nn 20, nn 49, nn 26, .vw 158706 7 0 1], [nn 7, nn 0, st [], nn 50, nn 87, ng 0, .vw 162495 7 0 4]] 7 55),
  (156103, .vec [[nn 10, nn 0, st [], nn 8, nn 8, ng 0, .nils], [nn 14, nn 0, st [97], nn 11, nn 17, nn 11, .vw 156054 7 0 1]] 7 55),
  (156054, .vec [[nn 17, nn 0, st [], nn 14, nn 17, ng 0, .vw 156005 7 0 1]] 7 55),
  (156005, .vec [[nn 18, nn 0, st [105, 110, 116], nn 14, nn 17, nn 14, .nils]] 7 55),
  (158706, .vec [[nn 3, nn 0, st [102], nn 30, nn 47, nn 33, .vw 158657 7 0 4]] 7 55),
  (158657, .vec [[nn 10, nn 0, st [], nn 34, nn 34, ng 0, .nils], [nn 12, nn 0, st [], nn 35, nn 46, ng 0, .vw 158228 7 0 1], [nn 0, nn 0, st [], nn 46, nn 46, ng 0, .nils], [nn 0, nn 0, st [], nn 47, nn 47, ng 0, .nils]] 7 55),
  (158228, .vec [[nn 13, nn 0, st [115, 101, 108, 102], nn 35, nn 45, nn 35, .vw 158174 7 0 1]] 7 55),
  (158174, .vec [[nn 17, nn 0, st [], nn 41, nn 45, ng 0, .vw 158125 7 0 1]] 7 55),
  (158125, .vec [[nn 18, nn 0, st [83, 101, 108, 102], nn 41, nn 45, nn 41, .nils]] 7 55),
  (162495, .vec [[nn 10, nn 0, st [], nn 54, nn 54, ng 0, .nils], [nn 17, nn 0, st [], nn 55, nn 56, ng 0, .vw 159558 7 0 1], [nn 17, nn 0, st [], nn 61, nn 62, ng 0, .vw 160151 7 0 1], [nn 3, nn 0, st [102], nn 65, nn 85, nn 68, .vw 162446 7 0 4]] 7 55),
  (159558, .vec [[nn 18, nn 0, st [84], nn 55, nn 56, nn 55, .nils]] 7 55),
  (160151, .vec [[nn 18, nn 0, st [83], nn 61, nn 62, nn 61, .nils]] 7 55),
  (162446, .vec [[nn 10, nn 0, st [], nn 69, nn 69, ng 0, .nils], [nn 12, nn 0, st [], nn 70, nn 81, ng 0, .vw 161754 7 0 1], [nn 0, nn 0, st [], nn 81, nn 81, ng 0, .nils], [nn 21, nn 0, st [], nn 82, nn 85, ng 0, .vw 162252 7 0 1]] 7 55),
  (161754, .vec [[nn 13, nn 0, st [115, 101, 108, 102], nn 70, nn 80, nn 70, .vw 161700 7 0 1]] 7 55),
  (161700, .vec [[nn 17, nn 0, st [], nn 76, nn 80, ng 0, .vw 161651 7 0 1]] 7 55),
  (161651, .vec [[nn 18, nn 0, st [83, 101, 108, 102], nn 76, nn 80, nn 76, .nils]] 7 55),
  (162252, .vec [[nn 0, nn 0, st [], nn 83, nn 83, ng 0, .nils]] 7 55)]
theorem k52 : Known Tryz.prog 52 k52k k52v k52a 162808 := known_of (run0_ok q_k30_ok) (by kernel_rfl)
noncomputable def q_k52 : Caller := orLib (libMove 52 (fun l => beqL beqA l k52k) k52v k52a 162808) q_k30
theorem q_k52_ok : CallerOk Tryz.prog q_k52 := orLib_ok (k52.move rfl) q_k30_ok

noncomputable def k41k : List SV := [.d (.lst [[(.v (.string ⟨#[109]⟩)), (.v (.string ⟨#[115, 116, 114, 117, 99, 116, 32, 83, 32, 123, 32, 97, 58, 32, 105, 110, 116, 32, 125, 10, 116, 114, 97, 105, 116, 32, 84, 32, 123, 32, 102, 110, 32, 102, 40, 115, 101, 108, 102, 58, 32, 83, 101, 108, 102, 41, 59, 32, 125, 10, 105, 109, 112, 108, 32, 84, 32, 102, 111, 114, 32, 83, 32, 123, 32, 102, 110, 32, 102, 40, 115, 101, 108, 102, 58, 32, 83, 101, 108, 102, 41, 32, 123, 32, 125, 32, 125]⟩))]])]
noncomputable def k41v : SV := .tup [.ptr 162828 0, .nils, nn 0]
noncomputable def k41a : List (Nat × Atom) := [(162828, .cells [.d (.lst [[(.v (.string ⟨#[109]⟩)), (.v (.string ⟨#[115, 116, 114, 117, 99, 116, 32, 83, 32, 123, 32, 97, 58, 32, 105, 110, 116, 32, 125, 10, 116, 114, 97, 105, 116, 32, 84, 32, 123, 32, 102, 110, 32, 102, 40, 115, 101, 108, 102, 58, 32, 83, 101, 108, 102, 41, 59, 32, 125, 10, 105, 109, 112, 108, 32, 84, 32, 102, 111, 114, 32, 83, 32, 123, 32, 102, 110, 32, 102, 40, 115, 101, 108, 102, 58, 32, 83, 101, 108, 102, 41, 32, 123, 32, 125, 32, 125]⟩))]]), .vw 162806 7 0 1, .vw 165259 6 0 13, .vw 166054 4 0 2] 95),
  (162806, .vec [[nn 1, nn 0, st [], nn 0, nn 87, ng 0, .vw 162701 7 0 3]] 7 55),
  (162701, .vec [[nn 4, nn 0, st [83], nn 0, nn 19, nn 7, .vw 156115 7 0 2], [nn 6, nn 0, st [84], nn 20, nn 49, nn 26, .vw 158718 7 0 1], [nn 7, nn 0, st [], nn 50, nn 87, ng 0, .vw 162507 7 0 4]] 7 55),
  (156115, .vec [[nn 10, nn 0, st [], nn 8, nn 8, ng 0, .nils], [nn 14, nn 0, st [97], nn 11, nn 17, nn 11, .vw 156066 7 0 1]] 7 55),
  (156066, .vec [[nn 17, nn 0, st [], nn 14, nn 17, ng 0, .vw 156017 7 0 1]] 7 55),
  (156017, .vec [[nn 18, nn 0, st [105, 110, 116], nn 14, nn 17, nn 14, .nils]] 7 55),
  (158718, .vec [[nn 3, nn 0, st [102], nn 30, nn 47, nn 33, .vw 158669 7 0 4]] 7 55),
  (158669, .vec [[nn 10, nn 0, st [], nn 34, nn 34, ng 0, .nils], [nn 12, nn 0, st [], nn 35, nn 46, ng 0, .vw 158240 7 0 1], [nn 0, nn 0, st [], nn 46, nn 46, ng 0, .nils], [nn 0, nn 0, st [], nn 47, nn 47, ng 0, .nils]] 7 55),
  (158240, .vec [[nn 13, nn 0, st [115, 101, 108, 102], nn 35, nn 45, nn 35, .vw 158186 7 0 1]] 7 55),
  (158186, .vec [[nn 17, nn 0, st [], nn 41, nn 45, ng 0, .vw 158137 7 0 1]] 7 55),
  (158137, .vec [[nn 18, nn 0, st [83, 101, 108, 102], nn 41, nn 45, nn 41, .nils]] 7 55),
  (162507, .vec [[nn 10, nn 0, st [], nn 54, nn 54, ng 0, .nils], [nn 17, nn 0, st [], nn 55, nn 56, ng 0, .vw 159570 7 0 1], [nn 17, nn 0, st [], nn 61, nn 62, ng 0, .vw 160163 7 0 1], [nn 3, nn 0, st [102], nn 65, nn 85, nn 68, .vw 162458 7 0 4]] 7 55),
  (159570, .vec [[nn 18, nn 0, st [84], nn 55, nn 56, nn 55, .nils]] 7 55),
  (160163, .vec [[nn 18, nn 0, st [83], nn 61, nn 62, nn 61, .nils]] 7 55),
  (162458, .vec [[nn 10, nn 0, st [], nn 69, nn 69, ng 0, .nils], [nn 12, nn 0, st [], nn 70, nn 81, ng 0, .vw 161766 7 0 1], [nn 0, nn 0, st [], nn 81, nn 81, ng 0, .nils], [nn 21, nn 0, st [], nn 82, nn 85, ng 0, .vw 162264 7 0 1]] 7 55),
  (161766, .vec [[nn 13, nn 0, st [115, 101, 108, 102], nn 70, nn 80, nn 70, .vw 161712 7 0 1]] 7 55),
  (161712, .vec [[nn 17, nn 0, st [], nn 76, nn 80, ng 0, .vw 161663 7 0 1]] 7 55),
  (161663, .vec [[nn 18, nn 0, st [83, 101, 108, 102], nn 76, nn 80, nn 76, .nils]] 7 55),
  (162264, .vec [[nn 0, nn 0, st [], nn 83, nn 83, ng 0, .nils]] 7 55),
  (165259, .vec [[nn 15, ng 0, ng 0, ng 0, st [105, 110, 116], .d (.v (.bool false))], [nn 15, ng 0, ng 0, ng 0, st [98, 111, 111, 108], .d (.v (.bool false))], [nn 15, ng 0, ng 0, ng 0, st [115, 116, 114, 105, 110, 103], .d (.v (.bool false))], [nn 15, ng 0, ng 0, ng 0, st [83, 101, 108, 102], .d (.v (.bool false))], [nn 1, nn 0, ng 0, ng 0, st [109], .d (.v (.bool true))], [nn 3, nn 0, nn 7, nn 4, st [83], .d (.v (.bool false))], [nn 11, nn 0, nn 11, nn 5, st [97], .d (.v (.bool false))], [nn 5, nn 0, nn 26, nn 4, st [84], .d (.v (.bool false))], [nn 2, nn 0, nn 33, nn 7, st [102], .d (.v (.bool false))], [nn 10, nn 0, nn 35, nn 8, st [115, 101, 108, 102], .d (.v (.bool false))], [nn 6, nn 0, nn 50, nn 4, st [], .d (.v (.bool false))], [nn 2, nn 0, nn 68, nn 10, st [102], .d (.v (.bool false))], [nn 10, nn 0, nn 70, nn 11, st [115, 101, 108, 102], .d (.v (.bool false))]] 6 32),
  (166054, .vec [[nn 0, st [83], nn 5, .d (.v (.bool false))], [nn 0, st [84], nn 7, .d (.v (.bool false))]] 4 154)]
theorem k41 : Known Tryz.prog 41 k41k k41v k41a 166501 := known_of (run0_ok q_k52_ok) (by kernel_rfl)
noncomputable def q_k41 : Caller := orLib (libMove 41 (fun l => beqL beqA l k41k) k41v k41a 166501) q_k52
theorem q_k41_ok : CallerOk Tryz.prog q_k41 := orLib_ok (k41.move rfl) q_k52_ok

noncomputable def k16k : List SV := [.d (.lst [[(.v (.string ⟨#[109]⟩)), (.v (.string ⟨#[115, 116, 114, 117, 99, 116, 32, 83, 32, 123, 32, 97, 58, 32, 105, 110, 116, 32, 125, 10, 116, 114, 97, 105, 116, 32, 84, 32, 123, 32, 102, 110, 32, 102, 40, 115, 101, 108, 102, 58, 32, 83, 101, 108, 102, 41, 59, 32, 125, 10, 105, 109, 112, 108, 32, 84, 32, 102, 111, 114, 32, 83, 32, 123, 32, 102, 110, 32, 102, 40, 115, 101, 108, 102, 58, 32, 83, 101, 108, 102, 41, 32, 123, 32, 125, 32, 125]⟩))]])]
noncomputable def k16v : SV := .tup [.agg [.vw 165270 6 0 13, .vw 170862 3 0 5, .nils], nn 0]
noncomputable def k16a : List (Nat × Atom) := [(165270, .vec [[nn 15, ng 0, ng 0, ng 0, st [105, 110, 116], .d (.v (.bool false))], [nn 15, ng 0, ng 0, ng 0, st [98, 111, 111, 108], .d (.v (.bool false))], [nn 15, ng 0, ng 0, ng 0, st [115, 116, 114, 105, 110, 103], .d (.v (.bool false))], [nn 15, ng 0, ng 0, ng 0, st [83, 101, 108, 102], .d (.v (.bool false))], [nn 1, nn 0, ng 0, ng 0, st [109], .d (.v (.bool true))], [nn 3, nn 0, nn 7, nn 4, st [83], .d (.v (.bool false))], [nn 11, nn 0, nn 11, nn 5, st [97], .d (.v (.bool false))], [nn 5, nn 0, nn 26, nn 4, st [84], .d (.v (.bool false))], [nn 2, nn 0, nn 33, nn 7, st [102], .d (.v (.bool false))], [nn 10, nn 0, nn 35, nn 8, st [115, 101, 108, 102], .d (.v (.bool false))], [nn 6, nn 0, nn 50, nn 4, st [], .d (.v (.bool false))], [nn 2, nn 0, nn 68, nn 10, st [102], .d (.v (.bool false))], [nn 10, nn 0, nn 70, nn 11, st [115, 101, 108, 102], .d (.v (.bool false))]] 6 32),
  (170862, .vec [[nn 0, nn 14, nn 0], [nn 0, nn 41, nn 3], [nn 0, nn 55, nn 7], [nn 0, nn 61, nn 5], [nn 0, nn 76, nn 3]] 3 86)]
theorem k16 : Known Tryz.prog 16 k16k k16v k16a 175424 := known_of (run0_ok q_k41_ok) (by kernel_rfl)
noncomputable def q_k16 : Caller := orLib (libMove 16 (fun l => beqL beqA l k16k) k16v k16a 175424) q_k41
theorem q_k16_ok : CallerOk Tryz.prog q_k16 := orLib_ok (k16.move rfl) q_k41_ok

end Go.Proofs.YtmiohnbdeaendaaGreatDoor
