/- DefinitionPathSymbolEqualsReference: for every resolution, module number and node, definition.PathSymbol and the reference give one number, and the arguments read behind the call as before it. No condition of ours; the tables that the card lists are tied to the text of the program. -/
import Derived.Test.YtmiohnbdeaendaaGreatDoorG8
import Derived.Test.YtmiohnbdeaendaaGreatDoorL1
import Derived.Test.YtmiohnbdeaendaaGreatDoorL2
import Derived.Test.YtmiohnbdeaendaaGreatDoorL3
import Derived.Test.YtmiohnbdeaendaaGreatDoorT5
import Derived.Test.YtmiohnbdeaendaaGreatDoorCards
import Derived.SevenTiedAt
namespace Go.Proofs.YtmiohnbdeaendaaGreatDoor
open Go
set_option maxRecDepth 100000
theorem pathSymbol_card : Rows.DefinitionPathSymbolEqualsReferenceCardSaid :=
  Claim7.holds_tied_plain_at .later [] [.data, .listed, .sentinel, .sentinel, .data, .data, .data] true (true, "60845e39b22b985430d8cfbcb75612f2a89de2316a6bdb6dbc1b9613b73a5fc6") true
    path_holds (fun _ h => by cases h) l_wf (fun _ h => by cases h) row_tie rfl ⟨rfl, rfl⟩ l_main rfl
    (fun f fn hf hfn => by
      obtain rfl : f = 6 := Option.some.inj (named6.symm.trans hf) |>.symm
      obtain rfl : fn = Tryz.f6 := (Option.some.inj (Tryz.func6.symm.trans hfn)).symm
      refine ⟨l_looks, fun j t ht => ?_⟩
      rw [Tryz.params6] at ht
      have hm : t ∈ [39, 3, 55] := by simpa using Array.mem_of_getElem? ht
      have := List.all_eq_true.1 l_stand t hm
      show Tryz.prog.wantsStandIn t = false
      simpa using this)
    l_goes
#print axioms pathSymbol_card
end Go.Proofs.YtmiohnbdeaendaaGreatDoor
