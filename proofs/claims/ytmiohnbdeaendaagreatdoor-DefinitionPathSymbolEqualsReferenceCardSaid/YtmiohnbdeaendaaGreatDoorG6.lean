/- The call of the law, at any world that its row admits. -/
import Derived.Test.YtmiohnbdeaendaaGreatDoorF5
import Derived.Test.YtmiohnbdeaendaaGreatDoorG1
import Derived.Test.YtmiohnbdeaendaaGreatDoorT1
import Derived.MakeChecks
namespace Go.Proofs.YtmiohnbdeaendaaGreatDoor
open Go Go.Proofs Go.Proofs.Ae
set_option linter.unusedSectionVars false
set_option maxRecDepth 100000

theorem gSpace : Tryz.prog.globalNamed "strings.asciiSpace" = some 0 := by kernel_rfl
theorem gSpaceType : (Tryz.prog.globals[0]?).map (·.type) = some 393 := by kernel_rfl
theorem und5 : Tryz.prog.underlying 5 = some (.int .u8) := by kernel_rfl
theorem cells5 : Tryz.prog.cellsOf 5 = 1 := by kernel_rfl
theorem cells393 : Tryz.prog.cellsOf 393 = 256 := by kernel_rfl

def spaceZ : List Int := gl0.map fun d => match d with | .v (.int _ n) => n | _ => 0
theorem spaceZ_len : spaceZ.length = 256 := by kernel_rfl
theorem gl0_eq : gl0 = spaceZ.map fun n => D.v (.int .u8 n) := by kernel_rfl
theorem space_tab : (Rows.laid_strings_asciiSpace : DataW Unit) = Lib.tabData .u8 spaceZ := by kernel_rfl
theorem noHandles : (laidL.all fun x => x.2.handleName?.isNone) = true := by kernel_rfl

theorem gl_ok {w : World} (h : laidMetH Tryz.prog laidL w) : GlOk (heapM w) := by
  rw [MakeChecks.laidMetH_plain _ _ _ noHandles] at h
  have h : laidMet Tryz.prog (("strings.asciiSpace", Rows.laid_strings_asciiSpace) :: laidL.tail) w := h
  rw [space_tab] at h
  have ht := Lib.tabIs_of_head gSpace gSpaceType Tryz.underlying393 und5 cells5 cells393 h
  have hc : ∀ j, j < 256 → w.cell? ⟨0, j, none⟩ = some (.int .u8 (spaceZ.getD j 0)) := fun j hj => ht.cell gSpace j (by rw [spaceZ_len]; exact hj)
  intro g row hg
  cases g with
  | succ g => cases hg
  | zero =>
    have hg : some gl0 = some row := hg
    injection hg with hg
    subst hg
    have hl : gl0.length = 256 := by rw [gl0_eq, List.length_map, spaceZ_len]
    refine .lst [gl0] _ 1 1 256 rfl (Nat.le_refl _) (fun i hi => ?_) (fun _ j => .int .u8 (spaceZ.getD j 0)) (fun _ => ⟨0, 0, rfl, fun i j hi hj => ?_⟩) (fun i j hi hj => ?_)
    · have : i = 0 := by omega
      subst this; exact hl
    · have : i = 0 := by omega
      subst this
      have := cell_cellM (hc j hj)
      simpa using this
    · have : i = 0 := by omega
      subst this
      have e : ([gl0].getD 0 []).getD j (.lst []) = D.v (.int .u8 (spaceZ.getD j 0)) := by
        show gl0.getD j (.lst []) = _
        rw [gl0_eq, List.getD_eq_getElem?_getD, List.getD_eq_getElem?_getD, List.getElem?_map, List.getElem?_eq_getElem (by rw [spaceZ_len]; exact hj)]
        rfl
      rw [e]
      exact .v _ rfl

/-- The world behind the call: what was there is there, and nothing was written outside. -/
structure Behind (w w' : World) : Prop where
  os : w'.os = w.os
  output : w'.output = w.output
  heap : ∀ (b : Nat) (o : Obj), w.heap[b]? = some o → w'.heap[b]? = some o

theorem run6 {w : World} (hg : GlOk (heapM w)) {u0 v1 u2 : Value} {refs : List Rf} (o0 : one u0 = true) (o2 : one u2 = true) (hr : refs.length ≤ maxLen) (h1 : Rep (heapM w) v1 (.lst (refs.map Rf.row))) (m : Int)
    {k ns : Int} {y1 y2 y3 y4 y6 : Value} (p1 : one y1 = true) (p2 : one y2 = true) (p3 : one y3 = true) (p4 : one y4 = true) {kids : List Kid} (hn : kids.length ≤ maxLen) (h6 : Rep (heapM w) y6 (.lst (kids.map Kid.row))) :
    Calls Tryz.prog 6 #[.agg #[u0, v1, u2], .int .i64 m, .agg #[.int .i64 k, y1, y2, y3, y4, .int .i64 ns, y6]] w fun e w' => e = .returned (.bool true) ∧ Behind w w' := by
  letI : Io := ⟨w.os, w.output⟩
  have hc := c6 (.v u0) refs (.v u2) m k (.v y1) (.v y2) (.v y3) (.v y4) ns kids hn hr
  have hHp : Hp (fun _ => none) (heapM w) PH.emp (fun _ => none) w := ⟨fun n a e => (by cases e), fun n m a a' b e => (by cases e), fun _ _ h => h, fun b o h => (by cases h), fun b => .inr rfl, hg, rfl, rfl⟩
  have hargs : ConcL (fun _ => none) (heapM w) [rsS (.v u0) refs (.v u2), iv .i64 m, ndS k (.v y1) (.v y2) (.v y3) (.v y4) ns kids] [.agg #[u0, v1, u2], .int .i64 m, .agg #[.int .i64 k, y1, y2, y3, y4, .int .i64 ns, y6]] := by
    unfold ConcL
    refine ⟨?_, ?_⟩
    · unfold rsS Conc
      refine ⟨[u0, v1, u2], rfl, ?_⟩
      unfold ConcL; refine ⟨by unfold Conc; exact .v _ o0, ?_⟩
      unfold ConcL; refine ⟨by unfold Conc; exact h1, ?_⟩
      unfold ConcL; refine ⟨by unfold Conc; exact .v _ o2, ?_⟩
      unfold ConcL; trivial
    · unfold ConcL
      refine ⟨conc_v rfl rfl, ?_⟩
      unfold ConcL
      refine ⟨?_, by unfold ConcL; trivial⟩
      unfold ndS Conc
      refine ⟨[.int .i64 k, y1, y2, y3, y4, .int .i64 ns, y6], rfl, ?_⟩
      unfold ConcL; refine ⟨conc_v rfl rfl, ?_⟩
      unfold ConcL; refine ⟨by unfold Conc; exact .v _ p1, ?_⟩
      unfold ConcL; refine ⟨by unfold Conc; exact .v _ p2, ?_⟩
      unfold ConcL; refine ⟨by unfold Conc; exact .v _ p3, ?_⟩
      unfold ConcL; refine ⟨by unfold Conc; exact .v _ p4, ?_⟩
      unfold ConcL; refine ⟨conc_v rfl rfl, ?_⟩
      unfold ConcL; refine ⟨by unfold Conc; exact h6, ?_⟩
      unfold ConcL; trivial
  have hd := hc (fun _ => none) (heapM w) PH.emp w _ hargs hHp (fun _ _ _ => rfl) (fun n e => by cases e)
  have hbody : HasBody Tryz.prog 6 := ⟨_, Tryz.func6, by decide, rfl⟩
  have hrun := run_callFunc hbody [.agg #[u0, v1, u2], .int .i64 m, .agg #[.int .i64 k, y1, y2, y3, y4, .int .i64 ns, y6]].toArray w
  rcases hd with ⟨g, args, w1, e1, e2⟩ | ⟨v, w', e1, _⟩ | ⟨l, g, tmps, asg, body, w1, e1, _⟩
  · have := hrun.symm.trans e1
    injection this with g1 g2
    injection g1 with g3 g4
    subst g3; subst g4; subst g2
    refine e2.mono ?_
    rintro r w' ⟨v, rfl, env', _, _, hv, hh⟩
    have hv : Conc env' (heapM w) (.d (.v (.bool true))) v := hv
    rw [conc_v_eq hv]
    exact ⟨rfl, hh.io.1, hh.io.2, fun b o hb => hh.hM b o hb⟩
  · have := hrun.symm.trans e1
    injection this with g1; cases g1
  · have := hrun.symm.trans e1
    injection this with g1; cases g1
end Go.Proofs.YtmiohnbdeaendaaGreatDoor
