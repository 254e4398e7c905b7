/- The row of PathSymbol: whatever the arguments, the law answers true and leaves all as it was. -/
import Derived.Test.YtmiohnbdeaendaaGreatDoorG6
import Derived.Test.YtmiohnbdeaendaaGreatDoorG3
import Derived.Test.YtmiohnbdeaendaaGreatDoorG4
import Derived.Test.YtmiohnbdeaendaaGreatDoorG5
namespace Go.Proofs.YtmiohnbdeaendaaGreatDoor
open Go Go.ChangeShapes Go.WideShapes Go.ChangeAt Go.RowKit
set_option linter.unusedSectionVars false
set_option maxRecDepth 100000

theorem laidOut : laidOutB Tryz.prog = true := by kernel_rfl
theorem r39 : Tryz.prog.readableRec 39 = true := by kernel_rfl
theorem r3 : Tryz.prog.readableRec 3 = true := by kernel_rfl
theorem r55 : Tryz.prog.readableRec 55 = true := by kernel_rfl
theorem lt39 : 39 < Tryz.prog.types.size := of_decide_eq_true (by kernel_rfl)
theorem lt3 : 3 < Tryz.prog.types.size := of_decide_eq_true (by kernel_rfl)
theorem lt55 : 55 < Tryz.prog.types.size := of_decide_eq_true (by kernel_rfl)
theorem res6 : Tryz.f6.resultTypes = #[4] := rfl

theorem behind_same {W W' : World} (h : Behind W W') {p : MemPlace} (hp : p.block < W.heap.size) : W.sameAt W' p := by
  have hb : ∀ b, b < W.heap.size → W'.heap[b]? = W.heap[b]? := fun b hb => by
    rw [h.heap b _ (Array.getElem?_eq_getElem hb), Array.getElem?_eq_getElem hb]
  cases p with
  | cell b o => exact World.cell?_of_block (w := W) (hb b hp)
  | map b => exact hb b hp

theorem behind_frame {W W' : World} (h : Behind W W') (may : MemPlace → Prop) : W.keptBut W' may := by
  refine ⟨h.os, h.output, fun i hi => ?_⟩
  rw [h.heap i _ (Array.getElem?_eq_getElem hi), Array.getElem?_eq_getElem hi]
  split <;> simp_all

theorem okWide_agg39 {W : World} {base : Nat} {v : Value} (h : Value.okWide Tryz.prog W .any base 39 v) : ∃ cs, v = .agg cs := by
  unfold Value.okWide at h
  rw [Tryz.underlying39] at h
  obtain ⟨cs, e, _⟩ := h
  exact ⟨cs, e⟩
theorem okWide_agg55 {W : World} {base : Nat} {v : Value} (h : Value.okWide Tryz.prog W .any base 55 v) : ∃ cs, v = .agg cs := by
  unfold Value.okWide at h
  rw [Tryz.underlying55] at h
  obtain ⟨cs, e, _⟩ := h
  exact ⟨cs, e⟩

theorem lifted (os : Os) (started : os.Started) (H : Type) (enc : TypeId × Value → H) :
    ReturnsInHanded {} Tryz.checked os 6 .any (fun w args => (Rows.definitionPathSymbolEqualsReferenceSpec.pre enc Tryz.prog Tryz.f6 [] false w args ∧ laidMetH Tryz.prog laidL w) ∧ sizedMet enc Tryz.prog Tryz.f6 (OpenSpec.ofChange Rows.definitionPathSymbolEqualsReferenceSpec) false w args)
      (Rows.definitionPathSymbolEqualsReferenceSpec.post enc Tryz.prog Tryz.f6 false true false false) := by
  refine returnsInHanded_of_change_and (C := Tryz.checked) (X := fun w _ => laidMetH Tryz.prog laidL w) (fun _ _ _ hh h => h.of_heap hh) own started (by kernel_rfl) Tryz.func6
    (ChangeSpec.witness_shaped (enc := enc) (C := Tryz.checked) (os := os) (X := fun w _ => laidMetH Tryz.prog laidL w) false (World.doorLaid Tryz.prog 400 os) args0 8 rfl (World.shaped_of_RefB (w_ref os) (w_heap os)) (w_ok os) (w_pre os H enc) (w_sz os H enc) (door_met os _)) ?_
  intro W base args ds gs before hval0 hW _ _ hL _
  have hval : ∀ (j : Nat) t v, Tryz.f6.params[j]? = some t → args[j]? = some v → Value.okWide Tryz.prog W .any base t v := hval0
  have hW' := hW
  obtain ⟨p, q, hA0, hV, rfl, _, _⟩ := hW
  have hA : DataW.TrodAll enc Tryz.prog W 0 (fun _ => true) true Tryz.f6.params.toList args.toList ds p := hA0
  rw [Tryz.params6] at hA hval
  obtain ⟨v0, v1, v2, d0, d1, d2, p0, p1, p2, rfl, rfl, rfl, h0, h1, h2⟩ := trodAll_three hA
  obtain ⟨rfl, rfl⟩ := trodVars_none hV
  have hlt : ∀ x ∈ p0 ++ p1 ++ p2, x.block < W.heap.size := fun x hx => by
    have := hW'.lt x (by simpa using hx)
    simpa using this
  obtain ⟨cs0, rfl⟩ := okWide_agg39 (hval 0 39 v0 rfl rfl)
  obtain ⟨m, rfl, _⟩ := open_int Tryz.underlying3 (hval 1 3 v1 rfl rfl) h1
  obtain ⟨cs2, rfl⟩ := okWide_agg55 (hval 2 55 v2 rfl rfl)
  obtain ⟨f0, g0⟩ := h0
  obtain ⟨f2, g2⟩ := h2
  obtain ⟨u0, v1, u2, refs, e0, o0, o2, hr, hrep⟩ := open39 g0
  obtain ⟨k, ns, y1, y2, y3, y4, y6, e2, q1, q2, q3, q4, q6, n6, z6, g6⟩ := row55 g2
  obtain ⟨kids, hk, hkrep⟩ := open53 g6
  have e0 : cs0.toList = [u0, v1, u2] := e0
  have e2 : cs2.toList = [.int .i64 k, y1, y2, y3, y4, .int .i64 ns, y6] := e2
  have a0 : cs0 = #[u0, v1, u2] := by apply Array.ext'; rw [e0]
  have a2 : cs2 = #[.int .i64 k, y1, y2, y3, y4, .int .i64 ns, y6] := by apply Array.ext'; rw [e2]
  subst a0; subst a2
  refine (run6 (gl_ok hL) o0 o2 hr hrep m q1 q2 q3 q4 hk hkrep).mono fun e W' ⟨he, hb⟩ => ?_
  subst he
  have hstay : ∀ {t : TypeId} {v : Value} {d : DataW H} {ps : List MemPlace}, Tryz.prog.readableRec t = true → t < Tryz.prog.types.size → (∀ x ∈ ps, x ∈ p0 ++ p1 ++ p2) → DataW.Trod enc Tryz.prog W 0 (fun _ => true) true t v d ps → DataW.Trod enc Tryz.prog W' 0 (fun b => decide (b < W.heap.size)) true t v d ps :=
    fun hr hl hs h => WideElems.Trod_stays laidOut hr hl h (fun x hx => behind_same hb (hlt x (hs x hx))) (fun x hx => by simpa using hlt x (hs x hx))
  refine ⟨_, rfl, _, _, _, [], p0 ++ (p1 ++ p2), [], hW', ?_, ?_, rfl, behind_frame hb _, fun h => by cases h⟩
  · exact trodAll_mk1 (shut_bool Tryz.underlying4 true)
  · exact trodAll_mk3 (hstay r39 lt39 (fun x hx => by simp [hx]) ⟨f0, g0⟩) (hstay r3 lt3 (fun x hx => by simp [hx]) h1) (hstay r55 lt55 (fun x hx => by simp [hx]) ⟨f2, g2⟩)
end Go.Proofs.YtmiohnbdeaendaaGreatDoor
