/- What is read of the arguments of PathSymbol. -/
import Derived.Test.YtmiohnbdeaendaaGreatDoorF1
import Derived.Test.YtmiohnbdeaendaaGreatDoorF2
import Derived.Lib.LaidTab
import Derived.ChangeArms
namespace Go.Proofs.YtmiohnbdeaendaaGreatDoor
open Go Go.Proofs Go.Proofs.Ae
set_option linter.unusedSectionVars false
set_option maxRecDepth 100000

def heapM (w : World) : PH := fun b => w.heap[b]?

theorem pick_list {α : Type} {p : Nat → α → Prop} : ∀ (n : Nat), (∀ i, i < n → ∃ x, p i x) → ∃ l : List α, l.length = n ∧ ∀ i x, l[i]? = some x → p i x
  | 0, _ => ⟨[], rfl, fun i x h => by simp at h⟩
  | n + 1, h => by
    obtain ⟨l, h1, h2⟩ := pick_list n fun i hi => h i (by omega)
    obtain ⟨x, hx⟩ := h n (by omega)
    refine ⟨l ++ [x], by simp [h1], fun i y hy => ?_⟩
    by_cases hi : i < l.length
    · rw [List.getElem?_append_left hi] at hy; exact h2 i y hy
    · rw [List.getElem?_append_right (by omega)] at hy
      have : i - l.length = 0 := by
        rcases Nat.eq_zero_or_pos (i - l.length) with e | e
        · exact e
        · rw [List.getElem?_eq_none (by simp; omega)] at hy; cases hy
      rw [this] at hy
      simp at hy
      subst hy
      have : i = n := by omega
      subst this; exact hx

theorem cells_at {w : World} {base n : Nat} {a : Addr} {l : List Value} (h : w.cells? base a n = some l) : l.length = n ∧ ∀ j, j < n → w.cell? (a.add j) = l[j]? := by
  unfold World.cells? at h
  split at h
  · have hl := Lib.mapM_length h
    refine ⟨by simpa using hl, fun j hj => ?_⟩
    obtain ⟨b, h1, h2⟩ := Lib.mapM_at h j j (by simp [hj])
    rw [h2, h1]
  · cases h

theorem spot_none {w : World} {a : Addr} {v : Value} (h : w.cell? a = some v) : a.spot = none := by
  unfold World.cell? at h
  split at h
  · split at h
    · cases h
    · rename_i hs
      cases hx : a.spot with
      | none => rfl
      | some _ => rw [hx] at hs; simp at hs
  · cases h

theorem cell_cellM {w : World} {b o : Nat} {v : Value} (h : w.cell? ⟨b, o, none⟩ = some v) : cellM (heapM w) b o = some v := by
  unfold World.cell? at h
  unfold cellM heapM
  simp only at h
  split at h
  · rename_i c t f hb
    rw [hb]; simpa using h
  · cases h

/-- A slice of rows. -/
theorem rep_rows {w : World} {sz : Nat} (hsz : 0 < sz) {rows : List (List Value)} (h1 : ∀ r ∈ rows, r.length = sz ∧ ∀ x ∈ r, one x = true) {a : Addr} {len cap : Nat} (hlen : rows.length = len) (hc : len ≤ cap)
    (hcell : ∀ i r, rows[i]? = some r → w.cells? 0 (a.add (i * sz)) sz = some r) : Rep (heapM w) (.slice (some a) len cap) (.lst (rows.map fun r => r.map D.v)) := by
  have hrow : ∀ i, i < len → ∃ r, rows[i]? = some r ∧ r.length = sz ∧ (∀ x ∈ r, one x = true) ∧ (rows.map fun r => r.map D.v).getD i [] = r.map D.v := by
    intro i hi
    have hlt : i < rows.length := by omega
    refine ⟨rows[i], List.getElem?_eq_getElem hlt, (h1 _ (List.getElem_mem hlt)).1, (h1 _ (List.getElem_mem hlt)).2, ?_⟩
    simp [List.getD_eq_getElem?_getD, hlt]
  refine .lst _ _ _ _ sz (by simpa using hlen) hc (fun i hi => ?_) (fun i j => ((rows.getD i []).getD j undef)) (fun h0 => ?_) (fun i j hi hj => ?_)
  · obtain ⟨r, _, h3, _, h5⟩ := hrow i hi
    rw [h5]; simpa using h3
  · have hspot : a.spot = none := by
      obtain ⟨r, g1, g2, _⟩ := hrow 0 h0
      have := (cells_at (hcell 0 r g1)).2 0 hsz
      rw [Nat.zero_mul] at this
      have e : (a.add 0).add 0 = a := rfl
      rw [e, List.getElem?_eq_getElem (by omega)] at this
      exact spot_none this
    refine ⟨a.block, a.off, by cases a; simp only at hspot; subst hspot; rfl, fun i j hi hj => ?_⟩
    obtain ⟨r, g1, g2, _⟩ := hrow i hi
    have := (cells_at (hcell i r g1)).2 j hj
    have e : (a.add (i * sz)).add j = ⟨a.block, a.off + i * sz + j, none⟩ := by
      cases a with
      | mk b o s =>
        simp only at hspot; subst hspot
        unfold Addr.add
        by_cases h3 : i * sz = 0
        · rw [if_pos h3]
          by_cases h4 : j = 0
          · rw [if_pos h4]; simp [h3, h4]
          · rw [if_neg h4]; simp [h3]
        · rw [if_neg h3]
          by_cases h4 : j = 0
          · rw [if_pos h4]; simp [h4]
          · rw [if_neg h4]
    rw [e, List.getElem?_eq_getElem (by omega)] at this
    have hc := cell_cellM this
    rw [hc, List.getD_eq_getElem?_getD, List.getD_eq_getElem?_getD, g1]
    simp only [Option.getD_some]
    rw [List.getElem?_eq_getElem (by omega)]
    rfl
  · obtain ⟨r, g1, g2, g3, g4⟩ := hrow i hi
    rw [g4, List.getD_eq_getElem?_getD, List.getD_eq_getElem?_getD, g1, List.getD_eq_getElem?_getD]
    simp only [Option.getD_some, List.getElem?_map]
    rw [List.getElem?_eq_getElem (by omega)]
    simp only [Option.map_some, Option.getD_some]
    exact .v _ (g3 _ (List.getElem_mem _))

theorem rep_nil (w : World) : Rep (heapM w) (.slice none 0 0) (.lst []) :=
  .lst [] none 0 0 1 rfl (Nat.le_refl _) (fun i h => by omega) (fun _ _ => undef) (fun h => by omega) (fun i j h => by omega)

theorem cells3 : Tryz.prog.cellsOf 3 = 1 := by kernel_rfl
theorem cells9 : Tryz.prog.cellsOf 9 = 1 := by kernel_rfl
theorem cells35 : Tryz.prog.cellsOf 35 = 1 := by kernel_rfl
theorem cells36 : Tryz.prog.cellsOf 36 = 1 := by kernel_rfl
theorem cells37 : Tryz.prog.cellsOf 37 = 1 := by kernel_rfl
theorem cells39 : Tryz.prog.cellsOf 39 = 3 := by kernel_rfl
theorem cells53 : Tryz.prog.cellsOf 53 = 1 := by kernel_rfl
theorem cells55 : Tryz.prog.cellsOf 55 = 7 := by kernel_rfl
theorem cells86 : Tryz.prog.cellsOf 86 = 3 := by kernel_rfl

section
variable {H : Type} {enc : TypeId × Value → H} {w : World} {sp : Nat → Bool} {held : Bool}

theorem one_slice {base fuel : Nat} {t e : TypeId} {u : Value} {x : DataW H × List MemPlace} (ht : Tryz.prog.underlying t = some (.slice e)) (h : DataW.trod enc Tryz.prog w base sp held fuel t [u] = some x) : one u = true := by
  rcases DataW.trod_slice ht h with ⟨hc, _⟩ | ⟨a, len, cap, _, _, _, _, hc, _⟩
  · injection hc with hc; subst hc; rfl
  · injection hc with hc; subst hc; rfl

/-- A reference. -/
theorem row86 {base fuel : Nat} {cs : List Value} {x : DataW H × List MemPlace} (h : DataW.trod enc Tryz.prog w base sp held fuel 86 cs = some x) : ∃ r : Rf, cs = [.int .i64 r.m, .int .i64 r.s, .int .i64 r.y] := by
  obtain ⟨xs, n, _, rfl, hl, hx, hf⟩ := DataW.trod_struct Tryz.underlying86 h
  rw [cells86] at hl
  match cs, hl, xs, hx with
  | [c0, c1, c2], _, [y0, y1, y2], _ =>
    have f0 : DataW.trod enc Tryz.prog w base sp held n 3 (([c0, c1, c2].drop 0).take (Tryz.prog.cellsOf 3)) = some y0 := hf 0 _ rfl
    rw [cells3] at f0
    have f1 : DataW.trod enc Tryz.prog w base sp held n 3 (([c0, c1, c2].drop 1).take (Tryz.prog.cellsOf 3)) = some y1 := hf 1 _ rfl
    rw [cells3] at f1
    have f2 : DataW.trod enc Tryz.prog w base sp held n 3 (([c0, c1, c2].drop 2).take (Tryz.prog.cellsOf 3)) = some y2 := hf 2 _ rfl
    rw [cells3] at f2
    obtain ⟨n0, e0, _⟩ := DataW.trod_int Tryz.underlying3 (show DataW.trod enc Tryz.prog w base sp held n 3 [c0] = some y0 from f0)
    obtain ⟨n1, e1, _⟩ := DataW.trod_int Tryz.underlying3 (show DataW.trod enc Tryz.prog w base sp held n 3 [c1] = some y1 from f1)
    obtain ⟨n2, e2, _⟩ := DataW.trod_int Tryz.underlying3 (show DataW.trod enc Tryz.prog w base sp held n 3 [c2] = some y2 from f2)
    injection e0 with e0; injection e1 with e1; injection e2 with e2
    subst e0; subst e1; subst e2
    exact ⟨⟨n0, n1, n2⟩, rfl⟩

/-- A node. -/
theorem row55 {base fuel : Nat} {cs : List Value} {x : DataW H × List MemPlace} (h : DataW.trod enc Tryz.prog w base sp held fuel 55 cs = some x) :
    ∃ (k ns : Int) (u1 u2 u3 u4 u6 : Value), cs = [.int .i64 k, u1, u2, u3, u4, .int .i64 ns, u6] ∧ one u1 = true ∧ one u2 = true ∧ one u3 = true ∧ one u4 = true ∧ one u6 = true ∧ ∃ n y, DataW.trod enc Tryz.prog w base sp held n 53 [u6] = some y := by
  obtain ⟨xs, n, _, rfl, hl, hx, hf⟩ := DataW.trod_struct Tryz.underlying55 h
  rw [cells55] at hl
  match cs, hl, xs, hx with
  | [c0, c1, c2, c3, c4, c5, c6], _, [y0, y1, y2, y3, y4, y5, y6], _ =>
    have f0 : DataW.trod enc Tryz.prog w base sp held n 3 (([c0, c1, c2, c3, c4, c5, c6].drop 0).take (Tryz.prog.cellsOf 3)) = some y0 := hf 0 _ rfl
    rw [cells3] at f0
    have f1 : DataW.trod enc Tryz.prog w base sp held n 3 (([c0, c1, c2, c3, c4, c5, c6].drop 1).take (Tryz.prog.cellsOf 3)) = some y1 := hf 1 _ rfl
    rw [cells3] at f1
    have f2 : DataW.trod enc Tryz.prog w base sp held n 9 (([c0, c1, c2, c3, c4, c5, c6].drop 2).take (Tryz.prog.cellsOf 9)) = some y2 := hf 2 _ rfl
    rw [cells9] at f2
    have f3 : DataW.trod enc Tryz.prog w base sp held n 3 (([c0, c1, c2, c3, c4, c5, c6].drop 3).take (Tryz.prog.cellsOf 3)) = some y3 := hf 3 _ rfl
    rw [cells3] at f3
    have f4 : DataW.trod enc Tryz.prog w base sp held n 3 (([c0, c1, c2, c3, c4, c5, c6].drop 4).take (Tryz.prog.cellsOf 3)) = some y4 := hf 4 _ rfl
    rw [cells3] at f4
    have f5 : DataW.trod enc Tryz.prog w base sp held n 3 (([c0, c1, c2, c3, c4, c5, c6].drop 5).take (Tryz.prog.cellsOf 3)) = some y5 := hf 5 _ rfl
    rw [cells3] at f5
    have f6 : DataW.trod enc Tryz.prog w base sp held n 53 (([c0, c1, c2, c3, c4, c5, c6].drop 6).take (Tryz.prog.cellsOf 53)) = some y6 := hf 6 _ rfl
    rw [cells53] at f6
    obtain ⟨n0, e0, _⟩ := DataW.trod_int Tryz.underlying3 (show DataW.trod enc Tryz.prog w base sp held n 3 [c0] = some y0 from f0)
    obtain ⟨n1, e1, _⟩ := DataW.trod_int Tryz.underlying3 (show DataW.trod enc Tryz.prog w base sp held n 3 [c1] = some y1 from f1)
    obtain ⟨s2, e2, _⟩ := DataW.trod_string Tryz.underlying9 (show DataW.trod enc Tryz.prog w base sp held n 9 [c2] = some y2 from f2)
    obtain ⟨n3, e3, _⟩ := DataW.trod_int Tryz.underlying3 (show DataW.trod enc Tryz.prog w base sp held n 3 [c3] = some y3 from f3)
    obtain ⟨n4, e4, _⟩ := DataW.trod_int Tryz.underlying3 (show DataW.trod enc Tryz.prog w base sp held n 3 [c4] = some y4 from f4)
    obtain ⟨n5, e5, _⟩ := DataW.trod_int Tryz.underlying3 (show DataW.trod enc Tryz.prog w base sp held n 3 [c5] = some y5 from f5)
    have g6 : DataW.trod enc Tryz.prog w base sp held n 53 [c6] = some y6 := f6
    injection e0 with e0; injection e1 with e1; injection e2 with e2; injection e3 with e3; injection e4 with e4; injection e5 with e5
    subst e0; subst e1; subst e2; subst e3; subst e4; subst e5
    exact ⟨n0, n5, _, _, _, _, c6, rfl, rfl, rfl, rfl, rfl, one_slice Tryz.underlying53 g6, n, y6, g6⟩

/-- The references. -/
theorem open36 {fuel : Nat} {u : Value} {x : DataW H × List MemPlace} (h : DataW.trod enc Tryz.prog w 0 sp held fuel 36 [u] = some x) : ∃ refs : List Rf, refs.length ≤ maxLen ∧ Rep (heapM w) u (.lst (refs.map Rf.row)) := by
  rcases DataW.trod_slice Tryz.underlying36 h with ⟨hc, _⟩ | ⟨a, len, cap, elems, _, n, _, hc, _, _, h1, h2, h3, h4, _⟩
  · injection hc with hc; subst hc; exact ⟨[], Nat.zero_le _, rep_nil w⟩
  · injection hc with hc; subst hc
    rw [cells86] at h4
    have : ∀ i, i < len → ∃ r : Rf, w.cells? 0 (a.add (i * 3)) 3 = some [.int .i64 r.m, .int .i64 r.s, .int .i64 r.y] := by
      intro i hi
      have := h4 i hi
      rw [List.getElem?_eq_getElem (by omega)] at this
      obtain ⟨l, g1, g2⟩ := Option.bind_eq_some_iff.1 this
      obtain ⟨r, rfl⟩ := row86 g2
      exact ⟨r, g1⟩
    obtain ⟨refs, g1, g2⟩ := pick_list len this
    refine ⟨refs, by omega, ?_⟩
    have := rep_rows (w := w) (sz := 3) (by decide) (rows := refs.map fun r => [.int .i64 r.m, .int .i64 r.s, .int .i64 r.y]) (fun r hr => by
      obtain ⟨y, _, rfl⟩ := List.mem_map.1 hr
      exact ⟨rfl, fun x hx => by simp at hx; rcases hx with rfl | rfl | rfl <;> rfl⟩) (a := a) (by simpa using g1) h1 (fun i r hr => by
      rw [List.getElem?_map] at hr
      obtain ⟨y, hy, rfl⟩ := Option.map_eq_some_iff.1 hr
      exact g2 i y hy)
    rw [List.map_map] at this
    exact this

/-- The children. -/
theorem open53 {fuel : Nat} {u : Value} {x : DataW H × List MemPlace} (h : DataW.trod enc Tryz.prog w 0 sp held fuel 53 [u] = some x) : ∃ kids : List Kid, kids.length ≤ maxLen ∧ Rep (heapM w) u (.lst (kids.map Kid.row)) := by
  rcases DataW.trod_slice Tryz.underlying53 h with ⟨hc, _⟩ | ⟨a, len, cap, elems, _, n, _, hc, _, _, h1, h2, h3, h4, _⟩
  · injection hc with hc; subst hc; exact ⟨[], Nat.zero_le _, rep_nil w⟩
  · injection hc with hc; subst hc
    rw [cells55] at h4
    have : ∀ i, i < len → ∃ r : Int × Int × Value × Value × Value × Value × Value, w.cells? 0 (a.add (i * 7)) 7 = some [.int .i64 r.1, r.2.2.1, r.2.2.2.1, r.2.2.2.2.1, r.2.2.2.2.2.1, .int .i64 r.2.1, r.2.2.2.2.2.2] ∧
        one r.2.2.1 = true ∧ one r.2.2.2.1 = true ∧ one r.2.2.2.2.1 = true ∧ one r.2.2.2.2.2.1 = true ∧ one r.2.2.2.2.2.2 = true := by
      intro i hi
      have := h4 i hi
      rw [List.getElem?_eq_getElem (by omega)] at this
      obtain ⟨l, g1, g2⟩ := Option.bind_eq_some_iff.1 this
      obtain ⟨k, ns, u1, u2, u3, u4, u6, rfl, o1, o2, o3, o4, o6, _⟩ := row55 g2
      exact ⟨(k, ns, u1, u2, u3, u4, u6), g1, o1, o2, o3, o4, o6⟩
    obtain ⟨rs, g1, g2⟩ := pick_list len this
    refine ⟨rs.map fun r => ⟨r.1, r.2.1, .v r.2.2.1, .v r.2.2.2.1, .v r.2.2.2.2.1, .v r.2.2.2.2.2.1, .v r.2.2.2.2.2.2⟩, by rw [List.length_map]; omega, ?_⟩
    have := rep_rows (w := w) (sz := 7) (by decide) (rows := rs.map fun r => [.int .i64 r.1, r.2.2.1, r.2.2.2.1, r.2.2.2.2.1, r.2.2.2.2.2.1, .int .i64 r.2.1, r.2.2.2.2.2.2]) (fun r hr => by
      obtain ⟨y, hy, rfl⟩ := List.mem_map.1 hr
      obtain ⟨i, hi, hi2⟩ := List.mem_iff_getElem.1 hy
      obtain ⟨_, o1, o2, o3, o4, o6⟩ := g2 i y (by rw [List.getElem?_eq_getElem hi, hi2])
      exact ⟨rfl, fun x hx => by
        simp only [List.mem_cons, List.not_mem_nil, or_false] at hx
        rcases hx with rfl | rfl | rfl | rfl | rfl | rfl | rfl <;> first | rfl | assumption⟩) (a := a) (by simpa using g1) h1 (fun i r hr => by
      rw [List.getElem?_map] at hr
      obtain ⟨y, hy, rfl⟩ := Option.map_eq_some_iff.1 hr
      exact (g2 i y hy).1)
    rw [List.map_map] at this ⊢
    exact this

/-- A resolution. -/
theorem open39 {fuel : Nat} {cs : List Value} {x : DataW H × List MemPlace} (h : DataW.trod enc Tryz.prog w 0 sp held fuel 39 cs = some x) :
    ∃ (u0 v1 u2 : Value) (refs : List Rf), cs = [u0, v1, u2] ∧ one u0 = true ∧ one u2 = true ∧ refs.length ≤ maxLen ∧ Rep (heapM w) v1 (.lst (refs.map Rf.row)) := by
  obtain ⟨xs, n, _, rfl, hl, hx, hf⟩ := DataW.trod_struct Tryz.underlying39 h
  rw [cells39] at hl
  match cs, hl, xs, hx with
  | [c0, c1, c2], _, [y0, y1, y2], _ =>
    have f0 : DataW.trod enc Tryz.prog w 0 sp held n 35 (([c0, c1, c2].drop 0).take (Tryz.prog.cellsOf 35)) = some y0 := hf 0 _ rfl
    rw [cells35] at f0
    have f1 : DataW.trod enc Tryz.prog w 0 sp held n 36 (([c0, c1, c2].drop 1).take (Tryz.prog.cellsOf 36)) = some y1 := hf 1 _ rfl
    rw [cells36] at f1
    have f2 : DataW.trod enc Tryz.prog w 0 sp held n 37 (([c0, c1, c2].drop 2).take (Tryz.prog.cellsOf 37)) = some y2 := hf 2 _ rfl
    rw [cells37] at f2
    obtain ⟨refs, g1, g2⟩ := open36 (show DataW.trod enc Tryz.prog w 0 sp held n 36 [c1] = some y1 from f1)
    exact ⟨c0, c1, c2, refs, rfl, one_slice Tryz.underlying35 (show DataW.trod enc Tryz.prog w 0 sp held n 35 [c0] = some y0 from f0), one_slice Tryz.underlying37 (show DataW.trod enc Tryz.prog w 0 sp held n 37 [c2] = some y2 from f2), g1, g2⟩
end
end Go.Proofs.YtmiohnbdeaendaaGreatDoor
