/- The law PathSymbol equals its reference answers true on any data. -/
import Derived.Test.YtmiohnbdeaendaaGreatDoorF4
import Derived.Test.YtmiohnbdeaendaaGreatDoorA4
import Derived.Test.YtmiohnbdeaendaaGreatDoorE9
namespace Go.Proofs.YtmiohnbdeaendaaGreatDoor
open Go Go.Proofs Go.Proofs.Ae
set_option linter.unusedSectionVars false
set_option linter.unusedSimpArgs false
set_option linter.unusedVariables false
variable [Io]

theorem refAt_neg (m : Int) (refs : List Rf) : refAt m (-1) refs = -1 := by
  unfold refAt
  have : refs.find? (hit m (-1)) = none := by
    rw [List.find?_eq_none]
    intro r _
    simp [hit]
  rw [this]

theorem last_rev : ∀ (l : List Kid), l.reverse.foldl pick1 (-1) = match l.find? good with | some c => c.ns | none => -1
  | [] => rfl
  | c :: l => by
    rw [List.reverse_cons, List.foldl_append, List.foldl_cons, List.foldl_nil, last_rev l, List.find?_cons]
    cases hg : good c with
    | true =>
      simp only [good, Bool.and_eq_true, decide_eq_true_eq] at hg
      simp only [pick1, hg, and_self, if_true]
    | false =>
      have : ¬ (c.k = 18 ∧ 0 ≤ c.ns) := fun h => by simp [good, h.1, h.2] at hg
      simp only [pick1, this, if_false]

theorem path_eq (m k : Int) (kids : List Kid) (refs : List Rf) : pathAt m k kids refs = refAt m (lastStart k kids) refs := by
  unfold pathAt lastStart
  split
  · have := last_rev kids.reverse
    rw [List.reverse_reverse] at this
    rw [this]
    cases kids.reverse.find? good with
    | none => exact (refAt_neg m refs).symm
    | some c => rfl
  · exact (refAt_neg m refs).symm

theorem clean_known {P : Program} {t : FuncId} {ks : List SV} {x : D} {atoms : List (Nat × Atom)} {hi : Nat} (h : Known P t ks (.d x) atoms hi) (hp : ks.all pureS = true) : CleanOk P (.f t) ks (.d x) := by
  obtain ⟨h', h1, _⟩ := h.ex
  intro env M F w vs hc hh hfr _
  refine (h1 (fun _ => none) M F w vs (pure_conc hp hc) hh.noAtoms (fun _ _ _ => rfl) (fun n e => by cases e)).mono ?_
  rintro v w' ⟨env', _, _, hv, hh'⟩
  refine ⟨env, env.le_refl, fun _ _ => rfl, ?_, (hh'.drop (lk' := fun _ => none) fun _ _ e => by cases e).noAtoms⟩
  unfold Conc at hv ⊢
  exact hv

theorem two_calls {P : Program} {t t' : Tgt} {l l' : List SV} {v v' : SV} (h : CleanOk P t l v) (h' : CleanOk P t' l' v') (hne : t' ≠ t) : ∃ call : Tgt → List SV → Option SV, call t l = some v ∧ call t' l' = some v' ∧ ∀ t l v, call t l = some v → CleanOk P t l v := by
  classical
  refine ⟨fun u r => if u = t ∧ r = l then some v else if u = t' ∧ r = l' then some v' else none, by simp, by simp [hne], fun u r x e => ?_⟩
  simp only at e
  split at e
  · rename_i hx
    obtain ⟨rfl, rfl⟩ := hx
    injection e with e; subst e; exact h
  · split at e
    · rename_i hx
      obtain ⟨rfl, rfl⟩ := hx
      injection e with e; subst e; exact h'
    · cases e

section
variable (s0 : D) (refs : List Rf) (s2 : D) (m : Int) (k : Int) (x1 x2 x3 x4 : D) (ns : Int) (kids : List Kid)

theorem c6 (hn : kids.length ≤ 9223372036854775807) (hr : refs.length ≤ 9223372036854775807) : CleanOk Tryz.prog (.f 6) [rsS s0 refs s2, iv .i64 m, ndS k x1 x2 x3 x4 ns kids] (bv true) := by
  obtain ⟨call14, hcall14, hok14⟩ := one_call (clean_known k14 rfl)
  have h22 := c22 s0 refs s2 m k x1 x2 x3 x4 ns kids hn hr
  rw [path_eq] at h22
  obtain ⟨call, h1, h2, hcok⟩ := two_calls h22 (c23 s0 refs s2 m k x1 x2 x3 x4 ns kids hn hr) (by simp)
  generalize hv : refAt m (lastStart k kids) refs = val at h1 h2
  refine clean_of tt0_ok Tryz.func6 (by decide) (c := _) rfl rfl [(0, rsS s0 refs s2), (1, iv .i64 m), (2, ndS k x1 x2 x3 x4 ns kids)] (by simp) ?_
  intro env M F a w he hm
  have hnt : [rsS s0 refs s2, iv .i64 m, ndS k x1 x2 x3 x4 ns kids].length + (Tryz.f6.ntmps - [rsS s0 refs s2, iv .i64 m, ndS k x1 x2 x3 x4 ns kids].length) = 18 := rfl
  rw [hnt] at hm ⊢
  have hok : ∀ x ∈ [((1 : Nat), nd61 k x1 x2 x3 x4 ns kids), (0, rsA s0 refs s2)], x.1 < 2 ∧ okA 2 x.2 := by simp [nd61, rsA, okA, okSL, okS, okS_iv]
  refine wpIn_seq (reg_cut hm he tt0_ok noCall_ok 2 [(1, iv .i64 m), (3, .ptr 0 0), (5, .ptr 1 0)] [(1, nd61 k x1 x2 x3 x4 ns kids), (0, rsA s0 refs s2)] ?_ (by simp [okS, okS_iv]) hok (by simp) ?_)
  · simp [rsA, rsS, nd61, ndS, b3, aggS, aggI, SegOk, segR, dstB, guardOf, callOf, act, actCall, ev, ofVal, ofCell, actBox, SV.cells, SV.flat, tmL, lkL, iv, bv, putT_some, putT_none, upd_at, updL, actFieldAddr, addOff, actLoad, getRow, actLen, actIndexAddr, actBin, intB, actAlloc, actStore, putRow, putS, h3, h4, h36, h39, h53, h55, h86, f55_0, f55_5, f55_6, f39_1, f86_0, f86_1, f86_2, a39, a55, a86, s3, s39, s55, s86, e53, e36, z3, z55, z86, actUn, nn, st]
  clear hm he
  intro env a w he _ hm
  refine wpIn_seq (wpIn_seq (reg_cut hm he tt0_ok hok14 2 [(1, iv .i64 m), (3, .ptr 0 0), (5, .ptr 1 0), (8, bv false)] [(1, nd61 k x1 x2 x3 x4 ns kids), (0, rsA s0 refs s2)] ?_ (by simp [okS, okS_iv, okS_bv]) hok (by simp) ?_))
  · simp [rsA, nd61, hcall14, b3, aggS, aggI, SegOk, segR, dstB, guardOf, callOf, act, actCall, ev, ofVal, ofCell, actBox, SV.cells, SV.flat, tmL, lkL, iv, bv, putT_some, putT_none, upd_at, updL, actFieldAddr, addOff, actLoad, getRow, actLen, actIndexAddr, actBin, intB, actAlloc, actStore, putRow, putS, h3, h4, h36, h39, h53, h55, h86, f55_0, f55_5, f55_6, f39_1, f86_0, f86_1, f86_2, a39, a55, a86, s3, s39, s55, s86, e53, e36, z3, z55, z86, actUn, nn, st]
  clear hm he
  intro env a w he _ hm
  refine wpx_cond (b := false) hm rfl (fun h => by cases h) (fun _ => wpIn_skip (then_normal ?_))
  refine wpIn_seq (reg_any follows0 hm he tt0_ok hcok 2 [(6, bv true)] [] (by kernel_rfl) ?_ (by simp [okS_bv]) (by simp) (by simp) ?_)
  · simp only [rsS, ndS, iv] at h1 h2
    simp [rsA, nd61, h1, h2, segQ, b3, aggS, aggI, SegOk, segR, dstB, guardOf, callOf, act, actCall, ev, ofVal, ofCell, actBox, SV.cells, SV.flat, tmL, lkL, iv, bv, putT_some, putT_none, upd_at, updL, actFieldAddr, addOff, actLoad, getRow, actLen, actIndexAddr, actBin, intB, actAlloc, actStore, putRow, putS, h3, h4, h36, h39, h53, h55, h86, f55_0, f55_5, f55_6, f39_1, f86_0, f86_1, f86_2, a39, a55, a86, s3, s39, s55, s86, e53, e36, z3, z55, z86, actUn, nn, st]
  clear hm he
  intro env a w he _ hm
  exact wpIn_ret ⟨.inr rfl, env, _, _, [bv true], hm, rfl, rfl⟩
end
end Go.Proofs.YtmiohnbdeaendaaGreatDoor
