/- The reference's PathSymbol, on any data. -/
import Derived.Test.YtmiohnbdeaendaaGreatDoorF1
namespace Go.Proofs.YtmiohnbdeaendaaGreatDoor
open Go Go.Proofs Go.Proofs.Ae
set_option linter.unusedSectionVars false
set_option linter.unusedSimpArgs false
set_option linter.unusedVariables false
variable [Io]

/-- A resolution. -/
def rsS (s0 : D) (refs : List Rf) (s2 : D) : SV := .agg [.d s0, .d (.lst (refs.map Rf.row)), .d s2]
def rsA (s0 : D) (refs : List Rf) (s2 : D) : Atom := .cells [.d s0, .d (.lst (refs.map Rf.row)), .d s2] 39
theorem okrs (s0 : D) (refs : List Rf) (s2 : D) (c : Nat) (hc : 0 < c) : ∀ x ∈ [(0, rsA s0 refs s2)], x.1 < c ∧ okA c x.2 := by
  simp [rsA, okA, okSL, okS, hc]

def hit (m start : Int) (r : Rf) : Bool := decide (0 ≤ start) && (r.m == m) && (r.s == start)
def refAt (m start : Int) (refs : List Rf) : Int := match refs.find? (hit m start) with
  | some r => r.y
  | none => -1

section
variable (s0 : D) (refs : List Rf) (s2 : D) (m : Int) (k : Int) (x1 x2 x3 x4 : D) (ns : Int) (kids : List Kid)

theorem c23 (hn : kids.length ≤ 9223372036854775807) (hr : refs.length ≤ 9223372036854775807) : CleanOk Tryz.prog (.f 23) [rsS s0 refs s2, iv .i64 m, ndS k x1 x2 x3 x4 ns kids] (iv .i64 (refAt m (lastStart k kids) refs)) := by
  obtain ⟨call, hcall, hcok⟩ := one_call (c61 k x1 x2 x3 x4 ns kids hn)
  generalize hst : lastStart k kids = start at hcall ⊢
  refine clean_of tt0_ok Tryz.func23 (by decide) (c := _) rfl rfl [(0, rsS s0 refs s2), (1, iv .i64 m), (2, ndS k x1 x2 x3 x4 ns kids)] (by simp) ?_
  intro env M F a w he hm
  have hnt : [rsS s0 refs s2, iv .i64 m, ndS k x1 x2 x3 x4 ns kids].length + (Tryz.f23.ntmps - [rsS s0 refs s2, iv .i64 m, ndS k x1 x2 x3 x4 ns kids].length) = 40 := rfl
  rw [hnt] at hm ⊢
  have hok := okrs s0 refs s2
  generalize hres : rsA s0 refs s2 = rs at hok
  -- the arguments, boxed
  refine wpIn_seq (reg_cut hm he tt0_ok noCall_ok 2 [(1, iv .i64 m), (3, .ptr 0 0), (5, .ptr 1 0)] [(0, rs), (1, nd61 k x1 x2 x3 x4 ns kids)] ?_ (by simp [okS, okS_iv]) ?_ (by simp) ?_)
  · subst hres; simp [rsA, rsS, nd61, ndS, b3, aggS, aggI, SegOk, segR, dstB, guardOf, callOf, act, actCall, ev, ofVal, ofCell, actBox, SV.cells, SV.flat, tmL, lkL, iv, bv, putT_some, putT_none, upd_at, updL, actFieldAddr, addOff, actLoad, getRow, actLen, actIndexAddr, actBin, intB, actAlloc, actStore, putRow, putS, h3, h4, h36, h39, h53, h55, h86, f55_0, f55_5, f55_6, f39_1, f86_0, f86_1, f86_2, a39, a55, a86, s3, s39, s55, s86, e53, e36, z3, z55, z86]
  · subst hres; simp [rsA, nd61, okA, okSL, okS, okS_iv]
  clear hm he
  intro env a w he _ hm
  -- the start
  refine wpIn_seq (reg_cut hm he tt0_ok hcok 1 [(1, iv .i64 m), (3, .ptr 0 0), (7, iv .i64 start)] [(0, rs)] ?_ (by simp [okS, okS_iv]) (hok 1 (by decide)) (by simp) ?_)
  · subst hres
    simp only [ndS, iv] at hcall
    simp [rsA, nd61, hcall, b3, aggS, aggI, SegOk, segR, dstB, guardOf, callOf, act, actCall, ev, ofVal, ofCell, actBox, SV.cells, SV.flat, tmL, lkL, iv, bv, putT_some, putT_none, upd_at, updL, actFieldAddr, addOff, actLoad, getRow, actLen, actIndexAddr, actBin, intB, actAlloc, actStore, putRow, putS, h3, h4, h36, h39, h53, h55, h86, f55_0, f55_5, f55_6, f39_1, f86_0, f86_1, f86_2, a39, a55, a86, s3, s39, s55, s86, e53, e36, z3, z55, z86]
  clear hm he
  intro env a w he _ hm
  refine wpIn_seq (wpIn_mono (Q := fun e a w => (e = .normal ∧ ∃ env, EnvB env 1 ∧ refAt m start refs = -1 ∧ Mod env M F [] 40 (tmL []) (lkL []) a w) ∨ (e = .ret ∧ EndsAs tt0 Tryz.f23 M F 40 (iv .i64 (refAt m start refs)) e a w)) ?_ ?_)
  · refine wpIn_seq (reg_cut hm he tt0_ok noCall_ok 1 [(1, iv .i64 m), (3, .ptr 0 0), (7, iv .i64 start), (8, iv .i64 0)] [(0, rs)] ?_ (by simp [okS, okS_iv]) (hok 1 (by decide)) (by simp) ?_)
    · simp [b3, aggS, aggI, SegOk, segR, dstB, guardOf, callOf, act, actCall, ev, ofVal, ofCell, actBox, SV.cells, SV.flat, tmL, lkL, iv, bv, putT_some, putT_none, upd_at, updL, actFieldAddr, addOff, actLoad, getRow, actLen, actIndexAddr, actBin, intB, actAlloc, actStore, putRow, putS, h3, h4, h36, h39, h53, h55, h86, f55_0, f55_5, f55_6, f39_1, f86_0, f86_1, f86_2, a39, a55, a86, s3, s39, s55, s86, e53, e36, z3, z55, z86]
    clear hm he
    intro env a w he _ hm
    refine wpIn_block (wpx_loop (fun n a w => ∃ (i : Nat) (env : En), i + n = refs.length ∧ refAt m start (refs.drop i) = refAt m start refs ∧ EnvB env 1 ∧ Mod env M F [] 40 (tmL [(1, iv .i64 m), (3, .ptr 0 0), (7, iv .i64 start), (8, iv .i64 i)]) (lkL [(0, rs)]) a w) ?_ ⟨0, env, Nat.zero_add _, rfl, he, hm⟩)
    clear hm he
    rintro n a w ⟨i, env, hin, hs, he, hm⟩
    cases n with
    | zero =>
      have hi : i = refs.length := by omega
      refine wpIn_seq (wpIn_seq (reg_cut hm he tt0_ok noCall_ok 1 [(16, bv false)] [] ?_ (by simp [okS_bv]) (by simp) (by simp) ?_))
      · subst hres; simp [rsA, hi, b3, aggS, aggI, SegOk, segR, dstB, guardOf, callOf, act, actCall, ev, ofVal, ofCell, actBox, SV.cells, SV.flat, tmL, lkL, iv, bv, putT_some, putT_none, upd_at, updL, actFieldAddr, addOff, actLoad, getRow, actLen, actIndexAddr, actBin, intB, actAlloc, actStore, putRow, putS, h3, h4, h36, h39, h53, h55, h86, f55_0, f55_5, f55_6, f39_1, f86_0, f86_1, f86_2, a39, a55, a86, s3, s39, s55, s86, e53, e36, z3, z55, z86]
      clear hm he
      intro env a w he _ hm
      refine wpx_cond (b := false) hm rfl (fun h => by cases h) (fun _ => wpIn_exit ?_)
      refine then_exit (then_exit (block_exit (.inl ⟨rfl, env, he, ?_, hm.weakL _ _ (by simp) (by simp)⟩)))
      rw [← hs, show refs.drop i = [] from by rw [List.drop_eq_nil_iff]; omega]; rfl
    | succ n =>
      have hi : i < refs.length := by omega
      have hdrop : refs.drop i = refs[i] :: refs.drop (i + 1) := List.drop_eq_getElem_cons hi
      refine wpIn_seq (wpIn_seq (reg_cut hm he tt0_ok noCall_ok 1 [(1, iv .i64 m), (3, .ptr 0 0), (7, iv .i64 start), (8, iv .i64 i), (16, bv true)] [(0, rs)] ?_ (by simp [okS, okS_iv, okS_bv]) (hok 1 (by decide)) (by simp) ?_))
      · subst hres; simp [rsA, hi, b3, aggS, aggI, SegOk, segR, dstB, guardOf, callOf, act, actCall, ev, ofVal, ofCell, actBox, SV.cells, SV.flat, tmL, lkL, iv, bv, putT_some, putT_none, upd_at, updL, actFieldAddr, addOff, actLoad, getRow, actLen, actIndexAddr, actBin, intB, actAlloc, actStore, putRow, putS, h3, h4, h36, h39, h53, h55, h86, f55_0, f55_5, f55_6, f39_1, f86_0, f86_1, f86_2, a39, a55, a86, s3, s39, s55, s86, e53, e36, z3, z55, z86]
      clear hm he
      intro env a w he _ hm
      refine wpx_cond (b := true) hm rfl (fun _ => wpIn_skip ?_) (fun h => by cases h)
      refine then_normal (wpIn_seq (wpIn_block ?_))
      refine wpIn_mono (Q := fun e a w => (e = .normal ∧ hit m start refs[i] = false ∧ ∃ env, EnvB env 1 ∧ Mod env M F [] 40 (tmL [(1, iv .i64 m), (3, .ptr 0 0), (7, iv .i64 start), (8, iv .i64 i)]) (lkL [(0, rs)]) a w) ∨ (e = .ret ∧ EndsAs tt0 Tryz.f23 M F 40 (iv .i64 (refAt m start refs)) e a w)) ?_ ?_
      · refine wpIn_seq (reg_cut hm he tt0_ok noCall_ok 8 [(1, iv .i64 m), (3, .ptr 0 0), (7, iv .i64 start), (8, iv .i64 i), (9, .ptr 6 0)] [(0, rs), (6, .cells [iv .i64 refs[i].m, iv .i64 refs[i].s, iv .i64 refs[i].y] 86)] ?_ (by simp [okS, okS_iv, okS_bv]) ?_ (by simp) ?_)
        · subst hres; simp [rsA, hi, Rf.row, b3, aggS, aggI, SegOk, segR, dstB, guardOf, callOf, act, actCall, ev, ofVal, ofCell, actBox, SV.cells, SV.flat, tmL, lkL, iv, bv, putT_some, putT_none, upd_at, updL, actFieldAddr, addOff, actLoad, getRow, actLen, actIndexAddr, actBin, intB, actAlloc, actStore, putRow, putS, h3, h4, h36, h39, h53, h55, h86, f55_0, f55_5, f55_6, f39_1, f86_0, f86_1, f86_2, a39, a55, a86, s3, s39, s55, s86, e53, e36, z3, z55, z86]
        · intro x hx
          simp only [List.mem_cons, List.not_mem_nil, or_false] at hx
          rcases hx with rfl | rfl
          · exact hok 8 (by decide) _ (by simp)
          · simp [okA, okSL, okS_iv]
        clear hm he
        intro env a w he _ hm
        have fin : ∀ {env : En} {a : Act} {w : World}, EnvB env 8 → hit m start refs[i] = false → Mod env M F [] 40 (tmL [(1, iv .i64 m), (3, .ptr 0 0), (7, iv .i64 start), (8, iv .i64 i), (37, bv false)]) (lkL [(0, rs)]) a w → (∃ env, EnvB env 1 ∧ Mod env M F [] 40 (tmL [(1, iv .i64 m), (3, .ptr 0 0), (7, iv .i64 start), (8, iv .i64 i)]) (lkL [(0, rs)]) a w) := by
          intro env a w he _ hm
          obtain ⟨g1, g2⟩ := hm.cutL 1 [(1, iv .i64 m), (3, .ptr 0 0), (7, iv .i64 start), (8, iv .i64 i)] [(0, rs)] (by simp) (by simp [tmL, okS, okS_iv]) (fun x hx => ⟨by simp at hx; subst hx; rfl, hok 1 (by decide) x hx⟩)
          exact ⟨_, g2, g1⟩
        by_cases hh : hit m start refs[i] = true
        · have hh' := hh
          simp only [hit, Bool.and_eq_true, decide_eq_true_eq, beq_iff_eq] at hh'
          obtain ⟨⟨g1, g2⟩, g3⟩ := hh'
          refine wpIn_seq (reg_cut hm he tt0_ok noCall_ok 8 [(9, .ptr 6 0), (37, bv true)] [(6, .cells [iv .i64 refs[i].m, iv .i64 refs[i].s, iv .i64 refs[i].y] 86)] ?_ (by simp [okS, okS_iv, okS_bv]) (by simp [okA, okSL, okS_iv]) (by simp) ?_)
          · simp [g1, g2, g3, b3, aggS, aggI, SegOk, segR, dstB, guardOf, callOf, act, actCall, ev, ofVal, ofCell, actBox, SV.cells, SV.flat, tmL, lkL, iv, bv, putT_some, putT_none, upd_at, updL, actFieldAddr, addOff, actLoad, getRow, actLen, actIndexAddr, actBin, intB, actAlloc, actStore, putRow, putS, h3, h4, h36, h39, h53, h55, h86, f55_0, f55_5, f55_6, f39_1, f86_0, f86_1, f86_2, a39, a55, a86, s3, s39, s55, s86, e53, e36, z3, z55, z86]
          clear hm he
          intro env a w he _ hm
          refine wpx_cond (b := true) hm rfl (fun _ => ?_) (fun h => by cases h)
          refine wpIn_seq (reg_cut hm he tt0_ok noCall_ok 8 [(6, iv .i64 refs[i].y)] [] ?_ (by simp [okS, okS_iv, okS_bv]) (by simp) (by simp) ?_)
          · simp [b3, aggS, aggI, SegOk, segR, dstB, guardOf, callOf, act, actCall, ev, ofVal, ofCell, actBox, SV.cells, SV.flat, tmL, lkL, iv, bv, putT_some, putT_none, upd_at, updL, actFieldAddr, addOff, actLoad, getRow, actLen, actIndexAddr, actBin, intB, actAlloc, actStore, putRow, putS, h3, h4, h36, h39, h53, h55, h86, f55_0, f55_5, f55_6, f39_1, f86_0, f86_1, f86_2, a39, a55, a86, s3, s39, s55, s86, e53, e36, z3, z55, z86]
          clear hm he
          intro env a w he _ hm
          have hy : refAt m start refs = refs[i].y := by
            rw [← hs, hdrop]; unfold refAt; rw [List.find?_cons, hh]
          exact then_normal (wpIn_ret (.inr ⟨rfl, .inr rfl, env, _, _, [iv .i64 refs[i].y], hm, rfl, by rw [hy]; rfl⟩))
        · have hh : hit m start refs[i] = false := by simpa using hh
          refine wpIn_seq (reg_cut hm he tt0_ok noCall_ok 8 [(1, iv .i64 m), (3, .ptr 0 0), (7, iv .i64 start), (8, iv .i64 i), (37, bv false)] [(0, rs)] ?_ (by simp [okS, okS_iv, okS_bv]) (hok 8 (by decide)) (by simp) ?_)
          · by_cases g1 : 0 ≤ start
            · by_cases g2 : refs[i].m = m
              · have g3 : (refs[i].s == start) = false := by simpa [hit, g1, g2] using hh
                subst hres; simp [rsA, g1, g2, g3, b3, aggS, aggI, SegOk, segR, dstB, guardOf, callOf, act, actCall, ev, ofVal, ofCell, actBox, SV.cells, SV.flat, tmL, lkL, iv, bv, putT_some, putT_none, upd_at, updL, actFieldAddr, addOff, actLoad, getRow, actLen, actIndexAddr, actBin, intB, actAlloc, actStore, putRow, putS, h3, h4, h36, h39, h53, h55, h86, f55_0, f55_5, f55_6, f39_1, f86_0, f86_1, f86_2, a39, a55, a86, s3, s39, s55, s86, e53, e36, z3, z55, z86]
              · have g2' : (refs[i].m == m) = false := by simpa using g2
                subst hres; simp [rsA, g1, g2', b3, aggS, aggI, SegOk, segR, dstB, guardOf, callOf, act, actCall, ev, ofVal, ofCell, actBox, SV.cells, SV.flat, tmL, lkL, iv, bv, putT_some, putT_none, upd_at, updL, actFieldAddr, addOff, actLoad, getRow, actLen, actIndexAddr, actBin, intB, actAlloc, actStore, putRow, putS, h3, h4, h36, h39, h53, h55, h86, f55_0, f55_5, f55_6, f39_1, f86_0, f86_1, f86_2, a39, a55, a86, s3, s39, s55, s86, e53, e36, z3, z55, z86]
            · subst hres; simp [rsA, g1, b3, aggS, aggI, SegOk, segR, dstB, guardOf, callOf, act, actCall, ev, ofVal, ofCell, actBox, SV.cells, SV.flat, tmL, lkL, iv, bv, putT_some, putT_none, upd_at, updL, actFieldAddr, addOff, actLoad, getRow, actLen, actIndexAddr, actBin, intB, actAlloc, actStore, putRow, putS, h3, h4, h36, h39, h53, h55, h86, f55_0, f55_5, f55_6, f39_1, f86_0, f86_1, f86_2, a39, a55, a86, s3, s39, s55, s86, e53, e36, z3, z55, z86]
          clear hm he
          intro env a w he _ hm
          refine wpx_cond (b := false) hm rfl (fun h => by cases h) (fun _ => wpIn_skip ?_)
          exact .inl ⟨rfl, hh, fin he hh hm⟩
      · clear hm he
        rintro e a w (⟨rfl, hh, env, he, hm⟩ | ⟨rfl, hend⟩)
        · refine block_normal (then_normal ?_)
          have hw : IntKind.i64.wrap ((i : Int) + 1) = ((i + 1 : Nat) : Int) := by rw [IntWalk.i64_in _ (by omega)]; omega
          refine reg_cut hm he tt0_ok noCall_ok 1 [(1, iv .i64 m), (3, .ptr 0 0), (7, iv .i64 start), (8, iv .i64 ((i + 1 : Nat) : Int))] [(0, rs)] ?_ (by simp [okS, okS_iv, okS_bv]) (hok 1 (by decide)) (by simp) ?_
          · subst hres; simp [rsA, b3, aggS, aggI, SegOk, segR, dstB, guardOf, callOf, act, actCall, ev, ofVal, ofCell, actBox, SV.cells, SV.flat, tmL, lkL, iv, bv, putT_some, putT_none, upd_at, updL, actFieldAddr, addOff, actLoad, getRow, actLen, actIndexAddr, actBin, intB, actAlloc, actStore, putRow, putS, h3, h4, h36, h39, h53, h55, h86, f55_0, f55_5, f55_6, f39_1, f86_0, f86_1, f86_2, a39, a55, a86, s3, s39, s55, s86, e53, e36, z3, z55, z86, hw]
          intro env a w he _ hm
          refine then_normal ⟨n, by omega, i + 1, env, by omega, ?_, he, hm⟩
          rw [← hs, hdrop]; unfold refAt; rw [List.find?_cons, hh]
        · exact .inr ⟨rfl, hend⟩
  · clear hm he
    rintro e a w (⟨rfl, env, he, hr, hm⟩ | ⟨rfl, hend⟩)
    · refine then_normal (wpIn_seq (reg_cut hm he tt0_ok noCall_ok 1 [(6, iv .i64 (-1))] [] ?_ (by simp [okS_iv]) (by simp) (by simp) ?_))
      · simp [b3, aggS, aggI, SegOk, segR, dstB, guardOf, callOf, act, actCall, ev, ofVal, ofCell, actBox, SV.cells, SV.flat, tmL, lkL, iv, bv, putT_some, putT_none, upd_at, updL, actFieldAddr, addOff, actLoad, getRow, actLen, actIndexAddr, actBin, intB, actAlloc, actStore, putRow, putS, h3, h4, h36, h39, h53, h55, h86, f55_0, f55_5, f55_6, f39_1, f86_0, f86_1, f86_2, a39, a55, a86, s3, s39, s55, s86, e53, e36, z3, z55, z86]
      clear hm he
      intro env a w he _ hm
      exact wpIn_ret ⟨.inr rfl, env, _, _, [iv .i64 (-1)], hm, rfl, by rw [hr]; rfl⟩
    · exact hend
end
end Go.Proofs.YtmiohnbdeaendaaGreatDoor
