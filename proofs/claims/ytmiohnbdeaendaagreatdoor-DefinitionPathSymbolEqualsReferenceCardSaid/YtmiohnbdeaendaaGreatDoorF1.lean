/- LastSegmentStart, on any data. -/
import Derived.Test.YtmiohnbdeaendaaGreatDoorA4
import Derived.Test.YtmiohnbdeaendaaGreatDoorB1
namespace Go.Proofs.YtmiohnbdeaendaaGreatDoor
open Go Go.Proofs Go.Proofs.Ae
set_option linter.unusedSectionVars false
set_option linter.unusedSimpArgs false
set_option linter.unusedVariables false
variable [Io]

structure Kid where
  k : Int
  ns : Int
  x1 : D
  x2 : D
  x3 : D
  x4 : D
  x6 : D
def Kid.row (c : Kid) : List D := [.v (.int .i64 c.k), c.x1, c.x2, c.x3, c.x4, .v (.int .i64 c.ns), c.x6]
structure Rf where
  m : Int
  s : Int
  y : Int
def Rf.row (r : Rf) : List D := [.v (.int .i64 r.m), .v (.int .i64 r.s), .v (.int .i64 r.y)]
/-- A node. -/
def ndS (k : Int) (x1 x2 x3 x4 : D) (ns : Int) (kids : List Kid) : SV := .agg [iv .i64 k, .d x1, .d x2, .d x3, .d x4, iv .i64 ns, .d (.lst (kids.map Kid.row))]

def pick1 (s : Int) (c : Kid) : Int := if c.k = 18 ∧ 0 ≤ c.ns then c.ns else s
def lastStart (k : Int) (kids : List Kid) : Int := if k = 17 then kids.foldl pick1 (-1) else -1

def noCall : Tgt → List SV → Option SV := fun _ _ => none
theorem noCall_ok : ∀ t l v, noCall t l = some v → CleanOk Tryz.prog t l v := fun _ _ _ h => by cases h

section
variable (k : Int) (x1 x2 x3 x4 : D) (ns : Int) (kids : List Kid)
def nd61 : Atom := .cells [iv .i64 k, .d x1, .d x2, .d x3, .d x4, iv .i64 ns, .d (.lst (kids.map Kid.row))] 55
theorem ok61 : ∀ x ∈ [(0, nd61 k x1 x2 x3 x4 ns kids)], x.1 < 1 ∧ okA 1 x.2 := by
  simp [nd61, okA, okSL, okS, okS_iv]

/-- LastSegmentStart's own loop. -/
theorem c61 (hn : kids.length ≤ 9223372036854775807) : CleanOk Tryz.prog (.f 61) [ndS k x1 x2 x3 x4 ns kids] (iv .i64 (lastStart k kids)) := by
  refine clean_of tt0_ok Tryz.func61 (by decide) (c := _) rfl rfl [(0, ndS k x1 x2 x3 x4 ns kids)] (by simp) ?_
  intro env M F a w he hm
  have hnt : [ndS k x1 x2 x3 x4 ns kids].length + (Tryz.f61.ntmps - [ndS k x1 x2 x3 x4 ns kids].length) = 38 := rfl
  rw [hnt] at hm ⊢
  have hok := ok61 k x1 x2 x3 x4 ns kids
  generalize hnd : nd61 k x1 x2 x3 x4 ns kids = nd at hok
  -- the node, boxed
  refine wpIn_seq (reg_cut hm he tt0_ok noCall_ok 1 [(1, .ptr 0 0)] [(0, nd)] ?_ (by simp [okS]) hok (by simp) ?_)
  · subst hnd; simp [nd61, ndS, b3, aggS, aggI, SegOk, segR, dstB, guardOf, callOf, act, actCall, ev, ofVal, ofCell, actBox, SV.cells, SV.flat, tmL, lkL, iv, bv, putT_some, putT_none, upd_at, updL, actFieldAddr, addOff, actLoad, getRow, actLen, actIndexAddr, actBin, intB, actAlloc, actStore, putRow, putS, h3, h4, h36, h39, h53, h55, h86, f55_0, f55_5, f55_6, f39_1, f86_0, f86_1, f86_2, a39, a55, a86, s3, s39, s55, s86, e53, e36, z3, z55, z86]
  clear hm he
  intro env a w he _ hm
  -- start = -1
  refine wpIn_seq (reg_cut hm he tt0_ok noCall_ok 1 [(1, .ptr 0 0), (3, iv .i64 (-1))] [(0, nd)] ?_ (by simp [okS, okS_iv]) hok (by simp) ?_)
  · simp [b3, aggS, aggI, SegOk, segR, dstB, guardOf, callOf, act, actCall, ev, ofVal, ofCell, actBox, SV.cells, SV.flat, tmL, lkL, iv, bv, putT_some, putT_none, upd_at, updL, actFieldAddr, addOff, actLoad, getRow, actLen, actIndexAddr, actBin, intB, actAlloc, actStore, putRow, putS, h3, h4, h36, h39, h53, h55, h86, f55_0, f55_5, f55_6, f39_1, f86_0, f86_1, f86_2, a39, a55, a86, s3, s39, s55, s86, e53, e36, z3, z55, z86]
  clear hm he
  intro env a w he _ hm
  -- the kind, the loop
  refine wpIn_seq (wpIn_mono (Q := fun e a w => e = .normal ∧ ∃ env, EnvB env 1 ∧ Mod env M F [] 38 (tmL [(3, iv .i64 (lastStart k kids))]) (lkL []) a w) ?_ ?_)
  · refine wpIn_seq (reg_cut hm he tt0_ok noCall_ok 1 [(1, .ptr 0 0), (3, iv .i64 (-1)), (7, bv (k == 17))] [(0, nd)] ?_ (by simp [okS, okS_iv, okS_bv]) hok (by simp) ?_)
    · subst hnd; simp [nd61, b3, aggS, aggI, SegOk, segR, dstB, guardOf, callOf, act, actCall, ev, ofVal, ofCell, actBox, SV.cells, SV.flat, tmL, lkL, iv, bv, putT_some, putT_none, upd_at, updL, actFieldAddr, addOff, actLoad, getRow, actLen, actIndexAddr, actBin, intB, actAlloc, actStore, putRow, putS, h3, h4, h36, h39, h53, h55, h86, f55_0, f55_5, f55_6, f39_1, f86_0, f86_1, f86_2, a39, a55, a86, s3, s39, s55, s86, e53, e36, z3, z55, z86]
    clear hm he
    intro env a w he _ hm
    refine wpx_cond (b := k == 17) hm rfl (fun hk => ?_) (fun hk => ?_)
    · have hk : k = 17 := by simpa using hk
      refine wpIn_seq (reg_cut hm he tt0_ok noCall_ok 1 [(1, .ptr 0 0), (3, iv .i64 (-1)), (4, iv .i64 0)] [(0, nd)] ?_ (by simp [okS, okS_iv]) hok (by simp) ?_)
      · simp [b3, aggS, aggI, SegOk, segR, dstB, guardOf, callOf, act, actCall, ev, ofVal, ofCell, actBox, SV.cells, SV.flat, tmL, lkL, iv, bv, putT_some, putT_none, upd_at, updL, actFieldAddr, addOff, actLoad, getRow, actLen, actIndexAddr, actBin, intB, actAlloc, actStore, putRow, putS, h3, h4, h36, h39, h53, h55, h86, f55_0, f55_5, f55_6, f39_1, f86_0, f86_1, f86_2, a39, a55, a86, s3, s39, s55, s86, e53, e36, z3, z55, z86]
      clear hm he
      intro env a w he _ hm
      refine wpIn_block (wpx_loop (fun n a w => ∃ (i : Nat) (s : Int) (env : En), i + n = kids.length ∧ (kids.drop i).foldl pick1 s = kids.foldl pick1 (-1) ∧ EnvB env 1 ∧ Mod env M F [] 38 (tmL [(1, .ptr 0 0), (3, iv .i64 s), (4, iv .i64 i)]) (lkL [(0, nd)]) a w) ?_ ⟨0, -1, env, Nat.zero_add _, rfl, he, hm⟩)
      clear hm he
      rintro n a w ⟨i, s, env, hin, hs, he, hm⟩
      cases n with
      | zero =>
        have hi : i = kids.length := by omega
        refine wpIn_seq (wpIn_seq (reg_cut hm he tt0_ok noCall_ok 1 [(3, iv .i64 s), (12, bv false)] [] ?_ (by simp [okS, okS_iv, okS_bv]) (by simp) (by simp) ?_))
        · subst hnd; simp [nd61, b3, aggS, aggI, SegOk, segR, dstB, guardOf, callOf, act, actCall, ev, ofVal, ofCell, actBox, SV.cells, SV.flat, tmL, lkL, iv, bv, putT_some, putT_none, upd_at, updL, actFieldAddr, addOff, actLoad, getRow, actLen, actIndexAddr, actBin, intB, actAlloc, actStore, putRow, putS, h3, h4, h36, h39, h53, h55, h86, f55_0, f55_5, f55_6, f39_1, f86_0, f86_1, f86_2, a39, a55, a86, s3, s39, s55, s86, e53, e36, z3, z55, z86, hi]
        clear hm he
        intro env a w he _ hm
        refine wpx_cond (b := false) hm rfl (fun h => by cases h) (fun _ => wpIn_exit ?_)
        refine then_exit (then_exit (block_exit ⟨rfl, env, he, ?_⟩))
        have hd : kids.drop i = [] := by rw [List.drop_eq_nil_iff]; omega
        have hs' : s = lastStart k kids := by rw [hd] at hs; unfold lastStart; rw [if_pos hk, ← hs]; rfl
        rw [← hs']
        exact hm.weakL _ _ (by simp [tmL]) (by simp)
      | succ n =>
        have hi : i < kids.length := by omega
        have hdrop : kids.drop i = kids[i] :: kids.drop (i + 1) := List.drop_eq_getElem_cons hi
        rw [hdrop, List.foldl_cons] at hs
        refine wpIn_seq (wpIn_seq (reg_cut hm he tt0_ok noCall_ok 1 [(1, .ptr 0 0), (3, iv .i64 s), (4, iv .i64 i), (12, bv true)] [(0, nd)] ?_ (by simp [okS, okS_iv, okS_bv]) hok (by simp) ?_))
        · subst hnd; simp [nd61, b3, aggS, aggI, SegOk, segR, dstB, guardOf, callOf, act, actCall, ev, ofVal, ofCell, actBox, SV.cells, SV.flat, tmL, lkL, iv, bv, putT_some, putT_none, upd_at, updL, actFieldAddr, addOff, actLoad, getRow, actLen, actIndexAddr, actBin, intB, actAlloc, actStore, putRow, putS, h3, h4, h36, h39, h53, h55, h86, f55_0, f55_5, f55_6, f39_1, f86_0, f86_1, f86_2, a39, a55, a86, s3, s39, s55, s86, e53, e36, z3, z55, z86, hi]
        clear hm he
        intro env a w he _ hm
        refine wpx_cond (b := true) hm rfl (fun _ => wpIn_skip ?_) (fun h => by cases h)
        refine then_normal (wpIn_seq (wpIn_block ?_))
        refine wpIn_mono (Q := fun e a w => e = .normal ∧ ∃ env, EnvB env 1 ∧ Mod env M F [] 38 (tmL [(1, .ptr 0 0), (3, iv .i64 (pick1 s kids[i])), (4, iv .i64 i)]) (lkL [(0, nd)]) a w) ?_ ?_
        · by_cases h18 : kids[i].k = 18
          · by_cases hns : 0 ≤ kids[i].ns
            · refine wpIn_seq (reg_cut hm he tt0_ok noCall_ok 1 [(1, .ptr 0 0), (3, iv .i64 s), (4, iv .i64 i), (30, bv true)] [(0, nd)] ?_ (by simp [okS, okS_iv, okS_bv]) hok (by simp) ?_)
              · subst hnd; simp [nd61, Kid.row, b3, aggS, aggI, SegOk, segR, dstB, guardOf, callOf, act, actCall, ev, ofVal, ofCell, actBox, SV.cells, SV.flat, tmL, lkL, iv, bv, putT_some, putT_none, upd_at, updL, actFieldAddr, addOff, actLoad, getRow, actLen, actIndexAddr, actBin, intB, actAlloc, actStore, putRow, putS, h3, h4, h36, h39, h53, h55, h86, f55_0, f55_5, f55_6, f39_1, f86_0, f86_1, f86_2, a39, a55, a86, s3, s39, s55, s86, e53, e36, z3, z55, z86, hi, h18, hns]
              clear hm he
              intro env a w he _ hm
              refine wpx_cond (b := true) hm rfl (fun _ => ?_) (fun h => by cases h)
              refine reg_cut hm he tt0_ok noCall_ok 1 [(1, .ptr 0 0), (3, iv .i64 (pick1 s kids[i])), (4, iv .i64 i)] [(0, nd)] ?_ (by simp [okS, okS_iv, okS_bv]) hok (by simp) ?_
              · subst hnd; simp [nd61, Kid.row, b3, aggS, aggI, SegOk, segR, dstB, guardOf, callOf, act, actCall, ev, ofVal, ofCell, actBox, SV.cells, SV.flat, tmL, lkL, iv, bv, putT_some, putT_none, upd_at, updL, actFieldAddr, addOff, actLoad, getRow, actLen, actIndexAddr, actBin, intB, actAlloc, actStore, putRow, putS, h3, h4, h36, h39, h53, h55, h86, f55_0, f55_5, f55_6, f39_1, f86_0, f86_1, f86_2, a39, a55, a86, s3, s39, s55, s86, e53, e36, z3, z55, z86, hi, h18, hns, pick1]
              intro env a w he _ hm
              exact ⟨rfl, env, he, hm⟩
            · refine wpIn_seq (reg_cut hm he tt0_ok noCall_ok 1 [(1, .ptr 0 0), (3, iv .i64 s), (4, iv .i64 i), (30, bv false)] [(0, nd)] ?_ (by simp [okS, okS_iv, okS_bv]) hok (by simp) ?_)
              · subst hnd; simp [nd61, Kid.row, b3, aggS, aggI, SegOk, segR, dstB, guardOf, callOf, act, actCall, ev, ofVal, ofCell, actBox, SV.cells, SV.flat, tmL, lkL, iv, bv, putT_some, putT_none, upd_at, updL, actFieldAddr, addOff, actLoad, getRow, actLen, actIndexAddr, actBin, intB, actAlloc, actStore, putRow, putS, h3, h4, h36, h39, h53, h55, h86, f55_0, f55_5, f55_6, f39_1, f86_0, f86_1, f86_2, a39, a55, a86, s3, s39, s55, s86, e53, e36, z3, z55, z86, hi, h18, hns]
              clear hm he
              intro env a w he _ hm
              refine wpx_cond (b := false) hm rfl (fun h => by cases h) (fun _ => wpIn_skip ?_)
              exact ⟨rfl, env, he, hm.weakL _ _ (by simp [tmL, pick1, hns]) (by simp [lkL])⟩
          · have e18 : (kids[i].k == 18) = false := by simpa using h18
            refine wpIn_seq (reg_cut hm he tt0_ok noCall_ok 1 [(1, .ptr 0 0), (3, iv .i64 s), (4, iv .i64 i), (30, bv false)] [(0, nd)] ?_ (by simp [okS, okS_iv, okS_bv]) hok (by simp) ?_)
            · subst hnd; simp [nd61, Kid.row, b3, aggS, aggI, SegOk, segR, dstB, guardOf, callOf, act, actCall, ev, ofVal, ofCell, actBox, SV.cells, SV.flat, tmL, lkL, iv, bv, putT_some, putT_none, upd_at, updL, actFieldAddr, addOff, actLoad, getRow, actLen, actIndexAddr, actBin, intB, actAlloc, actStore, putRow, putS, h3, h4, h36, h39, h53, h55, h86, f55_0, f55_5, f55_6, f39_1, f86_0, f86_1, f86_2, a39, a55, a86, s3, s39, s55, s86, e53, e36, z3, z55, z86, hi, e18]
            clear hm he
            intro env a w he _ hm
            refine wpx_cond (b := false) hm rfl (fun h => by cases h) (fun _ => wpIn_skip ?_)
            exact ⟨rfl, env, he, hm.weakL _ _ (by simp [tmL, pick1, h18]) (by simp [lkL])⟩
        · clear hm he
          rintro e a w ⟨rfl, env, he, hm⟩
          refine block_normal (then_normal ?_)
          have hw : IntKind.i64.wrap ((i : Int) + 1) = ((i + 1 : Nat) : Int) := by rw [IntWalk.i64_in _ (by omega)]; omega
          refine reg_cut hm he tt0_ok noCall_ok 1 [(1, .ptr 0 0), (3, iv .i64 (pick1 s kids[i])), (4, iv .i64 ((i + 1 : Nat) : Int))] [(0, nd)] ?_ (by simp [okS, okS_iv, okS_bv]) hok (by simp) ?_
          · subst hnd; simp [nd61, b3, aggS, aggI, SegOk, segR, dstB, guardOf, callOf, act, actCall, ev, ofVal, ofCell, actBox, SV.cells, SV.flat, tmL, lkL, iv, bv, putT_some, putT_none, upd_at, updL, actFieldAddr, addOff, actLoad, getRow, actLen, actIndexAddr, actBin, intB, actAlloc, actStore, putRow, putS, h3, h4, h36, h39, h53, h55, h86, f55_0, f55_5, f55_6, f39_1, f86_0, f86_1, f86_2, a39, a55, a86, s3, s39, s55, s86, e53, e36, z3, z55, z86, hw]
          intro env a w he _ hm
          exact then_normal ⟨n, by omega, i + 1, _, env, by omega, hs, he, hm⟩
    · have hk : k ≠ 17 := by simpa using hk
      refine wpIn_skip ⟨rfl, env, he, hm.weakL _ _ ?_ (by simp)⟩
      simp [tmL, lastStart, hk]
  · clear hm he
    rintro e a w ⟨rfl, env, he, hm⟩
    refine then_normal (wpIn_seq (reg_cut hm he tt0_ok noCall_ok 1 [(2, iv .i64 (lastStart k kids))] [] ?_ (by simp [okS_iv]) (by simp) (by simp) ?_))
    · simp [b3, aggS, aggI, SegOk, segR, dstB, guardOf, callOf, act, actCall, ev, ofVal, ofCell, actBox, SV.cells, SV.flat, tmL, lkL, iv, bv, putT_some, putT_none, upd_at, updL, actFieldAddr, addOff, actLoad, getRow, actLen, actIndexAddr, actBin, intB, actAlloc, actStore, putRow, putS, h3, h4, h36, h39, h53, h55, h86, f55_0, f55_5, f55_6, f39_1, f86_0, f86_1, f86_2, a39, a55, a86, s3, s39, s55, s86, e53, e36, z3, z55, z86]
    clear hm he
    intro env a w he _ hm
    exact wpIn_ret ⟨.inr rfl, env, _, _, [iv .i64 (lastStart k kids)], hm, rfl, rfl⟩
end
end Go.Proofs.YtmiohnbdeaendaaGreatDoor
