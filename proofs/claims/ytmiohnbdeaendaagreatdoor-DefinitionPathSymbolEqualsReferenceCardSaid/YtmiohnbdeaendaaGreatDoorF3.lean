/- The iterator of slices.Backward, its rounds given. -/
import Derived.Test.YtmiohnbdeaendaaGreatDoorA4
import Derived.Test.YtmiohnbdeaendaaGreatDoorF2
namespace Go.Proofs.YtmiohnbdeaendaaGreatDoor
open Go Go.Proofs Go.Proofs.Ae
set_option linter.unusedSectionVars false
set_option linter.unusedSimpArgs false
set_option linter.unusedVariables false
variable [Io]

def good (c : Kid) : Bool := decide (c.k = 18) && decide (0 ≤ c.ns)
def kidL (c : Kid) : List SV := [iv .i64 c.k, .d c.x1, .d c.x2, .d c.x3, .d c.x4, iv .i64 c.ns, .d c.x6]
def kidS (c : Kid) : SV := .agg (kidL c)
def slA (kids : List Kid) : Atom := .cells [.d (.lst (kids.map Kid.row))] 53
/-- The frame's memory while the loop runs. -/
def lkm (kids : List Kid) (m : Int) (rs nd : Atom) (y : Int) : List (Nat × Atom) := [(5, .mark), (4, slA kids), (3, .cells [iv .i64 y] 3), (2, nd), (1, .cells [iv .i64 m] 3), (0, rs)]
def lpm (kids : List Kid) (m : Int) (rs nd : Atom) (tm0 : T SV) (ps : Array Tmp) (asg body : Code) (st : Option Code) (y : Int) : List (Nat × Atom) := (6, .lp st tm0 48 ps asg body) :: lkm kids m rs nd y

theorem argS_ok {c : Nat} {l : List SV} (h : ∀ s ∈ l, okS c s = true) (t : Nat) : okS c (slots (argS l 0 .leaf) t) = true := by
  unfold slots
  rw [argS_get t]
  simp only [Nat.zero_le, true_and, Nat.zero_add, Nat.sub_zero, T.get_leaf]
  by_cases hlt : t < l.length
  · rw [if_pos hlt, List.getElem?_eq_getElem hlt]; exact h _ (List.getElem_mem hlt)
  · rw [if_neg hlt]; rfl

theorem lkm_ok {kids : List Kid} {m : Int} {rs nd : Atom} (y : Int) (c : Nat) (hc : 5 < c) (h1 : okA c rs) (h2 : okA c nd) : ∀ x ∈ lkm kids m rs nd y, x.1 < c ∧ okA c x.2 := by
  intro x hx
  simp only [lkm, List.mem_cons, List.not_mem_nil, or_false] at hx
  rcases hx with rfl | rfl | rfl | rfl | rfl | rfl
  · exact ⟨by simp only; omega, trivial⟩
  · exact ⟨by simp only; omega, by simp [slA, okA, okSL, okS]⟩
  · exact ⟨by simp only; omega, by simp [okA, okSL, okS_iv]⟩
  · exact ⟨by simp only; omega, h2⟩
  · exact ⟨by simp only; omega, by simp [okA, okSL, okS_iv]⟩
  · exact ⟨by simp only; omega, h1⟩

section
variable (refs : List Rf) (m : Int) (kids : List Kid) (rs nd : Atom) (tm0 : T SV) (ps : Array Tmp) (asg body : Code)

theorem lpm_ok (ht : ∀ t, okS 7 (slots tm0 t) = true) (h1 : okA 7 rs) (h2 : okA 7 nd) (st : Option Code) (y : Int) : ∀ x ∈ lpm kids m rs nd tm0 ps asg body st y, x.1 < 7 ∧ okA 7 x.2 := by
  intro x hx
  rcases List.mem_cons.1 hx with rfl | hx
  · exact ⟨show 6 < 7 by decide, ht⟩
  · exact lkm_ok y 7 (by decide) h1 h2 x hx

/-- How the loop ends. -/
def endL : List (Nat × Atom) := match kids.reverse.find? good with
  | none => lpm kids m rs nd tm0 ps asg body none 0
  | some c => lpm kids m rs nd tm0 ps asg body (some .ret) (refAt m c.ns refs)
def endX : Ex := match kids.reverse.find? good with
  | none => .normal
  | some _ => .ret

theorem lpm_cov (st : Option Code) (y : Int) (n : Nat) (hn : n < 7) : ((hpOf (lpm kids m rs nd tm0 ps asg body st y)).get n).isSome = true := by
  rw [hpOf_get]
  have : n = 0 ∨ n = 1 ∨ n = 2 ∨ n = 3 ∨ n = 4 ∨ n = 5 ∨ n = 6 := by omega
  rcases this with rfl | rfl | rfl | rfl | rfl | rfl | rfl <;> rfl

theorem c108 (hn : kids.length ≤ 9223372036854775807) (ht : ∀ t, okS 7 (slots tm0 t) = true) (h1 : okA 7 rs) (h2 : okA 7 nd)
    (hround : ∀ (j : Nat) (hj : j < kids.length), CallOk Tryz.prog (.y 6) [iv .i64 j, kidS kids[j]] (lkL (lpm kids m rs nd tm0 ps asg body none 0)) 7 9 (bv (!good kids[j]))
      (lkL (if good kids[j] = true then lpm kids m rs nd tm0 ps asg body (some .ret) (refAt m kids[j].ns refs) else lpm kids m rs nd tm0 ps asg body none 0))) :
    CallOk Tryz.prog (.f 108) [.yld 6, .ptr 4 0] (hpOf (lpm kids m rs nd tm0 ps asg body none 0)).get 7 7 (.tup []) (hpOf (endL refs m kids rs nd tm0 ps asg body)).get := by
  have hok := lpm_ok m kids rs nd tm0 ps asg body ht h1 h2
  have hend : ∀ x ∈ endL refs m kids rs nd tm0 ps asg body, x.1 < 7 ∧ okA 7 x.2 := by
    unfold endL; split
    · exact hok _ _
    · exact hok _ _
  refine (callN_body tt0_ok Tryz.func108 (by decide) (c := _) rfl (x := endX kids) (s := ⟨anyT 19, hpOf (endL refs m kids rs nd tm0 ps asg body), 7, 0, []⟩) (by unfold endX; split <;> simp) ?_ rfl).1
  refine runs_eff (c := 7) (hpOf_ranged fun x hx => (hok _ _ x hx).1) (hpOf_ranged fun x hx => (hend x hx).1) (Nat.le_refl _) (argS_ok (by simp [okS])) (fun n a e => by rw [hpOf_get] at e; exact (hok _ _ _ (lkL_mem e)).2) (lpm_cov m kids rs nd tm0 ps asg body none 0) (fun n a e => by rw [hpOf_get] at e; exact (hend _ (lkL_mem e)).2) ?_
  intro env0 M F a w he0 hm
  have hlt0 : ∀ n v, env0 n = some v → n < 7 := fun n v e => by
    rcases Nat.lt_or_ge n 7 with g | g
    · exact g
    · rw [he0 n g] at e; cases e
  have hnt : [SV.yld 6, SV.ptr 4 0].length + (Tryz.f108.ntmps - [SV.yld 6, SV.ptr 4 0].length) = 19 := rfl
  rw [hnt] at hm ⊢
  have hm := hm.weakL [(0, .yld 6), (1, .ptr 4 0)] (lpm kids m rs nd tm0 ps asg body none 0) (by simp; exact ⟨rfl, rfl⟩) (by rw [hpOf_get]; simp [lpm, lkm, lkL])
  rw [hpOf_get]
  have hw0 : IntKind.i64.wrap ((kids.length : Int) - 1) = (kids.length : Int) - 1 := IntWalk.i64_in _ (by omega)
  refine wpIn_seq (reg_cut hm he0 tt0_ok noCall_ok 7 [(0, .yld 6), (1, .ptr 4 0), (3, iv .i64 ((kids.length : Int) - 1))] (lpm kids m rs nd tm0 ps asg body none 0) ?_ (by simp [okS, okS_iv]) (hok _ _) (by simp) ?_)
  · simp [lpm, lkm, slA, hw0, b3, aggS, aggI, SegOk, segR, dstB, guardOf, callOf, act, actCall, ev, ofVal, ofCell, actBox, SV.cells, SV.flat, tmL, lkL, iv, bv, putT_some, putT_none, upd_at, updL, actFieldAddr, addOff, actLoad, getRow, actLen, actIndexAddr, actBin, intB, actAlloc, actStore, putRow, putS, h3, h4, h36, h39, h53, h55, h86, f55_0, f55_5, f55_6, f39_1, f86_0, f86_1, f86_2, a39, a55, a86, s3, s39, s55, s86, e53, e36, z3, z55, z86, actUn]
  clear hm
  intro env a w he hle hm
  replace hle : env0.le env := fun n v e => hle n v (hlt0 n v e) e
  refine wpIn_block (wpx_loop (fun n a w => ∃ (env : En), n ≤ kids.length ∧ (kids.take n).reverse.find? good = kids.reverse.find? good ∧ env0.le env ∧ EnvB env 7 ∧ Mod env M F [] 19 (tmL [(0, .yld 6), (1, .ptr 4 0), (3, iv .i64 ((n : Int) - 1))]) (lkL (lpm kids m rs nd tm0 ps asg body none 0)) a w) ?_ ⟨env, Nat.le_refl _, by rw [List.take_length], hle, he, hm⟩)
  clear hm he hle
  rintro n a w ⟨env, hnl, hs, hle, he, hm⟩
  cases n with
  | zero =>
    refine wpIn_seq (wpIn_seq (reg_cut hm he tt0_ok noCall_ok 7 [(8, bv false)] (lpm kids m rs nd tm0 ps asg body none 0) ?_ (by simp [okS_bv]) (hok _ _) (by simp) ?_))
    · simp [lpm, lkm, b3, aggS, aggI, SegOk, segR, dstB, guardOf, callOf, act, actCall, ev, ofVal, ofCell, actBox, SV.cells, SV.flat, tmL, lkL, iv, bv, putT_some, putT_none, upd_at, updL, actFieldAddr, addOff, actLoad, getRow, actLen, actIndexAddr, actBin, intB, actAlloc, actStore, putRow, putS, h3, h4, h36, h39, h53, h55, h86, f55_0, f55_5, f55_6, f39_1, f86_0, f86_1, f86_2, a39, a55, a86, s3, s39, s55, s86, e53, e36, z3, z55, z86, actUn]
    clear hm
    intro env' a w he' hle' hm
    refine wpx_cond (b := false) hm rfl (fun h => by cases h) (fun _ => wpIn_exit ?_)
    refine then_exit (then_exit (block_exit ?_))
    have hnone : kids.reverse.find? good = none := by rw [← hs]; rfl
    rw [show endL refs m kids rs nd tm0 ps asg body = lpm kids m rs nd tm0 ps asg body none 0 by unfold endL; rw [hnone]]
    exact ⟨by unfold endX; rw [hnone]; rfl, env', _, fun n v e => hle' n v (hlt0 n v e) (hle n v e), hm⟩
  | succ n =>
    have hi : n < kids.length := by omega
    have htake : (kids.take (n + 1)).reverse = kids[n] :: (kids.take n).reverse := by
      rw [List.take_succ_eq_append_getElem hi]; simp
    rw [htake, List.find?_cons] at hs
    have hc0 : ((n + 1 : Nat) : Int) - 1 = (n : Int) := by omega
    rw [hc0] at hm
    refine wpIn_seq (wpIn_seq (reg_cut hm he tt0_ok noCall_ok 7 [(0, .yld 6), (1, .ptr 4 0), (3, iv .i64 (n : Int)), (8, bv true)] (lpm kids m rs nd tm0 ps asg body none 0) ?_ (by simp [okS, okS_iv, okS_bv]) (hok _ _) (by simp) ?_))
    · simp [lpm, lkm, b3, aggS, aggI, SegOk, segR, dstB, guardOf, callOf, act, actCall, ev, ofVal, ofCell, actBox, SV.cells, SV.flat, tmL, lkL, iv, bv, putT_some, putT_none, upd_at, updL, actFieldAddr, addOff, actLoad, getRow, actLen, actIndexAddr, actBin, intB, actAlloc, actStore, putRow, putS, h3, h4, h36, h39, h53, h55, h86, f55_0, f55_5, f55_6, f39_1, f86_0, f86_1, f86_2, a39, a55, a86, s3, s39, s55, s86, e53, e36, z3, z55, z86, actUn]
    replace hle' := hle
    clear hm
    intro env1 a w he1 hle1 hm
    have hle1 : env0.le env1 := fun n v e => hle1 n v (hlt0 n v e) (hle n v e)
    refine wpx_cond (b := true) hm rfl (fun _ => wpIn_skip ?_) (fun h => by cases h)
    refine then_normal (wpIn_seq (wpIn_block ?_))
    refine wpIn_seq (wpIn_region_list ?_)
    show wpListIn (wf none) 0 Tryz.prog _ _ ([_, _, _, _, _, _] ++ [_, _]) a w
    refine lst_cut hm he1 tt0_ok noCall_ok 7 [(0, .yld 6), (1, .ptr 4 0), (3, iv .i64 (n : Int)), (11, .yld 6), (12, iv .i64 (n : Int)), (16, kidS kids[n])] (lpm kids m rs nd tm0 ps asg body none 0) ?_ (by simp [okS, okSL, okS_iv, kidS, kidL]) (hok _ _) (by simp) ?_
    · simp [lpm, lkm, slA, kidS, kidL, Kid.row, hi, b3, aggS, aggI, SegOk, segR, dstB, guardOf, callOf, act, actCall, ev, ofVal, ofCell, actBox, SV.cells, SV.flat, tmL, lkL, iv, bv, putT_some, putT_none, upd_at, updL, actFieldAddr, addOff, actLoad, getRow, actLen, actIndexAddr, actBin, intB, actAlloc, actStore, putRow, putS, h3, h4, h36, h39, h53, h55, h86, f55_0, f55_5, f55_6, f39_1, f86_0, f86_1, f86_2, a39, a55, a86, s3, s39, s55, s86, e53, e36, z3, z55, z86, actUn]
    clear hm
    intro env2 a w he2 hle2 hm
    have hle2 : env0.le env2 := fun n v e => hle2 n v (hlt0 n v e) (hle1 n v e)
    refine call_step tt0_ok hm he2 (by decide) (by simp [dstB]) (by simp [guardOf]) (by simp [callOf, ev, tmL]) (hround n hi) ?_
    clear hm
    intro env3 a w hle3 he3 hm
    have hle3 : env0.le env3 := En.le_trans hle2 hle3
    cases hg : good kids[n] with
    | true =>
      rw [hg] at hm hs
      rw [if_pos rfl] at hm
      simp only at hs
      have hsome : kids.reverse.find? good = some kids[n] := by rw [← hs]
      show wpListIn (wf none) 0 Tryz.prog _ _ ([_] ++ []) a w
      refine lst_cut hm he3 tt0_ok noCall_ok 7 [(18, bv true)] (lpm kids m rs nd tm0 ps asg body (some .ret) (refAt m kids[n].ns refs)) ?_ (by simp [okS_bv]) (hok _ _) (by simp) ?_
      · simp [lpm, lkm, b3, aggS, aggI, SegOk, segR, dstB, guardOf, callOf, act, actCall, ev, ofVal, ofCell, actBox, SV.cells, SV.flat, tmL, lkL, iv, bv, putT_some, putT_none, upd_at, updL, actFieldAddr, addOff, actLoad, getRow, actLen, actIndexAddr, actBin, intB, actAlloc, actStore, putRow, putS, h3, h4, h36, h39, h53, h55, h86, f55_0, f55_5, f55_6, f39_1, f86_0, f86_1, f86_2, a39, a55, a86, s3, s39, s55, s86, e53, e36, z3, z55, z86, actUn]
      clear hm
      intro env4 a w he4 hle4 hm
      have hle4 : env0.le env4 := fun n v e => hle4 n v (hlt0 n v e) (hle3 n v e)
      refine wpListIn_nil (then_normal (wpx_cond (b := true) hm rfl (fun _ => wpIn_ret ?_) (fun h => by cases h)))
      show Ex.ret.to = (endX kids).to ∧ ∃ env' tm', env0.le env' ∧ Mod env' M F [] 19 tm' (lkL (endL refs m kids rs nd tm0 ps asg body)) a w
      rw [show endL refs m kids rs nd tm0 ps asg body = lpm kids m rs nd tm0 ps asg body (some .ret) (refAt m kids[n].ns refs) by unfold endL; rw [hsome]]
      exact ⟨by unfold endX; rw [hsome], env4, _, hle4, hm⟩
    | false =>
      rw [hg] at hm hs
      rw [if_neg (by simp)] at hm
      simp only at hs
      show wpListIn (wf none) 0 Tryz.prog _ _ ([_] ++ []) a w
      refine lst_cut hm he3 tt0_ok noCall_ok 7 [(0, .yld 6), (1, .ptr 4 0), (3, iv .i64 (n : Int)), (18, bv false)] (lpm kids m rs nd tm0 ps asg body none 0) ?_ (by simp [okS, okS_iv, okS_bv]) (hok _ _) (by simp) ?_
      · simp [lpm, lkm, b3, aggS, aggI, SegOk, segR, dstB, guardOf, callOf, act, actCall, ev, ofVal, ofCell, actBox, SV.cells, SV.flat, tmL, lkL, iv, bv, putT_some, putT_none, upd_at, updL, actFieldAddr, addOff, actLoad, getRow, actLen, actIndexAddr, actBin, intB, actAlloc, actStore, putRow, putS, h3, h4, h36, h39, h53, h55, h86, f55_0, f55_5, f55_6, f39_1, f86_0, f86_1, f86_2, a39, a55, a86, s3, s39, s55, s86, e53, e36, z3, z55, z86, actUn]
      clear hm
      intro env4 a w he4 hle4 hm
      have hle4 : env0.le env4 := fun n v e => hle4 n v (hlt0 n v e) (hle3 n v e)
      refine wpListIn_nil (then_normal (wpx_cond (b := false) hm rfl (fun h => by cases h) (fun _ => wpIn_skip ?_)))
      refine block_normal (then_normal ?_)
      have hw1 : IntKind.i64.wrap ((n : Int) - 1) = (n : Int) - 1 := IntWalk.i64_in _ (by omega)
      refine reg_cut hm he4 tt0_ok noCall_ok 7 [(0, .yld 6), (1, .ptr 4 0), (3, iv .i64 ((n : Int) - 1))] (lpm kids m rs nd tm0 ps asg body none 0) ?_ (by simp [okS, okS_iv, okS_bv]) (hok _ _) (by simp) ?_
      · simp [lpm, lkm, hw1, b3, aggS, aggI, SegOk, segR, dstB, guardOf, callOf, act, actCall, ev, ofVal, ofCell, actBox, SV.cells, SV.flat, tmL, lkL, iv, bv, putT_some, putT_none, upd_at, updL, actFieldAddr, addOff, actLoad, getRow, actLen, actIndexAddr, actBin, intB, actAlloc, actStore, putRow, putS, h3, h4, h36, h39, h53, h55, h86, f55_0, f55_5, f55_6, f39_1, f86_0, f86_1, f86_2, a39, a55, a86, s3, s39, s55, s86, e53, e36, z3, z55, z86, actUn]
      clear hm
      intro env5 a w he5 hle5 hm
      have hle5 : env0.le env5 := fun n v e => hle5 n v (hlt0 n v e) (hle4 n v e)
      exact then_normal ⟨n, by omega, env5, by omega, hs, hle5, he5, hm⟩
end
end Go.Proofs.YtmiohnbdeaendaaGreatDoor
