/- The program's PathSymbol, on any data. -/
import Derived.Test.YtmiohnbdeaendaaGreatDoorF3
set_option maxRecDepth 100000
namespace Go.Proofs.YtmiohnbdeaendaaGreatDoor
open Go Go.Proofs Go.Proofs.Ae
set_option linter.unusedSectionVars false
set_option linter.unusedSimpArgs false
set_option linter.unusedVariables false
variable [Io]

def pathAt (m k : Int) (kids : List Kid) (refs : List Rf) : Int := if k = 17 then (match kids.reverse.find? good with | some c => refAt m c.ns refs | none => -1) else -1

/-- slices.Backward itself. -/
theorem k60 (rows : List (List D)) : ∃ hi, Known Tryz.prog 60 [.d (.lst rows)] (.fn 108 [] [.ptr 0 0]) [(0, .cells [.d (.lst rows)] 53)] hi := by
  refine ⟨4, known_of (run0_ok idx0_ok) ?_⟩
  kernel_rfl
theorem c60 (rows : List (List D)) : ∃ hi, ∀ (lk : Look) (cur : Nat), (∀ n, cur ≤ n → lk n = none) → CallOk Tryz.prog (.f 60) [.d (.lst rows)] lk cur (cur + hi) (.fn 108 [] [.ptr (cur + 0) 0]) (upd lk (cur + 0) (some (.cells [.d (.lst rows)] 53))) := by
  obtain ⟨hi, hk⟩ := k60 rows
  obtain ⟨h', h1, h2⟩ := hk.ex
  exact ⟨hi, fun lk cur hr => callOk_move h1 rfl hr (atoms := [(0, .cells [.d (.lst rows)] 53)]) (fun x hx => by
    simp only [List.mem_singleton] at hx; subst hx
    exact ⟨(h2 _ (List.mem_singleton.2 rfl)).1, _, (h2 _ (List.mem_singleton.2 rfl)).2, rfl⟩)⟩

/-- What the loop's body keeps in its slots. -/
def tm22 : List (Nat × SV) := [(3, .ptr 0 0), (4, .ptr 1 0), (5, .ptr 2 0), (6, .ptr 3 0), (16, .fn 108 [] [.ptr 4 0])]
theorem tm22_ok (c : Nat) (hc : 4 < c) : ∀ t, okS c (slots (tmOf 48 tm22) t) = true := tmOf_ok (by
  intro x hx
  simp only [tm22, List.mem_cons, List.not_mem_nil, or_false] at hx
  rcases hx with rfl | rfl | rfl | rfl | rfl <;> simp [okS, okSL] <;> omega)

/-- The frame's slots and memory as the body of a round begins. -/
noncomputable def tmB (j : Int) (c : Kid) : T SV := (setPs (tmOf 48 tm22) ([17, 18].zip [iv .i64 j, kidS c])).set 8 (some (.ptr 7 0))
noncomputable def hpB (kids : List Kid) (m : Int) (rs nd : Atom) (asg body : Code) (c : Kid) : T Atom := ((hpOf (lpm kids m rs nd (tmOf 48 tm22) #[17, 18] asg body none 0)).set 6 none).set 7 (some (.cells (kidL c) 55))

theorem round22 {kids : List Kid} {m : Int} {rs nd : Atom} {asg body : Code} {c : Kid} {j y : Int} {st : Option Code} {x : Ex} (h1 : okA 7 rs) (h2 : okA 7 nd)
    (hA : ∀ b, Runs Tryz.prog (some b) 48 asg ⟨setPs (tmOf 48 tm22) ([17, 18].zip [iv .i64 j, kidS c]), (hpOf (lpm kids m rs nd (tmOf 48 tm22) #[17, 18] asg body none 0)).set 6 none, 7, 7, []⟩ .normal ⟨tmB j c, hpB kids m rs nd asg body c, 9, 7, []⟩)
    (hB : ∀ b, Runs Tryz.prog (some b) 48 body ⟨tmB j c, hpB kids m rs nd asg body c, 9, 7, []⟩ x ⟨anyT 48, hpOf (lkm kids m rs nd y), 9, 0, []⟩)
    (hst : x = .normal ∧ st = none ∨ x = .ret ∧ st = some .ret) :
    CallOk Tryz.prog (.y 6) [iv .i64 j, kidS c] (lkL (lpm kids m rs nd (tmOf 48 tm22) #[17, 18] asg body none 0)) 7 9 (bv st.isNone) (lkL (lpm kids m rs nd (tmOf 48 tm22) #[17, 18] asg body st y)) := by
  have hr : Ranged (hpOf (lpm kids m rs nd (tmOf 48 tm22) #[17, 18] asg body none 0)) 7 := hpOf_ranged fun x hx => (lpm_ok m kids rs nd (tmOf 48 tm22) _ asg body (tm22_ok 7 (by decide)) h1 h2 _ _ x hx).1
  have hk : (hpOf (lpm kids m rs nd (tmOf 48 tm22) #[17, 18] asg body none 0)).get 6 = some (.lp none (tmOf 48 tm22) 48 #[17, 18] asg body) := by rw [hpOf_get]; rfl
  have hst2 : x = .normal ∧ st = none ∨ x = .ret ∧ st = some .ret ∨ ∃ id, x = .exit id ∧ st = some (.exit id) := by
    rcases hst with h | h
    · exact .inl h
    · exact .inr (.inl h)
  have := (round_ok hk hr (show [iv .i64 j, kidS c].length = (#[17, 18] : Array Tmp).size from rfl) (by simp) hA hB hst2).1
  rw [hpOf_get] at this
  have e : ((hpOf (lkm kids m rs nd y)).set 6 (some (.lp st (tmOf 48 tm22) 48 #[17, 18] asg body))).get = lkL (lpm kids m rs nd (tmOf 48 tm22) #[17, 18] asg body st y) := hpOf_get (lpm kids m rs nd (tmOf 48 tm22) #[17, 18] asg body st y)
  simp only at this
  rw [e] at this
  exact this

theorem asg_runs {kids : List Kid} {m : Int} {rs nd : Atom} {asg body : Code} {c : Kid} {j : Int} (h1 : okA 7 rs) (h2 : okA 7 nd)
    (he : exec noLib ft0 tt0 48 1 true asg ⟨setPs (tmOf 48 tm22) ([17, 18].zip [iv .i64 j, kidS c]), (hpOf (lpm kids m rs nd (tmOf 48 tm22) #[17, 18] asg body none 0)).set 6 none, 7, 7, []⟩ = some (.normal, ⟨tmB j c, hpB kids m rs nd asg body c, 9, 7, []⟩)) (b : Nat) :
    Runs Tryz.prog (some b) 48 asg ⟨setPs (tmOf 48 tm22) ([17, 18].zip [iv .i64 j, kidS c]), (hpOf (lpm kids m rs nd (tmOf 48 tm22) #[17, 18] asg body none 0)).set 6 none, 7, 7, []⟩ .normal ⟨tmB j c, hpB kids m rs nd asg body c, 9, 7, []⟩ := by
  refine exec_sound follows0 tt0_ok ft0_ok (noLib_ok _) (fun h => by cases h) _ _ _ _ he ?_
  intro n hn
  simp only
  rw [T.get_set]
  split
  · rfl
  · exact hpOf_ranged (fun x hx => (lpm_ok m kids rs nd (tmOf 48 tm22) _ asg body (tm22_ok 7 (by decide)) h1 h2 _ _ x hx).1) n hn

theorem hpB_get (kids : List Kid) (m : Int) (rs nd : Atom) (asg body : Code) (c : Kid) (n : Nat) : (hpB kids m rs nd asg body c).get n = lkL ((7, .cells (kidL c) 55) :: lkm kids m rs nd 0) n := by
  unfold hpB
  rw [T.get_set, T.get_set, hpOf_get]
  show _ = if n = 7 then _ else lkL (lkm kids m rs nd 0) n
  by_cases h7 : n = 7
  · rw [if_pos h7, if_pos h7]
  · rw [if_neg h7, if_neg h7]
    by_cases h6 : n = 6
    · subst h6; rw [if_pos rfl]; rfl
    · rw [if_neg h6]
      show (if n = 6 then _ else lkL (lkm kids m rs nd 0) n) = _
      rw [if_neg h6]

theorem kid_ok (c : Kid) (n : Nat) : okSL n (kidL c) = true := by simp [kidL, okSL, okS, okS_iv]

/-- The body of a round, walked. -/
theorem body_runs {ro : Option Nat} {kids : List Kid} {m : Int} {rs nd : Atom} {asg body code : Code} {c : Kid} {j y : Int} {x : Ex} (h1 : ∀ n, okA n rs) (h2 : ∀ n, okA n nd)
    (h : ∀ (env : En) (M F : PH) (a : Act) (w : World), EnvB env 9 → (∀ n v, env n = some v → n < 9) → Mod env M F [] 48 (tmL [(3, .ptr 0 0), (4, .ptr 1 0), (6, .ptr 3 0), (8, .ptr 7 0)]) (lkL ((7, .cells (kidL c) 55) :: lkm kids m rs nd 0)) a w →
      code.wpIn (wf ro) 0 Tryz.prog (fun e a' w' => e = x.to ∧ ∃ env' tm', env.le env' ∧ Mod env' M F [] 48 tm' (lkL (lkm kids m rs nd y)) a' w') a w) :
    Runs Tryz.prog ro 48 code ⟨tmB j c, hpB kids m rs nd asg body c, 9, 7, []⟩ x ⟨anyT 48, hpOf (lkm kids m rs nd y), 9, 0, []⟩ := by
  have hk : ∀ x ∈ ((7, .cells (kidL c) 55) :: lkm kids m rs nd 0), x.1 < 9 ∧ okA 9 x.2 := by
    intro x hx
    rcases List.mem_cons.1 hx with rfl | hx
    · exact ⟨show 7 < 9 by decide, kid_ok c 9⟩
    · have := lkm_ok (kids := kids) (m := m) 0 9 (by decide) (h1 9) (h2 9) x hx
      exact this
  refine runs_eff (c := 6) ?_ (hpOf_ranged fun x hx => (lkm_ok y 6 (by decide) (h1 6) (h2 6) x hx).1) (by decide) (fun t => ?_) (fun n a e => ?_) (fun n hn => ?_) (fun n a e => by rw [hpOf_get] at e; exact (lkm_ok y 6 (by decide) (h1 6) (h2 6) _ (lkL_mem e)).2) ?_
  · intro n hn
    rw [hpB_get]
    cases hx : lkL ((7, .cells (kidL c) 55) :: lkm kids m rs nd 0) n with
    | none => rfl
    | some a => have := (hk _ (lkL_mem hx)).1; simp only at this; omega
  · unfold tmB
    rw [slots_set]
    split
    · rfl
    · show okS 9 (slots (((tmOf 48 tm22).set 17 (some (iv .i64 j))).set 18 (some (kidS c))) t) = true
      rw [slots_set]
      split
      · show okSL 9 (kidL c) = true; exact kid_ok c 9
      · rw [slots_set]
        split
        · rfl
        · exact tm22_ok 9 (by decide) t
  · rw [hpB_get] at e; exact (hk _ (lkL_mem e)).2
  · rw [hpB_get]
    have : n = 0 ∨ n = 1 ∨ n = 2 ∨ n = 3 ∨ n = 4 ∨ n = 5 := by omega
    rcases this with rfl | rfl | rfl | rfl | rfl | rfl <;> rfl
  · intro env M F a w he hm
    rw [hpOf_get]
    refine h env M F a w he (fun n v e => ?_) (hm.weakL _ _ ?_ ?_)
    · rcases Nat.lt_or_ge n 9 with g | g
      · exact g
      · rw [he n g] at e; cases e
    · intro x hx
      simp only [List.mem_cons, List.not_mem_nil, or_false] at hx
      rcases hx with rfl | rfl | rfl | rfl <;> rfl
    · intro x hx
      rw [hpB_get]
      simp only [lkm, List.mem_cons, List.not_mem_nil, or_false] at hx
      rcases hx with rfl | rfl | rfl | rfl | rfl | rfl | rfl <;> rfl

section
variable (s0 : D) (refs : List Rf) (s2 : D) (m : Int) (k : Int) (x1 x2 x3 x4 : D) (ns : Int) (kids : List Kid)

theorem c22 (hn : kids.length ≤ 9223372036854775807) (hr : refs.length ≤ 9223372036854775807) : CleanOk Tryz.prog (.f 22) [rsS s0 refs s2, iv .i64 m, ndS k x1 x2 x3 x4 ns kids] (iv .i64 (pathAt m k kids refs)) := by
  refine clean_ofM tt0_ok Tryz.func22 (by decide) (c := _) rfl rfl [(0, rsS s0 refs s2), (1, iv .i64 m), (2, ndS k x1 x2 x3 x4 ns kids)] (by simp) ?_
  intro env M F a w he hm
  have hnt : [rsS s0 refs s2, iv .i64 m, ndS k x1 x2 x3 x4 ns kids].length + (Tryz.f22.ntmps - [rsS s0 refs s2, iv .i64 m, ndS k x1 x2 x3 x4 ns kids].length) = 48 := rfl
  rw [hnt] at hm ⊢
  have hokr : ∀ c, okA c (rsA s0 refs s2) := fun c => by simp [rsA, okA, okSL, okS]
  have hokn : ∀ c, okA c (nd61 k x1 x2 x3 x4 ns kids) := fun c => by simp [nd61, okA, okSL, okS, okS_iv]
  generalize hres : rsA s0 refs s2 = rs at hokr
  generalize hnd : nd61 k x1 x2 x3 x4 ns kids = nd at hokn
  have hL4 : ∀ c, 3 < c → ∀ x ∈ [((3 : Nat), Atom.cells [iv .i64 0] 3), (2, nd), (1, .cells [iv .i64 m] 3), (0, rs)], x.1 < c ∧ okA c x.2 := by
    intro c hc x hx
    simp only [List.mem_cons, List.not_mem_nil, or_false] at hx
    rcases hx with rfl | rfl | rfl | rfl
    · exact ⟨by simp only; omega, by simp [okA, okSL, okS_iv]⟩
    · exact ⟨by simp only; omega, hokn c⟩
    · exact ⟨by simp only; omega, by simp [okA, okSL, okS_iv]⟩
    · exact ⟨by simp only; omega, hokr c⟩
  -- the arguments, boxed
  refine wpIn_seq (reg_cut hm he tt0_ok noCall_ok 4 [(3, .ptr 0 0), (4, .ptr 1 0), (5, .ptr 2 0), (6, .ptr 3 0)] [(3, .cells [iv .i64 0] 3), (2, nd), (1, .cells [iv .i64 m] 3), (0, rs)] ?_ (by simp [okS]) (hL4 4 (by decide)) (by simp) ?_)
  · subst hres; subst hnd; simp [rsA, rsS, nd61, ndS, b3, aggS, aggI, SegOk, segR, dstB, guardOf, callOf, act, actCall, ev, ofVal, ofCell, actBox, SV.cells, SV.flat, tmL, lkL, iv, bv, putT_some, putT_none, upd_at, updL, actFieldAddr, addOff, actLoad, getRow, actLen, actIndexAddr, actBin, intB, actAlloc, actStore, putRow, putS, h3, h4, h36, h39, h53, h55, h86, f55_0, f55_5, f55_6, f39_1, f86_0, f86_1, f86_2, a39, a55, a86, s3, s39, s55, s86, e53, e36, z3, z55, z86, actUn, nn, st]
  clear hm he
  intro env a w he _ hm
  -- the kind
  refine wpIn_seq (wpIn_seq (reg_cut hm he tt0_ok noCall_ok 4 [(3, .ptr 0 0), (4, .ptr 1 0), (5, .ptr 2 0), (6, .ptr 3 0), (13, bv (k != 17))] [(3, .cells [iv .i64 0] 3), (2, nd), (1, .cells [iv .i64 m] 3), (0, rs)] ?_ (by simp [okS, okS_bv]) (hL4 4 (by decide)) (by simp) ?_))
  · subst hres; subst hnd; simp [nd61, b3, aggS, aggI, SegOk, segR, dstB, guardOf, callOf, act, actCall, ev, ofVal, ofCell, actBox, SV.cells, SV.flat, tmL, lkL, iv, bv, putT_some, putT_none, upd_at, updL, actFieldAddr, addOff, actLoad, getRow, actLen, actIndexAddr, actBin, intB, actAlloc, actStore, putRow, putS, h3, h4, h36, h39, h53, h55, h86, f55_0, f55_5, f55_6, f39_1, f86_0, f86_1, f86_2, a39, a55, a86, s3, s39, s55, s86, e53, e36, z3, z55, z86, actUn, nn, st]
  clear hm he
  intro env a w he _ hm
  refine wpx_cond (b := k != 17) hm rfl (fun hk => ?_) (fun hk => wpIn_skip (then_normal ?_))
  · have hk : k ≠ 17 := by simpa using hk
    have hp : pathAt m k kids refs = -1 := by unfold pathAt; rw [if_neg hk]
    refine wpIn_seq (reg_cut hm he tt0_ok noCall_ok 4 [(6, .ptr 3 0)] [(3, .cells [iv .i64 (-1)] 3)] ?_ (by simp [okS]) (by simp [okA, okSL, okS_iv]) (by simp) ?_)
    · simp [b3, aggS, aggI, SegOk, segR, dstB, guardOf, callOf, act, actCall, ev, ofVal, ofCell, actBox, SV.cells, SV.flat, tmL, lkL, iv, bv, putT_some, putT_none, upd_at, updL, actFieldAddr, addOff, actLoad, getRow, actLen, actIndexAddr, actBin, intB, actAlloc, actStore, putRow, putS, h3, h4, h36, h39, h53, h55, h86, f55_0, f55_5, f55_6, f39_1, f86_0, f86_1, f86_2, a39, a55, a86, s3, s39, s55, s86, e53, e36, z3, z55, z86, actUn, nn, st]
    clear hm he
    intro env a w he _ hm
    rw [hp]
    rw [← hpOf_get] at hm
    refine then_normal (wpIn_ret ?_)
    show EndsAsM tt0 Tryz.f22 M F 48 (iv .i64 (-1)) .ret a w
    refine ⟨.inr rfl, env, _, [], _, 0, _, 0, [iv .i64 (-1)], hm, rfl, ?_, rfl⟩
    rw [hpOf_get]
    simp [resOf, Tryz.f22, b3, aggS, aggI, SegOk, segR, dstB, guardOf, callOf, act, actCall, ev, ofVal, ofCell, actBox, SV.cells, SV.flat, tmL, lkL, iv, bv, putT_some, putT_none, upd_at, updL, actFieldAddr, addOff, actLoad, getRow, actLen, actIndexAddr, actBin, intB, actAlloc, actStore, putRow, putS, h3, h4, h36, h39, h53, h55, h86, f55_0, f55_5, f55_6, f39_1, f86_0, f86_1, f86_2, a39, a55, a86, s3, s39, s55, s86, e53, e36, z3, z55, z86, actUn, nn, st]
  · have hk : k = 17 := by simpa using hk
    have hm := hm.weakL [(3, .ptr 0 0), (4, .ptr 1 0), (5, .ptr 2 0), (6, .ptr 3 0)] [(3, .cells [iv .i64 0] 3), (2, nd), (1, .cells [iv .i64 m] 3), (0, rs)] (by simp [tmL]) (by simp [lkL])
    obtain ⟨h60, c60⟩ := c60 (kids.map Kid.row)
    -- the iterator
    refine wpIn_seq (wpIn_seq (wpIn_region_list ?_))
    show wpListIn (wf none) 0 Tryz.prog _ _ ([_, _] ++ [_]) a w
    refine lst_cut hm he tt0_ok noCall_ok 4 [(3, .ptr 0 0), (4, .ptr 1 0), (5, .ptr 2 0), (6, .ptr 3 0), (15, .d (.lst (kids.map Kid.row)))] [(3, .cells [iv .i64 0] 3), (2, nd), (1, .cells [iv .i64 m] 3), (0, rs)] ?_ (by simp [okS]) (hL4 4 (by decide)) (by simp) ?_
    · subst hres; subst hnd; simp [nd61, b3, aggS, aggI, SegOk, segR, dstB, guardOf, callOf, act, actCall, ev, ofVal, ofCell, actBox, SV.cells, SV.flat, tmL, lkL, iv, bv, putT_some, putT_none, upd_at, updL, actFieldAddr, addOff, actLoad, getRow, actLen, actIndexAddr, actBin, intB, actAlloc, actStore, putRow, putS, h3, h4, h36, h39, h53, h55, h86, f55_0, f55_5, f55_6, f39_1, f86_0, f86_1, f86_2, a39, a55, a86, s3, s39, s55, s86, e53, e36, z3, z55, z86, actUn, nn, st]
    clear hm he
    intro env a w he _ hm
    refine call_step tt0_ok hm he (Nat.le_add_right 4 h60) (by simp [dstB]) (by simp [guardOf]) (by simp [callOf, ev, tmL]) (c60 _ 4 (fun n hn => ?_)) ?_
    · cases hx : lkL [((3 : Nat), Atom.cells [iv .i64 0] 3), (2, nd), (1, .cells [iv .i64 m] 3), (0, rs)] n with
      | none => rfl
      | some at0 => have := (hL4 4 (by decide) _ (lkL_mem hx)).1; simp only at this; omega
    clear hm he
    intro env a w hle he hm
    have hlk5 : ∀ x ∈ lkm kids m rs nd 0, x.1 < 6 ∧ okA 6 x.2 := lkm_ok 0 6 (by decide) (hokr 6) (hokn 6)
    obtain ⟨hm, he⟩ := hm.cutL 5 tm22 [(4, slA kids), (3, .cells [iv .i64 0] 3), (2, nd), (1, .cells [iv .i64 m] 3), (0, rs)] (by simp) (by simp [tm22, putT_some, tmL, okS, okSL]) (fun x hx => by
      simp only [List.mem_cons, List.not_mem_nil, or_false] at hx
      rcases hx with rfl | rfl | rfl | rfl | rfl
      · exact ⟨by simp [upd_at, slA], show 4 < 5 by decide, by simp [slA, okA, okSL, okS]⟩
      · exact ⟨by simp [upd_at, lkL], show 3 < 5 by decide, by simp [okA, okSL, okS_iv]⟩
      · exact ⟨by simp [upd_at, lkL], show 2 < 5 by decide, hokn 5⟩
      · exact ⟨by simp [upd_at, lkL], show 1 < 5 by decide, by simp [okA, okSL, okS_iv]⟩
      · exact ⟨by simp [upd_at, lkL], show 0 < 5 by decide, hokr 5⟩)
    generalize cutE env 5 = env at hm he
    refine wpListIn_nil (then_normal ?_)
    -- the loop
    refine wpIn_block ?_
    have hrg : Ranged (hpOf [(4, slA kids), (3, .cells [iv .i64 0] 3), (2, nd), (1, .cells [iv .i64 m] 3), (0, rs)]) 5 := hpOf_ranged (by simp)
    have hend : ∀ (ps : Array Tmp) (asg body : Code), Ranged (hpOf (endL refs m kids rs nd (tmOf 48 tm22) ps asg body)) 7 := fun ps asg body => hpOf_ranged fun x hx => by
      unfold endL at hx
      split at hx
      · exact (lpm_ok m kids rs nd (tmOf 48 tm22) ps asg body (tm22_ok 7 (by decide)) (hokr 7) (hokn 7) _ _ x hx).1
      · exact (lpm_ok m kids rs nd (tmOf 48 tm22) ps asg body (tm22_ok 7 (by decide)) (hokr 7) (hokn 7) _ _ x hx).1
    have hlp : ∀ (ps : Array Tmp) (asg body : Code), ∃ st, (hpOf (endL refs m kids rs nd (tmOf 48 tm22) ps asg body)).get (Nat.succ 5) = some (.lp st (tmOf 48 tm22) 48 ps asg body) ∧ (st = none ∧ endX kids = .normal ∨ st = some .ret ∧ endX kids = .ret) := by
      intro ps asg body
      rw [hpOf_get]
      unfold endL endX
      split
      · exact ⟨none, rfl, .inl ⟨rfl, rfl⟩⟩
      · exact ⟨some .ret, rfl, .inr ⟨rfl, rfl⟩⟩
    obtain ⟨sx, hlp, hst⟩ := hlp _ _ _
    refine (range_rule follows0 tt0_ok ft0_ok (g := 108) (fst := []) (caps := [.ptr 4 0]) Tryz.func108 rfl hrg (tm0 := tmOf 48 tm22) rfl (c108 refs m kids rs nd (tmOf 48 tm22) _ _ _ hn (tm22_ok 7 (by decide)) (hokr 7) (hokn 7) ?_) (Nat.le_refl 7) (hend _ _ _) hlp hst).2 hm.toT (fun n h1 _ => he n h1) ?_
    · intro j hj
      cases hg : good kids[j] with
      | true =>
        rw [if_pos rfl]
        refine round22 (st := some .ret) (x := .ret) (hokr 7) (hokn 7) (asg_runs (hokr 7) (hokn 7) (by kernel_rfl)) (fun b => body_runs hokr hokn ?_) (.inr ⟨rfl, rfl⟩)
        clear hm he
        intro env0 M F a w he0 hlt0 hm
        have hg' := hg
        simp only [good, Bool.and_eq_true, decide_eq_true_eq] at hg'
        obtain ⟨g18, gns⟩ := hg'
        generalize kids[j] = c at hm g18 gns
        have hL7 : ∀ n, 7 < n → ∀ x ∈ ((7, .cells (kidL c) 55) :: lkm kids m rs nd 0), x.1 < n ∧ okA n x.2 := by
          intro n hn x hx
          rcases List.mem_cons.1 hx with rfl | hx
          · exact ⟨hn, kid_ok c n⟩
          · exact lkm_ok 0 n (by omega) (hokr n) (hokn n) x hx
        refine wpIn_block (wpIn_seq (wpIn_seq (reg_cut hm he0 tt0_ok noCall_ok 9 [(3, .ptr 0 0), (4, .ptr 1 0), (6, .ptr 3 0), (8, .ptr 7 0), (26, bv false)] ((7, .cells (kidL c) 55) :: lkm kids m rs nd 0) ?_ (by simp [okS, okS_bv]) (hL7 9 (by decide)) (by simp) ?_)))
        · simp [kidL, lkm, g18, gns, b3, aggS, aggI, SegOk, segR, dstB, guardOf, callOf, act, actCall, ev, ofVal, ofCell, actBox, SV.cells, SV.flat, tmL, lkL, iv, bv, putT_some, putT_none, upd_at, updL, actFieldAddr, addOff, actLoad, getRow, actLen, actIndexAddr, actBin, intB, actAlloc, actStore, putRow, putS, h3, h4, h36, h39, h53, h55, h86, f55_0, f55_5, f55_6, f39_1, f86_0, f86_1, f86_2, a39, a55, a86, s3, s39, s55, s86, e53, e36, z3, z55, z86, actUn, nn, st]
        clear hm
        intro env1 a w he1 hle1 hm
        have hle1 : env0.le env1 := fun n v e => hle1 n v (hlt0 n v e) e
        refine wpx_cond (b := false) hm rfl (fun h => by cases h) (fun _ => wpIn_skip (then_normal ?_))
        refine wpIn_seq (wpIn_seq (reg_cut hm he1 tt0_ok noCall_ok 9 [(4, .ptr 1 0), (6, .ptr 3 0), (8, .ptr 7 0), (28, .d (.lst (refs.map Rf.row))), (29, iv .i64 refs.length), (30, iv .i64 0)] ((7, .cells (kidL c) 55) :: lkm kids m rs nd 0) ?_ (by simp [okS, okS_iv]) (hL7 9 (by decide)) (by simp) ?_))
        · subst hres; simp [rsA, lkm, b3, aggS, aggI, SegOk, segR, dstB, guardOf, callOf, act, actCall, ev, ofVal, ofCell, actBox, SV.cells, SV.flat, tmL, lkL, iv, bv, putT_some, putT_none, upd_at, updL, actFieldAddr, addOff, actLoad, getRow, actLen, actIndexAddr, actBin, intB, actAlloc, actStore, putRow, putS, h3, h4, h36, h39, h53, h55, h86, f55_0, f55_5, f55_6, f39_1, f86_0, f86_1, f86_2, a39, a55, a86, s3, s39, s55, s86, e53, e36, z3, z55, z86, actUn, nn, st]
        clear hm
        intro env2 a w he2 hle2 hm
        have hle2 : env0.le env2 := fun n v e => hle2 n v (hlt0 n v e) (hle1 n v e)
        refine wpIn_block (wpIn_mono (Q := fun e a w => (e = .exit 2 ∧ refAt m c.ns refs = -1 ∧ ∃ env, env0.le env ∧ EnvB env 9 ∧ Mod env M F [] 48 (tmL [(6, .ptr 3 0)]) (lkL (lkm kids m rs nd 0)) a w) ∨ (e = .ret ∧ ∃ env tm, env0.le env ∧ Mod env M F [] 48 tm (lkL (lkm kids m rs nd (refAt m c.ns refs))) a w)) ?_ ?_)
        · refine wpx_loop (fun n a w => ∃ (i : Nat) (env : En), i + n = refs.length ∧ refAt m c.ns (refs.drop i) = refAt m c.ns refs ∧ env0.le env ∧ EnvB env 9 ∧ Mod env M F [] 48 (tmL [(4, .ptr 1 0), (6, .ptr 3 0), (8, .ptr 7 0), (28, .d (.lst (refs.map Rf.row))), (29, iv .i64 refs.length), (30, iv .i64 i)]) (lkL ((7, .cells (kidL c) 55) :: lkm kids m rs nd 0)) a w) ?_ ⟨0, env2, Nat.zero_add _, rfl, hle2, he2, hm⟩
          clear hm
          rintro n a w ⟨i, env3, hin, hs, hle3, he3, hm⟩
          cases n with
          | zero =>
            have hi : i = refs.length := by omega
            refine wpIn_seq (reg_cut hm he3 tt0_ok noCall_ok 9 [(6, .ptr 3 0), (31, bv false)] (lkm kids m rs nd 0) ?_ (by simp [okS, okS_bv]) (lkm_ok 0 9 (by decide) (hokr 9) (hokn 9)) (by simp) ?_)
            · simp [lkm, hi, b3, aggS, aggI, SegOk, segR, dstB, guardOf, callOf, act, actCall, ev, ofVal, ofCell, actBox, SV.cells, SV.flat, tmL, lkL, iv, bv, putT_some, putT_none, upd_at, updL, actFieldAddr, addOff, actLoad, getRow, actLen, actIndexAddr, actBin, intB, actAlloc, actStore, putRow, putS, h3, h4, h36, h39, h53, h55, h86, f55_0, f55_5, f55_6, f39_1, f86_0, f86_1, f86_2, a39, a55, a86, s3, s39, s55, s86, e53, e36, z3, z55, z86, actUn, nn, st]
            clear hm
            intro env4 a w he4 hle4 hm
            have hle4 : env0.le env4 := fun n v e => hle4 n v (hlt0 n v e) (hle3 n v e)
            refine wpIn_seq (wpx_cond (b := false) hm rfl (fun h => by cases h) (fun _ => wpIn_exit ?_))
            refine then_exit (then_exit (.inl ⟨rfl, ?_, env4, hle4, he4, hm.weakL _ _ (by simp [tmL]) (by simp [lkL, lkm])⟩))
            rw [← hs, show refs.drop i = [] from by rw [List.drop_eq_nil_iff]; omega]; rfl
          | succ n =>
            have hi : i < refs.length := by omega
            have hdrop : refs.drop i = refs[i] :: refs.drop (i + 1) := List.drop_eq_getElem_cons hi
            refine wpIn_seq (reg_cut hm he3 tt0_ok noCall_ok 9 [(4, .ptr 1 0), (6, .ptr 3 0), (8, .ptr 7 0), (28, .d (.lst (refs.map Rf.row))), (29, iv .i64 refs.length), (30, iv .i64 i), (31, bv true)] ((7, .cells (kidL c) 55) :: lkm kids m rs nd 0) ?_ (by simp [okS, okS_iv, okS_bv]) (hL7 9 (by decide)) (by simp) ?_)
            · simp [lkm, hi, b3, aggS, aggI, SegOk, segR, dstB, guardOf, callOf, act, actCall, ev, ofVal, ofCell, actBox, SV.cells, SV.flat, tmL, lkL, iv, bv, putT_some, putT_none, upd_at, updL, actFieldAddr, addOff, actLoad, getRow, actLen, actIndexAddr, actBin, intB, actAlloc, actStore, putRow, putS, h3, h4, h36, h39, h53, h55, h86, f55_0, f55_5, f55_6, f39_1, f86_0, f86_1, f86_2, a39, a55, a86, s3, s39, s55, s86, e53, e36, z3, z55, z86, actUn, nn, st]
            clear hm
            intro env4 a w he4 hle4 hm
            have hle4 : env0.le env4 := fun n v e => hle4 n v (hlt0 n v e) (hle3 n v e)
            refine wpIn_seq (wpx_cond (b := true) hm rfl (fun _ => wpIn_skip (then_normal ?_)) (fun h => by cases h))
            refine wpIn_seq (wpIn_block (wpIn_mono (Q := fun e a w => (e = .normal ∧ hit m c.ns refs[i] = false ∧ ∃ env, env0.le env ∧ EnvB env 9 ∧ Mod env M F [] 48 (tmL [(4, .ptr 1 0), (6, .ptr 3 0), (8, .ptr 7 0), (28, .d (.lst (refs.map Rf.row))), (29, iv .i64 refs.length), (30, iv .i64 i)]) (lkL ((7, .cells (kidL c) 55) :: lkm kids m rs nd 0)) a w) ∨ (e = .ret ∧ ∃ env tm, env0.le env ∧ Mod env M F [] 48 tm (lkL (lkm kids m rs nd (refAt m c.ns refs))) a w)) ?_ ?_))
            · have hL11 : ∀ x ∈ ((11, .cells [iv .i64 refs[i].m, iv .i64 refs[i].s, iv .i64 refs[i].y] 86) :: (7, .cells (kidL c) 55) :: lkm kids m rs nd 0), x.1 < 13 ∧ okA 13 x.2 := by
                intro x hx
                rcases List.mem_cons.1 hx with rfl | hx
                · exact ⟨show 11 < 13 by decide, by simp [okA, okSL, okS_iv]⟩
                · exact hL7 13 (by decide) x hx
              refine wpIn_seq (reg_cut hm he4 tt0_ok noCall_ok 13 [(4, .ptr 1 0), (6, .ptr 3 0), (8, .ptr 7 0), (28, .d (.lst (refs.map Rf.row))), (29, iv .i64 refs.length), (30, iv .i64 i), (10, .ptr 11 0)] ((11, .cells [iv .i64 refs[i].m, iv .i64 refs[i].s, iv .i64 refs[i].y] 86) :: (7, .cells (kidL c) 55) :: lkm kids m rs nd 0) ?_ (by simp [okS, okS_iv, okS_bv]) hL11 (by simp) ?_)
              · simp [lkm, hi, Rf.row, b3, aggS, aggI, SegOk, segR, dstB, guardOf, callOf, act, actCall, ev, ofVal, ofCell, actBox, SV.cells, SV.flat, tmL, lkL, iv, bv, putT_some, putT_none, upd_at, updL, actFieldAddr, addOff, actLoad, getRow, actLen, actIndexAddr, actBin, intB, actAlloc, actStore, putRow, putS, h3, h4, h36, h39, h53, h55, h86, f55_0, f55_5, f55_6, f39_1, f86_0, f86_1, f86_2, a39, a55, a86, s3, s39, s55, s86, e53, e36, z3, z55, z86, actUn, nn, st]
              clear hm
              intro env5 a w he5 hle5 hm
              have hle5 : env0.le env5 := fun n v e => hle5 n v (by have := hlt0 n v e; omega) (hle4 n v e)
              by_cases hh : hit m c.ns refs[i] = true
              · have hh' := hh
                simp only [hit, Bool.and_eq_true, decide_eq_true_eq, beq_iff_eq] at hh'
                obtain ⟨⟨_, g2⟩, g3⟩ := hh'
                refine wpIn_seq (reg_cut hm he5 tt0_ok noCall_ok 13 [(6, .ptr 3 0), (10, .ptr 11 0), (44, bv true)] ((11, .cells [iv .i64 refs[i].m, iv .i64 refs[i].s, iv .i64 refs[i].y] 86) :: (7, .cells (kidL c) 55) :: lkm kids m rs nd 0) ?_ (by simp [okS, okS_iv, okS_bv]) hL11 (by simp) ?_)
                · simp [lkm, kidL, g2, g3, b3, aggS, aggI, SegOk, segR, dstB, guardOf, callOf, act, actCall, ev, ofVal, ofCell, actBox, SV.cells, SV.flat, tmL, lkL, iv, bv, putT_some, putT_none, upd_at, updL, actFieldAddr, addOff, actLoad, getRow, actLen, actIndexAddr, actBin, intB, actAlloc, actStore, putRow, putS, h3, h4, h36, h39, h53, h55, h86, f55_0, f55_5, f55_6, f39_1, f86_0, f86_1, f86_2, a39, a55, a86, s3, s39, s55, s86, e53, e36, z3, z55, z86, actUn, nn, st]
                clear hm
                intro env6 a w he6 hle6 hm
                have hle6 : env0.le env6 := fun n v e => hle6 n v (by have := hlt0 n v e; omega) (hle5 n v e)
                refine wpx_cond (b := true) hm rfl (fun _ => ?_) (fun h => by cases h)
                refine wpIn_seq (reg_cut hm he6 tt0_ok noCall_ok 13 [] (lkm kids m rs nd refs[i].y) ?_ (by simp) (lkm_ok _ 13 (by decide) (hokr 13) (hokn 13)) (by simp) ?_)
                · simp [lkm, b3, aggS, aggI, SegOk, segR, dstB, guardOf, callOf, act, actCall, ev, ofVal, ofCell, actBox, SV.cells, SV.flat, tmL, lkL, iv, bv, putT_some, putT_none, upd_at, updL, actFieldAddr, addOff, actLoad, getRow, actLen, actIndexAddr, actBin, intB, actAlloc, actStore, putRow, putS, h3, h4, h36, h39, h53, h55, h86, f55_0, f55_5, f55_6, f39_1, f86_0, f86_1, f86_2, a39, a55, a86, s3, s39, s55, s86, e53, e36, z3, z55, z86, actUn, nn, st]
                clear hm
                intro env7 a w he7 hle7 hm
                have hle7 : env0.le env7 := fun n v e => hle7 n v (by have := hlt0 n v e; omega) (hle6 n v e)
                have hy : refAt m c.ns refs = refs[i].y := by
                  rw [← hs, hdrop]; unfold refAt; rw [List.find?_cons, hh]
                exact then_normal (wpIn_ret (.inr ⟨rfl, env7, _, hle7, by rw [hy]; exact hm⟩))
              · have hh : hit m c.ns refs[i] = false := by simpa using hh
                refine wpIn_seq (reg_cut hm he5 tt0_ok noCall_ok 9 [(4, .ptr 1 0), (6, .ptr 3 0), (8, .ptr 7 0), (28, .d (.lst (refs.map Rf.row))), (29, iv .i64 refs.length), (30, iv .i64 i), (44, bv false)] ((7, .cells (kidL c) 55) :: lkm kids m rs nd 0) ?_ (by simp [okS, okS_iv, okS_bv]) (hL7 9 (by decide)) (by simp) ?_)
                · rcases Classical.em (refs[i].m = m) with g2 | g2
                  · have g3 : (refs[i].s == c.ns) = false := by simpa [hit, gns, g2] using hh
                    simp [lkm, kidL, g2, g3, b3, aggS, aggI, SegOk, segR, dstB, guardOf, callOf, act, actCall, ev, ofVal, ofCell, actBox, SV.cells, SV.flat, tmL, lkL, iv, bv, putT_some, putT_none, upd_at, updL, actFieldAddr, addOff, actLoad, getRow, actLen, actIndexAddr, actBin, intB, actAlloc, actStore, putRow, putS, h3, h4, h36, h39, h53, h55, h86, f55_0, f55_5, f55_6, f39_1, f86_0, f86_1, f86_2, a39, a55, a86, s3, s39, s55, s86, e53, e36, z3, z55, z86, actUn, nn, st]
                  · have g2' : (refs[i].m == m) = false := by simpa using g2
                    simp [lkm, kidL, g2', b3, aggS, aggI, SegOk, segR, dstB, guardOf, callOf, act, actCall, ev, ofVal, ofCell, actBox, SV.cells, SV.flat, tmL, lkL, iv, bv, putT_some, putT_none, upd_at, updL, actFieldAddr, addOff, actLoad, getRow, actLen, actIndexAddr, actBin, intB, actAlloc, actStore, putRow, putS, h3, h4, h36, h39, h53, h55, h86, f55_0, f55_5, f55_6, f39_1, f86_0, f86_1, f86_2, a39, a55, a86, s3, s39, s55, s86, e53, e36, z3, z55, z86, actUn, nn, st]
                clear hm
                intro env6 a w he6 hle6 hm
                have hle6 : env0.le env6 := fun n v e => hle6 n v (hlt0 n v e) (hle5 n v e)
                refine wpx_cond (b := false) hm rfl (fun h => by cases h) (fun _ => wpIn_skip ?_)
                exact .inl ⟨rfl, hh, env6, hle6, he6, hm.weakL _ _ (by simp [tmL]) (by simp [lkL, lkm])⟩
            · clear hm
              rintro e a w (⟨rfl, hh, env5, hle5, he5, hm⟩ | ⟨rfl, hfin⟩)
              · refine block_normal (then_normal ?_)
                have hw : IntKind.i64.wrap ((i : Int) + 1) = ((i + 1 : Nat) : Int) := by rw [IntWalk.i64_in _ (by omega)]; omega
                refine reg_cut hm he5 tt0_ok noCall_ok 9 [(4, .ptr 1 0), (6, .ptr 3 0), (8, .ptr 7 0), (28, .d (.lst (refs.map Rf.row))), (29, iv .i64 refs.length), (30, iv .i64 ((i + 1 : Nat) : Int))] ((7, .cells (kidL c) 55) :: lkm kids m rs nd 0) ?_ (by simp [okS, okS_iv, okS_bv]) (hL7 9 (by decide)) (by simp) ?_
                · simp [lkm, b3, aggS, aggI, SegOk, segR, dstB, guardOf, callOf, act, actCall, ev, ofVal, ofCell, actBox, SV.cells, SV.flat, tmL, lkL, iv, bv, putT_some, putT_none, upd_at, updL, actFieldAddr, addOff, actLoad, getRow, actLen, actIndexAddr, actBin, intB, actAlloc, actStore, putRow, putS, h3, h4, h36, h39, h53, h55, h86, f55_0, f55_5, f55_6, f39_1, f86_0, f86_1, f86_2, a39, a55, a86, s3, s39, s55, s86, e53, e36, z3, z55, z86, actUn, nn, st, hw]
                clear hm
                intro env6 a w he6 hle6 hm
                have hle6 : env0.le env6 := fun n v e => hle6 n v (hlt0 n v e) (hle5 n v e)
                refine then_normal ⟨n, by omega, i + 1, env6, by omega, ?_, hle6, he6, hm⟩
                rw [← hs, hdrop]; unfold refAt; rw [List.find?_cons, hh]
              · exact .inr ⟨rfl, hfin⟩
        · clear hm
          rintro e a w (⟨rfl, hr1, env3, hle3, he3, hm⟩ | ⟨rfl, env3, tm3, hle3, hm⟩)
          · refine block_exit (then_normal ?_)
            refine wpIn_seq (reg_cut hm he3 tt0_ok noCall_ok 9 [] (lkm kids m rs nd (-1)) ?_ (by simp) (lkm_ok _ 9 (by decide) (hokr 9) (hokn 9)) (by simp) ?_)
            · simp [lkm, b3, aggS, aggI, SegOk, segR, dstB, guardOf, callOf, act, actCall, ev, ofVal, ofCell, actBox, SV.cells, SV.flat, tmL, lkL, iv, bv, putT_some, putT_none, upd_at, updL, actFieldAddr, addOff, actLoad, getRow, actLen, actIndexAddr, actBin, intB, actAlloc, actStore, putRow, putS, h3, h4, h36, h39, h53, h55, h86, f55_0, f55_5, f55_6, f39_1, f86_0, f86_1, f86_2, a39, a55, a86, s3, s39, s55, s86, e53, e36, z3, z55, z86, actUn, nn, st]
            clear hm
            intro env4 a w he4 hle4 hm
            have hle4 : env0.le env4 := fun n v e => hle4 n v (hlt0 n v e) (hle3 n v e)
            refine then_normal (wpIn_ret ?_)
            exact ⟨rfl, env4, _, hle4, by rw [hr1]; exact hm⟩
          · exact ⟨rfl, env3, tm3, hle3, hm⟩
      | false =>
        rw [if_neg (by simp)]
        refine round22 (st := none) (x := .normal) (hokr 7) (hokn 7) (asg_runs (hokr 7) (hokn 7) (by kernel_rfl)) (fun b => body_runs hokr hokn ?_) (.inl ⟨rfl, rfl⟩)
        clear hm he
        intro env0 M F a w he0 hlt0 hm
        refine wpIn_block (wpIn_seq (wpIn_seq (reg_cut hm he0 tt0_ok noCall_ok 9 [(26, bv true)] (lkm kids m rs nd 0) ?_ (by simp [okS_bv]) (lkm_ok 0 9 (by decide) (hokr 9) (hokn 9)) (by simp) ?_)))
        · generalize kids[j] = c at hg
          rcases Classical.em (c.k = 18) with g18 | g18
          · have gns : ¬ 0 ≤ c.ns := by simpa [good, g18] using hg
            have gns' : c.ns < 0 := by omega
            simp [kidL, lkm, g18, gns', b3, aggS, aggI, SegOk, segR, dstB, guardOf, callOf, act, actCall, ev, ofVal, ofCell, actBox, SV.cells, SV.flat, tmL, lkL, iv, bv, putT_some, putT_none, upd_at, updL, actFieldAddr, addOff, actLoad, getRow, actLen, actIndexAddr, actBin, intB, actAlloc, actStore, putRow, putS, h3, h4, h36, h39, h53, h55, h86, f55_0, f55_5, f55_6, f39_1, f86_0, f86_1, f86_2, a39, a55, a86, s3, s39, s55, s86, e53, e36, z3, z55, z86, actUn, nn, st]
          · have g18' : (c.k != 18) = true := by simpa using g18
            simp [kidL, lkm, g18', b3, aggS, aggI, SegOk, segR, dstB, guardOf, callOf, act, actCall, ev, ofVal, ofCell, actBox, SV.cells, SV.flat, tmL, lkL, iv, bv, putT_some, putT_none, upd_at, updL, actFieldAddr, addOff, actLoad, getRow, actLen, actIndexAddr, actBin, intB, actAlloc, actStore, putRow, putS, h3, h4, h36, h39, h53, h55, h86, f55_0, f55_5, f55_6, f39_1, f86_0, f86_1, f86_2, a39, a55, a86, s3, s39, s55, s86, e53, e36, z3, z55, z86, actUn, nn, st]
        clear hm
        intro env1 a w he1 hle1 hm
        refine wpx_cond (b := true) hm rfl (fun _ => wpIn_exit (then_exit (block_exit ?_))) (fun h => by cases h)
        exact ⟨rfl, env1, _, fun n v e => hle1 n v (hlt0 n v e) e, hm⟩
    · clear hlp hst
      intro env' a' w' hle' ho' hm'
      have he7 : EnvB env' 7 := fun n hn' => by rw [ho' n (by show ¬ (5 ≤ n ∧ n < 7); omega)]; exact he n (by omega)
      have hm' : Mod env' M F [5] 48 (slots (tmOf 48 tm22)) ((hpOf (endL refs m kids rs nd (tmOf 48 tm22) _ _ _)).set 6 none).get a' w' := hm'
      show Exit.inBlock 0 _ (endX kids).to a' w'
      cases hf : kids.reverse.find? good with
      | none =>
        have hp : pathAt m k kids refs = -1 := by unfold pathAt; rw [if_pos hk, hf]
        rw [show endX kids = .normal by unfold endX; rw [hf]]
        have hm2 := hm'.weakL [(6, .ptr 3 0)] (lkm kids m rs nd 0) (by simp; rfl) (by
          intro x hx
          have := (lkm_ok (kids := kids) (m := m) (rs := rs) (nd := nd) 0 6 (by decide) (hokr 6) (hokn 6) x hx).1
          rw [T.get_set, if_neg (by omega), show endL refs m kids rs nd (tmOf 48 tm22) _ _ _ = lpm kids m rs nd (tmOf 48 tm22) _ _ _ none 0 by unfold endL; rw [hf], hpOf_get]
          simp only [lkm, List.mem_cons, List.not_mem_nil, or_false] at hx
          rcases hx with rfl | rfl | rfl | rfl | rfl | rfl <;> rfl)
        refine block_normal (then_normal (wpIn_seq (reg_cut hm2 he7 tt0_ok noCall_ok 6 [(6, .ptr 3 0)] [(5, .mark), (3, .cells [iv .i64 (-1)] 3)] ?_ (by simp [okS]) ?_ (by simp) ?_)))
        · simp [lkm, b3, aggS, aggI, SegOk, segR, dstB, guardOf, callOf, act, actCall, ev, ofVal, ofCell, actBox, SV.cells, SV.flat, tmL, lkL, iv, bv, putT_some, putT_none, upd_at, updL, actFieldAddr, addOff, actLoad, getRow, actLen, actIndexAddr, actBin, intB, actAlloc, actStore, putRow, putS, h3, h4, h36, h39, h53, h55, h86, f55_0, f55_5, f55_6, f39_1, f86_0, f86_1, f86_2, a39, a55, a86, s3, s39, s55, s86, e53, e36, z3, z55, z86, actUn, nn, st]
        · intro x hx
          simp only [List.mem_cons, List.not_mem_nil, or_false] at hx
          rcases hx with rfl | rfl
          · exact ⟨show 5 < 6 by decide, trivial⟩
          · exact ⟨show 3 < 6 by decide, by simp [okA, okSL, okS_iv]⟩
        intro env4 a w he4 _ hm4
        rw [← hpOf_get] at hm4
        rw [hp]
        refine then_normal (wpIn_ret ?_)
        show EndsAsM tt0 Tryz.f22 M F 48 (iv .i64 (-1)) .ret a w
        refine ⟨.inr rfl, env4, _, [5], _, 0, (hpOf [(5, .mark), (3, .cells [iv .i64 (-1)] 3)]).set 5 none, mn 5 0, [iv .i64 (-1)], hm4, ?_, ?_, rfl⟩
        · unfold leave; rw [hpOf_get]; rfl
        · have e3 : ((hpOf [(5, .mark), (3, .cells [iv .i64 (-1)] 3)]).set 5 none).get 3 = some (.cells [iv .i64 (-1)] 3) := by rw [T.get_set, if_neg (by decide), hpOf_get]; rfl
          simp only [iv] at e3
          simp [resOf, Tryz.f22, b3, aggS, aggI, SegOk, segR, dstB, guardOf, callOf, act, actCall, ev, ofVal, ofCell, actBox, SV.cells, SV.flat, tmL, lkL, iv, bv, putT_some, putT_none, upd_at, updL, actFieldAddr, addOff, actLoad, getRow, actLen, actIndexAddr, actBin, intB, actAlloc, actStore, putRow, putS, h3, h4, h36, h39, h53, h55, h86, f55_0, f55_5, f55_6, f39_1, f86_0, f86_1, f86_2, a39, a55, a86, s3, s39, s55, s86, e53, e36, z3, z55, z86, actUn, nn, st, e3]
      | some c =>
        have hp : pathAt m k kids refs = refAt m c.ns refs := by unfold pathAt; rw [if_pos hk, hf]
        rw [show endX kids = .ret by unfold endX; rw [hf], hp]
        rw [show endL refs m kids rs nd (tmOf 48 tm22) _ _ _ = lpm kids m rs nd (tmOf 48 tm22) _ _ _ (some .ret) (refAt m c.ns refs) by unfold endL; rw [hf]] at hm'
        show EndsAsM tt0 Tryz.f22 M F 48 (iv .i64 (refAt m c.ns refs)) .ret a' w'
        have fin : ∀ (ps : Array Tmp) (asg body : Code) (hp : T Atom), hp = (hpOf (lpm kids m rs nd (tmOf 48 tm22) ps asg body (some .ret) (refAt m c.ns refs))).set 6 none → Mod env' M F [5] 48 (slots (tmOf 48 tm22)) hp.get a' w' → EndsAsM tt0 Tryz.f22 M F 48 (iv .i64 (refAt m c.ns refs)) .ret a' w' := by
          intro ps asg body hp e hm
          refine ⟨.inr rfl, env', _, [5], hp, 0, hp.set 5 none, mn 5 0, [iv .i64 (refAt m c.ns refs)], hm, ?_, ?_, rfl⟩
          · have e5 : hp.get 5 = some .mark := by rw [e, T.get_set, if_neg (by decide), hpOf_get]; rfl
            unfold leave; rw [e5]; rfl
          · have e3 : (hp.set 5 none).get 3 = some (.cells [.d (.v (.int .i64 (refAt m c.ns refs)))] 3) := by rw [T.get_set, if_neg (by decide), e, T.get_set, if_neg (by decide), hpOf_get]; rfl
            have e6 : slots (tmOf 48 tm22) 6 = .ptr 3 0 := rfl
            simp [resOf, Tryz.f22, b3, aggS, aggI, SegOk, segR, dstB, guardOf, callOf, act, actCall, ev, ofVal, ofCell, actBox, SV.cells, SV.flat, tmL, lkL, iv, bv, putT_some, putT_none, upd_at, updL, actFieldAddr, addOff, actLoad, getRow, actLen, actIndexAddr, actBin, intB, actAlloc, actStore, putRow, putS, h3, h4, h36, h39, h53, h55, h86, f55_0, f55_5, f55_6, f39_1, f86_0, f86_1, f86_2, a39, a55, a86, s3, s39, s55, s86, e53, e36, z3, z55, z86, actUn, nn, st, e3, e6]
        exact fin _ _ _ _ rfl hm'
end
end Go.Proofs.YtmiohnbdeaendaaGreatDoor
