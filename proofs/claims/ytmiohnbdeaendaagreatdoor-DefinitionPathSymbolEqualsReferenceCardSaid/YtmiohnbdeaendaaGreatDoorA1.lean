/- A verified interpreter over ghost heaps: part A1. -/
import Derived.Orders
import Derived.Tactics
import Derived.Laws.Tables
import Derived.Laws.Append
import Derived.Laws.Strings
import Derived.Laws.Slices
import Derived.Lib.Strings

/- Finite maps by number. -/
namespace Go.Proofs.Ae
open Go

def upd {α : Type} (f : Nat → α) (n : Nat) (v : α) : Nat → α := fun m => if m = n then v else f m

inductive T (α : Type) where
  | leaf
  | node (l : T α) (v : Option α) (r : T α)

/-- A choice by a number: nought, odd, even. -/
noncomputable def byNat {β : Type} (a : β) (b c : Nat → β) (k : Nat) : β :=
  @Nat.rec (fun _ => β) a (fun j _ => @Bool.rec (fun _ => β) (c (Nat.div j 2)) (b (Nat.div j 2)) (Nat.beq (Nat.mod j 2) 0)) k

theorem byNat_eq {β : Type} (a : β) (b c : Nat → β) (k : Nat) : byNat a b c k = if k = 0 then a else if k % 2 = 1 then b (k / 2) else c (k / 2 - 1) := by
  unfold byNat
  cases k with
  | zero => rfl
  | succ j =>
    rw [if_neg (by omega)]
    show @Bool.rec (fun _ => β) (c (j / 2)) (b (j / 2)) (Nat.beq (j % 2) 0) = _
    by_cases h : j % 2 = 0
    · rw [if_pos (by omega), h, show (j + 1) / 2 = j / 2 by omega]; rfl
    · rw [if_neg (by omega), show j % 2 = 1 by omega, show (j + 1) / 2 - 1 = j / 2 by omega]; rfl

noncomputable def T.get {α : Type} (t : T α) : Nat → Option α :=
  @T.rec α (fun _ => Nat → Option α) (fun _ => none) (fun _ v _ ihl ihr k =>
    @Nat.rec (fun _ => Option α) v (fun j _ => @Bool.rec (fun _ => Option α) (ihr (Nat.div j 2)) (ihl (Nat.div j 2)) (Nat.beq (Nat.mod j 2) 0)) k) t

noncomputable def T.setF {α : Type} (x : Option α) (f : Nat) : T α → Nat → T α :=
  @Nat.rec (fun _ => T α → Nat → T α) (fun t _ => t) (fun _ ih t k =>
    @T.rec α (fun _ => T α)
      (@Nat.rec (fun _ => T α) (.node .leaf x .leaf) (fun j _ => @Bool.rec (fun _ => T α) (.node .leaf none (ih .leaf (Nat.div j 2))) (.node (ih .leaf (Nat.div j 2)) none .leaf) (Nat.beq (Nat.mod j 2) 0)) k)
      (fun l w r _ _ => @Nat.rec (fun _ => T α) (.node l x r) (fun j _ => @Bool.rec (fun _ => T α) (.node l w (ih r (Nat.div j 2))) (.node (ih l (Nat.div j 2)) w r) (Nat.beq (Nat.mod j 2) 0)) k) t) f

def big : Nat := 1099511627776
noncomputable def T.set {α : Type} (t : T α) (k : Nat) (v : Option α) : T α := T.setF v (Nat.succ k) t k

theorem T.get_leaf {α : Type} (k : Nat) : (T.leaf : T α).get k = none := rfl
theorem T.get_node {α : Type} (l : T α) (v : Option α) (r : T α) (k : Nat) : (T.node l v r).get k = if k = 0 then v else if k % 2 = 1 then l.get (k / 2) else r.get (k / 2 - 1) :=
  byNat_eq v l.get r.get k

theorem T.setF_succ {α : Type} (f : Nat) (t : T α) (k : Nat) (v : Option α) : T.setF v (f + 1) t k = match t with
    | .leaf => if k = 0 then .node .leaf v .leaf else if k % 2 = 1 then .node (T.setF v f .leaf (k / 2)) none .leaf else .node .leaf none (T.setF v f .leaf (k / 2 - 1))
    | .node l w r => if k = 0 then .node l v r else if k % 2 = 1 then .node (T.setF v f l (k / 2)) w r else .node l w (T.setF v f r (k / 2 - 1)) := by
  cases t with
  | leaf => exact byNat_eq (β := T α) (.node .leaf v .leaf) (fun j => .node (T.setF v f .leaf j) none .leaf) (fun j => .node .leaf none (T.setF v f .leaf j)) k
  | node l w r => exact byNat_eq (β := T α) (.node l v r) (fun j => .node (T.setF v f l j) w r) (fun j => .node l w (T.setF v f r j)) k

theorem T.get_setF {α : Type} : ∀ (f : Nat) (t : T α) (k : Nat) (v : Option α) (j : Nat), k + 1 < 2 ^ f → (T.setF v f t k).get j = if j = k then v else t.get j
  | 0, t, k, v, j, h => by simp at h
  | f + 1, t, k, v, j, h => by
    have hp : 2 ^ (f + 1) = 2 * 2 ^ f := by rw [Nat.pow_succ]; omega
    rw [T.setF_succ]
    cases t with
    | leaf =>
      simp only
      by_cases h0 : k = 0
      · subst h0; rw [if_pos rfl, T.get_node]
        by_cases hj : j = 0
        · simp [hj]
        · simp [hj, T.get_leaf]
      · rw [if_neg h0]
        by_cases h1 : k % 2 = 1
        · rw [if_pos h1, T.get_node]
          have ih := T.get_setF f .leaf (k / 2) v
          by_cases hj : j = 0
          · subst hj; rw [if_pos rfl, if_neg (by omega), T.get_leaf]
          · rw [if_neg hj]
            by_cases hj1 : j % 2 = 1
            · rw [if_pos hj1, ih _ (by omega)]
              by_cases e : j = k
              · subst e; simp
              · rw [if_neg (by omega), if_neg e]; rfl
            · rw [if_neg hj1, if_neg (by omega), T.get_leaf, T.get_leaf]
        · rw [if_neg h1, T.get_node]
          have ih := T.get_setF f .leaf (k / 2 - 1) v
          by_cases hj : j = 0
          · subst hj; rw [if_pos rfl, if_neg (by omega), T.get_leaf]
          · rw [if_neg hj]
            by_cases hj1 : j % 2 = 1
            · rw [if_pos hj1, if_neg (by omega), T.get_leaf, T.get_leaf]
            · rw [if_neg hj1, ih _ (by omega)]
              by_cases e : j = k
              · subst e; simp
              · rw [if_neg (by omega), if_neg e]; rfl
    | node l w r =>
      simp only
      rw [T.get_node l w r]
      by_cases h0 : k = 0
      · subst h0; rw [if_pos rfl, T.get_node]
        by_cases hj : j = 0
        · simp [hj]
        · simp [hj]
      · rw [if_neg h0]
        by_cases h1 : k % 2 = 1
        · rw [if_pos h1, T.get_node]
          have ih := T.get_setF f l (k / 2) v
          by_cases hj : j = 0
          · subst hj; rw [if_pos rfl, if_neg (by omega), if_pos rfl]
          · rw [if_neg hj, if_neg hj]
            by_cases hj1 : j % 2 = 1
            · rw [if_pos hj1, if_pos hj1, ih _ (by omega)]
              by_cases e : j = k
              · subst e; simp
              · rw [if_neg (by omega), if_neg e]
            · rw [if_neg hj1, if_neg hj1, if_neg (by omega)]
        · rw [if_neg h1, T.get_node]
          have ih := T.get_setF f r (k / 2 - 1) v
          by_cases hj : j = 0
          · subst hj; rw [if_pos rfl, if_neg (by omega), if_pos rfl]
          · rw [if_neg hj, if_neg hj]
            by_cases hj1 : j % 2 = 1
            · rw [if_pos hj1, if_pos hj1, if_neg (by omega)]
            · rw [if_neg hj1, if_neg hj1, ih _ (by omega)]
              by_cases e : j = k
              · subst e; simp
              · rw [if_neg (by omega), if_neg e]

theorem T.get_set {α : Type} (t : T α) (k : Nat) (v : Option α) (j : Nat) : (t.set k v).get j = if j = k then v else t.get j :=
  T.get_setF (k + 1) t k v j Nat.lt_two_pow_self

theorem T.set_fn {α : Type} (t : T α) (k : Nat) (v : Option α) : (t.set k v).get = upd t.get k v := by
  funext j; rw [T.get_set t k v j]; rfl

theorem blt_iff {a b : Nat} : Nat.blt a b = true ↔ a < b := by simp only [Nat.blt, Nat.ble_eq]; exact Iff.rfl


end Go.Proofs.Ae

/- A language of ghost heaps over the machine's memory: immutable memory, owned memory, the frame; symbolic values and what they stand for. -/
namespace Go.Proofs.Ae
open Go
set_option linter.unusedSectionVars false

abbrev PH := Nat → Option Obj
namespace PH
def le (A B : PH) : Prop := ∀ b o, A b = some o → B b = some o
def disj (A B : PH) : Prop := ∀ b, A b = none ∨ B b = none
def emp : PH := fun _ => none
def one (b : Nat) (o : Obj) : PH := fun c => if c = b then some o else none
def un (A B : PH) : PH := fun b => match A b with | some o => some o | none => B b
theorem le_refl (A : PH) : le A A := fun _ _ h => h
theorem le_trans {A B C : PH} (h : le A B) (g : le B C) : le A C := fun b o e => g b o (h b o e)
theorem disj_symm {A B : PH} (h : disj A B) : disj B A := fun b => (h b).symm
theorem un_disj {A B C : PH} : disj (un A B) C ↔ disj A C ∧ disj B C := by
  constructor
  · intro h
    refine ⟨fun b => ?_, fun b => ?_⟩
    · rcases h b with h | h
      · unfold un at h; cases hA : A b with
        | none => exact .inl rfl
        | some o => rw [hA] at h; cases h
      · exact .inr h
    · rcases h b with h | h
      · unfold un at h; cases hA : A b with
        | none => rw [hA] at h; exact .inl h
        | some o => rw [hA] at h; cases h
      · exact .inr h
  · rintro ⟨h1, h2⟩ b
    rcases h1 b with h | h
    · rcases h2 b with g | g
      · left; unfold un; rw [h]; exact g
      · exact .inr g
    · exact .inr h
theorem disj_un {A B C : PH} : disj C (un A B) ↔ disj C A ∧ disj C B :=
  ⟨fun h => ⟨disj_symm (un_disj.1 (disj_symm h)).1, disj_symm (un_disj.1 (disj_symm h)).2⟩, fun h => disj_symm (un_disj.2 ⟨disj_symm h.1, disj_symm h.2⟩)⟩
end PH

/-- Data in immutable memory. -/
inductive D where
  | v (x : Value)
  | lst (rows : List (List D))

def cellM (M : PH) (b o : Nat) : Option Value :=
  match M b with
  | some (.cells c _ _) => c[o]?
  | _ => none

theorem cellM_mono {M M' : PH} (h : PH.le M M') {b o : Nat} {v : Value} (e : cellM M b o = some v) : cellM M' b o = some v := by
  unfold cellM at *
  cases hb : M b with
  | none => rw [hb] at e; cases e
  | some x => rw [hb] at e; rw [h b x hb]; exact e

/-- A value one cell large. -/
def one (v : Value) : Bool := match v with | .agg _ | .tuple _ => false | _ => true

inductive Rep (M : PH) : Value → D → Prop where
  | v (x : Value) (h : one x = true) : Rep M x (.v x)
  | lst (rows : List (List D)) (a : Option Addr) (len cap sz : Nat) (hl : rows.length = len) (hc : len ≤ cap)
      (hs : ∀ i, i < len → (rows.getD i []).length = sz) (f : Nat → Nat → Value)
      (ha : 0 < len → ∃ b o, a = some ⟨b, o, none⟩ ∧ ∀ i j, i < len → j < sz → cellM M b (o + i * sz + j) = some (f i j))
      (hr : ∀ i j, i < len → j < sz → Rep M (f i j) ((rows.getD i []).getD j (.lst []))) : Rep M (.slice a len cap) (.lst rows)

theorem Rep.mono {M M' : PH} (h : PH.le M M') {v : Value} {d : D} (r : Rep M v d) : Rep M' v d := by
  induction r with
  | v x hx => exact .v x hx
  | lst rows a len cap sz hl hc hs f ha hr ih =>
    refine .lst rows a len cap sz hl hc hs f (fun h0 => ?_) ih
    obtain ⟨b, o, e, hc⟩ := ha h0
    exact ⟨b, o, e, fun i j hi hj => cellM_mono h (hc i j hi hj)⟩

theorem Rep.one {M : PH} {v : Value} {d : D} (r : Rep M v d) : one v = true := by
  cases r with
  | v x hx => exact hx
  | lst => rfl

/-- Symbolic values. -/
inductive SV where
  | any
  | d (x : D)
  | agg (l : List SV)
  | tup (l : List SV)
  | nils
  | ptr (n off : Nat)
  | vw (n sz lo len : Nat)
  | vptr (n sz i j : Nat)
  | ept (rows : List (List D)) (i j : Nat)
  | fn (f : FuncId) (fst : List SV) (caps : List SV)
  | yld (n : Nat)

/-- What the names stand for. -/
abbrev En := Nat → Option Value
def En.le (e e' : En) : Prop := ∀ n v, e n = some v → e' n = some v
theorem En.le_refl (e : En) : e.le e := fun _ _ h => h
theorem En.le_trans {a b c : En} (h : a.le b) (g : b.le c) : a.le c := fun n v e => g n v (h n v e)

mutual
def Conc (env : En) (M : PH) : SV → Value → Prop
  | .any, _ => True
  | .d x, y => Rep M y x
  | .agg l, y => ∃ cs : List Value, y = .agg cs.toArray ∧ ConcL env M l cs
  | .tup l, y => ∃ cs : List Value, y = .tuple cs.toArray ∧ ConcL env M l cs
  | .nils, y => y = .slice none 0 0
  | .ptr n off, y => ∃ b, env n = some (.pointer (some ⟨b, 0, none⟩)) ∧ y = .pointer (some ⟨b, off, none⟩)
  | .vw n sz lo len, y => ∃ b o L c A, env n = some (.slice (some ⟨b, o, none⟩) L c) ∧ lo + len ≤ c ∧ (c ≠ lo → A = ⟨b, o + lo * sz, none⟩) ∧ y = .slice (some A) len (c - lo)
  | .vptr n sz i j, y => ∃ b o L c, env n = some (.slice (some ⟨b, o, none⟩) L c) ∧ y = .pointer (some ⟨b, o + i * sz + j, none⟩)
  | .ept rows i j, y => ∃ b o len cap sz, Rep M (.slice (some ⟨b, o, none⟩) len cap) (.lst rows) ∧ i < len ∧ (rows.getD i []).length = sz ∧ y = .pointer (some ⟨b, o + i * sz + j, none⟩)
  | .fn f fst caps, y => ∃ (fs cs : List Value), y = .func (.func f) fs.toArray cs.toArray ∧ ConcL env M fst fs ∧ ConcL env M caps cs
  | .yld n, y => ∃ l, env n = some (.pointer (some ⟨l, 0, none⟩)) ∧ y = .func (.yield l) #[] #[]
def ConcL (env : En) (M : PH) : List SV → List Value → Prop
  | [], [] => True
  | s :: ss, v :: vs => Conc env M s v ∧ ConcL env M ss vs
  | _, _ => False
end

mutual
theorem Conc.mono {env env' : En} {M M' : PH} (h : PH.le M M') (he : env.le env') : ∀ {s : SV} {v : Value}, Conc env M s v → Conc env' M' s v
  | .any, _, _ => by unfold Conc; trivial
  | .d x, y, c => by unfold Conc at *; exact c.mono h
  | .agg l, y, c => by unfold Conc at *; obtain ⟨cs, e, c⟩ := c; exact ⟨cs, e, ConcL.mono h he c⟩
  | .tup l, y, c => by unfold Conc at *; obtain ⟨cs, e, c⟩ := c; exact ⟨cs, e, ConcL.mono h he c⟩
  | .nils, y, c => by unfold Conc at *; exact c
  | .ptr n off, y, c => by unfold Conc at *; obtain ⟨b, e, c⟩ := c; exact ⟨b, he _ _ e, c⟩
  | .vw n sz lo len, y, c => by unfold Conc at *; obtain ⟨b, o, L, k, A, e, c⟩ := c; exact ⟨b, o, L, k, A, he _ _ e, c⟩
  | .vptr n sz i j, y, c => by unfold Conc at *; obtain ⟨b, o, L, k, e, c⟩ := c; exact ⟨b, o, L, k, he _ _ e, c⟩
  | .ept rows i j, y, c => by unfold Conc at *; obtain ⟨b, o, len, cap, sz, r, c⟩ := c; exact ⟨b, o, len, cap, sz, r.mono h, c⟩
  | .fn f fst caps, y, c => by unfold Conc at *; obtain ⟨fs, cs, e, c1, c2⟩ := c; exact ⟨fs, cs, e, ConcL.mono h he c1, ConcL.mono h he c2⟩
  | .yld n, y, c => by unfold Conc at *; obtain ⟨l, e, c⟩ := c; exact ⟨l, he _ _ e, c⟩
theorem ConcL.mono {env env' : En} {M M' : PH} (h : PH.le M M') (he : env.le env') : ∀ {ss : List SV} {vs : List Value}, ConcL env M ss vs → ConcL env' M' ss vs
  | [], [], _ => by unfold ConcL; trivial
  | s :: ss, v :: vs, c => by unfold ConcL at *; exact ⟨Conc.mono h he c.1, ConcL.mono h he c.2⟩
  | [], _ :: _, c => by unfold ConcL at c; exact c.elim
  | _ :: _, [], c => by unfold ConcL at c; exact c.elim
end

noncomputable def slots (t : T SV) : Nat → SV := fun k => @Option.rec SV (fun _ => SV) (.tup []) (fun s => s) (t.get k)
inductive Atom where
  | cells (vs : List SV) (T : TypeId)
  | vec (rows : List (List SV)) (sz : Nat) (E : TypeId)
  | mark
  | lp (st : Option Code) (tm : T SV) (nt : Nat) (ps : Array Tmp) (asg body : Code)

def blk : Value → Option Nat
  | .pointer (some a) => some a.block
  | .slice (some a) _ _ => some a.block
  | _ => none

def Atom.rep (env : En) (M : PH) (n : Nat) : Atom → Nat → Obj → Prop
  | .cells vs T, b, ob => ∃ cs : List Value, env n = some (.pointer (some ⟨b, 0, none⟩)) ∧ ConcL env M vs cs ∧ (∀ c ∈ cs, one c = true) ∧ ob = .cells cs.toArray T (0, 0)
  | .vec rows sz E, b, ob => ∃ (cs : List Value) (o c : Nat), env n = some (.slice (some ⟨b, o, none⟩) rows.length c) ∧ rows.length ≤ c ∧ o + c * sz ≤ cs.length ∧
      (∀ x ∈ cs, one x = true) ∧ (∀ i, i < rows.length → ∃ xs, ConcL env M (rows.getD i []) xs ∧ xs.length = sz ∧ ∀ k, k < sz → cs[o + i * sz + k]? = xs[k]?) ∧ ob = .cells cs.toArray E (0, 0)
  | .mark, b, ob => env n = some (.pointer (some ⟨b, 0, none⟩)) ∧ ob = .deferred (some [])
  | .lp st tm nt ps asg body, b, ob => ∃ r : Loop, env n = some (.pointer (some ⟨b, 0, none⟩)) ∧ r.tmps.size = nt ∧ (∀ t, Conc env M (slots tm t) (r.tmps.getD t undef)) ∧
      r.params = ps ∧ r.assign = asg ∧ r.body = body ∧ r.state = (if st.isNone then .ready else .done) ∧ r.pending = st ∧ ob = .loop r

theorem Atom.rep_blk {env : En} {M : PH} {n : Nat} {a : Atom} {b : Nat} {ob : Obj} (h : a.rep env M n b ob) : (env n).bind blk = some b := by
  cases a with
  | cells vs T => obtain ⟨cs, e, _⟩ := h; rw [e]; rfl
  | vec rows sz E => obtain ⟨cs, o, c, e, _⟩ := h; rw [e]; rfl
  | mark => obtain ⟨e, _⟩ := h; rw [e]; rfl
  | lp => obtain ⟨r, e, _⟩ := h; rw [e]; rfl

theorem Atom.rep_mono {env env' : En} {M M' : PH} (h : PH.le M M') (he : env.le env') {n : Nat} {a : Atom} {b : Nat} {ob : Obj} (r : a.rep env M n b ob) : a.rep env' M' n b ob := by
  cases a with
  | cells vs T => obtain ⟨cs, e, c, r⟩ := r; exact ⟨cs, he _ _ e, c.mono h he, r⟩
  | vec rows sz E =>
    obtain ⟨cs, o, c, e, h1, h2, h3, h4, h5⟩ := r
    exact ⟨cs, o, c, he _ _ e, h1, h2, h3, fun i hi => (h4 i hi).imp fun xs x => ⟨x.1.mono h he, x.2⟩, h5⟩
  | mark => obtain ⟨e, r⟩ := r; exact ⟨he _ _ e, r⟩
  | lp => obtain ⟨l, e, h1, h2, h3⟩ := r; exact ⟨l, he _ _ e, h1, fun t => (h2 t).mono h he, h3⟩

abbrev Look := Nat → Option Atom

/-! The package's variables that are read: strings.asciiSpace. -/
def g0 : D := .v (.int .u8 0)
def g1 : D := .v (.int .u8 1)
def gl0 : List D := [g0, g0, g0, g0, g0, g0, g0, g0, g0, g1, g1, g1, g1, g1, g0, g0, g0, g0, g0, g0, g0, g0, g0, g0, g0, g0, g0, g0, g0, g0, g0, g0, g1, g0, g0, g0, g0, g0, g0, g0, g0, g0, g0, g0, g0, g0, g0, g0, g0, g0, g0, g0, g0, g0, g0, g0, g0, g0, g0, g0, g0, g0, g0, g0, g0, g0, g0, g0, g0, g0, g0, g0, g0, g0, g0, g0, g0, g0, g0, g0, g0, g0, g0, g0, g0, g0, g0, g0, g0, g0, g0, g0, g0, g0, g0, g0, g0, g0, g0, g0, g0, g0, g0, g0, g0, g0, g0, g0, g0, g0, g0, g0, g0, g0, g0, g0, g0, g0, g0, g0, g0, g0, g0, g0, g0, g0, g0, g0, g0, g0, g0, g0, g0, g0, g0, g0, g0, g0, g0, g0, g0, g0, g0, g0, g0, g0, g0, g0, g0, g0, g0, g0, g0, g0, g0, g0, g0, g0, g0, g0, g0, g0, g0, g0, g0, g0, g0, g0, g0, g0, g0, g0, g0, g0, g0, g0, g0, g0, g0, g0, g0, g0, g0, g0, g0, g0, g0, g0, g0, g0, g0, g0, g0, g0, g0, g0, g0, g0, g0, g0, g0, g0, g0, g0, g0, g0, g0, g0, g0, g0, g0, g0, g0, g0, g0, g0, g0, g0, g0, g0, g0, g0, g0, g0, g0, g0, g0, g0, g0, g0, g0, g0, g0, g0, g0, g0, g0, g0, g0, g0, g0, g0, g0, g0, g0, g0, g0, g0, g0, g0, g0, g0, g0, g0, g0, g0]
def glob (g : Nat) : Option (List D) := @Nat.rec (fun _ => Option (List D)) (some gl0) (fun _ _ => none) g

/-- The package's variables lie in the immutable part. -/
def GlOk (M : PH) : Prop := ∀ g row, glob g = some row → Rep M (.slice (some ⟨g, 0, none⟩) 1 1) (.lst [row])

/-- What of the world outside is as it was at first. -/
class Io where
  os : Os
  out : Array (Nat × ByteArray)
variable [Io]

/-- The world holds the immutable part M, each atom in a block of its own, and the frame F: all apart. -/
structure Hp (env : En) (M F : PH) (lk : Look) (w : World) : Prop where
  atoms : ∀ n a, lk n = some a → ∃ b ob, a.rep env M n b ob ∧ w.heap[b]? = some ob ∧ M b = none ∧ F b = none
  inj : ∀ n m a a' b, lk n = some a → lk m = some a' → (env n).bind blk = some b → (env m).bind blk = some b → n = m
  hM : PH.le M (fun b => w.heap[b]?)
  hF : PH.le F (fun b => w.heap[b]?)
  dMF : PH.disj M F
  gl : GlOk M
  io : w.os = Io.os ∧ w.output = Io.out

/-- The frame's slots and the memory stand for what the symbolic state says. -/
def MarksOk (env : En) : List Nat → List Deferred → Prop
  | [], [] => True
  | n :: ns, d :: ds => (∃ r, env n = some (.pointer (some ⟨r, 0, none⟩)) ∧ d = { target := .collected r, args := #[] }) ∧ MarksOk env ns ds
  | _, _ => False

theorem MarksOk.mono {env env' : En} (h : env.le env') : ∀ {ns : List Nat} {ds : List Deferred}, MarksOk env ns ds → MarksOk env' ns ds
  | [], [], _ => trivial
  | _ :: _, _ :: _, ⟨⟨r, h1, h2⟩, h3⟩ => ⟨⟨r, h _ _ h1, h2⟩, h3.mono h⟩
  | [], _ :: _, h => h.elim
  | _ :: _, [], h => h.elim

structure Mod (env : En) (M F : PH) (df : List Nat) (nt : Nat) (tm : Nat → SV) (lk : Look) (a : Act) (w : World) : Prop where
  size : a.tmps.size = nt
  defers : MarksOk env df a.defers
  tmps : ∀ t, Conc env M (tm t) (a.tmps.getD t undef)
  hp : Hp env M F lk w


theorem conc_any (env : En) (M : PH) (v : Value) : Conc env M .any v := by unfold Conc; trivial

theorem ConcL.length {env : En} {M : PH} : ∀ {ss : List SV} {vs : List Value}, ConcL env M ss vs → ss.length = vs.length
  | [], [], _ => rfl
  | s :: ss, v :: vs, c => by unfold ConcL at c; simp [c.2.length]
  | [], _ :: _, c => by unfold ConcL at c; exact c.elim
  | _ :: _, [], c => by unfold ConcL at c; exact c.elim

theorem ConcL.get {env : En} {M : PH} : ∀ {ss : List SV} {vs : List Value}, ConcL env M ss vs → ∀ {i : Nat} {s : SV}, ss[i]? = some s → ∃ v, vs[i]? = some v ∧ Conc env M s v
  | [], [], _, _, _, h => by simp at h
  | s :: ss, v :: vs, c, i, x, h => by
    unfold ConcL at c
    cases i with
    | zero => simp at h; subst h; exact ⟨v, rfl, c.1⟩
    | succ i => simp at h; obtain ⟨y, hy, hc⟩ := c.2.get h; exact ⟨y, by simpa using hy, hc⟩
  | [], _ :: _, c, _, _, _ => by unfold ConcL at c; exact c.elim
  | _ :: _, [], c, _, _, _ => by unfold ConcL at c; exact c.elim

theorem ConcL.drop {env : En} {M : PH} : ∀ {ss : List SV} {vs : List Value} (k : Nat), ConcL env M ss vs → ConcL env M (ss.drop k) (vs.drop k)
  | ss, vs, 0, c => by simpa using c
  | [], [], k + 1, c => by simpa using c
  | s :: ss, v :: vs, k + 1, c => by unfold ConcL at c; simpa using c.2.drop k
  | [], _ :: _, _ + 1, c => by unfold ConcL at c; exact c.elim
  | _ :: _, [], _ + 1, c => by unfold ConcL at c; exact c.elim

theorem ConcL.take {env : En} {M : PH} : ∀ {ss : List SV} {vs : List Value} (k : Nat), ConcL env M ss vs → ConcL env M (ss.take k) (vs.take k)
  | ss, vs, 0, _ => by simp [ConcL]
  | [], [], k + 1, c => by simpa using c
  | s :: ss, v :: vs, k + 1, c => by unfold ConcL at c; simp only [List.take_succ_cons]; unfold ConcL; exact ⟨c.1, c.2.take k⟩
  | [], _ :: _, _ + 1, c => by unfold ConcL at c; exact c.elim
  | _ :: _, [], _ + 1, c => by unfold ConcL at c; exact c.elim

theorem ConcL.append {env : En} {M : PH} : ∀ {ss ss' : List SV} {vs vs' : List Value}, ConcL env M ss vs → ConcL env M ss' vs' → ConcL env M (ss ++ ss') (vs ++ vs')
  | [], _, [], _, _, c => by simpa using c
  | s :: ss, _, v :: vs, _, c, c' => by unfold ConcL at c; simp only [List.cons_append]; unfold ConcL; exact ⟨c.1, c.2.append c'⟩
  | [], _, _ :: _, _, c, _ => by unfold ConcL at c; exact c.elim
  | _ :: _, _, [], _, c, _ => by unfold ConcL at c; exact c.elim

theorem ConcL.single {env : En} {M : PH} {s : SV} {v : Value} (c : Conc env M s v) : ConcL env M [s] [v] := by unfold ConcL; exact ⟨c, by unfold ConcL; trivial⟩

theorem ConcL.map_any {env : En} {M : PH} : ∀ (vs : List Value), ConcL env M (vs.map fun _ => SV.any) vs
  | [] => by simp [ConcL]
  | v :: vs => by simp only [List.map_cons]; unfold ConcL; exact ⟨conc_any _ _ _, ConcL.map_any vs⟩

end Go.Proofs.Ae

/- The machine's memory operations, said of blocks of cells. -/
namespace Go.Proofs.Ae
open Go
set_option linter.unusedSectionVars false
variable [Io]

def wput (w : World) (b : Nat) (ob : Obj) : World := { w with heap := w.heap.setIfInBounds b ob }

theorem heap_wput {w : World} {b : Nat} {ob o : Obj} (h : w.heap[b]? = some o) (c : Nat) : (wput w b ob).heap[c]? = if c = b then some ob else w.heap[c]? := by
  have hb : b < w.heap.size := (Array.getElem?_eq_some_iff.1 h).1
  unfold wput
  by_cases e : c = b
  · subst e; simp [hb]
  · simp [e, Array.getElem?_setIfInBounds_ne (Ne.symm e)]

theorem heap_alloc {w : World} {ob : Obj} (c : Nat) : (w.alloc ob).heap[c]? = if c = w.heap.size then some ob else w.heap[c]? := by
  unfold World.alloc
  simp only [Array.getElem?_push]

theorem alloc_lt {w : World} {ob o : Obj} {c : Nat} (h : w.heap[c]? = some o) : (w.alloc ob).heap[c]? = some o := by
  rw [heap_alloc, if_neg (by have := (Array.getElem?_eq_some_iff.1 h).1; omega), h]

theorem addr_add (b o k : Nat) : (Addr.add ⟨b, o, none⟩ k) = ⟨b, o + k, none⟩ := by
  unfold Addr.add; split
  · subst_vars; rfl
  · rfl

theorem cell_of {w : World} {b : Nat} {cs : List Value} {T : TypeId} {fz : Nat × Nat} (h : w.heap[b]? = some (.cells cs.toArray T fz)) (k : Nat) :
    w.cell? ⟨b, k, none⟩ = cs[k]? := by
  unfold World.cell?; rw [h]; simp

theorem run_loadCellsFrom (P : Program) (w : World) (b o : Nat) : ∀ (l : List Value) (i : Nat) (acc : Array Value), (∀ k x, l[k]? = some x → w.cell? ⟨b, o + (i + k), none⟩ = some x) →
    (loadCellsFrom ⟨b, o, none⟩ i l.length acc).run P w = .ok (acc ++ l.toArray) w
  | [], i, acc, _ => by simp [loadCellsFrom]
  | x :: l, i, acc, h => by
    have h0 := h 0 x rfl
    have := run_loadCellsFrom P w b o l (i + 1) (acc.push x) (fun k y hy => by have := h (k + 1) y (by simpa using hy); rw [← this]; congr 2; omega)
    simp only [List.length_cons, loadCellsFrom, Sem.run_bind, addr_add, run_load]
    simp only [Nat.add_zero] at h0
    rw [h0]
    simp only [Result.andThen_ok]
    rw [this]; simp

theorem run_loadCells (P : Program) (w : World) (b o n : Nat) (l : List Value) (hl : l.length = n) (h : ∀ k x, l[k]? = some x → w.cell? ⟨b, o + k, none⟩ = some x) :
    (loadCells ⟨b, o, none⟩ n).run P w = .ok l.toArray w := by
  unfold loadCells
  rw [← hl, run_loadCellsFrom P w b o l 0 #[] (by simpa using h)]; simp

def putL (cs : List Value) (k : Nat) (vs : List Value) : List Value := cs.take k ++ vs ++ cs.drop (k + vs.length)

theorem set_cells {w : World} {b : Nat} {cs : List Value} {T : TypeId} {fz : Nat × Nat} (h : w.heap[b]? = some (.cells cs.toArray T fz)) (k : Nat) (v : Value) :
    w.setCell ⟨b, k, none⟩ v = wput w b (.cells (cs.set k v).toArray T fz) := by
  have hb : b < w.heap.size := (Array.getElem?_eq_some_iff.1 h).1
  have he : w.heap[b] = .cells cs.toArray T fz := (Array.getElem?_eq_some_iff.1 h).2
  unfold World.setCell wput
  congr 1
  apply Array.ext_getElem?
  intro i
  rw [Array.getElem?_modify, Array.getElem?_setIfInBounds]
  by_cases e : b = i
  · subst e; simp [hb, he]
  · simp [e]

theorem putL_set (cs : List Value) (k : Nat) (v : Value) (vs : List Value) (h : k < cs.length) : putL (cs.set k v) (k + 1) vs = putL cs k (v :: vs) := by
  unfold putL
  rw [List.take_set, List.drop_set_of_lt (by omega)]
  rw [List.take_succ_eq_append_getElem h]
  have h1 : (List.take k cs).length = k := by simp; omega
  rw [List.set_append_right _ _ (by omega), h1]
  simp [Nat.add_comm, Nat.add_left_comm]

theorem wput_wput (w : World) (b : Nat) (o o' : Obj) : wput (wput w b o) b o' = wput w b o' := by
  unfold wput; simp

theorem run_storeCells (P : Program) (b o : Nat) (T : TypeId) : ∀ (vs : List Value) (cs : List Value) (w : World) (i : Nat), w.heap[b]? = some (.cells cs.toArray T (0, 0)) → (∀ x ∈ vs, one x = true) → o + i + vs.length ≤ cs.length →
    (storeCells ⟨b, o, none⟩ vs i).run P w = .ok () (wput w b (.cells (putL cs (o + i) vs).toArray T (0, 0)))
  | [], cs, w, i, h, _, _ => by
    simp only [storeCells, Sem.run_pure]
    congr 1
    have : putL cs (o + i) [] = cs := by simp [putL]
    rw [this]
    have hb : b < w.heap.size := (Array.getElem?_eq_some_iff.1 h).1
    have he : w.heap[b] = .cells cs.toArray T (0, 0) := (Array.getElem?_eq_some_iff.1 h).2
    unfold wput
    rw [← he]
    rw [show w.heap.setIfInBounds b w.heap[b] = w.heap from by
      apply Array.ext_getElem?
      intro i
      rw [Array.getElem?_setIfInBounds]
      by_cases e : b = i
      · subst e; simp [hb]
      · simp [e]]
  | v :: vs, cs, w, i, h, h1, hlen => by
    simp only [List.length_cons] at hlen
    have hk : o + i < cs.length := by omega
    have hc : w.cell? ⟨b, o + i, none⟩ = some cs[o + i] := by rw [cell_of h]; simp [hk]
    have hf : w.frozen? ⟨b, o + i, none⟩ = false := by unfold World.frozen?; rw [h]; simp
    have hv : v.oneCell' = true := by
      have := h1 v (by simp)
      cases v <;> simp_all [one, Value.oneCell']
    have ih := run_storeCells P b o T vs (cs.set (o + i) v) (w.setCell ⟨b, o + i, none⟩ v) (i + 1)
      (by rw [set_cells h, heap_wput h]; simp) (fun x hx => h1 x (by simp [hx])) (by simp; omega)
    simp only [storeCells, Sem.run_bind, addr_add]
    rw [run_store P w _ v .plain hv]
    simp only [hc, hf]
    simp only [Bool.false_eq_true, if_false, Result.andThen_ok]
    rw [ih, set_cells h, wput_wput, ← Nat.add_assoc, putL_set _ _ _ _ hk]

/-! What the atoms' blocks hold. -/
section
variable {env : En} {M F : PH} {lk : Look} {w : World}

theorem Hp.cells (h : Hp env M F lk w) {n : Nat} {vs : List SV} {T : TypeId} (hn : lk n = some (.cells vs T)) :
    ∃ b cs, env n = some (.pointer (some ⟨b, 0, none⟩)) ∧ ConcL env M vs cs ∧ (∀ c ∈ cs, one c = true) ∧ w.heap[b]? = some (.cells cs.toArray T (0, 0)) := by
  obtain ⟨b, ob, ⟨cs, e, c, h1, rfl⟩, hw, _⟩ := h.atoms n _ hn
  exact ⟨b, cs, e, c, h1, hw⟩

/-- One atom's block gets new contents. -/
theorem Hp.put (h : Hp env M F lk w) {n : Nat} {a a' : Atom} {b : Nat} {ob : Obj} (hn : lk n = some a) (hb : (env n).bind blk = some b) (hr : a'.rep env M n b ob) :
    Hp env M F (upd lk n (some a')) (wput w b ob) := by
  obtain ⟨b0, ob0, r0, hw0, hM0, hF0⟩ := h.atoms n a hn
  have e0 : b0 = b := by have := (Atom.rep_blk r0); rw [hb] at this; exact (Option.some.inj this).symm
  subst e0
  refine ⟨fun m x hm => ?_, fun m k x y c hm hk h1 h2 => ?_, fun c o hc => ?_, fun c o hc => ?_, h.dMF, h.gl, h.io⟩
  · unfold upd at hm
    split at hm
    · subst_vars
      injection hm with hm; subst hm
      exact ⟨b0, ob, hr, by rw [heap_wput hw0, if_pos rfl], hM0, hF0⟩
    · rename_i hne
      obtain ⟨c, oc, rc, hc, hMc, hFc⟩ := h.atoms m x hm
      refine ⟨c, oc, rc, ?_, hMc, hFc⟩
      rw [heap_wput hw0, if_neg, hc]
      intro e
      exact hne (h.inj m n x a b0 hm hn (by rw [(Atom.rep_blk rc), e]) hb)
  · have hm' : ∃ z, lk m = some z := by unfold upd at hm; split at hm; exact ⟨a, by subst_vars; exact hn⟩; exact ⟨x, hm⟩
    have hk' : ∃ z, lk k = some z := by unfold upd at hk; split at hk; exact ⟨a, by subst_vars; exact hn⟩; exact ⟨y, hk⟩
    obtain ⟨z, hz⟩ := hm'; obtain ⟨z', hz'⟩ := hk'
    exact h.inj m k z z' c hz hz' h1 h2
  · have := h.hM c o hc
    have hne : c ≠ b0 := fun e => by rw [e, hM0] at hc; cases hc
    simp only [heap_wput hw0, if_neg hne]; exact this
  · have := h.hF c o hc
    have hne : c ≠ b0 := fun e => by rw [e, hF0] at hc; cases hc
    simp only [heap_wput hw0, if_neg hne]; exact this

/-- A new block, a new name. -/
theorem Hp.alloc (h : Hp env M F lk w) {n : Nat} {v : Value} {a : Atom} {ob : Obj} (hn : env n = none) (hv : blk v = some w.heap.size)
    (hr : a.rep (upd env n (some v)) M n w.heap.size ob) :
    env.le (upd env n (some v)) ∧ Hp (upd env n (some v)) M F (upd lk n (some a)) (w.alloc ob) := by
  have hle : env.le (upd env n (some v)) := fun m x hm => by
    unfold upd; split
    · subst_vars; rw [hn] at hm; cases hm
    · exact hm
  have hnone : lk n = none := by
    cases e : lk n with
    | none => rfl
    | some x => obtain ⟨b, o, r, _⟩ := h.atoms n x e; have := (Atom.rep_blk r); rw [hn] at this; cases this
  have fresh : ∀ b o, w.heap[b]? = some o → b ≠ w.heap.size := fun b o e => by have := (Array.getElem?_eq_some_iff.1 e).1; omega
  have hMs : M w.heap.size = none := by
    cases e : M w.heap.size with
    | none => rfl
    | some o => exact absurd rfl (fresh _ _ (h.hM _ _ e))
  have hFs : F w.heap.size = none := by
    cases e : F w.heap.size with
    | none => rfl
    | some o => exact absurd rfl (fresh _ _ (h.hF _ _ e))
  have old : ∀ m x b, lk m = some x → ((upd env n (some v)) m).bind blk = some b → (env m).bind blk = some b ∧ b ≠ w.heap.size := by
    intro m x b hm hb
    obtain ⟨c, oc, rc, hc, _⟩ := h.atoms m x hm
    have hmn : m ≠ n := fun e => by rw [e, hnone] at hm; cases hm
    have : (upd env n (some v)) m = env m := by unfold upd; rw [if_neg hmn]
    rw [this] at hb
    refine ⟨hb, ?_⟩
    have e := (Atom.rep_blk rc); rw [hb] at e; injection e with e
    rw [e]; exact fresh _ _ hc
  refine ⟨hle, fun m x hm => ?_, fun m k x y c hm hk h1 h2 => ?_, fun c o hc => alloc_lt (h.hM c o hc), fun c o hc => alloc_lt (h.hF c o hc), h.dMF, h.gl, h.io⟩
  · unfold upd at hm
    split at hm
    · subst_vars; injection hm with hm; subst hm
      exact ⟨_, ob, hr, by rw [heap_alloc, if_pos rfl], hMs, hFs⟩
    · obtain ⟨c, oc, rc, hc, hx⟩ := h.atoms m x hm
      exact ⟨c, oc, Atom.rep_mono (PH.le_refl M) hle rc, alloc_lt hc, hx⟩
  · have hnn : (upd env n (some v)) n = some v := by unfold upd; rw [if_pos rfl]
    have en : ((upd env n (some v)) n).bind blk = some w.heap.size := by rw [hnn]; exact hv
    unfold upd at hm hk
    split at hm
    · subst_vars
      split at hk
      · subst_vars; rfl
      · obtain ⟨_, hne⟩ := old k y c hk h2
        rw [en] at h1; injection h1 with h1
        exact absurd h1.symm hne
    · split at hk
      · subst_vars
        obtain ⟨_, hne⟩ := old m x c hm h1
        rw [en] at h2; injection h2 with h2
        exact absurd h2.symm hne
      · obtain ⟨h1', _⟩ := old m x c hm h1
        obtain ⟨h2', _⟩ := old k y c hk h2
        exact h.inj m k x y c hm hk h1' h2'

/-- An atom may be forgotten. -/
theorem Hp.drop (h : Hp env M F lk w) {lk' : Look} (hd : ∀ n a, lk' n = some a → lk n = some a) : Hp env M F lk' w :=
  ⟨fun n a hn => h.atoms n a (hd n a hn), fun n m a a' b hn hm => h.inj n m a a' b (hd n a hn) (hd m a' hm), h.hM, h.hF, h.dMF, h.gl, h.io⟩

/-- A world that differs in nothing but the heap's own equal. -/
theorem Hp.of_heap (h : Hp env M F lk w) {w' : World} (e : w'.heap = w.heap) (eo : w'.os = w.os ∧ w'.output = w.output) : Hp env M F lk w' :=
  ⟨fun n a hn => by rw [e]; exact h.atoms n a hn, h.inj, by rw [e]; exact h.hM, by rw [e]; exact h.hF, h.dMF, h.gl, by rw [eo.1, eo.2]; exact h.io⟩
end

end Go.Proofs.Ae

/- What the symbolic operations are: types, operands, loads and stores. -/
namespace Go.Proofs.Ae
open Go
set_option linter.unusedSectionVars false
variable [Io]

structure TD where
  desc : TypeDesc
  size : Nat
  bytes : Nat
  zero : List Value
  flds : List (Nat × Nat) := []

def isAggD : TypeDesc → Bool
  | .struct _ => true
  | .array _ _ => true
  | _ => false

structure TdOk (P : Program) (t : TypeId) (d : TD) : Prop where
  und : P.underlying t = some d.desc
  info : ∃ i, P.info? t = some i ∧ i.size = d.size ∧ i.bytes = d.bytes ∧ ∃ z, i.zero = some z ∧ z.cells = d.zero.toArray
  zlen : d.zero.length = d.size
  zone : ∀ x ∈ d.zero, one x = true
  flat : isAggD d.desc = false → d.size = 1
  flds : ∀ fs, d.desc = .struct fs → fs.toList.mapM (fun f => (P.info? f.type).map fun i => (f.offset, i.size)) = some d.flds

abbrev Tab := TypeId → Option TD
def TabOk (P : Program) (tt : Tab) : Prop := ∀ t d, tt t = some d → TdOk P t d

section
variable {P : Program} {t : TypeId} {d : TD} {w : World}
theorem run_und (h : TdOk P t d) : (underlying t).run P w = .ok d.desc w := by
  simp [underlying, h.und]
theorem run_size (h : TdOk P t d) : (sizeOf t).run P w = .ok d.size w := by
  obtain ⟨i, hi, hs, _⟩ := h.info
  simp [sizeOf, typeInfo, hi, hs]
theorem run_info (h : TdOk P t d) : ∃ i, (typeInfo t).run P w = .ok i w ∧ i.bytes = d.bytes := by
  obtain ⟨i, hi, hs, hb, _⟩ := h.info
  exact ⟨i, by simp [typeInfo, hi], hb⟩
theorem run_zero (h : TdOk P t d) : ∃ z, (zeroValue t).run P w = .ok z w ∧ z.cells = d.zero.toArray := by
  obtain ⟨i, hi, _, _, z, hz, hc⟩ := h.info
  exact ⟨z, by simp [zeroValue, typeInfo, hi, hz], hc⟩
theorem run_agg (h : TdOk P t d) : (isAgg t).run P w = .ok (isAggD d.desc) w := by
  simp only [isAgg, Sem.run_bind, run_und h, Result.andThen_ok]
  cases d.desc <;> rfl
end

/-! Constants. -/
def ofCell (x : Value) : SV := match x with
  | .slice none 0 0 => .nils
  | .agg _ => .any
  | .tuple _ => .any
  | x => .d (.v x)
def ofVal (x : Value) : SV := match x with
  | .agg cs => .agg (cs.toList.map ofCell)
  | x => ofCell x
theorem conc_ofCell (env : En) (M : PH) (x : Value) : Conc env M (ofCell x) x := by
  unfold ofCell
  split
  · unfold Conc; rfl
  · exact conc_any _ _ _
  · exact conc_any _ _ _
  · rename_i h1 h2 h3
    unfold Conc
    refine .v x ?_
    cases x <;> first | rfl | (exact absurd rfl (h2 _)) | (exact absurd rfl (h3 _))
theorem concL_ofCell (env : En) (M : PH) : ∀ xs : List Value, ConcL env M (xs.map ofCell) xs
  | [] => by simp [ConcL]
  | x :: xs => by simp only [List.map_cons]; unfold ConcL; exact ⟨conc_ofCell _ _ _, concL_ofCell env M xs⟩
theorem conc_ofVal (env : En) (M : PH) (x : Value) : Conc env M (ofVal x) x := by
  unfold ofVal
  split
  · rename_i cs
    unfold Conc
    exact ⟨cs.toList, by simp, concL_ofCell _ _ _⟩
  · exact conc_ofCell _ _ _

def ev (tm : Nat → SV) : Operand → SV
  | .tmp t => tm t
  | .const v => ofVal v
  | .global g => match glob g with
    | some row => .ept [row] 0 0
    | none => .any
  | .func f => .fn f [] []

theorem conc_ev {env : En} {M : PH} {tm : Nat → SV} {a : Act} (hG : GlOk M) (h : ∀ t, Conc env M (tm t) (a.tmps.getD t undef)) (x : Operand) : Conc env M (ev tm x) (a.eval x) := by
  cases x with
  | tmp t => exact h t
  | const v => exact conc_ofVal _ _ _
  | global g =>
    show Conc env M (match glob g with | some row => .ept [row] 0 0 | none => .any) _
    split
    · rename_i row hrow
      unfold Conc
      exact ⟨g, 0, 1, 1, row.length, hG g row hrow, by omega, rfl, by simp [Act.eval]⟩
    · exact conc_any _ _ _
  | func f => unfold ev Conc Act.eval; exact ⟨[], [], rfl, by simp [ConcL], by simp [ConcL]⟩

/-- The cells of a value. -/
def SV.cells : SV → Option (List SV)
  | .agg l => some l
  | .any => none
  | .tup _ => none
  | s => some [s]

theorem conc_one {env : En} {M : PH} {s : SV} {v : Value} (h : Conc env M s v) (hs : s.cells = some [s]) : one v = true := by
  cases s <;> simp [SV.cells] at hs
  case agg l => have := congrArg SizeOf.sizeOf hs; simp at this; omega
  case d x => unfold Conc at h; exact h.one
  case nils => unfold Conc at h; subst h; rfl
  case ptr => unfold Conc at h; obtain ⟨b, _, e⟩ := h; subst e; rfl
  case vw => unfold Conc at h; obtain ⟨b, o, L, c, A, _, _, _, e⟩ := h; subst e; rfl
  case vptr => unfold Conc at h; obtain ⟨b, o, L, c, _, e⟩ := h; subst e; rfl
  case ept => unfold Conc at h; obtain ⟨b, o, L, c, z, _, _, _, e⟩ := h; subst e; rfl
  case fn => unfold Conc at h; obtain ⟨fs, cs, e, _⟩ := h; subst e; rfl
  case yld => unfold Conc at h; obtain ⟨l, _, e⟩ := h; subst e; rfl

theorem cells_flat {v : Value} (h : one v = true) : v.cells = #[v] := by
  cases v <;> first | rfl | (simp [one] at h)

/-- What a value's cells are: each one cell large where the symbolic cells are known. -/
theorem conc_cells {env : En} {M : PH} {s : SV} {v : Value} {l : List SV} (h : Conc env M s v) (hs : s.cells = some l) : ConcL env M l v.cells.toList := by
  cases s
  case agg l' =>
    simp [SV.cells] at hs; subst hs
    unfold Conc at h; obtain ⟨cs, e, c⟩ := h; subst e
    simpa [Value.cells] using c
  case any => simp [SV.cells] at hs
  case tup => simp [SV.cells] at hs
  all_goals
    simp only [SV.cells, Option.some.injEq] at hs
    subst hs
    rw [cells_flat (conc_one h rfl)]
    exact ConcL.single h

/-- Cells that are known to be one cell large. -/
def SV.flat : SV → Bool
  | .agg _ => false
  | .any => false
  | .tup _ => false
  | _ => true
theorem conc_flat {env : En} {M : PH} {s : SV} {v : Value} (h : Conc env M s v) (hs : s.flat = true) : one v = true := by
  refine conc_one h ?_
  cases s <;> first | rfl | (simp [SV.flat] at hs)
theorem concL_flat {env : En} {M : PH} : ∀ {l : List SV} {vs : List Value}, ConcL env M l vs → l.all SV.flat = true → ∀ x ∈ vs, one x = true
  | [], [], _, _ => by simp
  | s :: l, v :: vs, h, ha => by
    unfold ConcL at h
    simp only [List.all_cons, Bool.and_eq_true] at ha
    intro x hx
    rcases List.mem_cons.1 hx with rfl | hx
    · exact conc_flat h.1 ha.1
    · exact concL_flat h.2 ha.2 x hx
  | [], _ :: _, h, _ => by unfold ConcL at h; exact h.elim
  | _ :: _, [], h, _ => by unfold ConcL at h; exact h.elim

/-- What an operation does: its value, what it reads, what it writes. -/
structure Eff where
  val : SV
  rd : List Nat := []
  wr : List (Nat × Option Atom) := []

def updL (lk : Look) : List (Nat × Option Atom) → Look
  | [] => lk
  | (n, a) :: r => updL (upd lk n a) r

/-! Loads. -/
def getRow (lk : Look) (p : SV) : Option (List SV × List Nat) := match p with
  | .ptr n o => match lk n with
    | some (.cells vs _) => some (vs.drop o, [n])
    | _ => none
  | .vptr n sz i j => match lk n with
    | some (.vec rows sz' _) => bif sz == sz' && decide (i < rows.length) then some ((rows.getD i []).drop j, [n]) else none
    | _ => none
  | .ept rows i j => some (((rows.getD i []).drop j).map .d, [])
  | _ => none

theorem rep_row {M : PH} {b o len cap : Nat} {rows : List (List D)} (r : Rep M (.slice (some ⟨b, o, none⟩) len cap) (.lst rows)) :
    ∃ sz, (∀ i, i < len → (rows.getD i []).length = sz) ∧ rows.length = len ∧ ∀ i, i < len → ∃ xs : List Value, ConcL (fun _ => none) M ((rows.getD i []).map SV.d) xs ∧ xs.length = sz ∧ (∀ x ∈ xs, one x = true) ∧ ∀ k, k < sz → cellM M b (o + i * sz + k) = xs[k]? := by
  cases r with
  | lst _ _ _ _ sz hl hc hs f ha hr =>
    refine ⟨sz, hs, hl, fun i hi => ⟨(List.range sz).map (f i), ?_, by simp, ?_, ?_⟩⟩
    · have hlen := hs i hi
      have hr' := fun j hj => hr i j hi hj
      generalize rows.getD i [] = row at hlen hr' ⊢
      have key : ∀ (n : Nat) (row : List D) (g : Nat → Value), row.length = n → (∀ j, j < n → Rep M (g j) (row.getD j (.lst []))) → ConcL (fun _ => none) M (row.map SV.d) ((List.range n).map g) := by
        intro n
        induction n with
        | zero => intro row g hl _; have : row = [] := List.length_eq_zero_iff.1 hl; subst this; simp [ConcL]
        | succ n ih =>
          intro row g hl hg
          cases row with
          | nil => simp at hl
          | cons x row =>
            rw [List.range_succ_eq_map]
            simp only [List.map_cons, List.map_map]
            unfold ConcL
            refine ⟨?_, ?_⟩
            · have := hg 0 (by omega); unfold Conc; simpa using this
            · exact ih row (g ∘ Nat.succ) (by simpa using hl) (fun j hj => by have := hg (j + 1) (by omega); simpa using this)
      exact key sz row (f i) hlen (fun j hj => hr' j hj)
    · intro x hx
      obtain ⟨j, hj, rfl⟩ := List.mem_map.1 hx
      exact (hr i j hi (List.mem_range.1 hj)).one
    · intro k hk
      obtain ⟨b', o', e, hcell⟩ := ha (by omega)
      injection e with e; injection e with e1 e2 e3
      subst e1; subst e2
      rw [hcell i k hi hk]
      simp [hk]

theorem getRow_sound {env : En} {M F : PH} {lk : Look} {w : World} (h : Hp env M F lk w) {p : SV} {v : Value} (hp : Conc env M p v) {cs : List SV} {rd : List Nat} (hg : getRow lk p = some (cs, rd)) :
    ∃ b o vs, v = .pointer (some ⟨b, o, none⟩) ∧ ConcL env M cs vs ∧ (∀ x ∈ vs, one x = true) ∧ ∀ k x, vs[k]? = some x → w.cell? ⟨b, o + k, none⟩ = some x := by
  unfold getRow at hg
  split at hg
  · rename_i n o
    split at hg
    · rename_i vs T hn
      injection hg with hg; injection hg with h1 h2; subst h1; subst h2
      obtain ⟨b, cs, e, c, h1, hw⟩ := h.cells hn
      unfold Conc at hp
      obtain ⟨b', e', rfl⟩ := hp
      rw [e] at e'; injection e' with e'; injection e' with e'; injection e' with e'; injection e' with e' _ _
      subst e'
      refine ⟨b, o, cs.drop o, rfl, c.drop o, fun x hx => h1 x (List.mem_of_mem_drop hx), fun k x hx => ?_⟩
      rw [cell_of hw]
      simpa using hx
    · cases hg
  · rename_i n sz i j
    split at hg
    · rename_i rows sz' E hn
      cases hb : (sz == sz' && decide (i < rows.length)) with
      | false => rw [hb] at hg; cases hg
      | true =>
        rw [hb] at hg
        simp only [Bool.and_eq_true, beq_iff_eq, decide_eq_true_eq] at hb
        obtain ⟨hsz, hi⟩ := hb
        subst hsz
        simp only [cond_true] at hg
        injection hg with hg; injection hg with h1 h2; subst h1; subst h2
        obtain ⟨b, ob, ⟨cs, o, c, e, h1, h2, h3, h4, rfl⟩, hw, _⟩ := h.atoms n _ hn
        unfold Conc at hp
        obtain ⟨b', o', L, c', e', rfl⟩ := hp
        rw [e] at e'; injection e' with e'; injection e' with e' _ _; injection e' with e'; injection e' with e1 e2 _
        subst e1; subst e2
        obtain ⟨xs, hx, hl, hk⟩ := h4 i hi
        refine ⟨b, o + i * sz + j, xs.drop j, rfl, hx.drop j, fun x hm => ?_, fun k x hx => ?_⟩
        · have hm' := List.mem_of_mem_drop hm
          obtain ⟨q, hq⟩ := List.getElem?_of_mem hm'
          have hq' : q < sz := by rw [← hl]; exact (List.getElem?_eq_some_iff.1 hq).1
          have := hk q hq'
          rw [hq] at this
          exact h3 x (List.mem_of_getElem? this)
        · have hx' : xs[j + k]? = some x := by simpa using hx
          have hq' : j + k < sz := by rw [← hl]; exact (List.getElem?_eq_some_iff.1 hx').1
          rw [cell_of hw, show o + i * sz + j + k = o + i * sz + (j + k) by omega, hk _ hq', hx']
    · cases hg
  · rename_i rows i j
    injection hg with hg; injection hg with h1 h2; subst h1; subst h2
    unfold Conc at hp
    obtain ⟨b, o, len, cap, sz, r, hi, hs, rfl⟩ := hp
    obtain ⟨sz', hs', hl', hrow⟩ := rep_row r
    obtain ⟨xs, hx, hlen, h1, hk⟩ := hrow i hi
    have : sz' = sz := by rw [← hs, hs' i hi]
    subst this
    refine ⟨b, o + i * sz' + j, xs.drop j, rfl, ?_, fun x hm => h1 x (List.mem_of_mem_drop hm), fun k x hx => ?_⟩
    · have := (ConcL.mono (env' := env) (PH.le_refl M) (fun n v e => by cases e) hx).drop j
      rwa [← List.map_drop] at this
    · have hx' : xs[j + k]? = some x := by simpa using hx
      have hq' : j + k < sz' := by rw [← hlen]; exact (List.getElem?_eq_some_iff.1 hx').1
      have := hk _ hq'
      rw [hx'] at this
      unfold cellM at this
      cases hM : M b with
      | none => rw [hM] at this; cases this
      | some ob =>
        rw [hM] at this
        have hw := h.hM b ob hM
        cases ob <;> simp at this
        rename_i c e fz
        unfold World.cell?
        simp only at hw
        rw [hw]
        simp only [Option.isSome_none, Bool.false_eq_true, if_false]
        rw [show o + i * sz' + j + k = o + i * sz' + (j + k) by omega]
        simpa using this
  · cases hg

def actLoad (d : TD) (lk : Look) (p : SV) : Option Eff :=
  match getRow lk p with
  | none => none
  | some (cs, rd) =>
    bif isAggD d.desc then bif decide (d.size ≤ cs.length) then some { val := .agg (cs.take d.size), rd } else none
    else match cs with
      | [] => none
      | s :: _ => some { val := s, rd }

theorem actLoad_sound {P : Program} {env : En} {M F : PH} {lk : Look} {w : World} (h : Hp env M F lk w) {t : TypeId} {d : TD} (hd : TdOk P t d) {p : SV} {v : Value} (hp : Conc env M p v) {e : Eff} (ha : actLoad d lk p = some e) :
    ∃ x, (Instr.loadAt t v).run P w = .ok x w ∧ Conc env M e.val x ∧ e.wr = [] := by
  unfold actLoad at ha
  split at ha
  · cases ha
  · rename_i cs rd hg
    obtain ⟨b, o, vs, rfl, hc, h1, hk⟩ := getRow_sound h hp hg
    simp only [Instr.loadAt, Instr.sureAddr, Sem.run_bind, Sem.run_pure, Result.andThen_ok, loadVar, run_agg hd]
    cases hA : isAggD d.desc with
    | true =>
      rw [hA] at ha
      simp only [cond_true] at ha
      cases hs : decide (d.size ≤ cs.length) with
      | false => rw [hs] at ha; cases ha
      | true =>
        rw [hs] at ha; simp only [cond_true] at ha; injection ha with ha; subst ha
        have hs' := of_decide_eq_true hs
        have hl := hc.length
        refine ⟨.agg (vs.take d.size).toArray, ?_, ?_, rfl⟩
        · simp only [if_true, Sem.run_bind, run_size hd, Result.andThen_ok]
          rw [run_loadCells P w b o d.size (vs.take d.size) (by simp; omega) (fun k x hx => by
            rw [List.getElem?_take] at hx
            split at hx
            · exact hk k x hx
            · cases hx)]
          rfl
        · unfold Conc; exact ⟨_, rfl, hc.take _⟩
    | false =>
      rw [hA] at ha
      simp only [cond_false] at ha
      cases cs with
      | nil => cases ha
      | cons s cs =>
        simp only at ha; injection ha with ha; subst ha
        cases vs with
        | nil => unfold ConcL at hc; exact hc.elim
        | cons x vs =>
          unfold ConcL at hc
          refine ⟨x, ?_, hc.1, rfl⟩
          simp only [Bool.false_eq_true, if_false]
          have := hk 0 x rfl
          simp only [Nat.add_zero] at this
          rw [run_load]; rw [this]

end Go.Proofs.Ae

/- Stores, new variables, composite values. -/
namespace Go.Proofs.Ae
open Go
set_option linter.unusedSectionVars false
variable [Io]

def putS (cs : List SV) (k : Nat) (vs : List SV) : List SV := cs.take k ++ vs ++ cs.drop (k + vs.length)

theorem concL_put {env : En} {M : PH} {cs : List SV} {xs : List Value} (h : ConcL env M cs xs) {l : List SV} {vs : List Value} (hl : ConcL env M l vs) (k : Nat) :
    ConcL env M (putS cs k l) (putL xs k vs) := by
  unfold putS putL
  rw [hl.length]
  exact ((h.take k).append hl).append (h.drop _)

theorem mem_putL {xs vs : List Value} {k : Nat} {x : Value} (h : x ∈ putL xs k vs) : x ∈ xs ∨ x ∈ vs := by
  unfold putL at h
  rcases List.mem_append.1 h with h | h
  · rcases List.mem_append.1 h with h | h
    · exact .inl (List.mem_of_mem_take h)
    · exact .inr h
  · exact .inl (List.mem_of_mem_drop h)

theorem length_putL {xs vs : List Value} {k : Nat} (h : k + vs.length ≤ xs.length) : (putL xs k vs).length = xs.length := by
  unfold putL; simp; omega

theorem get_putL {xs vs : List Value} {k : Nat} (h : k + vs.length ≤ xs.length) (m : Nat) : (putL xs k vs)[m]? = if k ≤ m ∧ m < k + vs.length then vs[m - k]? else xs[m]? := by
  unfold putL
  by_cases h1 : m < k
  · rw [if_neg (by omega), List.append_assoc, List.getElem?_append_left (by simp; omega)]
    simp [h1]
  · by_cases h2 : m < k + vs.length
    · rw [if_pos ⟨by omega, h2⟩, List.append_assoc, List.getElem?_append_right (by simp; omega), List.getElem?_append_left (by simp; omega)]
      congr 1; simp; omega
    · rw [if_neg (by omega), List.getElem?_append_right (by simp; omega)]
      simp only [List.getElem?_drop, List.length_append, List.length_take]
      congr 1; omega

/-- Rows in a block: row i is the sz cells from o + i * sz on. -/
def RowsAt (env : En) (M : PH) (cs : List Value) (o sz : Nat) (rows : List (List SV)) : Prop :=
  ∀ i, i < rows.length → ∃ xs, ConcL env M (rows.getD i []) xs ∧ xs.length = sz ∧ ∀ k, k < sz → cs[o + i * sz + k]? = xs[k]?

theorem RowsAt.put {env : En} {M : PH} {cs : List Value} {o sz : Nat} {rows : List (List SV)} (h : RowsAt env M cs o sz rows) {i j : Nat} (hi : i < rows.length) {l : List SV} {vs : List Value} (hl : ConcL env M l vs)
    (hj : j + vs.length ≤ sz) (hlen : o + (i + 1) * sz ≤ cs.length) :
    RowsAt env M (putL cs (o + i * sz + j) vs) o sz (rows.set i (putS (rows.getD i []) j l)) := by
  intro m hm
  have hm' : m < rows.length := by simpa using hm
  have hb : o + i * sz + j + vs.length ≤ cs.length := by rw [Nat.succ_mul] at hlen; omega
  by_cases e : i = m
  · subst e
    obtain ⟨xs, hx, hs, hk⟩ := h i hi
    refine ⟨putL xs j vs, ?_, ?_, ?_⟩
    · have : (rows.set i (putS (rows.getD i []) j l)).getD i [] = putS (rows.getD i []) j l := by simp [List.getD_eq_getElem?_getD, hi]
      rw [this]; exact concL_put hx hl j
    · rw [length_putL (by omega), hs]
    · intro k hk'
      rw [get_putL hb, get_putL (by omega)]
      by_cases c : j ≤ k ∧ k < j + vs.length
      · rw [if_pos (by omega), if_pos c]; congr 1; omega
      · rw [if_neg (by omega), if_neg c, hk k hk']
  · obtain ⟨xs, hx, hs, hk⟩ := h m hm'
    refine ⟨xs, ?_, hs, ?_⟩
    · have : (rows.set i (putS (rows.getD i []) j l)).getD m [] = rows.getD m [] := by simp [List.getD_eq_getElem?_getD, List.getElem?_set_ne e]
      rw [this]; exact hx
    · intro k hk'
      rw [get_putL hb, if_neg, hk k hk']
      rintro ⟨h1, h2⟩
      rcases Nat.lt_or_gt_of_ne e with h3 | h3
      · have : (i + 1) * sz ≤ m * sz := Nat.mul_le_mul_right _ h3
        rw [Nat.succ_mul] at this; omega
      · have : (m + 1) * sz ≤ i * sz := Nat.mul_le_mul_right _ h3
        rw [Nat.succ_mul] at this; omega

/-- A store. -/
def putRow (lk : Look) (p : SV) (l : List SV) : Option (Nat × Atom) := match p with
  | .ptr n o => match lk n with
    | some (.cells vs T) => bif decide (o + l.length ≤ vs.length) then some (n, .cells (putS vs o l) T) else none
    | _ => none
  | .vptr n sz i j => match lk n with
    | some (.vec rows sz' E) => bif sz == sz' && decide (i < rows.length) && decide (j + l.length ≤ sz) then some (n, .vec (rows.set i (putS (rows.getD i []) j l)) sz' E) else none
    | _ => none
  | _ => none

def actStore (d : TD) (lk : Look) (p x : SV) : Option Eff :=
  match x.cells with
  | none => none
  | some l => bif l.length == d.size && l.all SV.flat then (match putRow lk p l with | some (n, a) => some { val := .any, rd := [n], wr := [(n, some a)] } | none => none) else none

theorem putRow_sound {P : Program} {env : En} {M F : PH} {lk : Look} {w : World} (h : Hp env M F lk w) {p : SV} {v : Value} (hp : Conc env M p v) {l : List SV} {vs : List Value} (hl : ConcL env M l vs) (h1 : ∀ x ∈ vs, one x = true)
    {n : Nat} {a : Atom} (hg : putRow lk p l = some (n, a)) :
    ∃ b o w', v = .pointer (some ⟨b, o, none⟩) ∧ (storeCells ⟨b, o, none⟩ vs).run P w = .ok () w' ∧ Hp env M F (upd lk n (some a)) w' := by
  unfold putRow at hg
  split at hg
  · rename_i m o
    split at hg
    · rename_i us T hn
      cases hc : decide (o + l.length ≤ us.length) with
      | false => rw [hc] at hg; cases hg
      | true =>
        rw [hc] at hg; simp only [cond_true] at hg
        injection hg with hg; injection hg with e1 e2; subst e1; subst e2
        obtain ⟨b, cs, e, c, h2, hw⟩ := h.cells hn
        unfold Conc at hp
        obtain ⟨b', e', rfl⟩ := hp
        rw [e] at e'; injection e' with e'; injection e' with e'; injection e' with e'; injection e' with e' _ _
        subst e'
        have hlen : o + vs.length ≤ cs.length := by rw [← c.length, ← hl.length]; exact of_decide_eq_true hc
        refine ⟨b, o, _, rfl, run_storeCells P b o T vs cs w 0 hw h1 (by omega), ?_⟩
        refine h.put hn (by rw [e]; rfl) ⟨putL cs o vs, e, concL_put c hl o, fun x hx => ?_, by simp⟩
        rcases mem_putL hx with hx | hx
        · exact h2 x hx
        · exact h1 x hx
    · cases hg
  · rename_i m sz i j
    split at hg
    · rename_i rows sz' E hn
      cases hb : (sz == sz' && decide (i < rows.length) && decide (j + l.length ≤ sz)) with
      | false => rw [hb] at hg; cases hg
      | true =>
        rw [hb] at hg
        simp only [Bool.and_eq_true, beq_iff_eq, decide_eq_true_eq] at hb
        obtain ⟨⟨hsz, hi⟩, hj⟩ := hb
        subst hsz
        simp only [cond_true] at hg
        injection hg with hg; injection hg with e1 e2; subst e1; subst e2
        obtain ⟨b, ob, ⟨cs, o, c, e, h2, h3, h4, h5, rfl⟩, hw, _⟩ := h.atoms m _ hn
        unfold Conc at hp
        obtain ⟨b', o', L, c', e', rfl⟩ := hp
        rw [e] at e'; injection e' with e'; injection e' with e' _ _; injection e' with e'; injection e' with e1 e2 _
        subst e1; subst e2
        have hsc : (i + 1) * sz ≤ c * sz := Nat.mul_le_mul_right _ (by omega)
        have hlen : o + i * sz + j + vs.length ≤ cs.length := by rw [← hl.length]; rw [Nat.succ_mul] at hsc; omega
        refine ⟨b, o + i * sz + j, _, rfl, run_storeCells P b (o + i * sz + j) E vs cs w 0 hw h1 (by omega), ?_⟩
        refine h.put hn (by rw [e]; rfl) ⟨putL cs (o + i * sz + j) vs, o, c, by simpa using e, by simpa using h2, by rw [length_putL (by omega)]; exact h3, fun x hx => ?_, ?_, by simp⟩
        · rcases mem_putL hx with hx | hx
          · exact h4 x hx
          · exact h1 x hx
        · exact RowsAt.put h5 hi hl (by rw [← hl.length]; exact hj) (by omega)
    · cases hg
  · cases hg

theorem actStore_sound {P : Program} {env : En} {M F : PH} {lk : Look} {w : World} (h : Hp env M F lk w) {t : TypeId} {d : TD} (hd : TdOk P t d) {p x : SV} {v y : Value} (hp : Conc env M p v) (hx : Conc env M x y) {e : Eff} (ha : actStore d lk p x = some e) :
    ∃ w', (Instr.storeAt t v y).run P w = .ok () w' ∧ e.val = .any ∧ Hp env M F (updL lk e.wr) w' := by
  unfold actStore at ha
  split at ha
  · cases ha
  · rename_i l hl
    cases hb : (l.length == d.size && l.all SV.flat) with
    | false => rw [hb] at ha; cases ha
    | true =>
      rw [hb] at ha; simp only [cond_true] at ha
      simp only [Bool.and_eq_true, beq_iff_eq] at hb
      split at ha
      · rename_i n a hg
        injection ha with ha; subst ha
        have hc := conc_cells hx hl
        obtain ⟨b, o, w', rfl, hrun, hp'⟩ := putRow_sound (P := P) h hp hc (concL_flat hc hb.2) hg
        refine ⟨w', ?_, rfl, hp'⟩
        have hsz : y.cells.size = d.size := by rw [← hb.1, hc.length]; simp
        simp only [Instr.storeAt, Instr.sureAddr, Sem.run_bind, Sem.run_pure, Result.andThen_ok, storeVar, run_size hd]
        simp only [ne_eq, hsz, not_true_eq_false, if_false]
        exact hrun
      · cases ha

/-! New variables. -/
def svs (zs : List Value) : List SV := zs.map ofCell

theorem conc_svs {env : En} {M : PH} (zs : List Value) : ConcL env M (svs zs) zs := concL_ofCell env M zs

theorem new_cells {env : En} {M F : PH} {lk : Look} {w : World} (h : Hp env M F lk w) {l : List SV} {vs : List Value} (hl : ConcL env M l vs) (h1 : ∀ x ∈ vs, one x = true) (T : TypeId) {n : Nat} (hn : env n = none) :
    ∃ env', env.le env' ∧ (∀ m, m ≠ n → env' m = env m) ∧ Conc env' M (.ptr n 0) (.pointer (some ⟨w.heap.size, 0, none⟩)) ∧ Hp env' M F (upd lk n (some (.cells l T))) (w.alloc (.cells vs.toArray T (0, 0))) := by
  have hle : env.le (upd env n (some (.pointer (some ⟨w.heap.size, 0, none⟩)))) := fun m x hm => by
    unfold upd; split
    · subst_vars; rw [hn] at hm; cases hm
    · exact hm
  have hnn : (upd env n (some (.pointer (some ⟨w.heap.size, 0, none⟩)))) n = some (.pointer (some ⟨w.heap.size, 0, none⟩)) := by unfold upd; rw [if_pos rfl]
  obtain ⟨_, hp⟩ := h.alloc (v := .pointer (some ⟨w.heap.size, 0, none⟩)) (a := .cells l T) (ob := .cells vs.toArray T (0, 0)) hn rfl ⟨vs, hnn, hl.mono (PH.le_refl M) hle, h1, rfl⟩
  exact ⟨_, hle, fun m hm => by unfold upd; rw [if_neg hm], by unfold Conc; exact ⟨_, hnn, rfl⟩, hp⟩

def actBox (e : TypeId) (x : SV) (n : Nat) : Option Eff :=
  match x.cells with
  | none => none
  | some l => bif l.all SV.flat then some { val := .ptr n 0, wr := [(n, some (.cells l e))] } else none

theorem actBox_sound {P : Program} {env : En} {M F : PH} {lk : Look} {w : World} (h : Hp env M F lk w) {t : TypeId} {x : SV} {y : Value} (hx : Conc env M x y) {n : Nat} (hn : env n = none) {e : Eff} (ha : actBox t x n = some e) :
    ∃ v w' env', (Instr.box t y).run P w = .ok v w' ∧ env.le env' ∧ (∀ m, m ≠ n → env' m = env m) ∧ Conc env' M e.val v ∧ Hp env' M F (updL lk e.wr) w' := by
  unfold actBox at ha
  split at ha
  · cases ha
  · rename_i l hl
    cases hb : l.all SV.flat with
    | false => rw [hb] at ha; cases ha
    | true =>
      rw [hb] at ha; simp only [cond_true] at ha; injection ha with ha; subst ha
      have hc := conc_cells hx hl
      obtain ⟨env', h1, h2, h3, h4⟩ := new_cells h hc (concL_flat hc hb) t hn
      refine ⟨.pointer (some ⟨w.heap.size, 0, none⟩), _, env', ?_, h1, h2, h3, h4⟩
      simp only [Instr.box, newVar, newRow, Sem.run_bind, run_newObj, Result.andThen_ok, Sem.run_pure]
      rfl

def actAlloc (d : TD) (e : TypeId) (n : Nat) : Eff := { val := .ptr n 0, wr := [(n, some (.cells (svs d.zero) e))] }

theorem actAlloc_sound {P : Program} {env : En} {M F : PH} {lk : Look} {w : World} (h : Hp env M F lk w) {t : TypeId} {d : TD} (hd : TdOk P t d) {n : Nat} (hn : env n = none) (old : Value) :
    ∃ v w' env', (Instr.alloc t true old).run P w = .ok v w' ∧ env.le env' ∧ (∀ m, m ≠ n → env' m = env m) ∧ Conc env' M (actAlloc d t n).val v ∧ Hp env' M F (updL lk (actAlloc d t n).wr) w' := by
  obtain ⟨env', h1, h2, h3, h4⟩ := new_cells h (conc_svs d.zero) hd.zone t hn
  obtain ⟨z, hz, hc⟩ := run_zero (w := w) hd
  refine ⟨.pointer (some ⟨w.heap.size, 0, none⟩), _, env', ?_, h1, h2, h3, h4⟩
  simp only [Instr.alloc, Sem.run_bind, hz, Result.andThen_ok]
  simp only [newVar, newRow, Sem.run_bind, run_newObj, Result.andThen_ok, Sem.run_pure, hc]
  rfl

end Go.Proofs.Ae

/- Composite values, slices. -/
namespace Go.Proofs.Ae
open Go
set_option linter.unusedSectionVars false
variable [Io]

/-! Struct and array literals. -/
def fillS (place : Nat → Option (Nat × Nat)) (cells : List SV) : List (Nat × SV) → Option (List SV)
  | [] => some cells
  | (i, s) :: rest =>
    match place i, s.cells with
    | some (off, size), some l => bif l.length == size && decide (off + size ≤ cells.length) then fillS place (putS cells off l) rest else none
    | _, _ => none

theorem foldl_set (l : List Value) : ∀ (off k : Nat) (cs : Array Value), (l.zipIdx k).foldl (fun cs (c, j) => cs.setIfInBounds (off + j) c) cs = (putL cs.toList (off + k) l).toArray ∨ ¬ off + k + l.length ≤ cs.size := by
  induction l with
  | nil => intro off k cs; left; simp [putL]
  | cons x l ih =>
    intro off k cs
    by_cases h : off + k + (l.length + 1) ≤ cs.size
    · left
      simp only [List.zipIdx_cons, List.foldl_cons]
      rcases ih off (k + 1) (cs.setIfInBounds (off + k) x) with e | e
      · rw [e]
        congr 1
        rw [← Nat.add_assoc, Array.toList_setIfInBounds, putL_set _ _ _ _ (by simp; omega)]
      · exact absurd (by simp; omega) e
    · right; simpa using h

theorem fill_sound {env : En} {M : PH} {place : Nat → Option (Nat × Nat)} : ∀ (ps : List (Nat × SV)) (qs : List (Nat × Value)) (cs : List SV) (xs : List Value) (r : List SV),
    ConcL env M cs xs → ps.map (·.1) = qs.map (·.1) → ConcL env M (ps.map (·.2)) (qs.map (·.2)) → fillS place cs ps = some r → ∃ ys, Instr.fill place xs.toArray qs = some ys.toArray ∧ ConcL env M r ys ∧ ys.length = xs.length
  | [], [], cs, xs, r, h, _, _, hf => by
    simp [fillS] at hf; subst hf; exact ⟨xs, by simp [Instr.fill], h, rfl⟩
  | (i, s) :: ps, (j, v) :: qs, cs, xs, r, h, h1, h2, hf => by
    simp only [List.map_cons, List.cons.injEq] at h1
    obtain ⟨rfl, h1⟩ := h1
    simp only [List.map_cons] at h2
    unfold ConcL at h2
    obtain ⟨hv, h2⟩ := h2
    unfold fillS at hf
    split at hf
    · rename_i off size l hp hl
      cases hb : (l.length == size && decide (off + size ≤ cs.length)) with
      | false => rw [hb] at hf; cases hf
      | true =>
        rw [hb] at hf
        simp only [cond_true] at hf
        simp only [Bool.and_eq_true, beq_iff_eq, decide_eq_true_eq] at hb
        have hc := conc_cells hv hl
        have hlen := hc.length
        have hcx := h.length
        have hsz : v.cells.size = size := by rw [← hb.1, hlen]; simp
        obtain ⟨ys, h3, h4, h5⟩ := fill_sound ps qs (putS cs off l) (putL xs off v.cells.toList) r (concL_put h hc off) h1 h2 hf
        refine ⟨ys, ?_, h4, by rw [h5, length_putL (by simp; omega)]⟩
        unfold Instr.fill
        simp only [hp]
        rw [if_neg (by simp [hsz]; omega)]
        have := foldl_set v.cells.toList off 0 xs.toArray
        rcases this with e | e
        · have e2 : v.cells.zipIdx.foldl (fun cs (x : Value × Nat) => cs.setIfInBounds (off + x.2) x.1) xs.toArray = (putL xs off v.cells.toList).toArray := by
            rw [← Array.foldl_toList, Array.toList_zipIdx]
            simpa using e
          rw [e2]; exact h3
        · exact absurd (by simp; omega) e
    · cases hf
  | [], _ :: _, _, _, _, _, h1, _, _ => by simp at h1
  | _ :: _, [], _, _, _, _, h1, _, _ => by simp at h1

def actBuild (tt : Tab) (d : TD) (ps : List (Nat × SV)) : Option Eff :=
  match d.desc with
  | .struct _ => (fillS (fun i => d.flds[i]?) (svs d.zero) ps).map fun r => { val := .agg r }
  | .array _ e => match tt e with
    | some de => (fillS (fun i => some (i * de.size, de.size)) (svs d.zero) ps).map fun r => { val := .agg r }
    | none => none
  | _ => none

theorem actBuild_sound {P : Program} {tt : Tab} (ht : TabOk P tt) {env : En} {M : PH} {w : World} {t : TypeId} {d : TD} (hd : TdOk P t d) {ps : List (Nat × SV)} {qs : List (Nat × Value)}
    (h1 : ps.map (·.1) = qs.map (·.1)) (h2 : ConcL env M (ps.map (·.2)) (qs.map (·.2))) {e : Eff} (ha : actBuild tt d ps = some e) :
    ∃ x, (Instr.build t qs.toArray).run P w = .ok x w ∧ Conc env M e.val x ∧ e.wr = [] := by
  unfold actBuild at ha
  obtain ⟨i, hi, hs, hb, z, hz, hc⟩ := hd.info
  split at ha
  · rename_i fs hdesc
    obtain ⟨r, hr, rfl⟩ := Option.map_eq_some_iff.1 ha
    obtain ⟨ys, hf, hy, _⟩ := fill_sound ps qs _ _ r (conc_svs d.zero) h1 h2 hr
    refine ⟨.agg ys.toArray, run_build w t qs.toArray ys.toArray ?_, by unfold Conc; exact ⟨_, rfl, hy⟩, rfl⟩
    unfold Program.built
    rw [hi, hd.und, hdesc]
    simp only [hz]
    rw [hd.flds fs hdesc]
    simp only [hc]
    simpa using hf
  · rename_i n et hdesc
    split at ha
    · rename_i de hde
      obtain ⟨r, hr, rfl⟩ := Option.map_eq_some_iff.1 ha
      obtain ⟨ys, hf, hy, _⟩ := fill_sound ps qs _ _ r (conc_svs d.zero) h1 h2 hr
      obtain ⟨ie, hie, hse, _⟩ := (ht _ _ hde).info
      refine ⟨.agg ys.toArray, run_build w t qs.toArray ys.toArray ?_, by unfold Conc; exact ⟨_, rfl, hy⟩, rfl⟩
      unfold Program.built
      rw [hi, hd.und, hdesc]
      simp only [hz, hie]
      simp only [hc, hse]
      exact hf
    · cases ha
  · cases ha

/-! Rows of a new block. -/
theorem new_vec {env : En} {M F : PH} {lk : Look} {w : World} (h : Hp env M F lk w) {cs : List Value} {rows : List (List SV)} {sz c : Nat} (hr : RowsAt env M cs 0 sz rows) (h1 : ∀ x ∈ cs, one x = true)
    (hc : rows.length ≤ c) (hl : c * sz ≤ cs.length) (E : TypeId) {n : Nat} (hn : env n = none) :
    ∃ env', env.le env' ∧ (∀ m, m ≠ n → env' m = env m) ∧ Conc env' M (.vw n sz 0 rows.length) (.slice (some ⟨w.heap.size, 0, none⟩) rows.length c) ∧ Hp env' M F (upd lk n (some (.vec rows sz E))) (w.alloc (.cells cs.toArray E (0, 0))) := by
  have hle : env.le (upd env n (some (.slice (some ⟨w.heap.size, 0, none⟩) rows.length c))) := fun m x hm => by
    unfold upd; split
    · subst_vars; rw [hn] at hm; cases hm
    · exact hm
  have hnn : (upd env n (some (.slice (some ⟨w.heap.size, 0, none⟩) rows.length c))) n = some (.slice (some ⟨w.heap.size, 0, none⟩) rows.length c) := by unfold upd; rw [if_pos rfl]
  obtain ⟨_, hp⟩ := h.alloc (v := .slice (some ⟨w.heap.size, 0, none⟩) rows.length c) (a := .vec rows sz E) (ob := .cells cs.toArray E (0, 0)) hn rfl
    ⟨cs, 0, c, hnn, hc, by omega, h1, fun i hi => (hr i hi).imp fun xs x => ⟨x.1.mono (PH.le_refl M) hle, x.2⟩, rfl⟩
  refine ⟨_, hle, fun m hm => by unfold upd; rw [if_neg hm], ?_, hp⟩
  unfold Conc
  exact ⟨_, _, _, _, ⟨w.heap.size, 0, none⟩, hnn, by omega, fun _ => by simp, by simp⟩

def zcells (zero : List Value) (n : Nat) : List Value := (List.replicate n zero).flatten

theorem length_zcells (zero : List Value) (n : Nat) : (zcells zero n).length = n * zero.length := by simp [zcells]

theorem get_zcells (zero : List Value) : ∀ (n i k : Nat), i < n → k < zero.length → (zcells zero n)[i * zero.length + k]? = zero[k]?
  | 0, i, k, h, _ => by omega
  | n + 1, 0, k, _, hk => by
    simp only [zcells, List.replicate_succ, List.flatten_cons, Nat.zero_mul, Nat.zero_add]
    rw [List.getElem?_append_left hk]
  | n + 1, i + 1, k, h, hk => by
    have := get_zcells zero n i k (by omega) hk
    simp only [zcells, List.replicate_succ, List.flatten_cons] at *
    rw [List.getElem?_append_right (by rw [Nat.succ_mul]; omega), ← this]
    congr 1
    rw [Nat.succ_mul]; omega

theorem zcells_eq (zero : List Value) (n : Nat) (hz : 0 < zero.length) : ((Array.range (n * zero.length)).map fun i => zero.toArray[i % zero.toArray.size]!) = (zcells zero n).toArray := by
  apply Array.ext_getElem?
  intro i
  by_cases h : i < n * zero.length
  · have hq : i / zero.length < n := by rw [Nat.div_lt_iff_lt_mul hz]; exact h
    have hk : i % zero.length < zero.length := Nat.mod_lt _ hz
    have := get_zcells zero n (i / zero.length) (i % zero.length) hq hk
    rw [Nat.mul_comm, Nat.div_add_mod] at this
    simp [h, hk, this]
  · have : ¬ i < (zcells zero n).length := by rw [length_zcells]; exact h
    simp [h, this]

theorem rows_zcells {env : En} {M : PH} (zero : List Value) (n : Nat) : RowsAt env M (zcells zero n) 0 zero.length (List.replicate n (svs zero)) := by
  intro i hi
  have hi' : i < n := by simpa using hi
  refine ⟨zero, ?_, rfl, fun k hk => ?_⟩
  · have : (List.replicate n (svs zero)).getD i [] = svs zero := by simp [List.getD_eq_getElem?_getD, hi']
    rw [this]; exact conc_svs zero
  · rw [Nat.zero_add]; exact get_zcells zero n i k hi' hk

theorem one_zcells {zero : List Value} (h : ∀ x ∈ zero, one x = true) (n : Nat) : ∀ x ∈ zcells zero n, one x = true := by
  intro x hx
  simp only [zcells, List.mem_flatten, List.mem_replicate] at hx
  obtain ⟨l, ⟨_, rfl⟩, hx⟩ := hx
  exact h x hx

def fillR (rows : List (List SV)) (size : Nat) : List (Nat × SV) → Option (List (List SV))
  | [] => some rows
  | (i, s) :: rest =>
    match s.cells with
    | some l => bif l.length == size && decide (i < rows.length) && l.all SV.flat then fillR (rows.set i l) size rest else none
    | none => none

theorem fillR_sound {env : En} {M : PH} {size : Nat} : ∀ (ps : List (Nat × SV)) (qs : List (Nat × Value)) (rows : List (List SV)) (cs : List Value) (r : List (List SV)),
    RowsAt env M cs 0 size rows → cs.length = rows.length * size → (∀ x ∈ cs, one x = true) → ps.map (·.1) = qs.map (·.1) → ConcL env M (ps.map (·.2)) (qs.map (·.2)) → fillR rows size ps = some r →
    ∃ ys, Instr.fill (fun i => some (i * size, size)) cs.toArray qs = some ys.toArray ∧ RowsAt env M ys 0 size r ∧ ys.length = cs.length ∧ r.length = rows.length ∧ ∀ x ∈ ys, one x = true
  | [], [], rows, cs, r, h, _, ho, _, _, hf => by
    simp [fillR] at hf; subst hf; exact ⟨cs, by simp [Instr.fill], h, rfl, rfl, ho⟩
  | (i, s) :: ps, (j, v) :: qs, rows, cs, r, h, hlen, ho, h1, h2, hf => by
    simp only [List.map_cons, List.cons.injEq] at h1
    obtain ⟨rfl, h1⟩ := h1
    simp only [List.map_cons] at h2
    unfold ConcL at h2
    obtain ⟨hv, h2⟩ := h2
    unfold fillR at hf
    split at hf
    · rename_i l hl
      cases hb : (l.length == size && decide (i < rows.length) && l.all SV.flat) with
      | false => rw [hb] at hf; cases hf
      | true =>
        rw [hb] at hf
        simp only [cond_true] at hf
        simp only [Bool.and_eq_true, beq_iff_eq, decide_eq_true_eq] at hb
        obtain ⟨⟨hbl, hbi⟩, hbf⟩ := hb
        have hc := conc_cells hv hl
        have hcl := hc.length
        have hsz : v.cells.size = size := by rw [← hbl, hcl]; simp
        have hle : (i + 1) * size ≤ rows.length * size := Nat.mul_le_mul_right _ hbi
        have hle' : i * size + size ≤ cs.length := by rw [Nat.succ_mul] at hle; omega
        have hput := RowsAt.put h hbi hc (j := 0) (by simp; omega) (by rw [hlen]; omega)
        simp only [Nat.zero_add, Nat.add_zero] at hput
        have hrow : putS (rows.getD i []) 0 l = l := by
          unfold putS
          obtain ⟨xs, hx, hxl, _⟩ := h i hbi
          have := hx.length
          simp only [List.take_zero, List.nil_append, Nat.zero_add]
          rw [List.drop_of_length_le (by omega), List.append_nil]
        rw [hrow] at hput
        have hvl : v.cells.toList.length = size := by simpa using hsz
        obtain ⟨ys, h3, h4, h5, h6, h7⟩ := fillR_sound ps qs (rows.set i l) (putL cs (i * size) v.cells.toList) r hput (by rw [length_putL (by omega)]; simpa using hlen)
          (fun x hx => (mem_putL hx).elim (ho x) (concL_flat hc hbf x)) h1 h2 hf
        refine ⟨ys, ?_, h4, by rw [h5, length_putL (by omega)], by simpa using h6, h7⟩
        unfold Instr.fill
        simp only
        rw [if_neg (by simp [hsz]; omega)]
        have := foldl_set v.cells.toList (i * size) 0 cs.toArray
        rcases this with e | e
        · have e2 : v.cells.zipIdx.foldl (fun cs (x : Value × Nat) => cs.setIfInBounds (i * size + x.2) x.1) cs.toArray = (putL cs (i * size) v.cells.toList).toArray := by
            rw [← Array.foldl_toList, Array.toList_zipIdx]
            simpa using e
          rw [e2]; exact h3
        · exact absurd (by simp; omega) e
    · cases hf
  | [], _ :: _, _, _, _, _, _, _, h1, _, _ => by simp at h1
  | _ :: _, [], _, _, _, _, _, _, h1, _, _ => by simp at h1

def actBuildSlice (tt : Tab) (d : TD) (len : Nat) (ps : List (Nat × SV)) (n : Nat) : Option Eff :=
  match d.desc with
  | .slice e => match tt e with
    | some de => bif decide (0 < de.size) && decide (len * de.size ≤ 16777216) then (fillR (List.replicate len (svs de.zero)) de.size ps).map fun r => { val := .vw n de.size 0 len, wr := [(n, some (.vec r de.size e))] } else none
    | none => none
  | _ => none

theorem actBuildSlice_sound {P : Program} {tt : Tab} (ht : TabOk P tt) {env : En} {M F : PH} {lk : Look} {w : World} (h : Hp env M F lk w) {t : TypeId} {d : TD} (hd : TdOk P t d) {len : Nat} {ps : List (Nat × SV)} {qs : List (Nat × Value)}
    (h1 : ps.map (·.1) = qs.map (·.1)) (h2 : ConcL env M (ps.map (·.2)) (qs.map (·.2))) {n : Nat} (hn : env n = none) {e : Eff} (ha : actBuildSlice tt d len ps n = some e) :
    ∃ v w' env', (Instr.buildSlice t len qs.toArray).run P w = .ok v w' ∧ env.le env' ∧ (∀ m, m ≠ n → env' m = env m) ∧ Conc env' M e.val v ∧ Hp env' M F (updL lk e.wr) w' := by
  unfold actBuildSlice at ha
  split at ha
  · rename_i et hdesc
    split at ha
    · rename_i de hde
      have hE := ht _ _ hde
      cases hb : (decide (0 < de.size) && decide (len * de.size ≤ 16777216)) with
      | false => rw [hb] at ha; cases ha
      | true =>
        rw [hb] at ha; simp only [cond_true] at ha
        simp only [Bool.and_eq_true, decide_eq_true_eq] at hb
        obtain ⟨r, hr, rfl⟩ := Option.map_eq_some_iff.1 ha
        have hz := hE.zlen
        have hrz := rows_zcells (env := env) (M := M) de.zero len
        rw [hz] at hrz
        obtain ⟨ys, h3, h4, h5, h6, h7⟩ := fillR_sound ps qs _ (zcells de.zero len) r hrz (by rw [length_zcells, hz]; simp) (one_zcells hE.zone len) h1 h2 hr
        have hrl : r.length = len := by simpa using h6
        obtain ⟨env', g1, g2, g3, g4⟩ := new_vec h h4 h7 (c := len) (by omega) (by rw [h5, length_zcells, hz]; omega) et hn
        rw [hrl] at g3
        refine ⟨.slice (some ⟨w.heap.size, 0, none⟩) len len, _, env', ?_, g1, g2, g3, g4⟩
        obtain ⟨z, hzz, hzc⟩ := run_zero (w := w) hE
        simp only [Instr.buildSlice, Sem.run_bind, run_und hd, hdesc, Result.andThen_ok, run_size hE]
        rw [if_neg (by omega)]
        by_cases hl0 : len = 0
        · subst hl0
          have h3' : Instr.fill (fun i => some (i * de.size, de.size)) #[] qs = some ys.toArray := by
            simpa [zcells] using h3
          have hr0 : Array.range 0 = #[] := rfl
          simp only [Nat.zero_mul, if_true, Sem.run_bind, Sem.run_pure, Result.andThen_ok, hr0, Array.map_empty, h3', newRow, run_newObj]
          rfl
        · have hpos : ¬ len * de.size = 0 := by
            intro e; rcases Nat.mul_eq_zero.1 e with e | e <;> omega
          simp only [hpos, if_false, Sem.run_bind, hzz, Result.andThen_ok, Sem.run_pure, hzc]
          have h3' : Instr.fill (fun i => some (i * de.size, de.size)) ((Array.range (len * de.size)).map fun x => de.zero.toArray[x % de.zero.toArray.size]!) qs = some ys.toArray := by
            have := zcells_eq de.zero len (by omega)
            rw [hz] at this
            rw [this]; simpa using h3
          simp only [h3', newRow, Sem.run_bind, run_newObj, Result.andThen_ok, Sem.run_pure]
          rfl
    · cases ha
  · cases ha

end Go.Proofs.Ae

/- Addresses, slices. -/
namespace Go.Proofs.Ae
open Go
set_option linter.unusedSectionVars false
variable [Io]

/-! Addresses of fields and elements. -/
def addOff (p : SV) (k : Nat) : Option SV := match p with
  | .ptr n o => some (.ptr n (o + k))
  | .vptr n sz i j => some (.vptr n sz i (j + k))
  | .ept rows i j => some (.ept rows i (j + k))
  | _ => none

theorem addOff_sound {env : En} {M : PH} {p q : SV} {v : Value} (h : Conc env M p v) {k : Nat} (ha : addOff p k = some q) :
    ∃ b o, v = .pointer (some ⟨b, o, none⟩) ∧ Conc env M q (.pointer (some ⟨b, o + k, none⟩)) := by
  unfold addOff at ha
  split at ha
  · injection ha with ha; subst ha
    unfold Conc at h; obtain ⟨b, e, rfl⟩ := h
    exact ⟨b, _, rfl, by unfold Conc; exact ⟨b, e, rfl⟩⟩
  · injection ha with ha; subst ha
    unfold Conc at h; obtain ⟨b, o, L, c, e, rfl⟩ := h
    exact ⟨b, _, rfl, by unfold Conc; exact ⟨b, o, L, c, e, by rw [Nat.add_assoc]⟩⟩
  · injection ha with ha; subst ha
    unfold Conc at h; obtain ⟨b, o, len, cap, sz, r, hi, hs, rfl⟩ := h
    exact ⟨b, _, rfl, by unfold Conc; exact ⟨b, o, len, cap, sz, r, hi, hs, by rw [Nat.add_assoc]⟩⟩
  · cases ha

def fieldOf (tt : Tab) (d : TD) (k : Nat) : Option (Nat × TD) := match d.desc with
  | .struct fs => match fs[k]? with
    | some f => match tt f.type with
      | some df => bif df.size == 0 then none else some (f.offset, df)
      | none => none
    | none => none
  | _ => none

theorem fieldOf_spec {P : Program} {tt : Tab} (ht : TabOk P tt) {d : TD} {k off : Nat} {df : TD} (h : fieldOf tt d k = some (off, df)) :
    ∃ fs f, d.desc = .struct fs ∧ fs[k]? = some f ∧ f.offset = off ∧ TdOk P f.type df ∧ df.size ≠ 0 := by
  unfold fieldOf at h
  split at h
  · rename_i fs hd
    split at h
    · rename_i f hf
      split at h
      · rename_i df' hdf
        cases hb : (df'.size == 0) with
        | true => rw [hb] at h; cases h
        | false =>
          rw [hb] at h; simp only [cond_false] at h
          injection h with h; injection h with h1 h2; subst h1; subst h2
          exact ⟨fs, f, hd, hf, rfl, ht _ _ hdf, by simpa using hb⟩
      · cases h
    · cases h
  · cases h

def actFieldAddr (tt : Tab) (d : TD) (p : SV) (k : Nat) : Option Eff :=
  match fieldOf tt d k with
  | some (off, _) => (addOff p off).map fun q => { val := q }
  | none => none

theorem actFieldAddr_sound {P : Program} {tt : Tab} (ht : TabOk P tt) {env : En} {M : PH} {w : World} {t : TypeId} {d : TD} (hd : TdOk P t d) {p : SV} {v : Value} (hp : Conc env M p v) {k : Nat} {e : Eff} (ha : actFieldAddr tt d p k = some e) :
    ∃ x, (Instr.fieldAt t v k).run P w = .ok x w ∧ Conc env M e.val x ∧ e.wr = [] := by
  unfold actFieldAddr at ha
  split at ha
  · rename_i off df hf
    obtain ⟨fs, f, hdesc, hk, hoff, hdf, hne⟩ := fieldOf_spec ht hf
    obtain ⟨q, hq, rfl⟩ := Option.map_eq_some_iff.1 ha
    obtain ⟨b, o, rfl, hc⟩ := addOff_sound hp hq
    refine ⟨_, ?_, hc, rfl⟩
    simp only [Instr.fieldAt, Sem.run_bind, run_und hd, hdesc, Result.andThen_ok, hk, Instr.sureAddr, Sem.run_pure, fieldPlace, run_size hdf]
    rw [if_neg hne, Sem.run_pure, hoff, addr_add]
    rfl
  · cases ha

def partS (d : TD) (l : List SV) (off : Nat) : Option SV :=
  bif isAggD d.desc then bif decide (off + d.size ≤ l.length) then some (.agg ((l.drop off).take d.size)) else none
  else l[off]?

theorem partS_sound {P : Program} {env : En} {M : PH} {w : World} {t : TypeId} {d : TD} (hd : TdOk P t d) {l : List SV} {vs : List Value} (hl : ConcL env M l vs) {off : Nat} {s : SV} (hs : partS d l off = some s) :
    ∃ x, (part t vs.toArray off).run P w = .ok x w ∧ Conc env M s x := by
  unfold partS at hs
  simp only [part, Sem.run_bind, run_agg hd, Result.andThen_ok]
  cases hA : isAggD d.desc with
  | true =>
    rw [hA] at hs; simp only [cond_true] at hs
    cases hb : decide (off + d.size ≤ l.length) with
    | false => rw [hb] at hs; cases hs
    | true =>
      rw [hb] at hs; simp only [cond_true] at hs; injection hs with hs; subst hs
      refine ⟨.agg ((vs.drop off).take d.size).toArray, ?_, ?_⟩
      · simp only [if_true, Sem.run_bind, run_size hd, Result.andThen_ok, Sem.run_pure]
        congr 2
        apply Array.ext'
        rw [Array.toList_extract]
        simp [List.extract]
      · unfold Conc; exact ⟨_, rfl, (hl.drop off).take _⟩
  | false =>
    rw [hA] at hs; simp only [cond_false] at hs
    obtain ⟨x, hx, hc⟩ := hl.get hs
    refine ⟨x, ?_, hc⟩
    simp [hx]

def actField (tt : Tab) (d : TD) (x : SV) (k : Nat) : Option Eff :=
  match fieldOf tt d k, x with
  | some (off, df), .agg l => (partS df l off).map fun s => { val := s }
  | _, _ => none

theorem actField_sound {P : Program} {tt : Tab} (ht : TabOk P tt) {env : En} {M : PH} {w : World} {t : TypeId} {d : TD} (hd : TdOk P t d) {x : SV} {v : Value} (hp : Conc env M x v) {k : Nat} {e : Eff} (ha : actField tt d x k = some e) :
    ∃ y, (Instr.field t v k).run P w = .ok y w ∧ Conc env M e.val y ∧ e.wr = [] := by
  unfold actField at ha
  split at ha
  · rename_i off df l hf
    obtain ⟨fs, f, hdesc, hk, hoff, hdf, hne⟩ := fieldOf_spec ht hf
    obtain ⟨q, hq, rfl⟩ := Option.map_eq_some_iff.1 ha
    unfold Conc at hp; obtain ⟨cs, rfl, hc⟩ := hp
    obtain ⟨y, hy, hcy⟩ := partS_sound (w := w) hdf hc hq
    refine ⟨y, ?_, hcy, rfl⟩
    simp only [Instr.field, Sem.run_bind, run_und hd, hdesc, Result.andThen_ok, hk, asAgg, Sem.run_pure, hoff, hy]
  · cases ha

def actIndexAddr (tt : Tab) (d : TD) (x ix : SV) : Option Eff :=
  match ix with
  | .d (.v (.int _ i)) =>
    match d.desc with
    | .slice e => match tt e with
      | some de => match x with
        | .d (.lst rows) => bif decide (0 ≤ i) && decide (i.toNat < rows.length) && ((rows.getD i.toNat []).length == de.size) then some { val := .ept rows i.toNat 0 } else none
        | .vw n sz lo len => bif decide (0 ≤ i) && decide (i.toNat < len) && (sz == de.size) then some { val := .vptr n sz (lo + i.toNat) 0 } else none
        | _ => none
      | none => none
    | .array n e => match tt e with
      | some de => bif decide (0 ≤ i) && decide (i.toNat < n) then (addOff x (i.toNat * de.size)).map fun q => { val := q } else none
      | none => none
    | _ => none
  | _ => none

theorem actIndexAddr_sound {P : Program} {tt : Tab} (ht : TabOk P tt) {env : En} {M : PH} {w : World} {t : TypeId} {d : TD} (hd : TdOk P t d) {x ix : SV} {v vi : Value} (hx : Conc env M x v) (hi : Conc env M ix vi) {e : Eff} (ha : actIndexAddr tt d x ix = some e) :
    ∃ y, (Instr.indexAt t v vi).run P w = .ok y w ∧ Conc env M e.val y ∧ e.wr = [] := by
  unfold actIndexAddr at ha
  split at ha
  · rename_i k i
    unfold Conc at hi; cases hi with | v _ _ =>
    split at ha
    · rename_i et hdesc
      split at ha
      · rename_i de hde
        have hE := ht _ _ hde
        split at ha
        · rename_i rows
          cases hb : (decide (0 ≤ i) && decide (i.toNat < rows.length) && ((rows.getD i.toNat []).length == de.size)) with
          | false => rw [hb] at ha; cases ha
          | true =>
            rw [hb] at ha; simp only [cond_true] at ha; injection ha with ha; subst ha
            simp only [Bool.and_eq_true, beq_iff_eq, decide_eq_true_eq] at hb
            obtain ⟨⟨h0, h1⟩, h2⟩ := hb
            unfold Conc at hx
            cases hx with
            | lst _ a len cap sz hl hc hs f hA hr =>
              have hlen : i.toNat < len := by omega
              obtain ⟨b, o, rfl, hcell⟩ := hA (by omega)
              have hsz : sz = de.size := by rw [← hs _ hlen, h2]
              subst hsz
              refine ⟨.pointer (some ⟨b, o + i.toNat * de.size, none⟩), ?_, ?_, rfl⟩
              · simp only [Instr.indexAt, asIntOf, Sem.run_bind, Sem.run_pure, Result.andThen_ok, run_und hd, hdesc]
                rw [if_pos ⟨h0, by omega⟩]
                simp only [Sem.run_bind, run_size hE, Result.andThen_ok, Sem.run_pure, addr_add]
              · unfold Conc
                exact ⟨b, o, len, cap, de.size, .lst rows _ len cap de.size hl hc hs f hA hr, hlen, h2, by simp⟩
        · rename_i n sz lo len
          cases hb : (decide (0 ≤ i) && decide (i.toNat < len) && (sz == de.size)) with
          | false => rw [hb] at ha; cases ha
          | true =>
            rw [hb] at ha; simp only [cond_true] at ha; injection ha with ha; subst ha
            simp only [Bool.and_eq_true, beq_iff_eq, decide_eq_true_eq] at hb
            obtain ⟨⟨h0, h1⟩, h2⟩ := hb
            subst h2
            unfold Conc at hx
            obtain ⟨b, o, L, c, A, e', hle, hA, rfl⟩ := hx
            have hA' := hA (by omega)
            subst hA'
            refine ⟨.pointer (some ⟨b, o + lo * de.size + i.toNat * de.size, none⟩), ?_, ?_, rfl⟩
            · simp only [Instr.indexAt, asIntOf, Sem.run_bind, Sem.run_pure, Result.andThen_ok, run_und hd, hdesc]
              rw [if_pos ⟨h0, by omega⟩]
              simp only [Sem.run_bind, run_size hE, Result.andThen_ok, Sem.run_pure, addr_add]
            · unfold Conc
              exact ⟨b, o, L, c, e', by simp [Nat.add_mul, Nat.add_assoc]⟩
        · cases ha
      · cases ha
    · rename_i n et hdesc
      split at ha
      · rename_i de hde
        have hE := ht _ _ hde
        cases hb : (decide (0 ≤ i) && decide (i.toNat < n)) with
        | false => rw [hb] at ha; cases ha
        | true =>
          rw [hb] at ha; simp only [cond_true] at ha
          simp only [Bool.and_eq_true, decide_eq_true_eq] at hb
          obtain ⟨q, hq, rfl⟩ := Option.map_eq_some_iff.1 ha
          obtain ⟨b, o, rfl, hc⟩ := addOff_sound hx hq
          refine ⟨_, ?_, hc, rfl⟩
          simp only [Instr.indexAt, asIntOf, Sem.run_bind, Sem.run_pure, Result.andThen_ok, run_und hd, hdesc, Instr.sureAddr]
          rw [if_pos ⟨hb.1, by omega⟩]
          simp only [Sem.run_bind, run_size hE, Result.andThen_ok, Sem.run_pure, addr_add]
      · cases ha
    · cases ha
  · cases ha

/-! Index, length. -/
def actIndex (tt : Tab) (d : TD) (x ix : SV) : Option Eff :=
  match ix with
  | .d (.v (.int _ i)) =>
    match d.desc, x with
    | .string, .d (.v (.string s)) => bif decide (0 ≤ i) then (match s.data.toList[i.toNat]? with | some b => some { val := .d (.v (.int .u8 b.toNat)) } | none => none) else none
    | .array n e, .agg l => match tt e with
      | some de => bif decide (0 ≤ i) && decide (i.toNat < n) then (partS de l (i.toNat * de.size)).map fun q => { val := q } else none
      | none => none
    | _, _ => none
  | _ => none

theorem actIndex_sound {P : Program} {tt : Tab} (ht : TabOk P tt) {env : En} {M : PH} {w : World} {t : TypeId} {d : TD} (hd : TdOk P t d) {x ix : SV} {v vi : Value} (hx : Conc env M x v) (hi : Conc env M ix vi) {e : Eff} (ha : actIndex tt d x ix = some e) :
    ∃ y, (Instr.index t v vi).run P w = .ok y w ∧ Conc env M e.val y ∧ e.wr = [] := by
  unfold actIndex at ha
  split at ha
  · rename_i k i
    unfold Conc at hi; cases hi with | v _ _ =>
    split at ha
    · rename_i s hdesc
      unfold Conc at hx; cases hx with | v _ _ =>
      cases hb : decide (0 ≤ i) with
      | false => rw [hb] at ha; cases ha
      | true =>
        rw [hb] at ha; simp only [cond_true] at ha
        split at ha
        · rename_i b hbyte
          injection ha with ha; subst ha
          have h0 := of_decide_eq_true hb
          have hlt : i.toNat < s.size := by
            have := (List.getElem?_eq_some_iff.1 hbyte).1
            exact this
          refine ⟨.int .u8 b.toNat, ?_, by unfold Conc; exact .v _ rfl, rfl⟩
          simp only [Instr.index, asIntOf, Sem.run_bind, Sem.run_pure, Result.andThen_ok, run_und hd, hdesc]
          rw [if_pos h0, ByteArray.getElem?_lt' s _ hlt]
          simp only [Sem.run_pure]
          have : s[i.toNat] = b := by
            have := (List.getElem?_eq_some_iff.1 hbyte).2
            rw [← this]; rfl
          rw [this]
        · cases ha
    · rename_i n et l hdesc
      split at ha
      · rename_i de hde
        have hE := ht _ _ hde
        cases hb : (decide (0 ≤ i) && decide (i.toNat < n)) with
        | false => rw [hb] at ha; cases ha
        | true =>
          rw [hb] at ha; simp only [cond_true] at ha
          simp only [Bool.and_eq_true, decide_eq_true_eq] at hb
          obtain ⟨q, hq, rfl⟩ := Option.map_eq_some_iff.1 ha
          unfold Conc at hx; obtain ⟨cs, rfl, hc⟩ := hx
          obtain ⟨y, hy, hcy⟩ := partS_sound (w := w) hE hc hq
          refine ⟨y, ?_, hcy, rfl⟩
          simp only [Instr.index, asIntOf, Sem.run_bind, Sem.run_pure, Result.andThen_ok, run_und hd, hdesc]
          rw [if_pos ⟨hb.1, by omega⟩]
          simp only [Sem.run_bind, run_size hE, Result.andThen_ok, hy]
      · cases ha
    · cases ha
  · cases ha

def actLen (d : TD) (x : SV) : Option Eff :=
  match d.desc, x with
  | .string, .d (.v (.string s)) => some { val := .d (.v (.int .i64 s.data.toList.length)) }
  | .slice _, .d (.lst rows) => some { val := .d (.v (.int .i64 rows.length)) }
  | .slice _, .vw _ _ _ len => some { val := .d (.v (.int .i64 len)) }
  | .slice _, .nils => some { val := .d (.v (.int .i64 0)) }
  | .array n _, _ => some { val := .d (.v (.int .i64 n)) }
  | _, _ => none

theorem actLen_sound {P : Program} {env : En} {M : PH} {w : World} {t ty : TypeId} {d : TD} (hd : TdOk P t d) {x : SV} {v : Value} (hx : Conc env M x v) {e : Eff} (ha : actLen d x = some e) :
    ∃ y, (Builtin.len_ #[t] ty #[v]).run P w = .ok y w ∧ Conc env M e.val y ∧ e.wr = [] := by
  have key : ∀ n : Nat, ∀ y, y = Value.int .i64 n → Conc env M (.d (.v (.int .i64 n))) y := fun n y hy => by subst hy; unfold Conc; exact .v _ rfl
  unfold actLen at ha
  split at ha
  · rename_i s hdesc
    injection ha with ha; subst ha
    unfold Conc at hx; cases hx with | v _ _ =>
    refine ⟨_, ?_, key _ _ rfl, rfl⟩
    simp [Builtin.len_, run_und hd, hdesc, goInt]
  · rename_i rows hdesc
    injection ha with ha; subst ha
    unfold Conc at hx
    cases hx with
    | lst _ a len cap sz hl _ _ _ _ _ =>
      refine ⟨_, ?_, key _ _ rfl, rfl⟩
      simp [Builtin.len_, run_und hd, hdesc, goInt, hl]
  · rename_i n sz lo len hdesc
    injection ha with ha; subst ha
    unfold Conc at hx
    obtain ⟨b, o, L, c, A, _, _, _, rfl⟩ := hx
    refine ⟨_, ?_, key _ _ rfl, rfl⟩
    simp [Builtin.len_, run_und hd, hdesc, goInt]
  · rename_i hdesc
    injection ha with ha; subst ha
    unfold Conc at hx; subst hx
    refine ⟨_, ?_, key 0 _ rfl, rfl⟩
    simp [Builtin.len_, run_und hd, hdesc, goInt]
  · rename_i n et hdesc
    injection ha with ha; subst ha
    refine ⟨_, ?_, key _ _ rfl, rfl⟩
    simp [Builtin.len_, run_und hd, hdesc, goInt]
  · cases ha

end Go.Proofs.Ae

/- Slices of slices and of strings; append; make. -/
namespace Go.Proofs.Ae
open Go
set_option linter.unusedSectionVars false
variable [Io]

def boundS (o : Option SV) (dflt : Nat) : Option Nat := match o with
  | none => some dflt
  | some (.d (.v (.int _ i))) => bif decide (0 ≤ i) then some i.toNat else none
  | _ => none

inductive ConcO (env : En) (M : PH) : Option SV → Option Value → Prop where
  | none : ConcO env M none none
  | some {s : SV} {v : Value} (h : Conc env M s v) : ConcO env M (some s) (some v)

theorem boundS_spec {env : En} {M : PH} {o : Option SV} {vo : Option Value} (h : ConcO env M o vo) {dflt l : Nat} (hb : boundS o dflt = some l) :
    (vo = none ∧ l = dflt) ∨ ∃ k i, vo = some (.int k i) ∧ 0 ≤ i ∧ l = i.toNat := by
  cases h with
  | none => simp only [boundS, Option.some.injEq] at hb; exact .inl ⟨rfl, hb.symm⟩
  | some c =>
    right
    unfold boundS at hb
    split at hb
    · cases ‹_ = none›
    · rename_i k i heq
      injection heq with heq; subst heq
      unfold Conc at c; cases c with | v _ _ =>
      cases hd : decide (0 ≤ i) with
      | false => rw [hd] at hb; cases hb
      | true =>
        rw [hd] at hb; simp only [cond_true] at hb; injection hb with hb
        exact ⟨k, i, rfl, of_decide_eq_true hd, hb.symm⟩
    · cases hb

theorem bounds_sound {P : Program} {env : En} {M : PH} {w : World} {lo hi : Option SV} {vlo vhi : Option Value} (hlo : ConcO env M lo vlo) (hhi : ConcO env M hi vhi) {len cap l h : Nat} {b : Bool}
    (h1 : boundS lo 0 = some l) (h2 : boundS hi len = some h) (hlh : l ≤ h) (hc : h ≤ cap) :
    (Instr.sliceBounds b len cap vlo vhi none).run P w = .ok (l, h, cap) w := by
  have sb : ∀ (k : IntKind) (i : Int) (y : Nat) (c : BoundsCode), 0 ≤ i → i.toNat ≤ y → (Instr.sliceBound (.int k i) y c).run P w = .ok i.toNat w := fun k i y c h0 hy => by
    simp only [Instr.sliceBound, asIntOf, Sem.run_bind, Sem.run_pure, Result.andThen_ok]
    rw [if_pos ⟨h0, by omega⟩]; rfl
  rcases boundS_spec hhi h2 with ⟨rfl, rfl⟩ | ⟨kh, ih, rfl, h0h, rfl⟩ <;> rcases boundS_spec hlo h1 with ⟨rfl, rfl⟩ | ⟨kl, il, rfl, h0l, rfl⟩
  · simp [Instr.sliceBounds]
  · simp only [Instr.sliceBounds, Sem.run_bind, Sem.run_pure, Result.andThen_ok, sb kl il _ _ h0l hlh]
  · simp only [Instr.sliceBounds, Sem.run_bind, Sem.run_pure, Result.andThen_ok, sb kh ih _ _ h0h hc]
  · simp only [Instr.sliceBounds, Sem.run_bind, Sem.run_pure, Result.andThen_ok, sb kh ih _ _ h0h hc, sb kl il _ _ h0l hlh]

theorem Rep.sub {M : PH} {a : Option Addr} {len cap : Nat} {rows : List (List D)} {size : Nat} (r : Rep M (.slice a len cap) (.lst rows)) (hsz : ∀ row ∈ rows, row.length = size) {l h : Nat} (hlh : l ≤ h) (hh : h ≤ len) :
    Rep M (.slice (if cap = l then a else a.map (·.add (l * size))) (h - l) (cap - l)) (.lst ((rows.drop l).take (h - l))) := by
  cases r with
  | lst _ _ _ _ sz hl hc hs f ha hr =>
    have hget : ∀ i, i < h - l → ((rows.drop l).take (h - l)).getD i [] = rows.getD (l + i) [] := fun i hi => by
      simp [List.getD_eq_getElem?_getD, hi]
    by_cases h0 : h = l
    · subst h0
      refine .lst _ _ _ _ sz (by simp) (by omega) (fun i hi => by omega) (fun _ _ => undef) (fun hi => by omega) (fun i j hi => by omega)
    · have hszz : sz = size := by
        rw [← hs l (by omega)]
        exact hsz _ (by rw [List.getD_eq_getElem?_getD, List.getElem?_eq_getElem (by omega)]; simp)
      subst hszz
      have hne : ¬ cap = l := by omega
      rw [if_neg hne]
      refine .lst _ _ _ _ sz (by simp; omega) (by omega) (fun i hi => by rw [hget i hi]; exact hs _ (by omega)) (fun i j => f (l + i) j) (fun _ => ?_) (fun i j hi hj => by rw [hget i hi]; exact hr _ _ (by omega) hj)
      obtain ⟨b, o, rfl, hcell⟩ := ha (by omega)
      refine ⟨b, o + l * sz, by simp [addr_add], fun i j hi hj => ?_⟩
      rw [← hcell (l + i) j (by omega) hj]
      congr 1
      rw [Nat.add_mul]; omega

def subS (s : ByteArray) (l h : Nat) : ByteArray := ⟨((s.data.toList.drop l).take (h - l)).toArray⟩
theorem extract_subS (s : ByteArray) (l h : Nat) : s.extract l h = subS s l h := by
  apply ByteArray.ext
  apply Array.ext'
  rw [Lib.extract_data]; rfl

def actSlice (tt : Tab) (d : TD) (x : SV) (lo hi : Option SV) : Option Eff :=
  match d.desc with
  | .string => match x with
    | .d (.v (.string s)) => match boundS lo 0, boundS hi s.data.toList.length with
      | some l, some h => bif decide (l ≤ h) && decide (h ≤ s.data.toList.length) then some { val := .d (.v (.string (subS s l h))) } else none
      | _, _ => none
    | _ => none
  | .slice e => match tt e with
    | some de => match x with
      | .nils => match boundS lo 0, boundS hi 0 with
        | some 0, some 0 => some { val := .nils }
        | _, _ => none
      | .d (.lst rows) => match boundS lo 0, boundS hi rows.length with
        | some l, some h => bif decide (l ≤ h) && decide (h ≤ rows.length) && rows.all (fun r => r.length == de.size) then some { val := .d (.lst ((rows.drop l).take (h - l))) } else none
        | _, _ => none
      | .vw n sz s0 len => match boundS lo 0, boundS hi len with
        | some l, some h => bif decide (l ≤ h) && decide (h ≤ len) && (sz == de.size) then some { val := .vw n sz (s0 + l) (h - l) } else none
        | _, _ => none
      | _ => none
    | none => none
  | _ => none

theorem actSlice_sound {P : Program} {tt : Tab} (ht : TabOk P tt) {env : En} {M : PH} {w : World} {t : TypeId} {d : TD} (hd : TdOk P t d) {x : SV} {v : Value} (hx : Conc env M x v) {lo hi : Option SV} {vlo vhi : Option Value} (hlo : ConcO env M lo vlo) (hhi : ConcO env M hi vhi)
    {e : Eff} (ha : actSlice tt d x lo hi = some e) : ∃ y, (Instr.sliceAt t v vlo vhi none).run P w = .ok y w ∧ Conc env M e.val y ∧ e.wr = [] := by
  unfold actSlice at ha
  split at ha
  · rename_i hdesc
    split at ha
    · rename_i s
      split at ha
      · rename_i l h hl hh
        cases hb : (decide (l ≤ h) && decide (h ≤ s.data.toList.length)) with
        | false => rw [hb] at ha; cases ha
        | true =>
          rw [hb] at ha; simp only [cond_true] at ha; injection ha with ha; subst ha
          simp only [Bool.and_eq_true, decide_eq_true_eq] at hb
          unfold Conc at hx; cases hx with | v _ _ =>
          refine ⟨.string (subS s l h), ?_, by unfold Conc; exact .v _ rfl, rfl⟩
          have hsz : s.size = s.data.toList.length := rfl
          simp only [Instr.sliceAt, Sem.run_bind, run_und hd, hdesc, Result.andThen_ok, Instr.slice]
          have hbs := bounds_sound (P := P) (w := w) (b := false) hlo hhi hl (len := s.size) (cap := s.size) (by rw [hsz]; exact hh) hb.1 (by rw [hsz]; exact hb.2)
          simp only [Option.isSome_none, Bool.false_eq_true, if_false, Sem.run_bind, hbs, Result.andThen_ok, Sem.run_pure, extract_subS]
      · cases ha
    · cases ha
  · rename_i et hdesc
    split at ha
    · rename_i de hde
      have hE := ht _ _ hde
      split at ha
      · split at ha
        · rename_i hl hh
          injection ha with ha; subst ha
          unfold Conc at hx; subst hx
          refine ⟨.slice none 0 0, ?_, by unfold Conc; rfl, rfl⟩
          simp only [Instr.sliceAt, Sem.run_bind, run_und hd, hdesc, Result.andThen_ok, Instr.slice]
          rw [bounds_sound hlo hhi hl hh (Nat.le_refl 0) (Nat.le_refl 0)]
          simp only [Result.andThen_ok, run_size hE, if_true, Sem.run_pure]
        · cases ha
      · rename_i rows
        split at ha
        · rename_i l h hl hh
          cases hb : (decide (l ≤ h) && decide (h ≤ rows.length) && rows.all (fun r => r.length == de.size)) with
          | false => rw [hb] at ha; cases ha
          | true =>
            rw [hb] at ha; simp only [cond_true] at ha; injection ha with ha; subst ha
            simp only [Bool.and_eq_true, decide_eq_true_eq, List.all_eq_true, beq_iff_eq] at hb
            obtain ⟨⟨h1, h2⟩, h3⟩ := hb
            unfold Conc at hx
            have hx0 := hx
            cases hx with
            | lst _ a len cap sz hlen hc _ _ _ _ =>
              refine ⟨.slice (if cap = l then a else a.map (·.add (l * de.size))) (h - l) (cap - l), ?_, ?_, rfl⟩
              · simp only [Instr.sliceAt, Sem.run_bind, run_und hd, hdesc, Result.andThen_ok, Instr.slice]
                rw [bounds_sound hlo hhi hl (by rw [← hlen]; exact hh) h1 (by omega)]
                simp only [Result.andThen_ok, run_size hE, Sem.run_pure]
              · unfold Conc; exact hx0.sub h3 h1 (by omega)
        · cases ha
      · rename_i n sz s0 len
        split at ha
        · rename_i l h hl hh
          cases hb : (decide (l ≤ h) && decide (h ≤ len) && (sz == de.size)) with
          | false => rw [hb] at ha; cases ha
          | true =>
            rw [hb] at ha; simp only [cond_true] at ha; injection ha with ha; subst ha
            simp only [Bool.and_eq_true, decide_eq_true_eq, beq_iff_eq] at hb
            obtain ⟨⟨h1, h2⟩, h3⟩ := hb
            subst h3
            unfold Conc at hx
            obtain ⟨b, o, L, c, A, e', hle, hA, rfl⟩ := hx
            refine ⟨.slice (if c - s0 = l then some A else (some A).map (·.add (l * de.size))) (h - l) (c - s0 - l), ?_, ?_, rfl⟩
            · simp only [Instr.sliceAt, Sem.run_bind, run_und hd, hdesc, Result.andThen_ok, Instr.slice]
              rw [bounds_sound hlo hhi hl hh h1 (by omega)]
              simp only [Result.andThen_ok, run_size hE, Sem.run_pure]
            · unfold Conc
              by_cases hcl : c - s0 = l
              · exact ⟨b, o, L, c, A, e', by omega, fun hne => absurd (by omega) hne, by rw [if_pos hcl]; congr 1; omega⟩
              · have hA' := hA (by omega)
                subst hA'
                refine ⟨b, o, L, c, ⟨b, o + (s0 + l) * de.size, none⟩, e', by omega, fun _ => rfl, ?_⟩
                rw [if_neg hcl]
                simp only [Option.map_some, addr_add]
                congr 1
                · congr 1; rw [Nat.add_mul, Nat.add_assoc]
                · omega
        · cases ha
      · cases ha
    · cases ha
  · cases ha

/-! append. -/
def getRows (lk : Look) (size : Nat) (x : SV) : Option (List (List SV) × List Nat) := match x with
  | .nils => some ([], [])
  | .d (.lst rows) => bif rows.all (fun r => r.length == size) then some (rows.map (·.map .d), []) else none
  | .vw n sz lo len => match lk n with
    | some (.vec rows sz' _) => bif sz == sz' && (sz == size) && decide (lo + len ≤ rows.length) then some ((rows.drop lo).take len, [n]) else none
    | _ => none
  | _ => none

theorem flat_rows {sz : Nat} (hsz : 0 < sz) : ∀ (n : Nat) (g : Nat → List Value), (∀ i, i < n → (g i).length = sz) → ∃ ys : List Value, ys.length = n * sz ∧ ∀ i k, i < n → k < sz → ys[i * sz + k]? = (g i)[k]?
  | 0, _, _ => ⟨[], by simp, fun i k hi => by omega⟩
  | n + 1, g, h => by
    obtain ⟨ys, hl, hk⟩ := flat_rows hsz n (fun i => g (i + 1)) (fun i hi => h (i + 1) (by omega))
    refine ⟨g 0 ++ ys, by simp [h 0 (by omega), hl, Nat.succ_mul]; omega, fun i k hi hk' => ?_⟩
    cases i with
    | zero => rw [Nat.zero_mul, Nat.zero_add, List.getElem?_append_left (by rw [h 0 (by omega)]; exact hk')]
    | succ i =>
      rw [List.getElem?_append_right (by rw [h 0 (by omega), Nat.succ_mul]; omega), ← hk i k (by omega) hk']
      congr 1; rw [h 0 (by omega), Nat.succ_mul]; omega

/-- What is read for an append: the rows' cells, one behind the other. -/
theorem getRows_sound {P : Program} {env : En} {M F : PH} {lk : Look} {w : World} (h : Hp env M F lk w) {size : Nat} (hsz : 0 < size) {x : SV} {v : Value} (hx : Conc env M x v) {rs : List (List SV)} {rd : List Nat} (hg : getRows lk size x = some (rs, rd)) :
    (Builtin.lenOf v).run P w = .ok rs.length w ∧ ∃ ys : List Value, ys.length = rs.length * size ∧ (∀ y ∈ ys, one y = true) ∧ RowsAt env M ys 0 size rs ∧ (Builtin.firstCells size rs.length v).run P w = .ok ys.toArray w := by
  unfold getRows at hg
  split at hg
  · injection hg with hg; injection hg with h1 h2; subst h1; subst h2
    unfold Conc at hx; subst hx
    exact ⟨by simp [Builtin.lenOf], [], by simp, by simp, fun i hi => by simp at hi, by simp [Builtin.firstCells]⟩
  · rename_i rows
    cases hb : rows.all (fun r => r.length == size) with
    | false => rw [hb] at hg; cases hg
    | true =>
      rw [hb] at hg; simp only [cond_true] at hg
      injection hg with hg; injection hg with h1 h2; subst h1; subst h2
      simp only [List.all_eq_true, beq_iff_eq] at hb
      unfold Conc at hx
      have hx0 := hx
      cases hx with
      | lst _ a len cap sz hl hc hs f ha hr =>
        refine ⟨by simp [Builtin.lenOf, hl], ?_⟩
        by_cases h0 : len = 0
        · subst h0
          have : rows = [] := List.length_eq_zero_iff.1 hl
          subst this
          refine ⟨[], by simp, by simp, fun i hi => by simp at hi, ?_⟩
          cases a with
          | none => simp [Builtin.firstCells]
          | some a => simp [Builtin.firstCells, loadCells, loadCellsFrom]
        · obtain ⟨b, o, rfl, hcell⟩ := ha (by omega)
          obtain ⟨sz', hs', hl', hrow⟩ := rep_row hx0
          have hszz : sz' = size := by
            rw [← hs' 0 (by omega)]
            exact hb _ (by rw [List.getD_eq_getElem?_getD, List.getElem?_eq_getElem (by omega)]; simp)
          subst hszz
          have hch : ∃ g : Nat → List Value, ∀ i, i < len → ConcL (fun _ => none) M ((rows.getD i []).map SV.d) (g i) ∧ (g i).length = sz' ∧ (∀ x ∈ g i, one x = true) ∧ ∀ k, k < sz' → cellM M b (o + i * sz' + k) = (g i)[k]? := by
            refine ⟨fun i => if hi : i < len then (hrow i hi).choose else [], fun i hi => ?_⟩
            simp only [hi, dif_pos]
            exact (hrow i hi).choose_spec
          obtain ⟨g, hg⟩ := hch
          obtain ⟨ys, hyl, hyk⟩ := flat_rows hsz len g (fun i hi => (hg i hi).2.1)
          have hpos : ∀ q, q < len * sz' → q / sz' < len ∧ q % sz' < sz' ∧ q / sz' * sz' + q % sz' = q := fun q hq => by
            refine ⟨by rw [Nat.div_lt_iff_lt_mul hsz]; exact hq, Nat.mod_lt _ hsz, ?_⟩
            rw [Nat.mul_comm]; exact Nat.div_add_mod q sz'
          refine ⟨ys, by simp [hyl, hl], fun y hy => ?_, fun i hi => ?_, ?_⟩
          · obtain ⟨q, hq⟩ := List.getElem?_of_mem hy
            have hql : q < len * sz' := by rw [← hyl]; exact (List.getElem?_eq_some_iff.1 hq).1
            obtain ⟨q1, q2, q3⟩ := hpos q hql
            have := hyk _ _ q1 q2
            rw [q3, hq] at this
            exact (hg _ q1).2.2.1 y (List.mem_of_getElem? this.symm)
          · have hi' : i < len := by simpa [hl] using hi
            refine ⟨g i, ?_, (hg i hi').2.1, fun k hk => by rw [Nat.zero_add]; exact hyk i k hi' hk⟩
            have := ConcL.mono (env' := env) (PH.le_refl M) (fun n v e => by cases e) (hg i hi').1
            have e : (rows.map (·.map SV.d)).getD i [] = (rows.getD i []).map SV.d := by
              simp [List.getD_eq_getElem?_getD, List.getElem?_map, List.getElem?_eq_getElem (show i < rows.length by omega)]
            rw [e]; exact this
          · simp only [Builtin.firstCells, List.length_map]
            rw [hl]
            exact run_loadCells P w b o (len * sz') ys hyl (fun q x hq => by
              have hql : q < len * sz' := by rw [← hyl]; exact (List.getElem?_eq_some_iff.1 hq).1
              obtain ⟨q1, q2, q3⟩ := hpos q hql
              have h1 := hyk _ _ q1 q2
              rw [q3, hq] at h1
              have h2 := (hg _ q1).2.2.2 _ q2
              rw [← h1] at h2
              unfold cellM at h2
              cases hM : M b with
              | none => rw [hM] at h2; cases h2
              | some ob =>
                rw [hM] at h2
                have hw := h.hM b ob hM
                cases ob <;> simp at h2
                rename_i c e fz
                simp only at hw
                unfold World.cell?
                rw [hw]
                simp only [Option.isSome_none, Bool.false_eq_true, if_false]
                rw [show o + q = o + q / sz' * sz' + q % sz' by omega]
                simpa using h2)
  · rename_i n sz lo len
    split at hg
    · rename_i rows sz' E hn
      cases hb : (sz == sz' && (sz == size) && decide (lo + len ≤ rows.length)) with
      | false => rw [hb] at hg; cases hg
      | true =>
        rw [hb] at hg; simp only [cond_true] at hg
        injection hg with hg; injection hg with h1 h2; subst h1; subst h2
        simp only [Bool.and_eq_true, beq_iff_eq, decide_eq_true_eq] at hb
        obtain ⟨⟨h1, h2⟩, h3⟩ := hb
        subst h1; subst h2
        obtain ⟨b, ob, ⟨cs, o, c, e, g1, g2, g3, g4, rfl⟩, hw, _⟩ := h.atoms n _ hn
        unfold Conc at hx
        obtain ⟨b', o', L, c', A, e', hle, hA, rfl⟩ := hx
        rw [e] at e'; injection e' with e'; injection e' with e' e3 e4; injection e' with e'; injection e' with e1 e2 _
        subst e1; subst e2; subst e3; subst e4
        have hlen : ((rows.drop lo).take len).length = len := by simp; omega
        refine ⟨by simp [Builtin.lenOf, hlen], (cs.drop (o + lo * sz)).take (len * sz), ?_, ?_, ?_, ?_⟩
        · have : (lo + len) * sz ≤ c * sz := Nat.mul_le_mul_right _ (by omega)
          rw [Nat.add_mul] at this
          simp [hlen]; omega
        · intro y hy; exact g3 y (List.mem_of_mem_drop (List.mem_of_mem_take hy))
        · intro i hi
          rw [hlen] at hi
          obtain ⟨xs, q1, q2, q3⟩ := g4 (lo + i) (by omega)
          refine ⟨xs, ?_, q2, fun k hk => ?_⟩
          · have : ((rows.drop lo).take len).getD i [] = rows.getD (lo + i) [] := by simp [List.getD_eq_getElem?_getD, hi]
            rw [this]; exact q1
          · have hh : (i + 1) * sz ≤ len * sz := Nat.mul_le_mul_right _ hi
            rw [Nat.succ_mul] at hh
            rw [List.getElem?_take, if_pos (by omega), List.getElem?_drop, ← q3 k hk]
            congr 1
            rw [Nat.add_mul]; omega
        · rw [hlen]
          simp only [Builtin.firstCells]
          by_cases h0 : len = 0
          · subst h0; simp [loadCells, loadCellsFrom]
          · have hA' := hA (by omega)
            subst hA'
            have : (lo + len) * sz ≤ c * sz := Nat.mul_le_mul_right _ (by omega)
            rw [Nat.add_mul] at this
            refine run_loadCells P w b (o + lo * sz) (len * sz) _ (by simp; omega) (fun k x hx => ?_)
            rw [List.getElem?_take] at hx
            split at hx
            · rw [cell_of hw]; simpa using hx
            · cases hx
    · cases hg
  · cases hg

end Go.Proofs.Ae
