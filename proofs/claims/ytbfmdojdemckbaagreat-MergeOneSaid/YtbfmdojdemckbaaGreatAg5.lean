/- A result depends on what the evaluator has looked at alone. -/
import Derived.Test.YtbfmdojdemckbaaGreatAg4
import Derived.Orders
import Derived.Scope
import Derived.LoopN
/- Locality: what the evaluator does hangs on the objects that it can see, and on the choices that it has taken. -/
namespace Go.Ag

/-- what a run may touch: what it could see, and the names that it took -/
def Touch (mk : Mask) (s s' : St) (n : Nat) : Prop := (hidden mk n = false ∧ s.heap.get n ≠ none) ∨ (s.next ≤ n ∧ n < s'.next)

/-- a state that shows at least what another does -/
structure Sees (mk : Mask) (s s2 : St) : Prop where
  next : s2.next = s.next
  minw : s2.minw = s.minw
  ci : s2.ci = s.ci
  get : ∀ n o, hidden mk n = false → s.heap.get n = some o → s2.heap.get n = some o

theorem Sees.refl (mk : Mask) (s : St) : Sees mk s s := ⟨rfl, rfl, rfl, fun _ _ _ h => h⟩

/-- what became of two states by the same steps -/
structure Same (mk : Mask) (s s' s2 s2' : St) : Prop where
  next : s2'.next = s'.next
  minw : s2'.minw = s'.minw
  ci : s2'.ci = s'.ci
  inside : ∀ n, Touch mk s s' n → s2'.heap.get n = s'.heap.get n
  outside : ∀ n, ¬ Touch mk s s' n → s2'.heap.get n = s2.heap.get n

/-- a step: names and choices only grow, nothing else is touched, what was there and has changed is noted -/
structure Goes (mk : Mask) (s s' : St) : Prop where
  next : s.next ≤ s'.next
  ci : s.ci ≤ s'.ci
  minw : s'.minw ≤ s.minw
  frame : ∀ n, ¬ Touch mk s s' n → s'.heap.get n = s.heap.get n
  noted : ∀ n, n < s.next → s'.heap.get n ≠ s.heap.get n → s'.minw ≤ n

theorem Goes.refl (mk : Mask) (s : St) : Goes mk s s := ⟨Nat.le_refl _, Nat.le_refl _, Nat.le_refl _, fun _ _ => rfl, fun _ _ h => absurd rfl h⟩

theorem Goes.trans {mk : Mask} {s s' s'' : St} (x : Goes mk s s') (y : Goes mk s' s'') : Goes mk s s'' where
  next := Nat.le_trans x.next y.next
  ci := Nat.le_trans x.ci y.ci
  minw := Nat.le_trans y.minw x.minw
  frame n h := by
    have h1 : ¬ Touch mk s s' n := fun t => h (t.imp id fun t => ⟨t.1, Nat.lt_of_lt_of_le t.2 y.next⟩)
    have h2 : ¬ Touch mk s' s'' n := fun t => by
      rcases t with ⟨t1, t2⟩ | t
      · rw [x.frame n h1] at t2; exact h (.inl ⟨t1, t2⟩)
      · exact h (.inr ⟨Nat.le_trans x.next t.1, t.2⟩)
    rw [y.frame n h2, x.frame n h1]
  noted n hn hne := by
    by_cases h : s'.heap.get n = s.heap.get n
    · exact y.noted n (Nat.lt_of_lt_of_le hn x.next) (by rw [h]; exact hne)
    · exact Nat.le_trans y.minw (x.noted n hn h)

theorem Same.sees {mk : Mask} {s s' s2 s2' : St} (a : Sees mk s s2) (g : Goes mk s s') (x : Same mk s s' s2 s2') : Sees mk s' s2' where
  next := x.next
  minw := x.minw
  ci := x.ci
  get n o hv h := by
    by_cases t : Touch mk s s' n
    · rw [x.inside n t]; exact h
    · rw [x.outside n t]
      rw [g.frame n t] at h
      exact a.get n o hv h

theorem Same.trans {mk : Mask} {s s' s'' s2 s2' s2'' : St} (gx : Goes mk s s') (gy : Goes mk s' s'') (x : Same mk s s' s2 s2') (y : Same mk s' s'' s2' s2'') : Same mk s s'' s2 s2'' where
  next := y.next
  minw := y.minw
  ci := y.ci
  inside n t := by
    by_cases t2 : Touch mk s' s'' n
    · exact y.inside n t2
    · rw [y.outside n t2, gy.frame n t2]
      refine x.inside n ?_
      rcases t with t | t
      · exact .inl t
      · refine .inr ⟨t.1, ?_⟩
        rcases Nat.lt_or_ge n s'.next with h | h
        · exact h
        · exact absurd (.inr ⟨h, t.2⟩) t2
  outside n t := by
    have h1 : ¬ Touch mk s s' n := fun t' => t (t'.imp id fun t' => ⟨t'.1, Nat.lt_of_lt_of_le t'.2 gy.next⟩)
    have h2 : ¬ Touch mk s' s'' n := fun t' => by
      rcases t' with ⟨t1, t2⟩ | t'
      · rw [gx.frame n h1] at t2; exact t (.inl ⟨t1, t2⟩)
      · exact t (.inr ⟨Nat.le_trans gx.next t'.1, t'.2⟩)
    rw [y.outside n h2, x.outside n h1]

theorem Same.refl {mk : Mask} {s s2 : St} (a : Sees mk s s2) : Same mk s s s2 s2 where
  next := a.next
  minw := a.minw
  ci := a.ci
  inside n t := by
    rcases t with ⟨t1, t2⟩ | t
    · cases h : s.heap.get n with
      | none => exact absurd h t2
      | some o => exact a.get n o t1 h
    · omega
  outside _ _ := rfl

/-- one step that hangs on the state: locality -/
def Loc1 {α : Type} (mk : Mask) (x : (Nat → Nat) → St → Option (α × St)) : Prop :=
  ∀ ch s a s', x ch s = some (a, s') → Goes mk s s' ∧ ∀ ch' s2, (∀ i, i < s'.ci → ch' i = ch i) → Sees mk s s2 → ∃ s2', x ch' s2 = some (a, s2') ∧ Same mk s s' s2 s2'

theorem get_vis {mk : Mask} {s : St} {n : Nat} {o : AObj} (h : s.get mk n = some o) : hidden mk n = false ∧ s.heap.get n = some o := by
  unfold St.get at h
  cases e : hidden mk n with
  | true => simp [e] at h
  | false => simp [e] at h; exact ⟨rfl, h⟩

theorem Sees.look {mk : Mask} {s s2 : St} (a : Sees mk s s2) {n : Nat} {o : AObj} (h : s.get mk n = some o) : s2.get mk n = some o := by
  obtain ⟨h1, h2⟩ := get_vis h
  simp [St.get, h1, a.get n o h1 h2]

/-- a new object -/
theorem Goes.new (mk : Mask) (s : St) (o : AObj) : Goes mk s (s.new o) where
  next := Nat.le_succ _
  ci := Nat.le_refl _
  minw := Nat.le_refl _
  frame n h := by
    show (s.heap.set s.next (some o)).get n = _
    rw [Trie.get_set, if_neg]
    intro e
    exact h (.inr ⟨by omega, by show n < s.next + 1; omega⟩)
  noted n hn hne := by
    refine absurd ?_ hne
    show (s.heap.set s.next (some o)).get n = _
    rw [Trie.get_set, if_neg (by omega)]

theorem Same.new {mk : Mask} {s s2 : St} (a : Sees mk s s2) (o : AObj) : Same mk s (s.new o) s2 (s2.new o) where
  next := by show s2.next + 1 = s.next + 1; rw [a.next]
  minw := a.minw
  ci := a.ci
  inside n t := by
    show (s2.heap.set s2.next (some o)).get n = (s.heap.set s.next (some o)).get n
    rw [Trie.get_set, Trie.get_set, a.next]
    by_cases e : n = s.next
    · rw [if_pos e, if_pos e]
    · rw [if_neg e, if_neg e]
      rcases t with ⟨t1, t2⟩ | ⟨t1, t2⟩
      · cases h : s.heap.get n with
        | none => exact absurd h t2
        | some o => exact a.get n o t1 h
      · have : n < s.next + 1 := t2
        omega
  outside n t := by
    show (s2.heap.set s2.next (some o)).get n = _
    rw [Trie.get_set, if_neg]
    intro e
    rw [a.next] at e
    exact t (.inr ⟨by omega, by show n < s.next + 1; omega⟩)

/-- a change of an object that can be seen -/
theorem Goes.put {mk : Mask} {s : St} {n : Nat} {o : AObj} (h : s.get mk n = some o) (o' : Option AObj) : Goes mk s (s.put n o') where
  next := Nat.le_refl _
  ci := Nat.le_refl _
  minw := by
    show (bif Nat.ble s.minw n then s.minw else n) ≤ s.minw
    cases e : Nat.ble s.minw n
    · simp only [cond_false]
      rw [nble] at e
      have := of_decide_eq_false e
      omega
    · simp
  frame m hm := by
    show (s.heap.set n o').get m = _
    rw [Trie.get_set, if_neg]
    intro e; subst e
    obtain ⟨h1, h2⟩ := get_vis h
    exact hm (.inl ⟨h1, by rw [h2]; simp⟩)
  noted m _ hne := by
    show (bif Nat.ble s.minw n then s.minw else n) ≤ m
    have e : m = n := by
      by_cases e : m = n
      · exact e
      · exfalso
        apply hne
        show (s.heap.set n o').get m = _
        rw [Trie.get_set, if_neg e]
    subst e
    cases e : Nat.ble s.minw m
    · simp
    · simp only [cond_true]; exact ble_le e

theorem Same.put {mk : Mask} {s s2 : St} (a : Sees mk s s2) {n : Nat} {o : AObj} (h : s.get mk n = some o) (o' : Option AObj) : Same mk s (s.put n o') s2 (s2.put n o') where
  next := a.next
  minw := by show (bif Nat.ble s2.minw n then s2.minw else n) = (bif Nat.ble s.minw n then s.minw else n); rw [a.minw]
  ci := a.ci
  inside m t := by
    show (s2.heap.set n o').get m = (s.heap.set n o').get m
    rw [Trie.get_set, Trie.get_set]
    by_cases e : m = n
    · rw [if_pos e, if_pos e]
    · rw [if_neg e, if_neg e]
      rcases t with ⟨t1, t2⟩ | ⟨t1, t2⟩
      · cases h : s.heap.get m with
        | none => exact absurd h t2
        | some o => exact a.get m o t1 h
      · have : m < s.next := t2
        omega
  outside m t := by
    show (s2.heap.set n o').get m = _
    rw [Trie.get_set, if_neg]
    intro e; subst e
    obtain ⟨h1, h2⟩ := get_vis h
    exact t (.inl ⟨h1, by rw [h2]; simp⟩)

/-- an object out of sight, and back -/
theorem Goes.hide {mk : Mask} {s s3 : St} {n : Nat} {o : AObj} (h : s.get mk n = some o) (g : Goes mk (s.put n none) s3) (o' : AObj) : Goes mk s (s3.put n (some o')) where
  next := g.next
  ci := g.ci
  minw := by
    have h1 : s3.minw ≤ (bif Nat.ble s.minw n then s.minw else n) := g.minw
    have h2 : (bif Nat.ble s.minw n then s.minw else n) ≤ s.minw := (Goes.put h none).minw
    have h3 : (s3.put n (some o')).minw ≤ s3.minw := by
      show (bif Nat.ble s3.minw n then s3.minw else n) ≤ s3.minw
      cases e : Nat.ble s3.minw n
      · rw [nble] at e
        have := of_decide_eq_false e
        simp only [cond_false]
        omega
      · simp
    omega
  frame m hm := by
    obtain ⟨h1, h2⟩ := get_vis h
    have hmn : m ≠ n := fun e => by subst e; exact hm (.inl ⟨h1, by rw [h2]; simp⟩)
    show (s3.heap.set n (some o')).get m = _
    rw [Trie.get_set, if_neg hmn]
    have hs1 : (s.put n none).heap.get m = s.heap.get m := by
      show (s.heap.set n none).get m = _
      rw [Trie.get_set, if_neg hmn]
    rw [← hs1]
    refine g.frame m fun t => hm ?_
    rcases t with ⟨t1, t2⟩ | t
    · rw [hs1] at t2; exact .inl ⟨t1, t2⟩
    · exact .inr t
  noted m hm hne := by
    have hle : (s3.put n (some o')).minw ≤ s3.minw ∧ (s3.put n (some o')).minw ≤ n := by
      show (bif Nat.ble s3.minw n then s3.minw else n) ≤ s3.minw ∧ (bif Nat.ble s3.minw n then s3.minw else n) ≤ n
      cases e : Nat.ble s3.minw n
      · rw [nble] at e
        have := of_decide_eq_false e
        simp only [cond_false]
        omega
      · have := ble_le e
        simp only [cond_true]
        omega
    by_cases hmn : m = n
    · subst hmn; exact hle.2
    · have hs1 : (s.put n none).heap.get m = s.heap.get m := by
        show (s.heap.set n none).get m = _
        rw [Trie.get_set, if_neg hmn]
      refine Nat.le_trans hle.1 (g.noted m hm ?_)
      rw [hs1]
      intro e
      apply hne
      show (s3.heap.set n (some o')).get m = _
      rw [Trie.get_set, if_neg hmn, e]

theorem Same.hide {mk : Mask} {s s3 s2 s23 : St} {n : Nat} {o : AObj} (_y : Sees mk s s2) (h : s.get mk n = some o) (x : Same mk (s.put n none) s3 (s2.put n none) s23) (o' : AObj) : Same mk s (s3.put n (some o')) s2 (s23.put n (some o')) where
  next := x.next
  minw := by show (bif Nat.ble s23.minw n then s23.minw else n) = (bif Nat.ble s3.minw n then s3.minw else n); rw [x.minw]
  ci := x.ci
  inside m t := by
    show (s23.heap.set n (some o')).get m = (s3.heap.set n (some o')).get m
    rw [Trie.get_set, Trie.get_set]
    by_cases hmn : m = n
    · rw [if_pos hmn, if_pos hmn]
    · rw [if_neg hmn, if_neg hmn]
      refine x.inside m ?_
      rcases t with ⟨t1, t2⟩ | t
      · refine .inl ⟨t1, ?_⟩
        show (s.heap.set n none).get m ≠ none
        rw [Trie.get_set, if_neg hmn]; exact t2
      · exact .inr t
  outside m t := by
    obtain ⟨h1, h2⟩ := get_vis h
    have hmn : m ≠ n := fun e => by subst e; exact t (.inl ⟨h1, by rw [h2]; simp⟩)
    show (s23.heap.set n (some o')).get m = _
    rw [Trie.get_set, if_neg hmn, x.outside m ?_]
    · show (s2.heap.set n none).get m = _
      rw [Trie.get_set, if_neg hmn]
    · rintro (⟨t1, t2⟩ | t')
      · have t2 : (s.heap.set n none).get m ≠ none := t2
        rw [Trie.get_set, if_neg hmn] at t2
        exact t (.inl ⟨t1, t2⟩)
      · exact t (.inr t')

/-- it only reads -/
def RO {β : Type} (mk : Mask) (f : St → Option β) : Prop := ∀ s s2 b, f s = some b → (∀ n o, s.get mk n = some o → s2.get mk n = some o) → f s2 = some b

section ros
variable {P : Program} {mk : Mask}

theorem ro_load (t : TypeId) (a : AVal) (loc : Loc) : RO mk (fun s => loadA P mk t a loc s) := by
  intro s s2 b h hl
  unfold loadA at h ⊢
  split at h
  · exact h
  · simp only [Option.bind_eq_some_iff] at h ⊢
    obtain ⟨ob, hob, h⟩ := h
    exact ⟨ob, hl _ _ hob, h⟩
  · exact h
  · cases h

theorem ro_elems (g : Bool) (n : Nat) (x : AVal) : RO mk (fun s => elemsA mk g n x s) := by
  intro s s2 b h hl
  unfold elemsA at h ⊢
  split at h
  · exact h
  · exact h
  · replace h := bif_none h
    obtain ⟨h1, h⟩ := h
    simp only [h1, cond_true, Option.bind_eq_some_iff] at h ⊢
    obtain ⟨ob, hob, h⟩ := h
    exact ⟨ob, hl _ _ hob, h⟩
  · cases h

theorem ro_len (t : TypeId) (x : AVal) : RO mk (fun s => lenA P mk t x s) := by
  intro s s2 b h hl
  simp only [lenA, Option.bind_eq_some_iff] at h ⊢
  obtain ⟨d, hd, h⟩ := h
  refine ⟨d, hd, ?_⟩
  split at h <;> first
    | exact h
    | (simp only [Option.bind_eq_some_iff] at h ⊢
       obtain ⟨ob, hob, h⟩ := h
       exact ⟨ob, hl _ _ hob, h⟩)
    | cases h

theorem ro_lookup (t : TypeId) (m k : AVal) (ok : Bool) : RO mk (fun s => lookupA P mk t m k ok s) := by
  intro s s2 b h hl
  simp only [lookupA, Option.bind_eq_some_iff] at h ⊢
  obtain ⟨ke, hke, z, hz, r, hr, h⟩ := h
  refine ⟨ke, hke, z, hz, r, ?_, h⟩
  unfold lookupIn at hr ⊢
  split at hr
  · exact hr
  · simp only [Option.bind_eq_some_iff] at hr ⊢
    obtain ⟨ob, hob, hr⟩ := hr
    exact ⟨ob, hl _ _ hob, hr⟩
  · cases hr

theorem ro_entry (it : AVal) : RO mk (fun s => entryA mk it s) := by
  intro s s2 b h hl
  unfold entryA at h ⊢
  split at h
  · simp only [Option.bind_eq_some_iff] at h ⊢
    obtain ⟨ob, hob, h⟩ := h
    refine ⟨ob, hl _ _ hob, ?_⟩
    split at h
    · simp only [Option.bind_eq_some_iff] at h ⊢
      obtain ⟨ob2, hob2, h⟩ := h
      exact ⟨ob2, hl _ _ hob2, h⟩
    · cases h
  · cases h

theorem ro_slice (t : TypeId) (x : AVal) (lo hi mx : Option Operand) (env : Env) : RO mk (fun s => sliceA P mk t x lo hi mx env s) := by
  intro s s2 b h hl
  simp only [sliceA, Option.bind_eq_some_iff] at h ⊢
  obtain ⟨d, hd, h⟩ := h
  refine ⟨d, hd, ?_⟩
  split at h
  · exact h
  · simp only [Option.bind_eq_some_iff] at h ⊢
    obtain ⟨n, hn, h⟩ := h
    exact ⟨n, hn, h⟩
  · simp only [Option.bind_eq_some_iff] at h ⊢
    obtain ⟨n, hn, h⟩ := h
    refine ⟨n, hn, ?_⟩
    split at h
    · simp only [Option.bind_eq_some_iff] at h ⊢
      obtain ⟨p, hp, q, hq, ob, hob, h⟩ := h
      exact ⟨p, hp, q, hq, ob, hl _ _ hob, h⟩
    · cases h
  · cases h
end ros

/-- locality of a step that gives a value and the frame's boxes -/
def Loc3 {α β : Type} (mk : Mask) (x : (Nat → Nat) → St → Option (α × β × St)) : Prop :=
  ∀ ch s v l s', x ch s = some (v, l, s') → Goes mk s s' ∧ ∀ ch' s2, (∀ i, i < s'.ci → ch' i = ch i) → Sees mk s s2 → ∃ s2', x ch' s2 = some (v, l, s2') ∧ Same mk s s' s2 s2'

section loc3
variable {P : Program} {mk : Mask}

theorem Loc3.ro {f : St → Option AVal} (hf : RO mk f) (l : Loc) : Loc3 mk (fun _ s => retV (f s) l s) := by
  intro ch s v l' s' h
  obtain ⟨h1, h2, h3⟩ := retV_some h
  subst h2; subst h3
  refine ⟨.refl mk s', fun ch' s2 _ a => ⟨s2, ?_, .refl a⟩⟩
  have := hf s' s2 v h1 (fun n o ho => a.look ho)
  simp [retV, this]

theorem Loc3.const (f : Option AVal) (l : Loc) : Loc3 mk (fun _ s => retV f l s) := Loc3.ro (f := fun _ => f) (fun _ _ _ h _ => h) l

theorem Loc3.none {α β : Type} : Loc3 (α := α) (β := β) mk (fun _ _ => .none) := by intro ch s v l s' h; cases h

theorem Loc3.bind {α γ β : Type} (x : Option β) {k : β → (Nat → Nat) → St → Option (α × γ × St)} (hk : ∀ b, x = some b → Loc3 mk (k b)) : Loc3 mk (fun ch s => x.bind fun b => k b ch s) := by
  cases x with
  | none => intro ch s v l s' h; cases h
  | some b => exact hk b rfl

theorem Loc3.vs {f : (Nat → Nat) → St → Option (AVal × St)} (hf : Loc1 mk f) (l : Loc) : Loc3 mk (fun ch s => retVS (f ch s) l) := by
  intro ch s v l' s' h
  simp only [retVS, Option.bind_eq_some_iff] at h
  obtain ⟨⟨v1, s1⟩, h1, h⟩ := h
  simp only [Option.some.injEq, Prod.mk.injEq] at h
  obtain ⟨rfl, rfl, rfl⟩ := h
  obtain ⟨g, hh⟩ := hf ch s v1 s1 h1
  refine ⟨g, fun ch' s2 hc a => ?_⟩
  obtain ⟨s2', h2, h3⟩ := hh ch' s2 hc a
  exact ⟨s2', by simp [retVS, h2], h3⟩

/-- steps by one change of the state -/
theorem Loc1.of_put {α : Type} {f : St → Option (α × St)} (hf : ∀ s a s', f s = some (a, s') → ∃ n o o', s.get mk n = some o ∧ s' = s.put n o' ∧ ∀ s2, Sees mk s s2 → f s2 = some (a, s2.put n o')) : Loc1 mk (fun _ s => f s) := by
  intro ch s a s' h
  obtain ⟨n, o, o', h1, rfl, h2⟩ := hf s a s' h
  exact ⟨.put h1 o', fun ch' s2 _ hs => ⟨_, h2 s2 hs, .put hs h1 o'⟩⟩

theorem Loc1.of_new {α : Type} {f : St → Option (α × St)} (hf : ∀ s a s', f s = some (a, s') → ∃ o, s' = s.new o ∧ ∀ s2, Sees mk s s2 → f s2 = some (a, s2.new o)) : Loc1 mk (fun _ s => f s) := by
  intro ch s a s' h
  obtain ⟨o, rfl, h2⟩ := hf s a s' h
  exact ⟨.new mk s o, fun ch' s2 _ hs => ⟨_, h2 s2 hs, .new hs o⟩⟩

theorem Loc1.of_same {α : Type} {f : St → Option (α × St)} (hf : ∀ s a s', f s = some (a, s') → s' = s ∧ ∀ s2, Sees mk s s2 → f s2 = some (a, s2)) : Loc1 mk (fun _ s => f s) := by
  intro ch s a s' h
  obtain ⟨rfl, h2⟩ := hf s a s' h
  exact ⟨.refl mk _, fun ch' s2 _ hs => ⟨_, h2 s2 hs, .refl hs⟩⟩

/-- by cases on what was done -/
theorem Loc1.of_any {α : Type} {f : St → Option (α × St)} (hf : ∀ s a s', f s = some (a, s') →
    (s' = s ∧ ∀ s2, Sees mk s s2 → f s2 = some (a, s2)) ∨ (∃ o, s' = s.new o ∧ ∀ s2, Sees mk s s2 → f s2 = some (a, s2.new o)) ∨
    (∃ n o o', s.get mk n = some o ∧ s' = s.put n o' ∧ ∀ s2, Sees mk s s2 → f s2 = some (a, s2.put n o')) ∨
    (∃ n o o' o'', s.get mk n = some o ∧ s' = (s.put n o').new o'' ∧ ∀ s2, Sees mk s s2 → f s2 = some (a, (s2.put n o').new o''))) : Loc1 mk (fun _ s => f s) := by
  intro ch s a s' h
  rcases hf s a s' h with ⟨rfl, h2⟩ | ⟨o, rfl, h2⟩ | ⟨n, o, o', h1, rfl, h2⟩ | ⟨n, o, o', o'', h1, rfl, h2⟩
  · exact ⟨.refl mk _, fun ch' s2 _ hs => ⟨_, h2 s2 hs, .refl hs⟩⟩
  · exact ⟨.new mk s o, fun ch' s2 _ hs => ⟨_, h2 s2 hs, .new hs o⟩⟩
  · exact ⟨.put h1 o', fun ch' s2 _ hs => ⟨_, h2 s2 hs, .put hs h1 o'⟩⟩
  · have g1 := Goes.put h1 o'
    exact ⟨g1.trans (.new mk _ o''), fun ch' s2 _ hs => ⟨_, h2 s2 hs, Same.trans g1 (.new mk _ o'') (.put hs h1 o') (.new ((Same.put hs h1 o').sees hs g1) o'')⟩⟩
end loc3
end Go.Ag
/- Locality of the operations. -/
namespace Go.Ag
section
variable {P : Program} {mk : Mask}

theorem loc_update (t : TypeId) (m k v : AVal) (l : Loc) : Loc3 mk (fun _ s => retS (updateA P mk t m k v s) l) := by
  intro ch s u l' s' h
  simp only [retS, Option.bind_eq_some_iff] at h
  obtain ⟨s1, h1, h⟩ := h
  simp only [Option.some.injEq, Prod.mk.injEq] at h
  obtain ⟨rfl, rfl, rfl⟩ := h
  simp only [updateA, Option.bind_eq_some_iff] at h1
  obtain ⟨ke, hke, h1⟩ := h1
  split at h1
  · rename_i n
    simp only [Option.bind_eq_some_iff] at h1
    obtain ⟨ob, hob, h1⟩ := h1
    split at h1
    · rename_i es clock
      simp only [Option.bind_eq_some_iff] at h1
      obtain ⟨r, hr, h1⟩ := h1
      split at h1
      · rename_i x
        replace h1 := bif_none h1
        obtain ⟨hc, h1⟩ := h1
        injection h1 with h1; subst h1
        exact ⟨.put hob _, fun ch' s2 _ a => ⟨_, by simp [retS, updateA, hke, a.look hob, hr, hc], .put a hob _⟩⟩
      · injection h1 with h1; subst h1
        exact ⟨.put hob _, fun ch' s2 _ a => ⟨_, by simp [retS, updateA, hke, a.look hob, hr], .put a hob _⟩⟩
    · cases h1
  · cases h1

theorem loc_mapEntry (t : TypeId) (m k : AVal) : Loc1 mk (fun _ s => mapEntryA P mk t m k s) := by
  refine Loc1.of_put ?_
  intro s u s' h1
  simp only [mapEntryA, Option.bind_eq_some_iff] at h1
  obtain ⟨ke, hke, z, hz, h1⟩ := h1
  split at h1
  · rename_i n
    simp only [Option.bind_eq_some_iff] at h1
    obtain ⟨ob, hob, h1⟩ := h1
    split at h1
    · rename_i es clock
      simp only [Option.bind_eq_some_iff] at h1
      obtain ⟨r, hr, h1⟩ := h1
      split at h1
      · rename_i x
        replace h1 := bif_none h1
        obtain ⟨hc, h1⟩ := h1
        simp only [Option.some.injEq, Prod.mk.injEq] at h1
        obtain ⟨rfl, rfl⟩ := h1
        exact ⟨n, _, _, hob, rfl, fun s2 a => by simp [mapEntryA, hke, hz, a.look hob, hr, hc]⟩
      · simp only [Option.some.injEq, Prod.mk.injEq] at h1
        obtain ⟨rfl, rfl⟩ := h1
        exact ⟨n, _, _, hob, rfl, fun s2 a => by simp [mapEntryA, hke, hz, a.look hob, hr]⟩
    · cases h1
  · cases h1

theorem loc_entryStore (m st v : AVal) (l : Loc) : Loc3 mk (fun _ s => retS (entryStoreA mk m st v s) l) := by
  intro ch s u l' s' h
  simp only [retS, Option.bind_eq_some_iff] at h
  obtain ⟨s1, h1, h⟩ := h
  simp only [Option.some.injEq, Prod.mk.injEq] at h
  obtain ⟨rfl, rfl, rfl⟩ := h
  simp only [entryStoreA, Option.bind_eq_some_iff] at h1
  obtain ⟨b, hb, h1⟩ := h1
  split at h1
  · rename_i n
    simp only [Option.bind_eq_some_iff] at h1
    obtain ⟨ob, hob, h1⟩ := h1
    split at h1
    · simp only [Option.bind_eq_some_iff] at h1
      obtain ⟨es', hes, h1⟩ := h1
      injection h1 with h1; subst h1
      exact ⟨.put hob _, fun ch' s2 _ a => ⟨_, by simp [retS, entryStoreA, hb, a.look hob, hes], .put a hob _⟩⟩
    · cases h1
  · cases h1

theorem loc_range (t : TypeId) (x : AVal) : Loc1 mk (fun _ s => rangeA P mk t x s) := by
  refine Loc1.of_new ?_
  intro s u s' h1
  simp only [rangeA, Option.bind_eq_some_iff] at h1
  obtain ⟨d, hd, h1⟩ := h1
  split at h1
  · split at h1
    · simp only [Option.some.injEq, Prod.mk.injEq] at h1
      obtain ⟨rfl, rfl⟩ := h1
      exact ⟨_, rfl, fun s2 a => by simp [rangeA, hd, a.next]⟩
    · simp only [Option.bind_eq_some_iff] at h1
      obtain ⟨ob, hob, h1⟩ := h1
      split at h1
      · simp only [Option.some.injEq, Prod.mk.injEq] at h1
        obtain ⟨rfl, rfl⟩ := h1
        exact ⟨_, rfl, fun s2 a => by simp [rangeA, hd, a.look hob, a.next]⟩
      · cases h1
    · cases h1
  · cases h1

theorem Goes.ci_succ {s s' : St} (g : Goes mk s s') (_h : s'.ci = s.ci) : Goes mk s { s' with ci := s.ci + 1 } := ⟨g.next, Nat.le_succ _, g.minw, g.frame, g.noted⟩
theorem Same.ci_succ {s s' s2 s2' : St} (a : Sees mk s s2) (g : Same mk s s' s2 s2') : Same mk s { s' with ci := s.ci + 1 } s2 { s2' with ci := s2.ci + 1 } :=
  ⟨g.next, g.minw, by show s2.ci + 1 = s.ci + 1; rw [a.ci], g.inside, g.outside⟩

theorem loc_next (kmax : Nat → Nat) (it : AVal) (isString : Bool) : Loc1 mk (fun ch s => nextA mk ch kmax it isString s) := by
  intro ch s u s' h1
  simp only [nextA] at h1 ⊢
  split at h1
  · rename_i n
    simp only [Option.bind_eq_some_iff] at h1
    obtain ⟨ob, hob, h1⟩ := h1
    split at h1
    · replace h1 := bif_some h1
      rcases h1 with ⟨_, h1⟩ | ⟨hs, h1⟩
      · cases h1
      · simp only [Option.some.injEq, Prod.mk.injEq] at h1
        obtain ⟨rfl, rfl⟩ := h1
        exact ⟨.refl mk _, fun ch' s2 _ a => ⟨s2, by simp [a.look hob, hs], .refl a⟩⟩
    · rename_i m since seen stepped
      replace h1 := bif_some h1
      rcases h1 with ⟨_, h1⟩ | ⟨hs, h1⟩
      · cases h1
      · simp only [Option.bind_eq_some_iff] at h1
        obtain ⟨ob2, hob2, h1⟩ := h1
        split at h1
        · rename_i es clock
          replace h1 := bif_some h1
          rcases h1 with ⟨_, h1⟩ | ⟨hgo, h1⟩
          · cases h1
          · generalize hUL : unseen seen es = UL at h1
            unfold nextIn at h1
            split at h1
            · simp only [Option.some.injEq, Prod.mk.injEq] at h1
              obtain ⟨rfl, rfl⟩ := h1
              exact ⟨.refl mk _, fun ch' s2 _ a => ⟨s2, by simp [a.look hob, a.look hob2, hs, hgo, hUL, nextIn], .refl a⟩⟩
            · rename_i e r
              replace h1 := bif_none h1
              obtain ⟨hall, h1⟩ := h1
              split at h1
              · simp only [Option.some.injEq] at h1
                have e1 : u = (stepTo n m since clock seen e s).1 := by rw [h1]
                have e2 : s' = s.put n (some (.iter (some m) since (seen ++ [e.born]) clock)) := (congrArg Prod.snd h1).symm
                subst e1; subst e2
                refine ⟨.put hob _, fun ch' s2 _ a => ⟨_, ?_, .put a hob _⟩⟩
                simp only [a.look hob, a.look hob2, Option.bind_some, hs, cond_false, hgo, hUL, nextIn, hall, cond_true]
                rfl
              · rename_i e2 r2
                replace h1 := bif_none h1
                obtain ⟨hk, h1⟩ := h1
                simp only [Option.bind_eq_some_iff] at h1
                obtain ⟨e', he', h1⟩ := h1
                simp only [Option.some.injEq, Prod.mk.injEq] at h1
                obtain ⟨rfl, rfl⟩ := h1
                refine ⟨Goes.ci_succ (s' := s.put n (some (.iter (some m) since (seen ++ [e'.born]) clock))) (.put hob _) rfl, fun ch' s2 hch a => ⟨_, ?_, Same.ci_succ a (.put a hob _)⟩⟩
                have hci : ch' s2.ci = ch s.ci := by rw [a.ci]; exact hch s.ci (Nat.lt_succ_self _)
                rw [← a.ci] at hk
                simp only [a.look hob, a.look hob2, Option.bind_some, hs, cond_false, hgo, hUL, nextIn, hall, cond_true, hk, hci, he']
                rfl
        · cases h1
    · cases h1
  · cases h1

theorem loc_makeMap (t : TypeId) (env : Env) (r : Option Operand) : Loc1 mk (fun _ s => makeMapA P t env r s) := by
  refine Loc1.of_new ?_
  intro s u s' h1
  unfold makeMapA at h1 ⊢
  rcases r with _ | x
  · simp only [Option.some.injEq, Prod.mk.injEq] at h1
    obtain ⟨rfl, rfl⟩ := h1
    exact ⟨_, rfl, fun s2 a => by simp [a.next]⟩
  · simp only [Option.bind_eq_some_iff] at h1
    obtain ⟨d, hd, h1⟩ := h1
    split at h1
    · simp only [Option.bind_eq_some_iff] at h1
      obtain ⟨y, hy, h1⟩ := h1
      split at h1
      · simp only [Option.some.injEq, Prod.mk.injEq] at h1
        obtain ⟨rfl, rfl⟩ := h1
        exact ⟨_, rfl, fun s2 a => by simp [hd, hy, a.next]⟩
      · cases h1
    · cases h1

theorem loc_makeSlice (t : TypeId) (l c : AVal) (mu : Bool) : Loc1 mk (fun _ s => makeSliceA P t l c mu s) := by
  refine Loc1.of_new ?_
  intro s u s' h1
  simp only [makeSliceA, Option.bind_eq_some_iff] at h1 ⊢
  obtain ⟨E, hE, ln, hl, cn, hc, h1⟩ := h1
  replace h1 := bif_none h1
  obtain ⟨hcond, h1⟩ := h1
  replace h1 := bif_some h1
  rcases h1 with ⟨hz, h1⟩ | ⟨hz, h1⟩
  · simp only [Option.some.injEq, Prod.mk.injEq] at h1
    obtain ⟨rfl, rfl⟩ := h1
    exact ⟨_, rfl, fun s2 a => ⟨E, hE, ln, hl, cn, hc, by simp only [hcond, hz, cond_true, a.next]⟩⟩
  · simp only [Option.some.injEq, Prod.mk.injEq] at h1
    obtain ⟨rfl, rfl⟩ := h1
    exact ⟨_, rfl, fun s2 a => ⟨E, hE, ln, hl, cn, hc, by simp only [hcond, hz, cond_true, cond_false, a.next]⟩⟩

theorem loc_buildSlice (t : TypeId) (len : Nat) (parts : List (Nat × Operand)) (mu : Bool) (env : Env) : Loc1 mk (fun _ s => buildSliceA P t len parts mu env s) := by
  refine Loc1.of_any ?_
  intro s u s' h1
  simp only [buildSliceA, Option.bind_eq_some_iff] at h1 ⊢
  obtain ⟨E, hE, h1⟩ := h1
  replace h1 := bif_none h1
  obtain ⟨hcond, h1⟩ := h1
  simp only [Option.bind_eq_some_iff] at h1
  obtain ⟨cs, hcs, h1⟩ := h1
  replace h1 := bif_some h1
  rcases h1 with ⟨hz, h1⟩ | ⟨hz, h1⟩
  · simp only [Option.some.injEq, Prod.mk.injEq] at h1
    obtain ⟨rfl, rfl⟩ := h1
    exact .inr (.inl ⟨_, rfl, fun s2 a => ⟨E, hE, by simp only [hcond, cond_true, hcs, Option.bind_some, hz, a.next]⟩⟩)
  · simp only [Option.bind_eq_some_iff] at h1
    obtain ⟨xs, hxs, h1⟩ := h1
    simp only [Option.some.injEq, Prod.mk.injEq] at h1
    obtain ⟨rfl, rfl⟩ := h1
    exact .inl ⟨rfl, fun s2 a => ⟨E, hE, by simp only [hcond, cond_true, hcs, Option.bind_some, hz, cond_false, hxs]⟩⟩

theorem loc_append (t : TypeId) (x y : AVal) (mu : Bool) : Loc1 mk (fun _ s => appendA P mk t x y mu s) := by
  refine Loc1.of_any ?_
  intro s u s' h1
  simp only [appendA, Option.bind_eq_some_iff] at h1 ⊢
  obtain ⟨E, hE, ys, hys, h1⟩ := h1
  have hro : ∀ s2, Sees mk s s2 → elemsA mk E.g E.n y s2 = some ys := fun s2 a => ro_elems E.g E.n y s s2 ys hys (fun n o ho => a.look ho)
  have fin : ∀ {Q1 Q2 Q3 Q4 : Prop}, Q1 ∨ Q2 ∨ Q3 ∨ Q4 → Q1 ∨ Q2 ∨ Q3 ∨ Q4 := fun h => h
  cases ys with
  | nil =>
    replace h1 := bif_none h1
    obtain ⟨hsl, h1⟩ := h1
    simp only [Option.some.injEq, Prod.mk.injEq] at h1
    obtain ⟨rfl, rfl⟩ := h1
    exact .inl ⟨rfl, fun s2 a => ⟨E, hE, [], hro s2 a, by simp only [hsl, cond_true]⟩⟩
  | cons y0 yr =>
    simp only at h1
    have made : ∀ (zs : List AVal), madeA E mu zs s = some (u, s') → ∃ o, s' = s.new o ∧ ∀ s2, Sees mk s s2 → madeA E mu zs s2 = some (u, s2.new o) := by
      intro zs hm
      simp only [madeA] at hm ⊢
      replace hm := bif_none hm
      obtain ⟨hr, hm⟩ := hm
      replace hm := bif_some hm
      rcases hm with ⟨hz, hm⟩ | ⟨hz, hm⟩
      · simp only [Option.some.injEq, Prod.mk.injEq] at hm
        obtain ⟨rfl, rfl⟩ := hm
        exact ⟨_, rfl, fun s2 a => by simp only [hr, hz, cond_true, a.next]⟩
      · simp only [Option.some.injEq, Prod.mk.injEq] at hm
        obtain ⟨rfl, rfl⟩ := hm
        exact ⟨_, rfl, fun s2 a => by simp only [hr, hz, cond_true, cond_false, a.next]⟩
    unfold appendTo at h1
    split at h1
    · obtain ⟨o, ho, hm⟩ := made _ h1
      exact .inr (.inl ⟨o, ho, fun s2 a => ⟨E, hE, _, hro s2 a, by simp only [appendTo]; exact hm s2 a⟩⟩)
    · replace h1 := bif_none h1
      obtain ⟨hsz, h1⟩ := h1
      obtain ⟨o, ho, hm⟩ := made _ h1
      exact .inr (.inl ⟨o, ho, fun s2 a => ⟨E, hE, _, hro s2 a, by simp only [appendTo, hsz, cond_true]; exact hm s2 a⟩⟩)
    · simp only [Option.bind_eq_some_iff] at h1
      obtain ⟨ob, hob, h1⟩ := h1
      split at h1
      · replace h1 := bif_none h1
        obtain ⟨hr, h1⟩ := h1
        simp only [Option.some.injEq, Prod.mk.injEq] at h1
        obtain ⟨rfl, rfl⟩ := h1
        exact .inr (.inr (.inr ⟨_, _, none, _, hob, rfl, fun s2 a => ⟨E, hE, _, hro s2 a, by simp only [appendTo, a.look hob, Option.bind_some, hr, cond_true, a.next]⟩⟩))
      · cases h1
    · simp only [Option.bind_eq_some_iff] at h1
      obtain ⟨ob, hob, h1⟩ := h1
      split at h1
      · replace h1 := bif_none h1
        obtain ⟨hr, h1⟩ := h1
        replace h1 := bif_some h1
        rcases h1 with ⟨he, h1⟩ | ⟨he, h1⟩
        · simp only [Option.some.injEq, Prod.mk.injEq] at h1
          obtain ⟨rfl, rfl⟩ := h1
          exact .inr (.inr (.inr ⟨_, _, none, _, hob, rfl, fun s2 a => ⟨E, hE, _, hro s2 a, by simp only [appendTo, a.look hob, Option.bind_some, hr, he, cond_true, a.next]⟩⟩))
        · replace h1 := bif_none h1
          obtain ⟨hl, h1⟩ := h1
          simp only [Option.bind_eq_some_iff] at h1
          obtain ⟨cs', hw, h1⟩ := h1
          simp only [Option.some.injEq, Prod.mk.injEq] at h1
          obtain ⟨rfl, rfl⟩ := h1
          exact .inr (.inr (.inl ⟨_, _, _, hob, rfl, fun s2 a => ⟨E, hE, _, hro s2 a, by simp only [appendTo, a.look hob, Option.bind_some, hr, he, cond_true, cond_false, hl, hw]⟩⟩))
      · cases h1
    · cases h1

theorem loc_copy (t : TypeId) (x y : AVal) : Loc1 mk (fun _ s => copyA P mk t x y s) := by
  refine Loc1.of_any ?_
  intro s u s' h1
  simp only [copyA, Option.bind_eq_some_iff] at h1 ⊢
  obtain ⟨E, hE, ys, hys, h1⟩ := h1
  have hro : ∀ s2, Sees mk s s2 → elemsA mk E.g E.n y s2 = some ys := fun s2 a => ro_elems E.g E.n y s s2 ys hys (fun n o ho => a.look ho)
  split at h1
  · simp only [Option.some.injEq, Prod.mk.injEq] at h1
    obtain ⟨rfl, rfl⟩ := h1
    exact .inl ⟨rfl, fun s2 a => ⟨E, hE, ys, hro s2 a, rfl⟩⟩
  · simp only [Option.some.injEq, Prod.mk.injEq] at h1
    obtain ⟨rfl, rfl⟩ := h1
    exact .inl ⟨rfl, fun s2 a => ⟨E, hE, ys, hro s2 a, rfl⟩⟩
  · replace h1 := bif_none h1
    obtain ⟨hr, h1⟩ := h1
    simp only [Option.bind_eq_some_iff] at h1
    obtain ⟨ob, hob, h1⟩ := h1
    split at h1
    · simp only [Option.bind_eq_some_iff] at h1
      obtain ⟨cs', hw, h1⟩ := h1
      simp only [Option.some.injEq, Prod.mk.injEq] at h1
      obtain ⟨rfl, rfl⟩ := h1
      exact .inr (.inr (.inl ⟨_, _, _, hob, rfl, fun s2 a => ⟨E, hE, ys, hro s2 a, by simp only [hr, cond_true, a.look hob, Option.bind_some, hw]⟩⟩))
    · cases h1
  · cases h1

theorem loc_clear (t : TypeId) (x : AVal) : Loc1 mk (fun _ s => (clearA P mk t x s).bind fun s' => some (AVal.tup [], s')) := by
  refine Loc1.of_any ?_
  intro s u s' h1
  simp only [Option.bind_eq_some_iff] at h1 ⊢
  obtain ⟨s1, h1, h2⟩ := h1
  simp only [Option.some.injEq, Prod.mk.injEq] at h2
  obtain ⟨rfl, rfl⟩ := h2
  unfold clearA at h1
  split at h1
  · injection h1 with h1; subst h1
    exact .inl ⟨rfl, fun s2 a => ⟨s2, rfl, rfl⟩⟩
  · injection h1 with h1; subst h1
    exact .inl ⟨rfl, fun s2 a => ⟨s2, rfl, rfl⟩⟩
  · simp only [Option.bind_eq_some_iff] at h1
    obtain ⟨ob, hob, h1⟩ := h1
    split at h1
    · injection h1 with h1; subst h1
      exact .inr (.inr (.inl ⟨_, _, _, hob, rfl, fun s2 a => ⟨_, by simp only [clearA, a.look hob, Option.bind_some], rfl⟩⟩))
    · cases h1
  · injection h1 with h1; subst h1
    exact .inl ⟨rfl, fun s2 a => ⟨s2, rfl, rfl⟩⟩
  · replace h1 := bif_some h1
    rcases h1 with ⟨he, h1⟩ | ⟨he, h1⟩
    · injection h1 with h1; subst h1
      exact .inl ⟨rfl, fun s2 a => ⟨s2, by simp only [clearA, he, cond_true], rfl⟩⟩
    · simp only [Option.bind_eq_some_iff] at h1
      obtain ⟨E, hE, h1⟩ := h1
      replace h1 := bif_none h1
      obtain ⟨hr, h1⟩ := h1
      simp only [Option.bind_eq_some_iff] at h1
      obtain ⟨ob, hob, h1⟩ := h1
      split at h1
      · simp only [Option.bind_eq_some_iff] at h1
        obtain ⟨cs', hw, h1⟩ := h1
        injection h1 with h1; subst h1
        exact .inr (.inr (.inl ⟨_, _, _, hob, rfl, fun s2 a => ⟨_, by simp only [clearA, he, cond_false, hE, Option.bind_some, hr, cond_true, a.look hob, hw], rfl⟩⟩))
      · cases h1
  · cases h1

theorem Loc1.pureOpt {α : Type} (f : Option α) : Loc1 mk (fun _ s => f.bind fun v => some (v, s)) := by
  refine Loc1.of_same ?_
  intro s u s' h1
  simp only [Option.bind_eq_some_iff] at h1
  obtain ⟨v, hv, h1⟩ := h1
  simp only [Option.some.injEq, Prod.mk.injEq] at h1
  obtain ⟨rfl, rfl⟩ := h1
  exact ⟨rfl, fun s2 a => by simp [hv]⟩

theorem loc_builtin (b : Builtin) (ts : List TypeId) (mu : Bool) (args : List AVal) : Loc1 mk (fun _ s => builtinA P mk b ts mu args s) := by
  intro ch s u s' h1
  unfold builtinA at h1 ⊢
  split at h1
  · refine Loc1.of_same (f := fun s => (lenA P mk _ _ s).bind fun v => some (v, s)) ?_ ch s u s' h1
    intro s u s' h1
    simp only [Option.bind_eq_some_iff] at h1 ⊢
    obtain ⟨v, hv, h1⟩ := h1
    simp only [Option.some.injEq, Prod.mk.injEq] at h1
    obtain ⟨rfl, rfl⟩ := h1
    exact ⟨rfl, fun s2 a => ⟨v, ro_len _ _ s s2 v hv (fun n o ho => a.look ho), rfl⟩⟩
  · cases hc : isSliceT P _ with
    | false => rw [hc] at h1; cases h1
    | true =>
      rw [hc] at h1
      simp only [cond_true] at h1 ⊢
      exact loc_append _ _ _ mu ch s u s' h1
  · exact loc_copy _ _ _ ch s u s' h1
  · rename_i t x
    simp only [Option.bind_eq_some_iff] at h1
    obtain ⟨d, hd, s3, hs3, h1⟩ := h1
    have := loc_clear (P := P) (mk := mk) t x ch s u s' (by simp only [hs3, Option.bind_some]; exact h1)
    refine ⟨this.1, fun ch' s2 hc a => ?_⟩
    obtain ⟨s2', h2, h3⟩ := this.2 ch' s2 hc a
    exact ⟨s2', by simpa [hd] using h2, h3⟩
  · exact Loc1.pureOpt _ ch s u s' h1
  · exact Loc1.pureOpt _ ch s u s' h1
  · cases h1

theorem loc_store (t : TypeId) (a v : AVal) (loc : Loc) : Loc3 mk (fun _ s => (storeA P mk t a v loc s).bind fun r => some (undefA, r.1, r.2)) := by
  intro ch s u l' s' h
  simp only [Option.bind_eq_some_iff] at h
  obtain ⟨⟨l1, s1⟩, h1, h⟩ := h
  simp only [Option.some.injEq, Prod.mk.injEq] at h
  obtain ⟨rfl, rfl, rfl⟩ := h
  simp only [storeA, Option.bind_eq_some_iff] at h1
  obtain ⟨n, hn, h1⟩ := h1
  replace h1 := bif_none h1
  obtain ⟨hc, h1⟩ := h1
  split at h1
  · simp only [Option.bind_eq_some_iff] at h1
    obtain ⟨cs, hcs, cs', hw, h1⟩ := h1
    simp only [Option.some.injEq, Prod.mk.injEq] at h1
    obtain ⟨rfl, rfl⟩ := h1
    exact ⟨.refl mk _, fun ch' s2 _ x => ⟨s2, by simp only [storeA, hn, Option.bind_some, hc, cond_true, hcs, hw], .refl x⟩⟩
  · simp only [Option.bind_eq_some_iff] at h1
    obtain ⟨ob, hob, h1⟩ := h1
    split at h1
    · simp only [Option.bind_eq_some_iff] at h1
      obtain ⟨cs', hw, h1⟩ := h1
      simp only [Option.some.injEq, Prod.mk.injEq] at h1
      obtain ⟨rfl, rfl⟩ := h1
      exact ⟨.put hob _, fun ch' s2 _ x => ⟨_, by simp only [storeA, hn, Option.bind_some, hc, cond_true, x.look hob, hw], .put x hob _⟩⟩
    · cases h1
  · cases h1

theorem loc_box (h : Nat) (dst : Option Tmp) (cs : List AVal) (loc : Loc) : Loc3 mk (fun _ s => boxA h dst cs loc s) := by
  intro ch s u l' s' h1
  unfold boxA at h1 ⊢
  replace h1 := bif_some h1
  rcases h1 with ⟨hb, h1⟩ | ⟨hb, h1⟩
  · simp only [Option.bind_eq_some_iff] at h1
    obtain ⟨t, ht, h1⟩ := h1
    simp only [Option.some.injEq, Prod.mk.injEq] at h1
    obtain ⟨rfl, rfl, rfl⟩ := h1
    exact ⟨.refl mk _, fun ch' s2 _ x => ⟨s2, by simp only [hb, cond_true, ht, Option.bind_some], .refl x⟩⟩
  · simp only [Option.some.injEq, Prod.mk.injEq] at h1
    obtain ⟨rfl, rfl, rfl⟩ := h1
    exact ⟨.new mk s _, fun ch' s2 _ x => ⟨_, by simp only [hb, cond_false, x.next], .new x _⟩⟩

theorem loc_opBuiltin (hint : Tmp → Nat) (dst : Option Tmp) (c : Call) (fr : Fr) : Loc3 mk (fun _ s => opBuiltin P mk hint dst c fr s) := by
  unfold opBuiltin
  split
  · exact Loc3.bind _ fun args _ => Loc3.vs (loc_builtin _ _ _ _) _
  · exact Loc3.none

theorem loc_aop (kmax : Nat → Nat) (hint : Tmp → Nat) (dst : Option Tmp) (op : Op) (fr : Fr) : Loc3 mk (fun ch s => aop P mk ch kmax hint dst op fr s) := by
  cases op <;> simp only [aop] <;> first
    | exact Loc3.none
    | exact Loc3.const _ _
    | exact Loc3.bind _ fun z _ => loc_box _ _ _ _
    | exact Loc3.vs (loc_buildSlice _ _ _ _ _) _
    | exact Loc3.vs (loc_makeMap _ _ _) _
    | exact Loc3.bind _ fun a _ => Loc3.ro (ro_load _ _ _) _
    | exact Loc3.bind _ fun a _ => Loc3.bind _ fun x _ => loc_store _ _ _ _
    | exact Loc3.bind _ fun a _ => Loc3.const _ _
    | exact Loc3.bind _ fun a _ => Loc3.bind _ fun b _ => Loc3.const _ _
    | exact Loc3.bind _ fun a _ => Loc3.bind _ fun b _ => Loc3.vs (loc_makeSlice _ _ _ _) _
    | exact Loc3.bind _ fun a _ => Loc3.ro (ro_slice _ _ _ _ _ _) _
    | exact Loc3.bind _ fun a _ => Loc3.bind _ fun b _ => Loc3.ro (ro_lookup _ _ _ _) _
    | exact Loc3.bind _ fun a _ => Loc3.bind _ fun b _ => Loc3.bind _ fun c _ => loc_update _ _ _ _ _
    | exact Loc3.bind _ fun a _ => Loc3.bind _ fun b _ => Loc3.vs (loc_mapEntry _ _ _) _
    | exact Loc3.bind _ fun a _ => Loc3.bind _ fun b _ => Loc3.bind _ fun c _ => loc_entryStore _ _ _ _
    | exact Loc3.bind _ fun a _ => Loc3.vs (loc_range _ _) _
    | exact Loc3.bind _ fun a _ => Loc3.vs (loc_next _ _ _) _
    | exact Loc3.bind _ fun a _ => Loc3.ro (ro_entry _) _
    | exact loc_opBuiltin _ _ _ _
end
end Go.Ag
/- Locality of regions, code and calls. -/
namespace Go.Ag

section binds
variable {mk : Mask} {α β γ δ : Type}

theorem Loc1.none : Loc1 (α := α) mk (fun _ _ => .none) := by intro ch s v s' h; cases h

theorem Loc1.opt (x : Option β) {k : β → (Nat → Nat) → St → Option (α × St)} (hk : ∀ b, x = some b → Loc1 mk (k b)) : Loc1 mk (fun ch s => x.bind fun b => k b ch s) := by
  cases x with
  | none => intro ch s v s' h; cases h
  | some b => exact hk b rfl

theorem Loc1.ret (a : α) : Loc1 mk (fun _ s => some (a, s)) := by
  intro ch s v s' h
  simp only [Option.some.injEq, Prod.mk.injEq] at h
  obtain ⟨rfl, rfl⟩ := h
  exact ⟨.refl mk _, fun ch' s2 _ x => ⟨s2, rfl, .refl x⟩⟩

theorem Loc3.ret (a : α) (b : β) : Loc3 mk (fun _ s => some (a, b, s)) := by
  intro ch s v l s' h
  simp only [Option.some.injEq, Prod.mk.injEq] at h
  obtain ⟨rfl, rfl, rfl⟩ := h
  exact ⟨.refl mk _, fun ch' s2 _ x => ⟨s2, rfl, .refl x⟩⟩

theorem Loc1.then1 {x : (Nat → Nat) → St → Option (α × St)} {k : α → (Nat → Nat) → St → Option (β × St)} (hx : Loc1 mk x) (hk : ∀ a, Loc1 mk (k a)) : Loc1 mk (fun ch s => (x ch s).bind fun r => k r.1 ch r.2) := by
  intro ch s v s' h
  simp only [Option.bind_eq_some_iff] at h
  obtain ⟨⟨a, s1⟩, h1, h2⟩ := h
  obtain ⟨g1, e1⟩ := hx ch s a s1 h1
  obtain ⟨g2, e2⟩ := hk a ch s1 v s' h2
  refine ⟨g1.trans g2, fun ch' s2 hc y => ?_⟩
  obtain ⟨s2', q1, q2⟩ := e1 ch' s2 (fun i hi => hc i (Nat.lt_of_lt_of_le hi g2.ci)) y
  obtain ⟨s2'', q3, q4⟩ := e2 ch' s2' hc (q2.sees y g1)
  exact ⟨s2'', by simp only [q1, Option.bind_some]; exact q3, q2.trans g1 g2 q4⟩

theorem Loc1.then3 {x : (Nat → Nat) → St → Option (α × St)} {k : α → (Nat → Nat) → St → Option (β × γ × St)} (hx : Loc1 mk x) (hk : ∀ a, Loc3 mk (k a)) : Loc3 mk (fun ch s => (x ch s).bind fun r => k r.1 ch r.2) := by
  intro ch s v l s' h
  simp only [Option.bind_eq_some_iff] at h
  obtain ⟨⟨a, s1⟩, h1, h2⟩ := h
  obtain ⟨g1, e1⟩ := hx ch s a s1 h1
  obtain ⟨g2, e2⟩ := hk a ch s1 v l s' h2
  refine ⟨g1.trans g2, fun ch' s2 hc y => ?_⟩
  obtain ⟨s2', q1, q2⟩ := e1 ch' s2 (fun i hi => hc i (Nat.lt_of_lt_of_le hi g2.ci)) y
  obtain ⟨s2'', q3, q4⟩ := e2 ch' s2' hc (q2.sees y g1)
  exact ⟨s2'', by simp only [q1, Option.bind_some]; exact q3, q2.trans g1 g2 q4⟩

theorem Loc3.then1 {x : (Nat → Nat) → St → Option (α × β × St)} {k : α → β → (Nat → Nat) → St → Option (γ × St)} (hx : Loc3 mk x) (hk : ∀ a b, Loc1 mk (k a b)) : Loc1 mk (fun ch s => (x ch s).bind fun r => k r.1 r.2.1 ch r.2.2) := by
  intro ch s v s' h
  simp only [Option.bind_eq_some_iff] at h
  obtain ⟨⟨a, b, s1⟩, h1, h2⟩ := h
  obtain ⟨g1, e1⟩ := hx ch s a b s1 h1
  obtain ⟨g2, e2⟩ := hk a b ch s1 v s' h2
  refine ⟨g1.trans g2, fun ch' s2 hc y => ?_⟩
  obtain ⟨s2', q1, q2⟩ := e1 ch' s2 (fun i hi => hc i (Nat.lt_of_lt_of_le hi g2.ci)) y
  obtain ⟨s2'', q3, q4⟩ := e2 ch' s2' hc (q2.sees y g1)
  exact ⟨s2'', by simp only [q1, Option.bind_some]; exact q3, q2.trans g1 g2 q4⟩

theorem Loc3.then3 {x : (Nat → Nat) → St → Option (α × β × St)} {k : α → β → (Nat → Nat) → St → Option (γ × δ × St)} (hx : Loc3 mk x) (hk : ∀ a b, Loc3 mk (k a b)) : Loc3 mk (fun ch s => (x ch s).bind fun r => k r.1 r.2.1 ch r.2.2) := by
  intro ch s v l s' h
  simp only [Option.bind_eq_some_iff] at h
  obtain ⟨⟨a, b, s1⟩, h1, h2⟩ := h
  obtain ⟨g1, e1⟩ := hx ch s a b s1 h1
  obtain ⟨g2, e2⟩ := hk a b ch s1 v l s' h2
  refine ⟨g1.trans g2, fun ch' s2 hc y => ?_⟩
  obtain ⟨s2', q1, q2⟩ := e1 ch' s2 (fun i hi => hc i (Nat.lt_of_lt_of_le hi g2.ci)) y
  obtain ⟨s2'', q3, q4⟩ := e2 ch' s2' hc (q2.sees y g1)
  exact ⟨s2'', by simp only [q1, Option.bind_some]; exact q3, q2.trans g1 g2 q4⟩
end binds

/-- a mask that hides more -/
theorem Loc3.weaken {α β : Type} {mk mk' : Mask} (hm : ∀ n, hidden mk n = true → hidden mk' n = true) {x : (Nat → Nat) → St → Option (α × β × St)} (hx : Loc3 mk' x) : Loc3 mk x := by
  have hv : ∀ n, hidden mk' n = false → hidden mk n = false := fun n h => by
    cases e : hidden mk n with
    | false => rfl
    | true => rw [hm n e] at h; cases h
  have ht : ∀ {s s' : St} {n : Nat}, Touch mk' s s' n → Touch mk s s' n := fun t => t.imp (fun t => ⟨hv _ t.1, t.2⟩) id
  intro ch s a b s' h
  obtain ⟨g, e⟩ := hx ch s a b s' h
  refine ⟨⟨g.next, g.ci, g.minw, fun n h => g.frame n (fun t => h (ht t)), g.noted⟩, fun ch' s2 hc y => ?_⟩
  obtain ⟨s2', q1, q2⟩ := e ch' s2 hc ⟨y.next, y.minw, y.ci, fun n o hn ho => y.get n o (hv n hn) ho⟩
  refine ⟨s2', q1, ⟨q2.next, q2.minw, q2.ci, fun n t => ?_, fun n t => q2.outside n (fun t' => t (ht t'))⟩⟩
  by_cases t' : Touch mk' s s' n
  · exact q2.inside n t'
  · rw [q2.outside n t', g.frame n t']
    rcases t with ⟨t1, t2⟩ | t
    · cases h : s.heap.get n with
      | none => exact absurd h t2
      | some o => exact y.get n o t1 h
    · exact absurd (.inr t) t'

theorem hidden_maskOf {bi : Nat} {rs : List Rec} {mk : Mask} {n : Nat} (h : hidden mk n = true) : hidden (maskOf bi rs mk) n = true := by
  induction rs with
  | nil => exact h
  | cons r rs ih =>
    unfold maskOf
    cases bi.testBit r.i || Nat.beq r.c0 r.c1
    · simp only [cond_false, hidden, ih, Bool.or_true]
    · simpa using ih

def Prog.at (Q : Prog) (ch : Nat → Nat) : Prog := { Q with ch := ch }

theorem runRd_sees {mk : Mask} {s s2 : St} (y : Sees mk s s2) : ∀ (x : Rd) (v : AVal), runRd (s.get mk) x = some v → runRd (s2.get mk) x = some v
  | .ret _, _, h => h
  | .ask n k, v, h => by
    simp only [runRd, Option.bind_eq_some_iff] at h ⊢
    obtain ⟨o, h1, h2⟩ := h
    exact ⟨o, y.look h1, runRd_sees y (k o) v h2⟩
theorem loc_rd (mk : Mask) (x : Rd) : Loc1 mk (fun _ s => (runRd (s.get mk) x).bind fun v => some (v, s)) := by
  intro ch s v s' h
  simp only [Option.bind_eq_some_iff, Option.some.injEq, Prod.mk.injEq] at h
  obtain ⟨u, h1, rfl, rfl⟩ := h
  exact ⟨.refl mk _, fun ch' s2 _ y => ⟨s2, by show (runRd (s2.get mk) x).bind _ = _; rw [runRd_sees y x u h1]; rfl, .refl y⟩⟩
structure FLoc (r : (Nat → Nat) → Fns) : Prop where
  ops : ∀ f all mk l fr, Loc1 mk (fun ch s => (r ch).ops f all mk l fr s)
  draw : ∀ f all bs mk rs i l fr, Loc1 mk (fun ch s => (r ch).draw f all bs mk rs i l fr s)
  code : ∀ f c mk fr, Loc3 mk (fun ch s => (r ch).code f c mk fr s)
  call : ∀ f args mk, Loc1 mk (fun ch s => (r ch).call f args mk s)

/-- steps while an object is out of sight -/
theorem loc_hide {α : Type} {mk : Mask} {n : Nat} {k : AObj → (Nat → Nat) → St → Option (α × AObj × St)} (hk : ∀ o, Loc3 mk (k o)) :
    Loc1 mk (fun ch s => (s.get mk n).bind fun o => (k o ch (s.put n none)).bind fun x => some (x.1, x.2.2.put n (some x.2.1))) := by
  intro ch s v s' h
  simp only [Option.bind_eq_some_iff, Option.some.injEq, Prod.mk.injEq] at h
  obtain ⟨o, h1, ⟨u, o', s3⟩, h2, rfl, rfl⟩ := h
  obtain ⟨g, e⟩ := hk o ch (s.put n none) u o' s3 h2
  refine ⟨g.hide h1 o', fun ch' s2 hc y => ?_⟩
  obtain ⟨s23, q1, q2⟩ := e ch' (s2.put n none) hc ((Same.put y h1 none).sees y (Goes.put h1 none))
  exact ⟨s23.put n (some o'), by simp only [y.look h1, Option.bind_some, q1], q2.hide y h1 o'⟩

section levels
variable {Q : Prog} {r : (Nat → Nat) → Fns} (hr : FLoc r)
include hr

theorem loc_yield (n : Nat) (args : List AVal) (mk : Mask) : Loc1 mk (fun ch s => yieldS (r ch) n args mk s) := by
  unfold yieldS
  refine loc_hide fun o => ?_
  unfold yieldIn
  split
  · rename_i f env size ps a b
    cases ps.all (fun t => Nat.blt t size)
    · exact Loc3.none
    · simp only [cond_true]
      refine Loc3.bind _ fun env' _ => ?_
      refine Loc3.then3 (k := fun x fr ch s => yield1 (r ch) f env size ps a b mk (x, fr, s)) (hr.code f a mk _) fun x fr => ?_
      cases x with
      | normal =>
        refine Loc3.then3 (k := fun x fr _ s => yield2 f env size ps a b (x, fr, s)) (hr.code f b mk _) fun x fr => ?_
        cases x <;> exact Loc3.ret _ _
      | exit i => exact Loc3.none
      | ret => exact Loc3.none
  · exact Loc3.none

theorem loc_oper (f : FuncId) (o : Oper) (mk : Mask) (fr : Fr) : Loc3 mk (fun ch s => operS (Q.at ch) (r ch) f o mk fr s) := by
  unfold operS
  split
  · split
    · exact loc_opBuiltin _ _ _ _
    · rename_i c _ _ _
      cases isYld fr.env c
      · unfold callOp
        exact Loc3.bind _ fun g _ => Loc1.then3 (hr.call g.1 g.2 mk) fun v => Loc3.ret v fr.loc
      · unfold yieldOp
        exact Loc3.bind _ fun g _ => Loc1.then3 (loc_yield hr g.1 g.2 mk) fun v => Loc3.ret v fr.loc
  · exact loc_aop _ _ _ _ _

theorem loc_ops (f : FuncId) (all : Array Oper) (mk : Mask) (l : List Oper) (fr : Fr) : Loc1 mk (fun ch s => opsS (Q.at ch) (r ch) f all mk l fr s) := by
  unfold opsS
  split
  · exact Loc1.ret fr
  · rename_i o rest
    cases wantedA all fr.env o
    · exact Loc1.opt _ fun fr' _ => hr.ops f all mk rest fr'
    · exact Loc3.then1 (loc_oper hr f o mk fr) fun v l => Loc1.opt (putDst fr o.dst v l) fun fr' _ => hr.ops f all mk rest fr'

theorem loc_draw (f : FuncId) (all : Array Oper) (bs : List Nat) (mk : Mask) (rs : List Rec) (i : Nat) (l : List Oper) (fr : Fr) : Loc1 mk (fun ch s => drawS (Q.at ch) (r ch) f all bs mk rs i l fr s) := by
  unfold drawS
  split
  · exact Loc1.ret fr
  · rename_i o rest
    cases wantedA all fr.env o
    · exact Loc1.opt _ fun fr' _ => hr.draw f all bs.tail mk rs (i + 1) rest fr'
    · intro ch s v s' h
      simp only [cond_true, Option.bind_eq_some_iff] at h
      obtain ⟨⟨u, l, s1⟩, h1, h⟩ := h
      replace h := bif_none h
      obtain ⟨hc, h⟩ := h
      simp only [Option.bind_eq_some_iff] at h
      obtain ⟨fr', hfr, h⟩ := h
      have hl := Loc3.weaken (fun n hn => hidden_maskOf (bi := bs.headD 0) (rs := rs) hn) (loc_oper (Q := Q) hr f o (maskOf (bs.headD 0) rs mk) fr)
      obtain ⟨g1, e1⟩ := hl ch ⟨s.heap, s.next, s.next, s.ci⟩ u l s1 h1
      obtain ⟨g2, e2⟩ := hr.draw _ _ _ _ _ _ _ _ ch (s.least s1) v s' h
      have hle : (bif Nat.ble s.minw s1.minw then s.minw else s1.minw) ≤ s.minw ∧ (bif Nat.ble s.minw s1.minw then s.minw else s1.minw) ≤ s1.minw := by
        cases e : Nat.ble s.minw s1.minw
        · rw [nble] at e
          have := of_decide_eq_false e
          simp only [cond_false]
          omega
        · have := ble_le e
          simp only [cond_true]
          omega
      have g1' : Goes mk s (s.least s1) := ⟨g1.next, g1.ci, hle.1, g1.frame, fun n hn hne => Nat.le_trans hle.2 (g1.noted n hn hne)⟩
      refine ⟨g1'.trans g2, fun ch' s2 hch y => ?_⟩
      obtain ⟨s21, q1, q2⟩ := e1 ch' ⟨s2.heap, s2.next, s2.next, s2.ci⟩ (fun j hj => hch j (Nat.lt_of_lt_of_le hj g2.ci)) ⟨y.next, y.next, y.ci, y.get⟩
      have q2' : Same mk s (s.least s1) s2 (s2.least s21) := ⟨q2.next, by show (bif Nat.ble s2.minw s21.minw then s2.minw else s21.minw) = (bif Nat.ble s.minw s1.minw then s.minw else s1.minw); rw [y.minw, q2.minw], q2.ci, q2.inside, q2.outside⟩
      obtain ⟨s2', q3, q4⟩ := e2 ch' (s2.least s21) hch (q2'.sees y g1')
      refine ⟨s2', ?_, q2'.trans g1' g2 q4⟩
      simp only [cond_true]
      rw [y.next, y.ci] at q1 ⊢
      simp only [q1, Option.bind_some, q2.minw, q2.ci, q2.next]
      have hc' : (fits (bs.headD 0) (footOf ((Q.at ch').hint f) o.dst fr.env o.op) (s1.minw.blt s.next || isStore o.op) rs && s.ci.beq s1.ci) = true := hc
      rw [hc']
      simp only [cond_true]
      rw [hfr]
      exact q3

theorem loc_code (f : FuncId) (c : Code) (mk : Mask) (fr : Fr) : Loc3 mk (fun ch s => codeS (Q.at ch) (r ch) f c mk fr s) := by
  have hseq : ∀ (x : Ex) (fr : Fr) (b : Code), Loc3 mk (fun ch s => seqS (r ch) f b mk (x, fr, s)) := by
    intro x fr b
    cases x with
    | normal => exact hr.code f b mk fr
    | exit i => exact Loc3.ret _ _
    | ret => exact Loc3.ret _ _
  cases c <;> simp only [codeS] <;> first
    | exact Loc3.none
    | exact Loc3.ret _ _
    | exact Loc3.then3 (hr.code f _ mk fr) fun x fr => hseq x fr _
    | exact hr.code f _ mk fr
    | skip
  · -- a region
    rename_i id ops draw
    unfold regionS
    cases draw
    · exact Loc1.then3 (k := fun fr _ s => some (Ex.normal, fr, s)) (hr.ops f ops mk ops.toList fr) fun fr => Loc3.ret _ _
    · simp only [cond_true]
      cases apartAll ops 0 ops.toList (Region.before ops).toList
      · exact Loc3.none
      · exact Loc1.then3 (k := fun fr _ s => some (Ex.normal, fr, s)) (hr.draw f ops _ mk [] 0 ops.toList fr) fun fr => Loc3.ret _ _
  · -- cond
    rename_i x a b
    refine Loc3.bind _ fun v _ => ?_
    unfold condS
    split
    · exact hr.code f _ mk fr
    · exact hr.code f _ mk fr
    · exact Loc3.none
  · -- block
    rename_i id b
    refine Loc3.then3 (k := fun x fr _ s => some (blockS id (x, fr, s))) (hr.code f b mk fr) fun x fr => ?_
    cases x with
    | normal => exact Loc3.ret _ _
    | ret => exact Loc3.ret _ _
    | exit i =>
      simp only [blockS]
      cases Nat.beq i id
      · exact Loc3.ret _ _
      · exact Loc3.ret _ _
  · -- a range over a function
    rename_i g ps a b
    refine Loc3.bind _ fun v _ => ?_
    unfold rangeS
    split
    · rename_i h first captured _
      show Loc3 mk (fun ch s => bif hasBody Q.P h && (fr.env.all noRef && (flat' a && flat' b)) then _ else none)
      cases hasBody Q.P h && (fr.env.all noRef && (flat' a && flat' b))
      · exact Loc3.none
      · simp only [cond_true]
        intro ch s x fr' s' h'
        simp only [Option.bind_eq_some_iff] at h'
        obtain ⟨⟨v, s1⟩, h1, h2⟩ := h'
        simp only [rangeEnd, Option.bind_eq_some_iff] at h2
        obtain ⟨o, h3, h4⟩ := h2
        obtain ⟨g1, e1⟩ := hr.call h _ mk ch _ v s1 h1
        have g0 := Goes.new mk s (.loop f fr.env fr.size ps.toList a b none)
        cases o with
        | loop f' env' size' ps' a' b' p =>
          simp only [Option.some.injEq, Prod.mk.injEq] at h4
          obtain ⟨rfl, rfl, rfl⟩ := h4
          have g2 := Goes.put h3 (mk := mk) none
          refine ⟨(g0.trans g1).trans g2, fun ch' s2 hc y => ?_⟩
          have s0 := Same.new y (.loop f fr.env fr.size ps.toList a b none)
          obtain ⟨s21, q1, q2⟩ := e1 ch' _ hc (s0.sees y g0)
          have hn : s2.next = s.next := y.next
          have y1 := q2.sees (s0.sees y g0) g1
          refine ⟨s21.put s.next none, ?_, (s0.trans g0 g1 q2).trans (g0.trans g1) g2 (.put y1 h3 none)⟩
          simp only [hn, q1, Option.bind_some, rangeEnd, y1.look h3]
        | cells _ => cases h4
        | tok => cases h4
        | map _ _ => cases h4
        | iter _ _ _ _ => cases h4
    · exact Loc3.none

omit hr in
theorem loc_results (mk : Mask) (fr : Fr) (l : List ResultVar) : RO mk (fun s => resultsA Q mk fr s l) := by
  intro s s2 b h hl
  induction l generalizing b with
  | nil => exact h
  | cons x l ih =>
    simp only [resultsA, Option.bind_eq_some_iff] at h ⊢
    obtain ⟨v, hv, vs, hvs, h⟩ := h
    refine ⟨v, ?_, vs, ih vs hvs, h⟩
    cases x with
    | tmp t => exact hv
    | cell a t => exact ro_load t _ fr.loc s s2 v hv hl

theorem loc_call (f : FuncId) (args : List AVal) (mk : Mask) : Loc1 mk (fun ch s => callS (Q.at ch) (r ch) f args mk s) := by
  unfold callS
  show Loc1 mk (fun ch s => match Q.spec f with
    | some sp => (sp args).bind fun v => some (v, s)
    | none => match Q.specH f with
      | some sp => (runRd (s.get mk) (sp args)).bind fun v => some (v, s)
      | none => (Q.P.funcs[f]?).bind fun fn => fn.body.bind fun c =>
        ((r ch).code f c mk ⟨ofArgs 0 args, bif Nat.ble args.length fn.ntmps then fn.ntmps else args.length, []⟩ s).bind (endS (Q.at ch) fn mk))
  cases Q.spec f with
  | some sp => exact Loc1.pureOpt _
  | none =>
    cases Q.specH f with
    | some sp => exact loc_rd mk (sp args)
    | none =>
    refine Loc1.opt _ fun fn _ => Loc1.opt _ fun c _ => ?_
    refine Loc3.then1 (k := fun x fr ch s => endS (Q.at ch) fn mk (x, fr, s)) (hr.code f c mk _) fun x fr => ?_
    have fin : Loc1 mk (fun (ch : Nat → Nat) s => (resultsA (Q.at ch) mk fr s fn.results.toList).bind fun vs => some (packA vs, s)) := by
      intro ch s v s' h
      simp only [Option.bind_eq_some_iff] at h
      obtain ⟨vs, hvs, h⟩ := h
      simp only [Option.some.injEq, Prod.mk.injEq] at h
      obtain ⟨rfl, rfl⟩ := h
      refine ⟨.refl mk _, fun ch' s2 _ y => ⟨s2, ?_, .refl y⟩⟩
      have := loc_results (Q := Q.at ch) mk fr fn.results.toList s s2 vs hvs (fun n o ho => y.look ho)
      have : resultsA (Q.at ch') mk fr s2 fn.results.toList = some vs := by
        rw [← this]
        clear hvs this
        generalize fn.results.toList = l
        induction l with
        | nil => rfl
        | cons x l ih => simp only [resultsA, ih]; cases x <;> rfl
      simp [this]
    cases x with
    | normal => exact fin
    | ret => exact fin
    | exit i => exact Loc1.none
end levels

/-- every level is local -/
theorem lvl_loc (Q : Prog) : ∀ n : Nat, FLoc (fun ch => lvl (Q.at ch) n)
  | 0 => ⟨fun _ _ _ _ _ => Loc1.none, fun _ _ _ _ _ _ _ _ => Loc1.none, fun _ _ _ _ => Loc3.none, fun _ _ _ => Loc1.none⟩
  | n + 1 => ⟨fun f all mk l fr => loc_ops (lvl_loc Q n) f all mk l fr, fun f all bs mk rs i l fr => loc_draw (lvl_loc Q n) f all bs mk rs i l fr,
    fun f c mk fr => loc_code (lvl_loc Q n) f c mk fr, fun f args mk => loc_call (lvl_loc Q n) f args mk⟩
end Go.Ag
/- The same choices lead to the same end, exactly. -/
namespace Go.Ag

def Ch1 {α : Type} (x : (Nat → Nat) → St → Option (α × St)) : Prop :=
  ∀ ch s a s', x ch s = some (a, s') → ∀ ch', (∀ i, i < s'.ci → ch' i = ch i) → x ch' s = some (a, s')
def Ch3 {α β : Type} (x : (Nat → Nat) → St → Option (α × β × St)) : Prop :=
  ∀ ch s a b s', x ch s = some (a, b, s') → ∀ ch', (∀ i, i < s'.ci → ch' i = ch i) → x ch' s = some (a, b, s')

theorem Ch1.const {α : Type} (f : St → Option (α × St)) : Ch1 (fun _ s => f s) := fun _ _ _ _ h _ _ => h
theorem Ch3.const {α β : Type} (f : St → Option (α × β × St)) : Ch3 (fun _ s => f s) := fun _ _ _ _ _ h _ _ => h

section binds
variable {mk : Mask} {α β γ δ : Type}
theorem Ch1.opt (x : Option β) {k : β → (Nat → Nat) → St → Option (α × St)} (hk : ∀ b, x = some b → Ch1 (k b)) : Ch1 (fun ch s => x.bind fun b => k b ch s) := by
  cases x with
  | none => intro ch s v s' h; cases h
  | some b => exact hk b rfl
theorem Ch3.opt (x : Option β) {k : β → (Nat → Nat) → St → Option (α × γ × St)} (hk : ∀ b, x = some b → Ch3 (k b)) : Ch3 (fun ch s => x.bind fun b => k b ch s) := by
  cases x with
  | none => intro ch s v l s' h; cases h
  | some b => exact hk b rfl

theorem Ch1.then1 {x : (Nat → Nat) → St → Option (α × St)} {k : α → (Nat → Nat) → St → Option (β × St)} (hx : Ch1 x) (hk : ∀ a, Ch1 (k a)) (gk : ∀ a, Loc1 mk (k a)) : Ch1 (fun ch s => (x ch s).bind fun r => k r.1 ch r.2) := by
  intro ch s v s' h ch' hc
  simp only [Option.bind_eq_some_iff] at h ⊢
  obtain ⟨⟨a, s1⟩, h1, h2⟩ := h
  exact ⟨(a, s1), hx ch s a s1 h1 ch' (fun i hi => hc i (Nat.lt_of_lt_of_le hi ((gk a ch s1 v s' h2).1.ci))), hk a ch s1 v s' h2 ch' hc⟩
theorem Ch1.then3 {x : (Nat → Nat) → St → Option (α × St)} {k : α → (Nat → Nat) → St → Option (β × γ × St)} (hx : Ch1 x) (hk : ∀ a, Ch3 (k a)) (gk : ∀ a, Loc3 mk (k a)) : Ch3 (fun ch s => (x ch s).bind fun r => k r.1 ch r.2) := by
  intro ch s v l s' h ch' hc
  simp only [Option.bind_eq_some_iff] at h ⊢
  obtain ⟨⟨a, s1⟩, h1, h2⟩ := h
  exact ⟨(a, s1), hx ch s a s1 h1 ch' (fun i hi => hc i (Nat.lt_of_lt_of_le hi ((gk a ch s1 v l s' h2).1.ci))), hk a ch s1 v l s' h2 ch' hc⟩
theorem Ch3.then1 {x : (Nat → Nat) → St → Option (α × β × St)} {k : α → β → (Nat → Nat) → St → Option (γ × St)} (hx : Ch3 x) (hk : ∀ a b, Ch1 (k a b)) (gk : ∀ a b, Loc1 mk (k a b)) : Ch1 (fun ch s => (x ch s).bind fun r => k r.1 r.2.1 ch r.2.2) := by
  intro ch s v s' h ch' hc
  simp only [Option.bind_eq_some_iff] at h ⊢
  obtain ⟨⟨a, b, s1⟩, h1, h2⟩ := h
  exact ⟨(a, b, s1), hx ch s a b s1 h1 ch' (fun i hi => hc i (Nat.lt_of_lt_of_le hi ((gk a b ch s1 v s' h2).1.ci))), hk a b ch s1 v s' h2 ch' hc⟩
theorem Ch3.then3 {x : (Nat → Nat) → St → Option (α × β × St)} {k : α → β → (Nat → Nat) → St → Option (γ × δ × St)} (hx : Ch3 x) (hk : ∀ a b, Ch3 (k a b)) (gk : ∀ a b, Loc3 mk (k a b)) : Ch3 (fun ch s => (x ch s).bind fun r => k r.1 r.2.1 ch r.2.2) := by
  intro ch s v l s' h ch' hc
  simp only [Option.bind_eq_some_iff] at h ⊢
  obtain ⟨⟨a, b, s1⟩, h1, h2⟩ := h
  exact ⟨(a, b, s1), hx ch s a b s1 h1 ch' (fun i hi => hc i (Nat.lt_of_lt_of_le hi ((gk a b ch s1 v l s' h2).1.ci))), hk a b ch s1 v l s' h2 ch' hc⟩
end binds

theorem ch_next (mk : Mask) (kmax : Nat → Nat) (it : AVal) (isString : Bool) : Ch1 (fun ch s => nextA mk ch kmax it isString s) := by
  intro ch s u s' h ch' hc
  obtain ⟨_, e⟩ := loc_next (mk := mk) kmax it isString ch s u s' h
  simp only [nextA] at h ⊢
  split at h
  · rename_i n
    simp only [Option.bind_eq_some_iff] at h ⊢
    obtain ⟨ob, hob, h⟩ := h
    refine ⟨ob, hob, ?_⟩
    split at h
    · exact h
    · rename_i m since seen stepped
      cases isString
      · simp only [cond_false, Option.bind_eq_some_iff] at h ⊢
        obtain ⟨ob2, hob2, h⟩ := h
        refine ⟨ob2, hob2, ?_⟩
        split at h
        · rename_i es clock
          replace h := bif_some h
          rcases h with ⟨_, h⟩ | ⟨hgo, h⟩
          · cases h
          · simp only [hgo, cond_false]
            generalize unseen seen es = UL at h ⊢
            unfold nextIn at h ⊢
            split at h
            · exact h
            · rename_i e1 r
              replace h := bif_none h
              obtain ⟨hall, h⟩ := h
              simp only [hall, cond_true]
              split at h
              · exact h
              · replace h := bif_none h
                obtain ⟨hk, h⟩ := h
                simp only [hk, cond_true]
                simp only [Option.bind_eq_some_iff] at h ⊢
                obtain ⟨e', he', h⟩ := h
                have hlt : s.ci < s'.ci := by
                  simp only [Option.some.injEq, Prod.mk.injEq] at h
                  rw [← h.2]; exact Nat.lt_succ_self _
                exact ⟨e', by rw [hc s.ci hlt]; exact he', h⟩
        · cases h
      · cases h
    · cases h
  · cases h

theorem ch_aop {P : Program} (mk : Mask) (kmax : Nat → Nat) (hint : Tmp → Nat) (dst : Option Tmp) (op : Op) (fr : Fr) : Ch3 (fun ch s => aop P mk ch kmax hint dst op fr s) := by
  cases op <;> simp only [aop] <;> first
    | exact Ch3.const _
    | skip
  rename_i it isString
  refine Ch3.opt _ fun x _ => ?_
  intro ch s v l s' h ch' hc
  simp only [retVS, Option.bind_eq_some_iff] at h ⊢
  obtain ⟨⟨v1, s1⟩, h1, h⟩ := h
  refine ⟨(v1, s1), ch_next mk kmax x isString ch s v1 s1 h1 ch' ?_, h⟩
  simp only [Option.some.injEq, Prod.mk.injEq] at h
  rw [h.2.2]; exact hc

structure FCh (r : (Nat → Nat) → Fns) : Prop where
  ops : ∀ f all mk l fr, Ch1 (fun ch s => (r ch).ops f all mk l fr s)
  draw : ∀ f all bs mk rs i l fr, Ch1 (fun ch s => (r ch).draw f all bs mk rs i l fr s)
  code : ∀ f c mk fr, Ch3 (fun ch s => (r ch).code f c mk fr s)
  call : ∀ f args mk, Ch1 (fun ch s => (r ch).call f args mk s)

section levels
variable {Q : Prog} {r : (Nat → Nat) → Fns} (hl : FLoc r) (hr : FCh r)
include hl hr

theorem ch_yield (n : Nat) (args : List AVal) (mk : Mask) : Ch1 (fun ch s => yieldS (r ch) n args mk s) := by
  intro ch s v s' h ch' hc
  simp only [yieldS, Option.bind_eq_some_iff, Option.some.injEq, Prod.mk.injEq] at h ⊢
  obtain ⟨o, h1, ⟨u, o', s3⟩, h2, rfl, rfl⟩ := h
  refine ⟨o, h1, (u, o', s3), ?_, rfl, rfl⟩
  have hc : ∀ i, i < s3.ci → ch' i = ch i := hc
  unfold yieldIn at h2 ⊢
  split at h2
  · obtain ⟨hb, h2⟩ := bif_none h2
    simp only [hb, cond_true, Option.bind_eq_some_iff] at h2 ⊢
    obtain ⟨env', h3, ⟨x, fr, s4⟩, h4, h5⟩ := h2
    refine ⟨env', h3, (x, fr, s4), ?_, ?_⟩
    all_goals cases x with
      | exit i => cases h5
      | ret => cases h5
      | normal =>
        simp only [yield1, Option.bind_eq_some_iff] at h5 ⊢
        obtain ⟨⟨x2, fr2, s5⟩, h6, h7⟩ := h5
        have e5 : s5 = s3 := by cases x2 <;> (simp only [yield2, Option.some.injEq, Prod.mk.injEq] at h7; exact h7.2.2)
        subst e5
        have g2 := (hl.code _ _ mk _ ch s4 x2 fr2 s5 h6).1
        first
          | exact hr.code _ _ mk _ ch _ _ fr s4 h4 ch' (fun i hi => hc i (Nat.lt_of_lt_of_le hi g2.ci))
          | exact ⟨(x2, fr2, s5), hr.code _ _ mk _ ch s4 x2 fr2 s5 h6 ch' hc, h7⟩
  · cases h2

theorem ch_oper (f : FuncId) (o : Oper) (mk : Mask) (fr : Fr) : Ch3 (fun ch s => operS (Q.at ch) (r ch) f o mk fr s) := by
  have _ := hl
  unfold operS
  split
  · split
    · exact fun ch s a b s' h ch' _ => h
    · rename_i c _ _ _
      cases isYld fr.env c
      case' true =>
        unfold yieldOp
        exact Ch3.opt _ fun g _ => Ch1.then3 (mk := mk) (k := fun v _ s => some (v, fr.loc, s)) (ch_yield hl hr g.1 g.2 mk) (fun v => Ch3.const _) fun v => Loc3.ret v fr.loc
      unfold callOp
      exact Ch3.opt _ fun g _ => Ch1.then3 (mk := mk) (k := fun v _ s => some (v, fr.loc, s)) (hr.call g.1 g.2 mk) (fun v => Ch3.const _) fun v => Loc3.ret v fr.loc
  · exact ch_aop _ _ _ _ _ _

theorem ch_ops (f : FuncId) (all : Array Oper) (mk : Mask) (l : List Oper) (fr : Fr) : Ch1 (fun ch s => opsS (Q.at ch) (r ch) f all mk l fr s) := by
  unfold opsS
  split
  · exact Ch1.const _
  · rename_i o rest
    cases wantedA all fr.env o
    · exact Ch1.opt _ fun fr' _ => hr.ops f all mk rest fr'
    · exact Ch3.then1 (mk := mk) (k := fun v l ch s => (putDst fr o.dst v l).bind fun fr' => (r ch).ops f all mk rest fr' s) (ch_oper hl hr f o mk fr) (fun v l => Ch1.opt _ fun fr' _ => hr.ops f all mk rest fr') fun v l => Loc1.opt _ fun fr' _ => hl.ops f all mk rest fr'

theorem ch_draw (f : FuncId) (all : Array Oper) (bs : List Nat) (mk : Mask) (rs : List Rec) (i : Nat) (l : List Oper) (fr : Fr) : Ch1 (fun ch s => drawS (Q.at ch) (r ch) f all bs mk rs i l fr s) := by
  unfold drawS
  split
  · exact Ch1.const _
  · rename_i o rest
    cases wantedA all fr.env o
    · exact Ch1.opt _ fun fr' _ => hr.draw f all bs.tail mk rs (i + 1) rest fr'
    · intro ch s v s' h ch' hc
      simp only [cond_true, Option.bind_eq_some_iff] at h ⊢
      obtain ⟨⟨u, l, s1⟩, h1, h⟩ := h
      replace h := bif_none h
      obtain ⟨hcond, h⟩ := h
      simp only [Option.bind_eq_some_iff] at h
      obtain ⟨fr', hfr, h⟩ := h
      have g2 := (hl.draw _ _ _ _ _ _ _ _ ch (s.least s1) v s' h).1
      refine ⟨(u, l, s1), ch_oper (Q := Q) hl hr f o _ fr ch _ u l s1 h1 ch' (fun j hj => hc j (Nat.lt_of_lt_of_le hj g2.ci)), ?_⟩
      have hc' : (fits (bs.headD 0) (footOf ((Q.at ch').hint f) o.dst fr.env o.op) (s1.minw.blt s.next || isStore o.op) rs && s.ci.beq s1.ci) = true := hcond
      simp only [hc', cond_true, hfr, Option.bind_some]
      exact hr.draw _ _ _ _ _ _ _ _ ch (s.least s1) v s' h ch' hc

theorem ch_code (f : FuncId) (c : Code) (mk : Mask) (fr : Fr) : Ch3 (fun ch s => codeS (Q.at ch) (r ch) f c mk fr s) := by
  have hseq : ∀ (x : Ex) (fr : Fr) (b : Code), Ch3 (fun ch s => seqS (r ch) f b mk (x, fr, s)) ∧ Loc3 mk (fun ch s => seqS (r ch) f b mk (x, fr, s)) := by
    intro x fr b
    cases x with
    | normal => exact ⟨hr.code f b mk fr, hl.code f b mk fr⟩
    | exit i => exact ⟨Ch3.const _, Loc3.ret _ _⟩
    | ret => exact ⟨Ch3.const _, Loc3.ret _ _⟩
  cases c <;> simp only [codeS] <;> first
    | exact Ch3.const _
    | exact Ch3.then3 (mk := mk) (hr.code f _ mk fr) (fun x fr => (hseq x fr _).1) (fun x fr => (hseq x fr _).2)
    | exact hr.code f _ mk fr
    | skip
  · rename_i id ops draw
    unfold regionS
    cases draw
    · exact Ch1.then3 (mk := mk) (k := fun fr _ s => some (Ex.normal, fr, s)) (hr.ops f ops mk ops.toList fr) (fun _ => Ch3.const _) fun _ => Loc3.ret _ _
    · simp only [cond_true]
      cases apartAll ops 0 ops.toList (Region.before ops).toList
      · exact Ch3.const _
      · exact Ch1.then3 (mk := mk) (k := fun fr _ s => some (Ex.normal, fr, s)) (hr.draw f ops _ mk [] 0 ops.toList fr) (fun _ => Ch3.const _) fun _ => Loc3.ret _ _
  · rename_i x a b
    refine Ch3.opt _ fun v _ => ?_
    unfold condS
    split
    · exact hr.code f _ mk fr
    · exact hr.code f _ mk fr
    · exact Ch3.const _
  · rename_i id b
    intro ch s x fr' s' h ch' hc
    simp only [Option.bind_eq_some_iff] at h ⊢
    obtain ⟨⟨x1, fr1, s1⟩, h1, h⟩ := h
    refine ⟨(x1, fr1, s1), hr.code f b mk fr ch s x1 fr1 s1 h1 ch' ?_, h⟩
    have : s1 = s' := by
      simp only [Option.some.injEq] at h
      cases x1 with
      | normal => simp only [blockS, Prod.mk.injEq] at h; exact h.2.2
      | ret => simp only [blockS, Prod.mk.injEq] at h; exact h.2.2
      | exit i =>
        simp only [blockS] at h
        cases hb : Nat.beq i id <;> rw [hb] at h <;> simp only [cond_true, cond_false, Prod.mk.injEq] at h <;> exact h.2.2
    rw [this]; exact hc
  · rename_i g ps a b
    refine Ch3.opt _ fun v _ => ?_
    unfold rangeS
    split
    · rename_i h first captured _
      show Ch3 (fun ch s => bif hasBody Q.P h && (fr.env.all noRef && (flat' a && flat' b)) then _ else none)
      cases hasBody Q.P h && (fr.env.all noRef && (flat' a && flat' b))
      · exact Ch3.const _
      · simp only [cond_true]
        intro ch s x fr' s' h' ch' hc
        simp only [Option.bind_eq_some_iff] at h' ⊢
        obtain ⟨⟨v, s1⟩, h1, h2⟩ := h'
        refine ⟨(v, s1), ?_, h2⟩
        have : s1.ci = s'.ci := by
          simp only [rangeEnd, Option.bind_eq_some_iff] at h2
          obtain ⟨o, _, h4⟩ := h2
          cases o with
          | loop f' env' size' ps' a' b' p =>
            simp only [Option.some.injEq, Prod.mk.injEq] at h4
            rw [← h4.2.2]; rfl
          | _ => cases h4
        exact hr.call h _ mk ch _ v s1 h1 ch' (by rw [this]; exact hc)
    · exact Ch3.const _

omit hl in
theorem ch_call (f : FuncId) (args : List AVal) (mk : Mask) : Ch1 (fun ch s => callS (Q.at ch) (r ch) f args mk s) := by
  unfold callS
  show Ch1 (fun ch s => match Q.spec f with
    | some sp => (sp args).bind fun v => some (v, s)
    | none => match Q.specH f with
      | some sp => (runRd (s.get mk) (sp args)).bind fun v => some (v, s)
      | none => (Q.P.funcs[f]?).bind fun fn => fn.body.bind fun c =>
        ((r ch).code f c mk ⟨ofArgs 0 args, bif Nat.ble args.length fn.ntmps then fn.ntmps else args.length, []⟩ s).bind (endS (Q.at ch) fn mk))
  cases Q.spec f with
  | some sp => exact Ch1.const _
  | none =>
    cases Q.specH f with
    | some sp => exact Ch1.const _
    | none =>
    refine Ch1.opt _ fun fn _ => Ch1.opt _ fun c _ => ?_
    intro ch s v s' h ch' hc
    simp only [Option.bind_eq_some_iff] at h ⊢
    obtain ⟨⟨x1, fr1, s1⟩, h1, h⟩ := h
    have hres : ∀ l, resultsA (Q.at ch') mk fr1 s1 l = resultsA (Q.at ch) mk fr1 s1 l := by
      intro l
      induction l with
      | nil => rfl
      | cons x l ih => simp only [resultsA, ih]; cases x <;> rfl
    have : s1 = s' ∧ endS (Q.at ch') fn mk (x1, fr1, s1) = some (v, s') := by
      cases x1 with
      | exit i => cases h
      | normal =>
        simp only [endS, Option.bind_eq_some_iff] at h ⊢
        obtain ⟨vs, hvs, h⟩ := h
        simp only [Option.some.injEq, Prod.mk.injEq] at h
        exact ⟨h.2, vs, by rw [hres]; exact hvs, by simp [h]⟩
      | ret =>
        simp only [endS, Option.bind_eq_some_iff] at h ⊢
        obtain ⟨vs, hvs, h⟩ := h
        simp only [Option.some.injEq, Prod.mk.injEq] at h
        exact ⟨h.2, vs, by rw [hres]; exact hvs, by simp [h]⟩
    exact ⟨(x1, fr1, s1), hr.code f c mk _ ch s x1 fr1 s1 h1 ch' (by rw [this.1]; exact hc), this.2⟩
end levels

theorem lvl_ch (Q : Prog) : ∀ n : Nat, FCh (fun ch => lvl (Q.at ch) n)
  | 0 => ⟨fun _ _ _ _ _ => Ch1.const _, fun _ _ _ _ _ _ _ _ => Ch1.const _, fun _ _ _ _ => Ch3.const _, fun _ _ _ => Ch1.const _⟩
  | n + 1 => ⟨fun f all mk l fr => ch_ops (lvl_loc Q n) (lvl_ch Q n) f all mk l fr, fun f all bs mk rs i l fr => ch_draw (lvl_loc Q n) (lvl_ch Q n) f all bs mk rs i l fr,
    fun f c mk fr => ch_code (lvl_loc Q n) (lvl_ch Q n) f c mk fr, fun f args mk => ch_call (lvl_ch Q n) f args mk⟩
end Go.Ag
/- The evaluator is sound: single operations, frames. -/
namespace Go.Ag

section ops
variable {P : Program} {mk : Mask} {ch : Nat → Nat} {kmax : Nat → Nat} {hint : Tmp → Nat} {G : Gh} {s s' : St} {B : Nat → Nat} {fr : Fr} {a : Act} {w : World} {o : Oper} {v : AVal} {loc' : Loc}

theorem aop_sound (wr : WR G s.heap w) (fx : FrR G s.heap B fr a.tmps w) (he : aop P mk ch kmax hint o.dst o.op fr s = some (v, loc', s')) (hfree : ∀ n, s.next ≤ n → n < s'.next → G.at_ n = none)
    (hch : ∀ x b xv, o.op = .next x b → evc fr.env x = some xv → 2 ≤ nextCount mk xv s → ch s.ci % nextCount mk xv s = (w.tape w.drawn (.mapNext (nextCount mk xv s))) % nextCount mk xv s) :
    OpPost P G s.heap w B fr.loc s.next s'.next a o v loc' s'.heap := by
  cases hop : o.op <;> rw [hop] at he <;> simp only [aop] at he
  case move x => replace he := retV_some he; obtain ⟨he, rfl, rfl⟩ := he; exact op_move hop wr fx he
  case assign x => replace he := retV_some he; obtain ⟨he, rfl, rfl⟩ := he; exact op_assign hop wr fx he
  case pick c p q => replace he := retV_some he; obtain ⟨he, rfl, rfl⟩ := he; exact op_pick hop wr fx he
  case alloc e => exact op_alloc hop wr fx he hfree
  case box e x => exact op_box hop wr fx he hfree
  case build t parts => replace he := retV_some he; obtain ⟨he, rfl, rfl⟩ := he; exact op_build hop wr fx he
  case buildSlice t len parts => exact op_buildSlice hop wr fx he hfree
  case load t x => exact op_load hop wr fx he
  case store t x z => exact op_store hop wr fx he
  case nilCheck x =>
    simp only [op1, Option.bind_eq_some_iff] at he
    obtain ⟨u, hu, he⟩ := he
    replace he := retV_some he
    obtain ⟨he, rfl, rfl⟩ := he
    exact op_nilCheck hop wr fx hu he
  case binOp op t x y yt => exact op_bin hop wr fx he
  case unOp op t x => exact op_un hop wr fx he
  case convert src dst x => exact op_convert hop wr fx he
  case makeFunc fn first captured => replace he := retV_some he; obtain ⟨he, rfl, rfl⟩ := he; exact op_makeFunc hop wr fx he
  case makeMap t r => exact op_makeMap hop wr fx he hfree
  case makeSlice t l c => exact op_makeSlice hop wr fx he hfree
  case slice t x lo hi mx => exact op_slice hop wr fx he
  case fieldAddr t x f => exact op_fieldAddr hop wr fx he
  case field t x f => exact op_field hop wr fx he
  case indexAddr t x i => exact op_indexAddr hop wr fx he
  case index t x i => exact op_index hop wr fx he
  case lookup t x i ok => exact op_lookup hop wr fx he
  case mapUpdate t m k x => exact op_update (.inl hop) wr fx he
  case insert t m k x => exact op_update (.inr hop) wr fx he
  case mapEntry t m k => exact op_mapEntry hop wr fx he
  case entryStore t m st x => exact op_entryStore hop wr fx he
  case range t x => exact op_range hop wr fx he hfree
  case next it isString =>
    simp only [Option.bind_eq_some_iff] at he
    obtain ⟨xv, hx, he⟩ := he
    exact op_next hop wr fx hx he (hch it isString xv hop hx)
  case entry it => exact op_entry hop wr fx he
  case extract x i => exact op_extract hop wr fx he
  case call c => exact op_builtin hop wr fx he hfree
  all_goals cases he

theorem getD_set (tmps : Array Value) (d t : Nat) (x : Value) (hd : d < tmps.size) : (tmps.setIfInBounds d x).getD t undef = if t = d then x else tmps.getD t undef := by
  simp only [Array.getD_eq_getD_getElem?, Array.getElem?_setIfInBounds]
  by_cases e : d = t
  · subst e; simp [hd]
  · simp [e, Ne.symm e]

/-- a frame behind an operation -/
theorem FrR.put {G G' : Gh} {h h' : Trie AObj} {B B' : Nat → Nat} {fr fr' : Fr} {a : Act} {w w' : World} {dst : Option Tmp} {v : AVal} {x : Value} {loc' : Loc} (fx : FrR G h B fr a.tmps w)
    (hp : putDst fr dst v loc' = some fr') (hl : LocsR G' h' B' loc' w') (hv : LV G' loc' B' v x) (hold : ∀ u y, LV G fr.loc B u y → LV G' loc' B' u y) : FrR G' h' B' fr' (a.put dst x).tmps w' := by
  unfold putDst at hp
  cases dst with
  | none =>
    injection hp with hp; subst hp
    exact ⟨fx.size, fun t => hold _ _ (fx.env t), hl⟩
  | some d =>
    replace hp := bif_none hp
    obtain ⟨hd, hp⟩ := hp
    injection hp with hp; subst hp
    have hd := blt_lt hd
    refine ⟨by simp [Act.put, fx.size], fun t => ?_, hl⟩
    show LV G' loc' B' (nth (fr.env.set d (some v)) t) ((a.tmps.setIfInBounds d x).getD t undef)
    rw [getD_set _ _ _ _ (by rw [fx.size]; exact hd)]
    unfold nth
    rw [Trie.get_set]
    by_cases e : t = d
    · rw [if_pos e, if_pos e]; exact hv
    · rw [if_neg e, if_neg e]; exact hold _ _ (fx.env t)

theorem FrR.wanted {G : Gh} {h : Trie AObj} {B : Nat → Nat} {fr : Fr} {a : Act} {w : World} (fx : FrR G h B fr a.tmps w) (ops : Array Oper) (o : Oper) : Region.wanted o (yielded ops a.tmps) = wantedA ops fr.env o := by
  unfold Region.wanted wantedA
  cases hg : o.guard with
  | none => rfl
  | some g =>
    obtain ⟨j, want⟩ := g
    simp only [yielded]
    cases hd : (ops[j]?).bind (·.dst) with
    | none => simp
    | some d =>
      simp only [Option.bind_some]
      have hl := fx.env d
      have hget : ∀ b, a.tmps[d]? = some (.bool b) ↔ a.tmps.getD d undef = .bool b := by
        intro b
        simp only [Array.getD_eq_getD_getElem?]
        cases hx : a.tmps[d]? with
        | none => simp [undef]
        | some x => simp
      cases hn : nth fr.env d with
      | bool b =>
        rw [hn] at hl
        have hl : VR G (.bool b) (a.tmps.getD d undef) := hl
        have : a.tmps[d]? = some (.bool b) := by
          rw [hget]
          generalize a.tmps.getD d undef = x at hl
          cases hl; rfl
        simp [this]
      | lref t g off =>
        rw [hn] at hl
        obtain ⟨_, ⟨ad, had⟩, _⟩ := hl
        cases hx : a.tmps[d]? with
        | none => simp
        | some x =>
          have : x = .pointer (some ad) := by rw [← had]; simp [Array.getD_eq_getD_getElem?, hx]
          subst this; simp
      | _ =>
        rw [hn] at hl
        have hl : VR G _ (a.tmps.getD d undef) := hl
        cases hx : a.tmps[d]? with
        | none => simp
        | some x =>
          have e : a.tmps.getD d undef = x := by simp [Array.getD_eq_getD_getElem?, hx]
          rw [e] at hl
          cases hl <;> simp
end ops
end Go.Ag
