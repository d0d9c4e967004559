/- Regions that draw their order. -/
import Derived.Test.YtbfmdojdemckbaaGreatAg5
/- Regions that draw their order, first part: the value of a cell after some of the operations; what comes before what. -/
namespace Go.Ag

section mix
variable {α : Type}
open Classical in
/-- a cell's value after the operations of a set, of the first n: that behind the last of them that changed it in the text's run -/
noncomputable def mix (X : Nat → α) (D : Nat → Prop) : Nat → α
  | 0 => X 0
  | k + 1 => if D k ∧ X (k + 1) ≠ X k then X (k + 1) else mix X D k

theorem mix_above {X : Nat → α} {D : Nat → Prop} {j : Nat} : ∀ {n : Nat}, j ≤ n → (∀ k, j ≤ k → k < n → D k → X (k + 1) = X k) → mix X D n = mix X D j
  | 0, h, _ => by have : j = 0 := by omega
                  subst this; rfl
  | n + 1, h, hk => by
    by_cases e : j = n + 1
    · rw [e]
    · rw [mix, if_neg (fun x => x.2 (hk n (by omega) (by omega) x.1))]
      exact mix_above (by omega) fun k h1 h2 => hk k h1 (by omega)

theorem mix_below {X : Nat → α} {D : Nat → Prop} : ∀ {j : Nat}, (∀ i, i < j → X (i + 1) ≠ X i → D i) → mix X D j = X j
  | 0, _ => rfl
  | j + 1, h => by
    rw [mix]
    split
    · rfl
    · rename_i hn
      rw [mix_below fun i hi => h i (by omega)]
      by_cases e : X (j + 1) = X j
      · exact e.symm
      · exact absurd ⟨h j (by omega) e, e⟩ hn

theorem mix_at {X : Nat → α} {D : Nat → Prop} {j n : Nat} (hj : j ≤ n) (hb : ∀ i, i < j → X (i + 1) ≠ X i → D i) (ha : ∀ k, j ≤ k → k < n → D k → X (k + 1) = X k) : mix X D n = X j :=
  (mix_above hj ha).trans (mix_below hb)

theorem mix_congr {X : Nat → α} {D D' : Nat → Prop} : ∀ {n : Nat}, (∀ k, k < n → X (k + 1) ≠ X k → (D k ↔ D' k)) → mix X D n = mix X D' n
  | 0, _ => rfl
  | n + 1, h => by
    rw [mix, mix, mix_congr fun k hk => h k (by omega)]
    by_cases e : X (n + 1) = X n
    · simp [e]
    · have := h n (by omega) e
      by_cases d : D n
      · rw [if_pos ⟨d, e⟩, if_pos ⟨this.1 d, e⟩]
      · rw [if_neg fun x => d x.1, if_neg fun x => d (this.2 x.1)]

/-- one more operation, which did not change the cell -/
theorem mix_same {X : Nat → α} {D : Nat → Prop} {j n : Nat} (h : X (j + 1) = X j) : mix X (fun k => D k ∨ k = j) n = mix X D n :=
  mix_congr fun _k _ hk => ⟨fun x => x.elim id fun e => absurd (e ▸ h) hk, .inl⟩

/-- one more operation: behind it -/
theorem mix_next {X : Nat → α} {D : Nat → Prop} {j n : Nat} (hj : j < n) (hb : ∀ i, i < j → X (i + 1) ≠ X i → D i) (ha : ∀ k, j < k → k < n → D k → X (k + 1) = X k) :
    mix X (fun k => D k ∨ k = j) n = X (j + 1) :=
  mix_at (j := j + 1) (by omega) (fun i hi hne => by
    by_cases e : i = j
    · exact .inr e
    · exact .inl (hb i (by omega) hne)) fun k h1 h2 hd => ha k (by omega) h2 (hd.resolve_right (by omega))

theorem mix_all {X : Nat → α} {D : Nat → Prop} {n : Nat} (h : ∀ k, k < n → D k) : mix X D n = X n := mix_below fun i hi _ => h i hi

theorem mix_none {X : Nat → α} {D : Nat → Prop} {n : Nat} (h : ∀ k, k < n → ¬ D k) : mix X D n = X 0 :=
  (mix_above (Nat.zero_le n) fun k _ hk hd => absurd hd (h k hk))
end mix

/-- what an operation has to come behind -/
inductive Dep (ops : Array Oper) : Nat → Nat → Prop
  | one {j : Nat} {o : Oper} {e : Edge} : ops[j]? = some o → e ∈ o.after → Region.binds .any e = true → Dep ops e.on j
  | more {i j : Nat} {o : Oper} {e : Edge} : ops[j]? = some o → e ∈ o.after → Region.binds .any e = true → Dep ops i e.on → Dep ops i j

theorem Dep.closed {ops : Array Oper} {D : Nat → Prop} (hD : ∀ j o, D j → ops[j]? = some o → ∀ e ∈ o.after, Region.binds .any e = true → D e.on) {i j : Nat} (h : Dep ops i j) : D j → D i := by
  induction h with
  | one ho he hb => exact fun hd => hD _ _ hd ho _ he hb
  | more ho he hb _ ih => exact fun hd => ih (hD _ _ hd ho _ he hb)

theorem Dep.ready {ops : Array Oper} {D : Nat → Prop} (hD : ∀ j o, D j → ops[j]? = some o → ∀ e ∈ o.after, Region.binds .any e = true → D e.on) {i j : Nat}
    (hj : ∀ o, ops[j]? = some o → ∀ e ∈ o.after, Region.binds .any e = true → D e.on) (h : Dep ops i j) : D i := by
  cases h with
  | one ho he hb => exact hj _ ho _ he hb
  | more ho he hb hd => exact hd.closed hD (hj _ ho _ he hb)

theorem testBit_or_pow {s m i k : Nat} (h : (s ||| 2 ^ k ||| m).testBit i = true) : s.testBit i = true ∨ i = k ∨ m.testBit i = true := by
  simp only [Nat.testBit_or, Bool.or_eq_true, Nat.testBit_two_pow, decide_eq_true_eq] at h
  rcases h with (h | h) | h
  · exact .inl h
  · exact .inr (.inl h.symm)
  · exact .inr (.inr h)

theorem before_dep {ops : Array Oper} {i j b : Nat} (hb : (Region.before ops)[j]? = some b) (hi : b.testBit i = true) : Dep ops i j := by
  have inner : ∀ (acc : Array Nat) (j : Nat) (o : Oper), ops[j]? = some o → (∀ k b, acc[k]? = some b → ∀ i, b.testBit i = true → Dep ops i k) →
      ∀ (l : List Edge) (s : Nat), (∀ e ∈ l, e ∈ o.after) → (∀ i, s.testBit i = true → Dep ops i j) →
      ∀ i, (l.foldl (fun s e => if Region.binds .any e then s ||| 2 ^ e.on ||| acc.getD e.on 0 else s) s).testBit i = true → Dep ops i j := by
    intro acc j o ho hacc l
    induction l with
    | nil => intro s _ hs i hi; exact hs i hi
    | cons e l ih =>
      intro s hl hs i hi
      refine ih _ (fun e he => hl e (by simp [he])) ?_ i hi
      intro i hi
      simp only at hi
      split at hi
      · rename_i hbe
        rcases testBit_or_pow hi with h | h | h
        · exact hs i h
        · subst h; exact .one ho (hl e (by simp)) hbe
        · refine .more ho (hl e (by simp)) hbe ?_
          cases ha : acc[e.on]? with
          | none => simp [Array.getD_eq_getD_getElem?, ha] at h
          | some b => simp [Array.getD_eq_getD_getElem?, ha] at h; exact hacc _ b ha i h
      · exact hs i hi
  have outer : ∀ (l : List Oper) (acc : Array Nat), (∀ k o, l[k]? = some o → ops[acc.size + k]? = some o) → (∀ k b, acc[k]? = some b → ∀ i, b.testBit i = true → Dep ops i k) →
      ∀ k b, (l.foldl (fun acc o => acc.push (o.after.foldl (fun s e => if Region.binds .any e then s ||| 2 ^ e.on ||| acc.getD e.on 0 else s) 0)) acc)[k]? = some b →
        ∀ i, b.testBit i = true → Dep ops i k := by
    intro l
    induction l with
    | nil => intro acc _ hacc; exact hacc
    | cons o l ih =>
      intro acc hl hacc
      refine ih _ (fun k o' hk => ?_) ?_
      · have := hl (k + 1) o' (by simpa using hk)
        rw [Array.size_push]
        rw [show acc.size + 1 + k = acc.size + (k + 1) by omega]
        exact this
      · intro k b hk i hi
        rw [Array.getElem?_push] at hk
        split at hk
        · rename_i hks
          subst hks
          injection hk with hk
          subst hk
          rw [← Array.foldl_toList] at hi
          exact inner acc acc.size o (by simpa using hl 0 o (by simp)) hacc o.after.toList 0 (fun e he => by simpa using he) (fun i hi => by simp at hi) i hi
        · exact hacc k b hk i hi
  unfold Region.before at hb
  rw [← Array.foldl_toList] at hb
  exact outer ops.toList #[] (fun k o hk => by simpa using hk) (fun k b hk => by simp at hk) j b hb i hi
end Go.Ag
/- What an operation looks at in its frame. -/
namespace Go.Ag

section env
variable {e e2 : Env}

theorem evc_congr {x : Operand} (h : ev e x = ev e2 x) : evc e x = evc e2 x := by simp [evc, h]

theorem evcs_congr : ∀ {l : List Operand}, (∀ x ∈ l, ev e x = ev e2 x) → evcs e l = evcs e2 l
  | [], _ => rfl
  | x :: l, h => by
    simp only [evcs]
    rw [evc_congr (h x (by simp)), evcs_congr fun y hy => h y (by simp [hy])]

theorem fillA_congr (place : Nat → Option (Nat × Nat)) : ∀ {l : List (Nat × Operand)} (cs : List AVal), (∀ p ∈ l, ev e p.2 = ev e2 p.2) → fillA place e cs l = fillA place e2 cs l
  | [], _, _ => rfl
  | (i, x) :: l, cs, h => by
    simp only [fillA]
    rw [evc_congr (h (i, x) (by simp))]
    have ih := fun cs => fillA_congr place cs fun p hp => h p (List.mem_cons_of_mem _ hp)
    simp only [ih]

theorem natOr_congr {x : Option Operand} {d : Nat} (h : ∀ y, x = some y → ev e y = ev e2 y) : natOr e x d = natOr e2 x d := by
  cases x with
  | none => rfl
  | some y => simp [natOr, h y rfl]

theorem buildA_congr {P : Program} {t : TypeId} {parts : List (Nat × Operand)} (h : ∀ p ∈ parts, ev e p.2 = ev e2 p.2) : buildA P t parts e = buildA P t parts e2 := by
  simp only [buildA, fillA_congr _ _ h]

theorem buildSliceA_congr {P : Program} {t : TypeId} {n : Nat} {parts : List (Nat × Operand)} {mu : Bool} {s : St} (h : ∀ p ∈ parts, ev e p.2 = ev e2 p.2) :
    buildSliceA P t n parts mu e s = buildSliceA P t n parts mu e2 s := by
  simp only [buildSliceA, fillA_congr _ _ h]

theorem sliceA_congr {P : Program} {mk : Mask} {t : TypeId} {x : AVal} {lo hi mx : Option Operand} {s : St} (h1 : ∀ y, lo = some y → ev e y = ev e2 y) (h2 : ∀ y, hi = some y → ev e y = ev e2 y)
    (h3 : ∀ y, mx = some y → ev e y = ev e2 y) : sliceA P mk t x lo hi mx e s = sliceA P mk t x lo hi mx e2 s := by
  simp only [sliceA, natOr_congr h1, natOr_congr h2, natOr_congr h3]

/-- an operation hangs on the operands' values -/
theorem aop_env {P : Program} {mk : Mask} {ch : Nat → Nat} {kmax : Nat → Nat} {hint : Tmp → Nat} {dst : Option Tmp} {op : Op} {n n2 : Nat} {loc : Loc} {s : St} (h : ∀ x ∈ op.operands, ev e x = ev e2 x) :
    aop P mk ch kmax hint dst op ⟨e, n, loc⟩ s = aop P mk ch kmax hint dst op ⟨e2, n2, loc⟩ s := by
  cases op <;> simp only [Op.operands] at h <;> simp only [aop, opAlloc, opBox, opLoad, opStore, opBin, opUpdate, opLookup, opMakeSlice, opIndexAddr, opIndex, opMapEntry, opEntryStore, opBuiltin, op1, op1c]
  case build t ps => rw [buildA_congr fun p hp => h p.2 (by simpa using ⟨p.1, Array.mem_toList_iff.1 hp⟩)]
  case buildSlice t k ps => rw [buildSliceA_congr fun p hp => h p.2 (by simpa using ⟨p.1, Array.mem_toList_iff.1 hp⟩)]
  case makeFunc fn a b => simp only [makeFuncA, evcs_congr (l := a.toList) fun x hx => h x (by simp_all), evcs_congr (l := b.toList) fun x hx => h x (by simp_all)]
  case makeMap t r =>
    cases r with
    | none => simp [makeMapA]
    | some x => simp [makeMapA, h x (by simp)]
  case slice t x lo hi mx =>
    rw [evc_congr (h x (by simp))]
    simp only [sliceA_congr (lo := lo) (hi := hi) (mx := mx) (fun y hy => h y (by simp [hy])) (fun y hy => h y (by simp [hy])) (fun y hy => h y (by simp [hy]))]
  case call c =>
    cases hc : c.callee with
    | builtin b => simp only [evcs_congr (l := c.args.toList) fun x hx => h x (by simp [Call.operands, hc]; simpa using hx)]
    | value f => rfl
    | invoke a b => rfl
  case pick c a b => simp only [pickA, h c (by simp), h a (by simp), h b (by simp)]
  all_goals first
    | rfl
    | (simp only [evc]; simp_all; done)
    | (simp_all; done)

theorem callee_env {c : Call} (h : ∀ x ∈ c.operands, ev e x = ev e2 x) : callee e c = callee e2 c := by
  unfold callee
  cases hc : c.callee with
  | builtin b => rfl
  | invoke a b => rfl
  | value f => simp only [h f (by simp [Call.operands, hc]), evcs_congr (l := c.args.toList) fun x hx => h x (by simp [Call.operands, hc]; exact .inr (by simpa using hx))]

theorem isYld_env {c : Call} (h : ∀ x ∈ c.operands, ev e x = ev e2 x) : isYld e c = isYld e2 c := by
  unfold isYld
  cases hc : c.callee with
  | builtin b => rfl
  | invoke a b => rfl
  | value f => simp only [h f (by simp [Call.operands, hc])]

theorem yieldee_env {c : Call} (h : ∀ x ∈ c.operands, ev e x = ev e2 x) : yieldee e c = yieldee e2 c := by
  unfold yieldee
  cases hc : c.callee with
  | builtin b => rfl
  | invoke a b => rfl
  | value f => simp only [h f (by simp [Call.operands, hc]), evcs_congr (l := c.args.toList) fun x hx => h x (by simp [Call.operands, hc]; exact .inr (by simpa using hx))]

theorem footOf_env {hint : Tmp → Nat} {dst : Option Tmp} {op : Op} (h : ∀ x ∈ op.operands, ev e x = ev e2 x) : footOf hint dst e op = footOf hint dst e2 op := by
  unfold footOf
  split <;> simp only [Op.operands] at h
  all_goals first
    | rfl
    | (simp only [footAddr, footRef]; simp_all; done)
    | skip
  · rw [h _ (by simp)]
  · split
    · rename_i x hx
      rw [h x (by simp [Call.operands]; exact Array.mem_of_getElem? hx)]
    · rfl

theorem operS_env {Q : Prog} {r : Fns} {f : FuncId} {o : Oper} {mk : Mask} {n n2 : Nat} {loc : Loc} {s : St} (h : ∀ x ∈ o.op.operands, ev e x = ev e2 x) :
    operS Q r f o mk ⟨e, n, loc⟩ s = operS Q r f o mk ⟨e2, n2, loc⟩ s := by
  unfold operS
  split
  · rename_i c hc
    rw [hc] at h
    cases hb : c.callee with
    | builtin b =>
      have := aop_env (P := Q.P) (mk := mk) (ch := Q.ch) (kmax := Q.kmax) (hint := Q.hint f) (dst := o.dst) (op := .call c) (n := n) (n2 := n2) (loc := loc) (s := s) h
      simpa only [aop] using this
    | value g => simp only [callOp, callee_env h, yieldOp, yieldee_env h, isYld_env h]
    | invoke a b => simp only [callOp, callee_env h, yieldOp, yieldee_env h, isYld_env h]
  · exact aop_env h
end env
end Go.Ag
/- An operation's footprint: it looks at nothing else, and changes nothing else. -/
namespace Go.Ag

theorem nblt (a b : Nat) : Nat.blt a b = decide (a < b) := by
  show Nat.ble (a + 1) b = _
  rw [nble]; rfl

/-- two rows of boxes have the same at a place -/
def LocAt (l l2 : Loc) (t : Nat) : Prop := l.gen t = l2.gen t ∧ ∀ g, l.get t g = l2.get t g

theorem LocAt.refl (l : Loc) (t : Nat) : LocAt l l t := ⟨rfl, fun _ => rfl⟩
theorem LocAt.symm {l l2 : Loc} {t : Nat} (h : LocAt l l2 t) : LocAt l2 l t := ⟨h.1.symm, fun g => (h.2 g).symm⟩
theorem LocAt.trans {l l2 l3 : Loc} {t : Nat} (h : LocAt l l2 t) (h' : LocAt l2 l3 t) : LocAt l l3 t := ⟨h.1.trans h'.1, fun g => (h.2 g).trans (h'.2 g)⟩

theorem LocAt.set_same {l l2 : Loc} (t g : Nat) (cs : List AVal) : LocAt (l.set t g cs) (l2.set t g cs) t := by
  constructor
  · rw [Loc.gen_set, Loc.gen_set, if_pos rfl, if_pos rfl]
  · intro k; rw [Loc.get_set, Loc.get_set, if_pos rfl, if_pos rfl]

theorem LocAt.set_other {l : Loc} {t u : Nat} (h : u ≠ t) (g : Nat) (cs : List AVal) : LocAt (l.set t g cs) l u := by
  constructor
  · rw [Loc.gen_set, if_neg h]
  · intro k; rw [Loc.get_set, if_neg h]

/-- all but a footprint is hidden (of the names below c) -/
def footMask (c : Nat) (F : Foot) (m : Mask) : Mask :=
  match F with
  | .all => m
  | .obj n => (0, n) :: (n + 1, c) :: m
  | _ => (0, c) :: m

theorem footMask_hidden {c : Nat} {F : Foot} {m : Mask} {k : Nat} (h : hidden (footMask c F m) k = false) : hidden m k = false ∧ (F = .all ∨ F = .obj k ∨ c ≤ k) := by
  unfold footMask at h
  split at h
  · exact ⟨h, .inl rfl⟩
  · rename_i n
    simp only [hidden, Bool.or_eq_false_iff, Bool.and_eq_false_iff] at h
    obtain ⟨h1, h2, h3⟩ := h
    refine ⟨h3, .inr ?_⟩
    simp only [nble, nblt, decide_eq_false_iff_not] at h1 h2
    by_cases e : n = k
    · exact .inl (by rw [e])
    · exact .inr (by omega)
  · simp only [hidden, Bool.or_eq_false_iff, Bool.and_eq_false_iff] at h
    obtain ⟨h1, h3⟩ := h
    simp only [nble, nblt, decide_eq_false_iff_not] at h1
    exact ⟨h3, .inr (.inr (by omega))⟩

theorem footMask_more {c : Nat} {F : Foot} {m : Mask} {k : Nat} (h : hidden m k = true) : hidden (footMask c F m) k = true := by
  cases e : hidden (footMask c F m) k with
  | true => rfl
  | false => rw [(footMask_hidden e).1] at h; cases h

theorem footMask_obj {c n : Nat} {m : Mask} {s : St} {o : AObj} (h : s.get m n = some o) : s.get (footMask c (.obj n) m) n = some o := by
  obtain ⟨h1, h2⟩ := get_vis h
  have : hidden (footMask c (.obj n) m) n = false := by
    simp only [footMask, hidden, h1, Bool.or_false, Bool.or_eq_false_iff, Bool.and_eq_false_iff, nble, nblt, decide_eq_false_iff_not]
    omega
  simp [St.get, this, h2]

/-- what an operation does, seen from its footprint -/
def FootOk (c : Nat) (F : Foot) (store : Bool) (x : Mask → Loc → Option (AVal × Loc × St)) : Prop :=
  ∀ m loc v loc' s', x m loc = some (v, loc', s') → ∀ loc2, (∀ t, F = .loc t → LocAt loc loc2 t) →
    ∃ loc2', x (footMask c F m) loc2 = some (v, loc2', s') ∧ (∀ t, F = .loc t → LocAt loc' loc2' t) ∧ (∀ t, F ≠ .loc t → LocAt loc' loc t ∧ LocAt loc2' loc2 t) ∧ (store = false → loc' = loc)

theorem FootOk.plain {c : Nat} {F : Foot} {st : Bool} {g : Mask → Option (AVal × St)} (hF : ∀ t, F ≠ .loc t) (hg : ∀ m r, g m = some r → g (footMask c F m) = some r) : FootOk c F st (fun m l => retVS (g m) l) := by
  intro m loc v loc' s' h loc2 _
  simp only [retVS, Option.bind_eq_some_iff] at h
  obtain ⟨r, h1, h⟩ := h
  simp only [Option.some.injEq, Prod.mk.injEq] at h
  obtain ⟨rfl, rfl, rfl⟩ := h
  exact ⟨loc2, by simp [retVS, hg m r h1], fun t ht => absurd ht (hF t), fun t _ => ⟨.refl _ _, .refl _ _⟩, fun _ => rfl⟩

theorem FootOk.value {c : Nat} {F : Foot} {st : Bool} {g : Mask → Option AVal} {s : St} (hF : ∀ t, F ≠ .loc t) (hg : ∀ m r, g m = some r → g (footMask c F m) = some r) : FootOk c F st (fun m l => retV (g m) l s) := by
  intro m loc v loc' s' h loc2 _
  obtain ⟨h1, rfl, rfl⟩ := retV_some h
  exact ⟨loc2, by simp [retV, hg m v h1], fun t ht => absurd ht (hF t), fun t _ => ⟨.refl _ _, .refl _ _⟩, fun _ => rfl⟩

theorem FootOk.none {c : Nat} {F : Foot} {st : Bool} : FootOk c F st (fun _ _ => .none) := by intro m loc v loc' s' h; cases h

theorem FootOk.bind {α : Type} {c : Nat} {F : Foot} {st : Bool} (y : Option α) {k : α → Mask → Loc → Option (AVal × Loc × St)} (hk : ∀ a, y = some a → FootOk c F st (k a)) : FootOk c F st (fun m l => y.bind fun a => k a m l) := by
  cases y with
  | none => intro m loc v loc' s' h; cases h
  | some a => exact hk a rfl

/-- it only asks for a box's generation -/
theorem FootOk.gen {c : Nat} {F : Foot} {st : Bool} {g : Loc → Option AVal} {s : St} (hg : ∀ l l2 r, (∀ t, F = .loc t → LocAt l l2 t) → g l = some r → g l2 = some r) : FootOk c F st (fun _ l => retV (g l) l s) := by
  intro m loc v loc' s' h loc2 h2
  obtain ⟨h1, rfl, rfl⟩ := retV_some h
  exact ⟨loc2, by simp [retV, hg loc' loc2 v h2 h1], fun t ht => h2 t ht, fun t _ => ⟨.refl _ _, .refl _ _⟩, fun _ => rfl⟩

theorem FootOk.box {c : Nat} {st : Bool} {hint : Tmp → Nat} {dst : Option Tmp} {cs : List AVal} {s : St} (hst : st = true) : FootOk c (footBox hint dst) st (fun _ l => boxA (hintOf hint dst) dst cs l s) := by
  intro m loc v loc' s' h loc2 h2
  unfold boxA at h ⊢
  cases dst with
  | none =>
    simp only [hintOf] at h ⊢
    simp only [show Nat.beq 0 1 = false from rfl, cond_false, Option.some.injEq, Prod.mk.injEq] at h ⊢
    obtain ⟨rfl, rfl, rfl⟩ := h
    exact ⟨loc2, by simp, fun t ht => by simp [footBox] at ht, fun t _ => ⟨.refl _ _, .refl _ _⟩, fun _ => rfl⟩
  | some t =>
    simp only [hintOf, footBox] at h h2 ⊢
    cases e : Nat.beq (hint t) 1 with
    | false =>
      simp only [e, cond_false, Option.some.injEq, Prod.mk.injEq] at h h2 ⊢
      obtain ⟨rfl, rfl, rfl⟩ := h
      exact ⟨loc2, ⟨rfl, rfl, rfl⟩, fun t ht => (by cases ht), fun t _ => ⟨.refl _ _, .refl _ _⟩, fun _ => rfl⟩
    | true =>
      simp only [e, cond_true, Option.bind_some, Option.some.injEq, Prod.mk.injEq] at h h2 ⊢
      obtain ⟨rfl, rfl, rfl⟩ := h
      have h2 := h2 t rfl
      refine ⟨loc2.set t (loc.gen t + 1) cs, by simp [h2.1], ?_, ?_, by simp [hst]⟩
      · intro u hu; injection hu with hu; subst hu; exact .set_same _ _ _
      · intro u hu
        have hu : u ≠ t := fun e => hu (by rw [e])
        exact ⟨.set_other hu _ _, .set_other hu _ _⟩
end Go.Ag
/- Each operation keeps to its footprint. -/
namespace Go.Ag

section foots
variable {P : Program} {ch : Nat → Nat} {kmax : Nat → Nat} {hint : Tmp → Nat} {dst : Option Tmp} {e : Env} {n c : Nat} {s : St}

theorem foot_load (t : TypeId) (a : Operand) : FootOk c (footAddr e a) false (fun m l => opLoad P m t a ⟨e, n, l⟩ s) := by
  unfold opLoad footAddr
  refine FootOk.bind (ev e a) fun u hu => ?_
  simp only [hu]
  cases u <;> try (exact FootOk.none)
  case ptr k off =>
    refine FootOk.value (g := fun m => loadA P m t (.ptr k off) [] s) (by simp) fun m r hr => ?_
    simp only [loadA, Option.bind_eq_some_iff] at hr ⊢
    obtain ⟨ob, hob, hr⟩ := hr
    exact ⟨ob, footMask_obj hob, hr⟩
  case lref k g off =>
    refine FootOk.gen (g := fun l => loadA P [] t (.lref k g off) l s) fun l l2 r hl hr => ?_
    simp only [loadA] at hr ⊢
    rw [← (hl k rfl).2]; exact hr
  case ro cs => exact FootOk.value (g := fun m => loadA P m t (.ro cs) [] s) (by simp) fun m r hr => hr

theorem foot_store (t : TypeId) (a x : Operand) : FootOk c (footAddr e a) true (fun m l => opStore P m t a x ⟨e, n, l⟩ s) := by
  unfold opStore footAddr
  refine FootOk.bind (ev e a) fun u hu => FootOk.bind (evc e x) fun v _ => ?_
  simp only [hu, storeA]
  cases hs : sizeA P t with
  | none => exact FootOk.none
  | some k =>
    simp only [Option.bind_some]
    cases hc : Nat.beq v.cells.length k && Nat.blt 0 k with
    | false => exact FootOk.none
    | true =>
      simp only [cond_true]
      cases u <;> try (exact FootOk.none)
      case ptr j off =>
        intro m loc v' loc' s' h loc2 _
        simp only [Option.bind_eq_some_iff] at h ⊢
        obtain ⟨r, ⟨ob, hob, h1⟩, h2⟩ := h
        cases ob <;> simp only [Option.bind_eq_some_iff] at h1 <;> try (cases h1; done)
        rename_i cs
        obtain ⟨cs', hcs, h1⟩ := h1
        injection h1 with h1; subst h1
        simp only [Option.some.injEq, Prod.mk.injEq] at h2
        obtain ⟨rfl, rfl, rfl⟩ := h2
        exact ⟨loc2, ⟨(loc2, _), ⟨_, footMask_obj hob, by simp only [hcs, Option.bind_some]; rfl⟩, rfl⟩, fun t ht => (by cases ht), fun t _ => ⟨.refl _ _, .refl _ _⟩, fun _ => rfl⟩
      case lref j g off =>
        intro m loc v' loc' s' h loc2 hl
        simp only [Option.bind_eq_some_iff] at h ⊢
        obtain ⟨r, ⟨cs, hcs, cs', hw, h1⟩, h2⟩ := h
        injection h1 with h1; subst h1
        simp only [Option.some.injEq, Prod.mk.injEq] at h2
        obtain ⟨rfl, rfl, rfl⟩ := h2
        refine ⟨loc2.set j g cs', ⟨(_, s), ⟨cs, by rw [← (hl j rfl).2]; exact hcs, cs', hw, rfl⟩, rfl⟩, ?_, ?_, by simp⟩
        · intro u hu; injection hu with hu; subst hu; exact .set_same _ _ _
        · intro u hu
          have hu : u ≠ j := fun e => hu (by rw [e])
          exact ⟨.set_other hu _ _, .set_other hu _ _⟩

theorem foot_nilCheck (x : Operand) : FootOk c (footRef e x) false (fun _ l => op1 x (nilCheckA l) ⟨e, n, l⟩ s) := by
  unfold op1 footRef
  refine FootOk.bind (ev e x) fun u hu => ?_
  simp only [hu]
  refine FootOk.gen (g := fun l => nilCheckA l u) fun l l2 r hl hr => ?_
  cases u
  case lref =>
    simp only [nilCheckA] at hr ⊢
    rw [← (hl _ rfl).1]; exact hr
  case func fn _ _ => cases fn <;> exact hr
  all_goals exact hr

theorem foot_fieldAddr (t : TypeId) (x : Operand) (f : Nat) : FootOk c (footRef e x) false (fun _ l => op1 x (fun x => fieldAddrA P l t x f) ⟨e, n, l⟩ s) := by
  unfold op1 footRef
  refine FootOk.bind (ev e x) fun u hu => ?_
  simp only [hu]
  refine FootOk.gen (g := fun l => fieldAddrA P l t u f) fun l l2 r hl hr => ?_
  cases u <;> try exact hr
  simp only [fieldAddrA] at hr ⊢
  rw [← (hl _ rfl).1]; exact hr

theorem foot_indexAddr (t : TypeId) (x i : Operand) : FootOk c (footRef e x) false (fun _ l => opIndexAddr P t x i ⟨e, n, l⟩ s) := by
  unfold opIndexAddr footRef
  refine FootOk.bind (ev e x) fun u hu => ?_
  simp only [hu]
  refine FootOk.bind (ev e i) fun j _ => ?_
  refine FootOk.gen (g := fun l => indexAddrA P l t u j) fun l l2 r hl hr => ?_
  cases u <;> try exact hr
  simp only [indexAddrA] at hr ⊢
  rw [← (hl _ rfl).1]; exact hr

theorem sliceA_mask {m m2 : Mask} {t : TypeId} {x : AVal} {lo hi mx : Option Operand} {r : AVal} (hx : ∀ k off, x = .ptr k off → ∀ o, s.get m k = some o → s.get m2 k = some o) (h : sliceA P m t x lo hi mx e s = some r) :
    sliceA P m2 t x lo hi mx e s = some r := by
  simp only [sliceA, Option.bind_eq_some_iff] at h ⊢
  obtain ⟨d, hd, h⟩ := h
  refine ⟨d, hd, ?_⟩
  split at h
  · exact h
  · exact h
  · simp only [Option.bind_eq_some_iff] at h ⊢
    obtain ⟨k, hk, h⟩ := h
    refine ⟨k, hk, ?_⟩
    split at h
    · simp only [Option.bind_eq_some_iff] at h ⊢
      obtain ⟨p, hp, q, hq, ob, hob, h⟩ := h
      exact ⟨p, hp, q, hq, ob, hx _ _ rfl _ hob, h⟩
    · cases h
  · cases h

theorem foot_slice (t : TypeId) (x : Operand) (lo hi mx : Option Operand) : FootOk c (footOf hint dst e (.slice t x lo hi mx)) false (fun m l => op1c x (fun x => sliceA P m t x lo hi mx e s) ⟨e, n, l⟩ s) := by
  unfold op1c
  refine FootOk.bind (evc e x) fun u hu => ?_
  have hu : ev e x = some u := by
    simp only [evc, Option.bind_eq_some_iff] at hu
    obtain ⟨y, hy, hu⟩ := hu
    rw [hy, (bif_none hu).2]
  simp only [footOf, hu]
  refine FootOk.value (g := fun m => sliceA P m t u lo hi mx e s) ?_ fun m r hr => ?_
  · intro t; split <;> simp
  · refine sliceA_mask (fun k off he o ho => ?_) hr
    subst he
    exact footMask_obj ho

theorem FootOk.state {F : Foot} {st : Bool} {g : Mask → Option St} (hF : ∀ t, F ≠ .loc t) (hg : ∀ m r, g m = some r → g (footMask c F m) = some r) : FootOk c F st (fun m l => retS (g m) l) := by
  intro m loc v loc' s' h loc2 _
  simp only [retS, Option.bind_eq_some_iff] at h
  obtain ⟨r, h1, h⟩ := h
  simp only [Option.some.injEq, Prod.mk.injEq] at h
  obtain ⟨rfl, rfl, rfl⟩ := h
  exact ⟨loc2, by simp [retS, hg m r h1], fun t ht => absurd ht (hF t), fun t _ => ⟨.refl _ _, .refl _ _⟩, fun _ => rfl⟩

theorem all_mask {α : Type} {g : Mask → Option α} (m : Mask) (r : α) (h : g m = some r) : g (footMask c .all m) = some r := h

theorem foot_builtin (cl : Call) : FootOk c (footOf hint dst e (.call cl)) false (fun m l => opBuiltin P m hint dst cl ⟨e, n, l⟩ s) := by
  obtain ⟨callee, args, ats⟩ := cl
  unfold opBuiltin
  cases callee with
  | value f => exact FootOk.none
  | invoke a b => exact FootOk.none
  | builtin b =>
    refine FootOk.bind (evcs e args.toList) fun vs hvs => ?_
    cases b
    case min => exact FootOk.plain (g := fun m => builtinA P m .min _ _ vs s) (by simp [footOf]) fun m r hr => by cases vs <;> exact hr
    case max => exact FootOk.plain (g := fun m => builtinA P m .max _ _ vs s) (by simp [footOf]) fun m r hr => by cases vs <;> exact hr
    case len =>
      refine FootOk.plain (g := fun m => builtinA P m .len _ _ vs s) ?_ fun m r hr => ?_
      · intro t; simp only [footOf]; split
        · split <;> simp
        · simp
      · simp only [builtinA] at hr ⊢
        split at hr <;> try first | (cases hr; done) | (exfalso; rename_i he _; cases he; done) | (exfalso; rename_i he; cases he; done)
        simp only [Option.bind_eq_some_iff] at hr ⊢
        obtain ⟨v, hv, hr⟩ := hr
        refine ⟨v, ?_, hr⟩
        obtain ⟨args⟩ := args
        simp only at hvs
        cases args with
        | nil => simp [evcs] at hvs
        | cons a0 l =>
          simp only [evcs, Option.bind_eq_some_iff] at hvs
          obtain ⟨u, hu, l', _, hvs⟩ := hvs
          injection hvs with hvs
          injection hvs with hv1 hv2
          subst hv1
          have hu : ev e a0 = some u := by
            simp only [evc, Option.bind_eq_some_iff] at hu
            obtain ⟨y, hy, hu⟩ := hu
            rw [hy, (bif_none hu).2]
          simp only [lenA, footOf, List.getElem?_toArray, List.getElem?_cons_zero, hu] at hv ⊢
          generalize P.underlying _ = ud at hv ⊢
          cases ud with
          | none => exact hv
          | some d =>
            simp only [Option.bind_some] at hv ⊢
            cases u <;> cases d <;> exact hv
    all_goals exact FootOk.plain (g := fun m => builtinA P m _ _ _ vs s) (by simp [footOf]) all_mask

theorem foot_aop (op : Op) : FootOk c (footOf hint dst e op) (isStore op) (fun m l => aop P m ch kmax hint dst op ⟨e, n, l⟩ s) := by
  cases op <;> simp only [aop]
  case load t a => exact foot_load t a
  case store t a x => exact foot_store t a x
  case nilCheck x => exact foot_nilCheck x
  case fieldAddr t x f => exact foot_fieldAddr t x f
  case indexAddr t x i => exact foot_indexAddr t x i
  case slice t x lo hi mx => exact foot_slice t x lo hi mx
  case call cl => exact foot_builtin cl
  case alloc t => exact FootOk.bind (zeroA P t) fun z _ => FootOk.box (cs := z.cells) rfl
  case box t x => exact FootOk.bind (evc e x) fun z _ => FootOk.box (cs := z.cells) rfl
  case move x => exact FootOk.value (g := fun _ => ev e x) (by simp [footOf]) fun _ _ h => h
  case assign x => exact FootOk.value (g := fun _ => ev e x) (by simp [footOf]) fun _ _ h => h
  case pick a b d => exact FootOk.value (g := fun _ => pickA e a b d) (by simp [footOf]) fun _ _ h => h
  case build t ps => exact FootOk.value (g := fun _ => buildA P t ps.toList e) (by simp [footOf]) fun _ _ h => h
  case buildSlice t k ps => exact FootOk.plain (g := fun _ => buildSliceA P t k ps.toList _ e s) (by simp [footOf]) fun _ _ h => h
  case binOp o t x y yt => exact FootOk.bind (evc e x) fun u _ => FootOk.bind (evc e y) fun v _ => FootOk.value (g := fun _ => binA P o t u v) (by simp [footOf]) fun _ _ h => h
  case unOp o t x => exact FootOk.bind (evc e x) fun u _ => FootOk.value (g := fun _ => unA o u) (by simp [footOf]) fun _ _ h => h
  case convert a b x => exact FootOk.bind (evc e x) fun u _ => FootOk.value (g := fun _ => convA P a b u) (by simp [footOf]) fun _ _ h => h
  case makeFunc f a b => exact FootOk.value (g := fun _ => makeFuncA e f a b) (by simp [footOf]) fun _ _ h => h
  case makeMap t r => exact FootOk.plain (g := fun _ => makeMapA P t e r s) (by simp [footOf]) fun _ _ h => h
  case makeSlice t a b => exact FootOk.bind (ev e a) fun u _ => FootOk.bind (ev e b) fun v _ => FootOk.plain (g := fun _ => makeSliceA P t u v _ s) (by simp [footOf]) fun _ _ h => h
  case field t x f => exact FootOk.bind (evc e x) fun u _ => FootOk.value (g := fun _ => fieldA P t u f) (by simp [footOf]) fun _ _ h => h
  case index t x i => exact FootOk.bind (evc e x) fun u _ => FootOk.bind (ev e i) fun v _ => FootOk.value (g := fun _ => indexA P t u v) (by simp [footOf]) fun _ _ h => h
  case extract x i => exact FootOk.bind (ev e x) fun u _ => FootOk.value (g := fun _ => extractA i u) (by simp [footOf]) fun _ _ h => h
  case lookup t x i ok => exact FootOk.bind (evc e x) fun u _ => FootOk.bind (evc e i) fun v _ => FootOk.value (g := fun m => lookupA P m t u v ok s) (by simp [footOf]) all_mask
  case mapEntry t x i => exact FootOk.bind (evc e x) fun u _ => FootOk.bind (evc e i) fun v _ => FootOk.plain (g := fun m => mapEntryA P m t u v s) (by simp [footOf]) all_mask
  case range t x => exact FootOk.bind (evc e x) fun u _ => FootOk.plain (g := fun m => rangeA P m t u s) (by simp [footOf]) all_mask
  case next x b => exact FootOk.bind (evc e x) fun u _ => FootOk.plain (g := fun m => nextA m ch kmax u b s) (by simp [footOf]) all_mask
  case entry x => exact FootOk.bind (evc e x) fun u _ => FootOk.value (g := fun m => entryA m u s) (by simp [footOf]) all_mask
  case mapUpdate t a b d => exact FootOk.bind (evc e a) fun u _ => FootOk.bind (evc e b) fun v _ => FootOk.bind (evc e d) fun x _ => FootOk.state (g := fun m => updateA P m t u v x s) (by simp [footOf]) all_mask
  case insert t a b d => exact FootOk.bind (evc e a) fun u _ => FootOk.bind (evc e b) fun v _ => FootOk.bind (evc e d) fun x _ => FootOk.state (g := fun m => updateA P m t u v x s) (by simp [footOf]) all_mask
  case entryStore t a b d => exact FootOk.bind (evc e a) fun u _ => FootOk.bind (evc e b) fun v _ => FootOk.bind (evc e d) fun x _ => FootOk.state (g := fun m => entryStoreA m u v x s) (by simp [footOf]) all_mask
  all_goals exact FootOk.none

theorem foot_oper {Q : Prog} {r : Fns} {f : FuncId} {o : Oper} : FootOk c (footOf (Q.hint f) o.dst e o.op) (isStore o.op) (fun m l => operS Q r f o m ⟨e, n, l⟩ s) := by
  unfold operS
  cases ho : o.op <;> simp only <;> try exact foot_aop _
  rename_i cl
  cases hc : cl.callee with
  | builtin b => exact foot_builtin cl
  | value g =>
    obtain ⟨callee, args, ats⟩ := cl
    simp only at hc; subst hc
    simp only
    generalize hy : isYld e _ = y
    cases y with
    | true =>
      simp only [cond_true]
      refine FootOk.bind (Ag.yieldee e _) fun g _ => ?_
      exact FootOk.plain (g := fun m => yieldS r g.1 g.2 m s) (by simp [footOf]) all_mask
    | false =>
      simp only [cond_false]
      refine FootOk.bind (Ag.callee e _) fun g _ => ?_
      exact FootOk.plain (g := fun m => r.call g.1 g.2 m s) (by simp [footOf]) all_mask
  | invoke a b =>
    obtain ⟨callee, args, ats⟩ := cl
    simp only at hc; subst hc
    simp only
    generalize hy : isYld e _ = y
    cases y with
    | true =>
      simp only [cond_true]
      refine FootOk.bind (Ag.yieldee e _) fun g _ => ?_
      exact FootOk.plain (g := fun m => yieldS r g.1 g.2 m s) (by simp [footOf]) all_mask
    | false =>
      simp only [cond_false]
      refine FootOk.bind (Ag.callee e _) fun g _ => ?_
      exact FootOk.plain (g := fun m => r.call g.1 g.2 m s) (by simp [footOf]) all_mask
end foots
end Go.Ag
/- The run of a drawn region in the order of the text, step by step. -/
namespace Go.Ag

def Compat (bi : Nat) (r : Rec) (foot : Foot) (loud : Bool) (m : Mask) : Prop :=
  bi.testBit r.i = true ∨ (((loud || r.loud) && foot.meets r.foot) = false ∧ ∀ n, r.c0 ≤ n → n < r.c1 → hidden m n = true)

theorem maskOf_hides {bi : Nat} {mk : Mask} : ∀ {rs : List Rec} {r : Rec}, r ∈ rs → bi.testBit r.i = false → ∀ n, r.c0 ≤ n → n < r.c1 → hidden (maskOf bi rs mk) n = true
  | [], _, h, _, _, _, _ => by cases h
  | q :: rs, r, h, hb, n, h0, h1 => by
    unfold maskOf
    rcases List.mem_cons.1 h with rfl | h
    · have : Nat.beq r.c0 r.c1 = false := by
        cases e : Nat.beq r.c0 r.c1 with
        | false => rfl
        | true => have := beq_eq e; omega
      simp only [hb, this, Bool.or_self, cond_false, hidden, nble, nblt, Bool.or_eq_true, Bool.and_eq_true, decide_eq_true_eq]
      exact .inl ⟨h0, h1⟩
    · have ih := maskOf_hides (mk := mk) h hb n h0 h1
      cases bi.testBit q.i || Nat.beq q.c0 q.c1
      · simp only [cond_false, hidden, ih, Bool.or_true]
      · simpa using ih

theorem fits_compat {bi : Nat} {foot : Foot} {loud : Bool} {rs : List Rec} {mk : Mask} (h : fits bi foot loud rs = true) {r : Rec} (hr : r ∈ rs) : Compat bi r foot loud (maskOf bi rs mk) := by
  have := List.all_eq_true.1 h r hr
  cases hb : bi.testBit r.i with
  | true => exact .inl hb
  | false =>
    refine .inr ⟨?_, maskOf_hides hr hb⟩
    simp only [hb, Bool.false_or] at this
    cases e : (loud || r.loud) && foot.meets r.foot with
    | false => rfl
    | true => rw [e] at this; cases this

section trace
variable (Q : Prog) (f : FuncId) (all : Array Oper) (mk : Mask) (F : Nat → Fr) (S : Nat → St) (M : Nat → Mask) (lv : Nat → Nat) (Lo : Nat → Bool)

/-- one step of the text's run -/
def TStep (k : Nat) (o : Oper) : Prop :=
  (wantedA all (F k).env o = true ∧ ∃ v loc' s1, operS Q (lvl Q (lv k)) f o (M k) (F k) ⟨(S k).heap, (S k).next, (S k).next, (S k).ci⟩ = some (v, loc', s1) ∧ s1.ci = (S k).ci ∧
    putDst (F k) o.dst v loc' = some (F (k + 1)) ∧ S (k + 1) = (S k).least s1 ∧ Lo k = (Nat.blt s1.minw (S k).next || isStore o.op)) ∨
  (wantedA all (F k).env o = false ∧ putDst (F k) o.dst undefA (F k).loc = some (F (k + 1)) ∧ S (k + 1) = S k)

structure Trace (i : Nat) (rs : List Rec) (bs : List Nat) (l : List Oper) : Prop where
  step : ∀ k o, l[k]? = some o → TStep Q f all F S M lv Lo (i + k) o
  more : ∀ k o, l[k]? = some o → ∀ n, hidden mk n = true → hidden (M (i + k)) n = true
  old : ∀ k o, l[k]? = some o → wantedA all (F (i + k)).env o = true → ∀ r ∈ rs, Compat ((bs[k]?).getD 0) r (footOf (Q.hint f) o.dst (F (i + k)).env o.op) (Lo (i + k)) (M (i + k))
  pair : ∀ k k' o o', k' < k → l[k]? = some o → l[k']? = some o' → wantedA all (F (i + k)).env o = true → wantedA all (F (i + k')).env o' = true →
    Compat ((bs[k]?).getD 0) ⟨i + k', (S (i + k')).next, (S (i + k' + 1)).next, footOf (Q.hint f) o'.dst (F (i + k')).env o'.op, Lo (i + k')⟩ (footOf (Q.hint f) o.dst (F (i + k)).env o.op) (Lo (i + k)) (M (i + k))
end trace

theorem headD_get (bs : List Nat) : (bs[0]?).getD 0 = bs.headD 0 := by cases bs <;> rfl
theorem tail_get (bs : List Nat) (k : Nat) : bs.tail[k]? = bs[k + 1]? := by cases bs <;> simp

theorem exists_cons {α : Type} (i : Nat) (a : α) (F : Nat → α) : ∃ F' : Nat → α, F' i = a ∧ ∀ k, F' (i + 1 + k) = F (i + 1 + k) :=
  ⟨fun k => if k = i then a else F k, by simp, fun k => by simp only; rw [if_neg (by omega)]⟩

theorem Trace.cons {Q : Prog} {f : FuncId} {all : Array Oper} {mk : Mask} {F F' : Nat → Fr} {S S' : Nat → St} {M M' : Nat → Mask} {lv lv' : Nat → Nat} {Lo Lo' : Nat → Bool} {i : Nat} {rs rs' : List Rec} {bs : List Nat} {o : Oper} {l : List Oper}
    (t : Trace Q f all mk F S M lv Lo (i + 1) rs' bs.tail l) (hF : ∀ k, F' (i + 1 + k) = F (i + 1 + k)) (hS : ∀ k, S' (i + 1 + k) = S (i + 1 + k)) (hM : ∀ k, M' (i + 1 + k) = M (i + 1 + k))
    (hlv : ∀ k, lv' (i + 1 + k) = lv (i + 1 + k)) (hLo : ∀ k, Lo' (i + 1 + k) = Lo (i + 1 + k)) (hst : TStep Q f all F' S' M' lv' Lo' i o) (hmk : ∀ n, hidden mk n = true → hidden (M' i) n = true)
    (hold : wantedA all (F' i).env o = true → ∀ r ∈ rs, Compat (bs.headD 0) r (footOf (Q.hint f) o.dst (F' i).env o.op) (Lo' i) (M' i)) (hrs : ∀ r ∈ rs, r ∈ rs')
    (hr : wantedA all (F' i).env o = true → ⟨i, (S' i).next, (S' (i + 1)).next, footOf (Q.hint f) o.dst (F' i).env o.op, Lo' i⟩ ∈ rs') : Trace Q f all mk F' S' M' lv' Lo' i rs bs (o :: l) where
  step k p hk := by
    cases k with
    | zero => simp at hk; subst hk; exact hst
    | succ k =>
      have := t.step k p (by simpa using hk)
      unfold TStep at this ⊢
      rw [show i + (k + 1) = i + 1 + k by omega, show i + 1 + k + 1 = i + 1 + (k + 1) by omega, hF, hF, hS, hS, hM, hlv, hLo]
      exact this
  more k p hk n hn := by
    cases k with
    | zero => exact hmk n hn
    | succ k => rw [show i + (k + 1) = i + 1 + k by omega, hM]; exact t.more k p (by simpa using hk) n hn
  old k p hk hw r hr := by
    cases k with
    | zero => simp at hk; subst hk; rw [headD_get]; exact hold hw r hr
    | succ k =>
      rw [show i + (k + 1) = i + 1 + k by omega] at hw ⊢
      rw [hF] at hw ⊢
      rw [hM, hLo, ← tail_get]
      exact t.old k p (by simpa using hk) hw r (hrs r hr)
  pair k k' p p' hlt hk hk' hw hw' := by
    cases k with
    | zero => omega
    | succ k =>
      rw [show i + (k + 1) = i + 1 + k by omega] at hw ⊢
      rw [hF] at hw ⊢
      rw [hM, hLo, ← tail_get]
      cases k' with
      | zero =>
        simp at hk'; subst hk'
        exact t.old k p (by simpa using hk) hw _ (hr hw')
      | succ k' =>
        rw [show i + (k' + 1) = i + 1 + k' by omega] at hw' ⊢
        rw [hF] at hw' ⊢
        rw [hLo, show i + 1 + k' + 1 = i + 1 + (k' + 1) by omega, hS, hS]
        exact t.pair k k' p p' (by omega) (by simpa using hk) (by simpa using hk') hw hw'

theorem draw_trace {Q : Prog} {f : FuncId} {all : Array Oper} {mk : Mask} : ∀ {l : List Oper} {n : Nat} {bs : List Nat} {rs : List Rec} {i : Nat} {fr fr' : Fr} {s s' : St},
    (lvl Q n).draw f all bs mk rs i l fr s = some (fr', s') →
    ∃ F S M lv Lo, F i = fr ∧ S i = s ∧ F (i + l.length) = fr' ∧ S (i + l.length) = s' ∧ (∀ k o, l[k]? = some o → lv (i + k) < n) ∧ Trace Q f all mk F S M lv Lo i rs bs l
  | l, 0, bs, rs, i, fr, fr', s, s', h => by cases h
  | [], n + 1, bs, rs, i, fr, fr', s, s', h => by
    have h : some (fr, s) = some (fr', s') := h
    simp only [Option.some.injEq, Prod.mk.injEq] at h
    obtain ⟨rfl, rfl⟩ := h
    exact ⟨fun _ => fr, fun _ => s, fun _ => mk, fun _ => 0, fun _ => false, rfl, rfl, rfl, rfl, by simp, ⟨by simp, by simp, by simp, by simp⟩⟩
  | o :: l, n + 1, bs, rs, i, fr, fr', s, s', h => by
    have h : drawS Q (lvl Q n) f all bs mk rs i (o :: l) fr s = some (fr', s') := h
    simp only [drawS] at h
    cases hw : wantedA all fr.env o with
    | true =>
      simp only [hw, cond_true, Option.bind_eq_some_iff] at h
      obtain ⟨⟨v, loc', s1⟩, h1, h⟩ := h
      obtain ⟨hc, h⟩ := bif_none h
      simp only [Option.bind_eq_some_iff] at h
      obtain ⟨fr1, hf, h⟩ := h
      simp only [Bool.and_eq_true] at hc
      obtain ⟨hfit, hci⟩ := hc
      have hci := beq_eq hci
      obtain ⟨F, S, M, lv, Lo, e1, e2, e3, e4, hlv, t⟩ := draw_trace h
      obtain ⟨F', F0, F1⟩ := exists_cons i fr F
      obtain ⟨S', S0, S1⟩ := exists_cons i s S
      obtain ⟨M', M0, M1⟩ := exists_cons i (maskOf (bs.headD 0) rs mk) M
      obtain ⟨lv', lv0, lv1⟩ := exists_cons i n lv
      obtain ⟨Lo', Lo0, Lo1⟩ := exists_cons i (Nat.blt s1.minw s.next || isStore o.op) Lo
      have eF : F' (i + 1) = fr1 := (F1 0).trans e1
      have eS : S' (i + 1) = s.least s1 := (S1 0).trans e2
      refine ⟨F', S', M', lv', Lo', F0, S0, ?_, ?_, ?_, t.cons F1 S1 M1 lv1 Lo1 ?_ ?_ ?_ ?_ ?_⟩
      · rw [List.length_cons, show i + (l.length + 1) = i + 1 + l.length by omega, F1]; exact e3
      · rw [List.length_cons, show i + (l.length + 1) = i + 1 + l.length by omega, S1]; exact e4
      · intro k p hk
        cases k with
        | zero => rw [Nat.add_zero, lv0]; omega
        | succ k =>
          rw [show i + (k + 1) = i + 1 + k by omega, lv1]
          have := hlv k p (by simpa using hk)
          omega
      · refine .inl ⟨by rw [F0]; exact hw, v, loc', s1, ?_, ?_, ?_, ?_, ?_⟩
        · rw [F0, S0, M0, lv0]; exact h1
        · rw [S0]; exact hci.symm
        · rw [F0, eF]; exact hf
        · rw [S0, eS]
        · rw [S0, Lo0]
      · intro m hm; rw [M0]; exact hidden_maskOf hm
      · intro _ r hr
        rw [F0, Lo0, M0]
        exact fits_compat hfit hr
      · intro r hr; exact List.mem_cons_of_mem _ hr
      · intro _
        rw [S0, eS, F0, Lo0]
        exact List.mem_cons_self
    | false =>
      simp only [hw, cond_false, Option.bind_eq_some_iff] at h
      obtain ⟨fr1, hf, h⟩ := h
      obtain ⟨F, S, M, lv, Lo, e1, e2, e3, e4, hlv, t⟩ := draw_trace h
      obtain ⟨F', F0, F1⟩ := exists_cons i fr F
      obtain ⟨S', S0, S1⟩ := exists_cons i s S
      obtain ⟨M', M0, M1⟩ := exists_cons i mk M
      obtain ⟨lv', lv0, lv1⟩ := exists_cons i n lv
      obtain ⟨Lo', Lo0, Lo1⟩ := exists_cons i false Lo
      have eF : F' (i + 1) = fr1 := (F1 0).trans e1
      have eS : S' (i + 1) = s := (S1 0).trans e2
      refine ⟨F', S', M', lv', Lo', F0, S0, ?_, ?_, ?_, t.cons F1 S1 M1 lv1 Lo1 ?_ ?_ ?_ ?_ ?_⟩
      · rw [List.length_cons, show i + (l.length + 1) = i + 1 + l.length by omega, F1]; exact e3
      · rw [List.length_cons, show i + (l.length + 1) = i + 1 + l.length by omega, S1]; exact e4
      · intro k p hk
        cases k with
        | zero => rw [Nat.add_zero, lv0]; omega
        | succ k =>
          rw [show i + (k + 1) = i + 1 + k by omega, lv1]
          have := hlv k p (by simpa using hk)
          omega
      · exact .inr ⟨by rw [F0]; exact hw, by rw [F0, eF]; exact hf, by rw [S0, eS]⟩
      · intro m hm; rw [M0]; exact hm
      · intro h' r hr
        rw [F0, hw] at h'; cases h'
      · intro r hr; exact hr
      · intro h'; rw [F0, hw] at h'; cases h'

theorem apartAll_spec {ops : Array Oper} : ∀ {l : List Oper} {bs : List Nat} {b : Nat}, apartAll ops b l bs = true → ∀ i j x y, i < j → l[i]? = some x → l[j]? = some y → ((bs[j]?).getD 0).testBit (b + i) = true ∨ dstOk ops x y = true
  | [], _, _, _, i, j, x, y, _, hx, _ => by simp at hx
  | o :: l, bs, b, h, i, j, x, y, hlt, hx, hy => by
    simp only [apartAll, Bool.and_eq_true] at h
    obtain ⟨_, h1, h2⟩ := h
    cases j with
    | zero => omega
    | succ j =>
      rw [← tail_get]
      cases i with
      | succ i =>
        have := apartAll_spec h2 i j x y (by omega) (by simpa using hx) (by simpa using hy)
        rw [show b + 1 + i = b + (i + 1) by omega] at this
        exact this
      | zero =>
        simp at hx; subst hx
        have hin : ∀ {l : List Oper} {bs : List Nat}, apartIn ops o b l bs = true → ∀ (j : Nat) y, l[j]? = some y → ((bs[j]?).getD 0).testBit b = true ∨ dstOk ops o y = true := by
          intro l
          induction l with
          | nil => intro bs _ j y hy; simp at hy
          | cons z l ih =>
            intro bs h j y hy
            simp only [apartIn, Bool.and_eq_true, Bool.or_eq_true] at h
            cases j with
            | zero => simp at hy; subst hy; rw [headD_get]; exact h.1
            | succ j => rw [← tail_get]; exact ih h.2 j y (by simpa using hy)
        exact hin h1 j y (by simpa using hy)

theorem apartAll_back {ops : Array Oper} : ∀ {l : List Oper} {bs : List Nat} {b : Nat}, apartAll ops b l bs = true → ∀ i x, l[i]? = some x → ∀ e ∈ x.after, Region.binds .any e = true → e.on < b + i
  | [], _, _, _, i, x, hx, _, _, _ => by simp at hx
  | o :: l, bs, b, h, i, x, hx, e, he, hb => by
    simp only [apartAll, Bool.and_eq_true] at h
    obtain ⟨h0, _, h2⟩ := h
    cases i with
    | zero =>
      simp at hx; subst hx
      have := List.all_eq_true.1 h0 e (Array.mem_toList_iff.2 he)
      simp only [hb, Bool.not_true, Bool.false_or] at this
      exact blt_lt this
    | succ i =>
      have := apartAll_back h2 i x (by simpa using hx) e he hb
      omega
end Go.Ag
/- A drawn region: what its operations touch and change, and that unordered ones do not meet. -/
namespace Go.Ag

/-- a drawn region's run in the order of the text, whole -/
structure Text (Q : Prog) (f : FuncId) (all : Array Oper) (mk : Mask) (F : Nat → Fr) (S : Nat → St) (M : Nat → Mask) (lv : Nat → Nat) (Lo : Nat → Bool) : Prop where
  tr : Trace Q f all mk F S M lv Lo 0 [] (Region.before all).toList all.toList
  ap : apartAll all 0 all.toList (Region.before all).toList = true
  fresh : ∀ n, (S 0).next ≤ n → (S 0).heap.get n = none

section text
variable {Q : Prog} {f : FuncId} {all : Array Oper} {mk : Mask} {F : Nat → Fr} {S : Nat → St} {M : Nat → Mask} {lv : Nat → Nat} {Lo : Nat → Bool}

/-- the footprint of a step -/
noncomputable def Text.foot (Q : Prog) (f : FuncId) (F : Nat → Fr) (k : Nat) (o : Oper) : Foot := footOf (Q.hint f) o.dst (F k).env o.op
/-- the mask of a step, by its footprint -/
noncomputable def Text.fm (Q : Prog) (f : FuncId) (F : Nat → Fr) (S : Nat → St) (M : Nat → Mask) (k : Nat) (o : Oper) : Mask := footMask (S k).next (Text.foot Q f F k o) (M k)

theorem Text.step (t : Text Q f all mk F S M lv Lo) {k : Nat} {o : Oper} (hk : all[k]? = some o) : TStep Q f all F S M lv Lo k o := by
  have := t.tr.step k o (by simpa using hk)
  rwa [Nat.zero_add] at this

/-- a step that is done, seen from its footprint -/
theorem Text.done (t : Text Q f all mk F S M lv Lo) {k : Nat} {o : Oper} (hk : all[k]? = some o) (hw : wantedA all (F k).env o = true) :
    ∃ v loc' s1, operS Q (lvl Q (lv k)) f o (M k) (F k) ⟨(S k).heap, (S k).next, (S k).next, (S k).ci⟩ = some (v, loc', s1) ∧ s1.ci = (S k).ci ∧
      putDst (F k) o.dst v loc' = some (F (k + 1)) ∧ S (k + 1) = (S k).least s1 ∧ Lo k = (Nat.blt s1.minw (S k).next || isStore o.op) ∧
      Goes (Text.fm Q f F S M k o) ⟨(S k).heap, (S k).next, (S k).next, (S k).ci⟩ s1 := by
  rcases t.step hk with ⟨_, v, loc', s1, h1, h2, h3, h4, h5⟩ | ⟨h, _⟩
  · refine ⟨v, loc', s1, h1, h2, h3, h4, h5, ?_⟩
    obtain ⟨loc2', h6, _⟩ := foot_oper (c := (S k).next) (e := (F k).env) (n := (F k).size) (M k) (F k).loc v loc' s1 h1 (F k).loc (fun _ _ => .refl _ _)
    have hl := loc_oper (Q := Q) (lvl_loc Q (lv k)) f o (Text.fm Q f F S M k o) (F k)
    exact (hl Q.ch _ v loc2' s1 h6).1
  · rw [hw] at h; cases h

theorem Text.next_le (t : Text Q f all mk F S M lv Lo) {k : Nat} {o : Oper} (hk : all[k]? = some o) : (S k).next ≤ (S (k + 1)).next := by
  cases hw : wantedA all (F k).env o with
  | true =>
    obtain ⟨v, loc', s1, _, _, _, h4, _, g⟩ := t.done hk hw
    rw [h4]; exact g.next
  | false =>
    rcases t.step hk with ⟨h, _⟩ | ⟨_, _, h⟩
    · rw [hw] at h; cases h
    · rw [h]; exact Nat.le_refl _

theorem Text.mono (t : Text Q f all mk F S M lv Lo) {i : Nat} : ∀ {j : Nat}, i ≤ j → j ≤ all.size → (S i).next ≤ (S j).next
  | 0, h, _ => by have : i = 0 := by omega
                  subst this; exact Nat.le_refl _
  | j + 1, h, hj => by
    by_cases e : i = j + 1
    · rw [e]; exact Nat.le_refl _
    · exact Nat.le_trans (t.mono (by omega) (by omega)) (t.next_le (Array.getElem?_eq_getElem (by omega)))

/-- no names beyond -/
theorem Text.none_above (t : Text Q f all mk F S M lv Lo) : ∀ {k : Nat}, k ≤ all.size → ∀ n, (S k).next ≤ n → (S k).heap.get n = none
  | 0, _, n, h => t.fresh n h
  | k + 1, hk, n, h => by
    have ho : all[k]? = some all[k] := Array.getElem?_eq_getElem (by omega)
    have hle := t.next_le ho
    have ih := t.none_above (k := k) (by omega) n (by omega)
    cases hw : wantedA all (F k).env all[k] with
    | true =>
      obtain ⟨v, loc', s1, _, _, _, h4, _, g⟩ := t.done ho hw
      rw [h4] at h ⊢
      refine (g.frame n ?_).trans ih
      rintro (⟨_, h'⟩ | h')
      · exact h' ih
      · exact absurd h (by have := h'.2; show ¬ s1.next ≤ n; omega)
    | false =>
      rcases t.step ho with ⟨h', _⟩ | ⟨_, _, h'⟩
      · rw [hw] at h'; cases h'
      · rw [h']; exact ih

/-- what a step may touch in the heap -/
def Text.Th (Q : Prog) (f : FuncId) (all : Array Oper) (F : Nat → Fr) (S : Nat → St) (M : Nat → Mask) (k n : Nat) : Prop :=
  ∃ o, all[k]? = some o ∧ wantedA all (F k).env o = true ∧ Touch (Text.fm Q f F S M k o) (S k) (S (k + 1)) n

open Classical in
/-- the text's run over a full heap -/
noncomputable def Text.X (Q : Prog) (f : FuncId) (all : Array Oper) (F : Nat → Fr) (S : Nat → St) (M : Nat → Mask) (H : Nat → Option AObj) (n : Nat) : Nat → Option AObj
  | 0 => H n
  | k + 1 => if Text.Th Q f all F S M k n then (S (k + 1)).heap.get n else Text.X Q f all F S M H n k

theorem Text.X_change {H : Nat → Option AObj} {n k : Nat} (h : Text.X Q f all F S M H n (k + 1) ≠ Text.X Q f all F S M H n k) : Text.Th Q f all F S M k n := by
  by_cases e : Text.Th Q f all F S M k n
  · exact e
  · exact absurd (by rw [Text.X, if_neg e]) h

/-- the full heap shows what the small one does -/
theorem Text.X_sees (t : Text Q f all mk F S M lv Lo) {H : Nat → Option AObj} (h0 : ∀ n o, hidden mk n = false → (S 0).heap.get n = some o → H n = some o) :
    ∀ {k : Nat}, k ≤ all.size → ∀ n o, hidden mk n = false → (S k).heap.get n = some o → Text.X Q f all F S M H n k = some o
  | 0, _, n, o, hn, h => h0 n o hn h
  | k + 1, hk, n, o, hn, h => by
    have ho : all[k]? = some all[k] := Array.getElem?_eq_getElem (by omega)
    rw [Text.X]
    split
    · exact h
    · rename_i hT
      refine t.X_sees h0 (by omega) n o hn ?_
      cases hw : wantedA all (F k).env all[k] with
      | true =>
        obtain ⟨v, loc', s1, _, _, _, h4, _, g⟩ := t.done ho hw
        rw [h4] at h
        refine (g.frame n fun t' => hT ⟨_, ho, hw, ?_⟩).symm.trans h
        rw [h4]; exact t'
      | false =>
        rcases t.step ho with ⟨h', _⟩ | ⟨_, _, h'⟩
        · rw [hw] at h'; cases h'
        · rw [h'] at h; exact h
end text
end Go.Ag
/- Unordered operations of a drawn region do not meet. -/
namespace Go.Ag

/-- an operation has to come behind another one -/
def Ord (all : Array Oper) (i j : Nat) : Prop := (((Region.before all).toList[j]?).getD 0).testBit i = true

theorem Ord.dep {all : Array Oper} {i j : Nat} (h : Ord all i j) : Dep all i j := by
  unfold Ord at h
  cases hb : (Region.before all)[j]? with
  | none => simp [hb] at h
  | some b => simp [hb] at h; exact before_dep hb h

theorem meets_none {F : Foot} : Foot.meets F .none = false := by cases F <;> rfl

section text
variable {Q : Prog} {f : FuncId} {all : Array Oper} {mk : Mask} {F : Nat → Fr} {S : Nat → St} {M : Nat → Mask} {lv : Nat → Nat} {Lo : Nat → Bool}

theorem Text.compat (t : Text Q f all mk F S M lv Lo) {i j : Nat} {oi oj : Oper} (hij : i < j) (hi : all[i]? = some oi) (hj : all[j]? = some oj) (wi : wantedA all (F i).env oi = true) (wj : wantedA all (F j).env oj = true)
    (hn : ¬ Ord all i j) : ((Lo j || Lo i) && (Text.foot Q f F j oj).meets (Text.foot Q f F i oi)) = false ∧ ∀ n, (S i).next ≤ n → n < (S (i + 1)).next → hidden (M j) n = true := by
  have := t.tr.pair j i oj oi hij (by simpa using hj) (by simpa using hi) (by rw [Nat.zero_add]; exact wj) (by rw [Nat.zero_add]; exact wi)
  simp only [Nat.zero_add] at this
  exact this.resolve_left hn

theorem Text.lt_size {i : Nat} {o : Oper} (h : all[i]? = some o) : i < all.size := (Array.getElem?_eq_some_iff.1 h).1

/-- what a step changes of what there was, it changes loudly -/
theorem Text.loud (t : Text Q f all mk F S M lv Lo) {H : Nat → Option AObj} (h0 : ∀ n o, hidden mk n = false → (S 0).heap.get n = some o → H n = some o) {i n : Nat} {o : Oper} (hi : all[i]? = some o)
    (w : wantedA all (F i).env o = true) (hc : Text.X Q f all F S M H n (i + 1) ≠ Text.X Q f all F S M H n i) (hv : hidden (Text.fm Q f F S M i o) n = false) (hp : (S i).heap.get n ≠ none) : Lo i = true := by
  have hT := Text.X_change hc
  have hlt : n < (S i).next := by
    rcases Nat.lt_or_ge n (S i).next with h | h
    · exact h
    · exact absurd (t.none_above (Nat.le_of_lt (Text.lt_size hi)) n h) hp
  obtain ⟨v, loc', s1, _, _, _, h4, h5, g⟩ := t.done hi w
  have hm : hidden mk n = false := by
    cases e : hidden mk n with
    | false => rfl
    | true =>
      have := t.tr.more i o (by simpa using hi) n e
      rw [Nat.zero_add] at this
      rw [Text.fm, footMask_more this] at hv; cases hv
  cases ho : (S i).heap.get n with
  | none => exact absurd ho hp
  | some ob =>
    have hX := t.X_sees h0 (Nat.le_of_lt (Text.lt_size hi)) n ob hm ho
    rw [Text.X, if_pos hT, hX, ← ho, h4] at hc
    have := g.noted n hlt hc
    rw [h5]
    have : Nat.blt s1.minw (S i).next = true := by rw [nblt]; exact decide_eq_true (by omega)
    rw [this]; rfl

theorem meets_at {F1 F2 : Foot} {n : Nat} (h1 : F1 = .all ∨ F1 = .obj n) (h2 : F2 = .all ∨ F2 = .obj n) : F1.meets F2 = true := by
  rcases h1 with rfl | rfl <;> rcases h2 with rfl | rfl <;> simp [Foot.meets]

/-- in the heap -/
theorem Text.heap_apart (t : Text Q f all mk F S M lv Lo) {H : Nat → Option AObj} (h0 : ∀ n o, hidden mk n = false → (S 0).heap.get n = some o → H n = some o) {i j n : Nat} (hij : i < j) (hj : j < all.size) (hn : ¬ Ord all i j) :
    (Text.Th Q f all F S M j n → Text.X Q f all F S M H n (i + 1) = Text.X Q f all F S M H n i) ∧
    (Text.Th Q f all F S M i n → Text.X Q f all F S M H n (j + 1) = Text.X Q f all F S M H n j) := by
  have key : Text.Th Q f all F S M i n → Text.Th Q f all F S M j n →
      (Text.X Q f all F S M H n (i + 1) ≠ Text.X Q f all F S M H n i ∨ Text.X Q f all F S M H n (j + 1) ≠ Text.X Q f all F S M H n j) → False := by
    rintro ⟨oi, hi, wi, Ti⟩ ⟨oj, hj', wj, Tj⟩ hch
    obtain ⟨c1, c2⟩ := t.compat hij hi hj' wi wj hn
    have hle : (S (i + 1)).next ≤ (S j).next := t.mono (by omega) (by omega)
    have hle' := t.next_le hi
    -- n lay there ahead of j
    have hnj : hidden (Text.fm Q f F S M j oj) n = false ∧ (S j).heap.get n ≠ none := by
      rcases Tj with h | h
      · exact h
      · exfalso
        rcases Ti with ⟨_, hp⟩ | h'
        · exact hp (t.none_above (by omega) n (by omega))
        · omega
    have hmj := footMask_hidden hnj.1
    have hlt : n < (S j).next := by
      rcases Nat.lt_or_ge n (S j).next with h | h
      · exact h
      · exact absurd (t.none_above (by omega) n h) hnj.2
    have hni : hidden (Text.fm Q f F S M i oi) n = false ∧ (S i).heap.get n ≠ none := by
      rcases Ti with h | h
      · exact h
      · exfalso
        have := c2 n h.1 h.2
        rw [hmj.1] at this; cases this
    have hmi := footMask_hidden hni.1
    have hlti : n < (S i).next := by
      rcases Nat.lt_or_ge n (S i).next with h | h
      · exact h
      · exact absurd (t.none_above (by omega) n h) hni.2
    have hm : (Text.foot Q f F j oj).meets (Text.foot Q f F i oi) = true :=
      meets_at (hmj.2.imp id fun h => h.resolve_right (by omega)) (hmi.2.imp id fun h => h.resolve_right (by omega))
    rw [hm, Bool.and_true] at c1
    rcases hch with h | h
    · rw [t.loud h0 hi wi h hni.1 hni.2] at c1; simp at c1
    · rw [t.loud h0 hj' wj h hnj.1 hnj.2] at c1; simp at c1
  constructor
  · intro hT
    apply Classical.byContradiction
    intro hne
    exact key (Text.X_change hne) hT (.inl hne)
  · intro hT
    apply Classical.byContradiction
    intro hne
    exact key hT (Text.X_change hne) (.inr hne)
end text
end Go.Ag
/- Unordered operations of a drawn region do not meet: temporaries and boxes. -/
namespace Go.Ag

theorem putDst_spec {fr fr' : Fr} {dst : Option Tmp} {v : AVal} {l : Loc} (h : putDst fr dst v l = some fr') :
    fr'.size = fr.size ∧ fr'.loc = l ∧ (∀ d, dst = some d → d < fr.size ∧ nth fr'.env d = v) ∧ ∀ t, dst ≠ some t → nth fr'.env t = nth fr.env t := by
  unfold putDst at h
  cases dst with
  | none =>
    injection h with h; subst h
    exact ⟨rfl, rfl, by simp, fun _ _ => rfl⟩
  | some d =>
    obtain ⟨hd, h⟩ := bif_none h
    injection h with h; subst h
    refine ⟨rfl, rfl, ?_, ?_⟩
    · intro d' hd'; injection hd' with hd'; subst hd'
      exact ⟨blt_lt hd, by simp [nth, orUndef]⟩
    · intro t ht
      have : t ≠ d := fun e => ht (by rw [e])
      simp [nth, Trie.get_set, this]

theorem dstOk_spec {ops : Array Oper} {x y : Oper} (h : dstOk ops x y = true) : (∀ d, x.dst = some d → d ∉ looks ops y ∧ y.dst ≠ some d) ∧ ∀ d, y.dst = some d → d ∉ looks ops x := by
  simp only [dstOk, Bool.and_eq_true] at h
  have hmem : ∀ (d : Nat) (l : List Nat), l.any (Nat.beq d) = false → d ∉ l := by
    intro d l hl hd
    rw [List.any_eq_false] at hl
    exact hl d hd (by simp)
  obtain ⟨h1, h2⟩ := h
  refine ⟨fun d hd => ?_, fun d hd => ?_⟩
  · rw [hd] at h1
    simp only [Bool.and_eq_true, Bool.not_eq_true'] at h1
    refine ⟨hmem d _ h1.1, fun e => ?_⟩
    have h1 := h1.2
    rw [e] at h1
    simp at h1
  · rw [hd] at h2
    simp only [Bool.not_eq_true'] at h2
    exact hmem d _ h2

section text
variable {Q : Prog} {f : FuncId} {all : Array Oper} {mk : Mask} {F : Nat → Fr} {S : Nat → St} {M : Nat → Mask} {lv : Nat → Nat} {Lo : Nat → Bool}

/-- the temporaries that a step touches -/
def Text.Te (all : Array Oper) (k t : Nat) : Prop := ∃ o, all[k]? = some o ∧ (t ∈ looks all o ∨ o.dst = some t)

theorem Text.put (t : Text Q f all mk F S M lv Lo) {k : Nat} {o : Oper} (hk : all[k]? = some o) : ∃ v l, putDst (F k) o.dst v l = some (F (k + 1)) := by
  rcases t.step hk with ⟨_, v, loc', s1, _, _, h3, _⟩ | ⟨_, h, _⟩
  · exact ⟨_, _, h3⟩
  · exact ⟨_, _, h⟩

theorem Text.env_change (t : Text Q f all mk F S M lv Lo) {k d : Nat} {o : Oper} (hk : all[k]? = some o) (h : nth (F (k + 1)).env d ≠ nth (F k).env d) : o.dst = some d := by
  obtain ⟨v, l, hp⟩ := t.put hk
  by_cases e : o.dst = some d
  · exact e
  · exact absurd ((putDst_spec hp).2.2.2 d e) h

theorem Text.size_eq (t : Text Q f all mk F S M lv Lo) : ∀ {k : Nat}, k ≤ all.size → (F k).size = (F 0).size
  | 0, _ => rfl
  | k + 1, h => by
    obtain ⟨v, l, hp⟩ := t.put (Array.getElem?_eq_getElem (show k < all.size by omega))
    rw [(putDst_spec hp).1]; exact t.size_eq (by omega)

theorem Text.env_apart (t : Text Q f all mk F S M lv Lo) {i j d : Nat} (hij : i < j) (hj : j < all.size) (hn : ¬ Ord all i j) :
    (Text.Te all j d → nth (F (i + 1)).env d = nth (F i).env d) ∧ (Text.Te all i d → nth (F (j + 1)).env d = nth (F j).env d) := by
  have hi' : all[i]? = some all[i] := Array.getElem?_eq_getElem (by omega)
  have hj' : all[j]? = some all[j] := Array.getElem?_eq_getElem hj
  have := apartAll_spec t.ap i j all[i] all[j] hij (by simp) (by simp)
  rw [Nat.zero_add] at this
  obtain ⟨h1, h2⟩ := dstOk_spec (this.resolve_left hn)
  constructor
  · rintro ⟨o, ho, hT⟩
    rw [hj'] at ho; injection ho with ho; subst ho
    apply Classical.byContradiction
    intro hne
    obtain ⟨h3, h4⟩ := h1 d (t.env_change hi' hne)
    exact hT.elim h3 h4
  · rintro ⟨o, ho, hT⟩
    rw [hi'] at ho; injection ho with ho; subst ho
    apply Classical.byContradiction
    intro hne
    have h3 := t.env_change hj' hne
    exact hT.elim (h2 d h3) fun h4 => (h1 d h4).2 h3

/-- a box of a step's frame -/
def Text.L (F : Nat → Fr) (t k : Nat) : Nat × (Nat → Option (List AVal)) := ((F k).loc.gen t, fun g => (F k).loc.get t g)

theorem Text.L_eq {F : Nat → Fr} {t k k' : Nat} : Text.L F t k = Text.L F t k' ↔ LocAt (F k).loc (F k').loc t := by
  unfold Text.L LocAt
  rw [Prod.mk.injEq]
  exact ⟨fun h => ⟨h.1, fun g => congrFun h.2 g⟩, fun h => ⟨h.1, funext h.2⟩⟩

/-- the box that a step touches -/
def Text.Tl (Q : Prog) (f : FuncId) (all : Array Oper) (F : Nat → Fr) (k u : Nat) : Prop := ∃ o, all[k]? = some o ∧ wantedA all (F k).env o = true ∧ Text.foot Q f F k o = .loc u

theorem Text.loc_change (t : Text Q f all mk F S M lv Lo) {k u : Nat} (hk : k < all.size) (h : Text.L F u (k + 1) ≠ Text.L F u k) : Text.Tl Q f all F k u ∧ Lo k = true := by
  have hk' : all[k]? = some all[k] := Array.getElem?_eq_getElem hk
  rcases t.step hk' with ⟨w, v, loc', s1, h1, _, h3, _, h5⟩ | ⟨_, hp, _⟩
  · have hl := (putDst_spec h3).2.1
    obtain ⟨loc2', _, _, h7, h8⟩ := foot_oper (c := (S k).next) (e := (F k).env) (n := (F k).size) (M k) (F k).loc v loc' s1 h1 (F k).loc (fun _ _ => .refl _ _)
    constructor
    · apply Classical.byContradiction
      intro hT
      apply h
      rw [Text.L_eq, hl]
      exact (h7 u fun e => hT ⟨_, hk', w, e⟩).1
    · rw [h5]
      cases e : isStore all[k].op with
      | true => simp
      | false =>
        exfalso; apply h
        rw [Text.L_eq, hl, h8 e]; exact .refl _ _
  · exfalso; apply h
    rw [Text.L_eq, (putDst_spec hp).2.1]; exact .refl _ _

theorem Text.loc_apart (t : Text Q f all mk F S M lv Lo) {i j u : Nat} (hij : i < j) (hj : j < all.size) (hn : ¬ Ord all i j) :
    (Text.Tl Q f all F j u → Text.L F u (i + 1) = Text.L F u i) ∧ (Text.Tl Q f all F i u → Text.L F u (j + 1) = Text.L F u j) := by
  have key : Text.Tl Q f all F i u → Text.Tl Q f all F j u → (Lo i = true ∨ Lo j = true) → False := by
    rintro ⟨oi, hi, wi, fi⟩ ⟨oj, hj', wj, fj⟩ hl
    obtain ⟨c1, _⟩ := t.compat hij hi hj' wi wj hn
    rw [fi, fj] at c1
    rcases hl with h | h <;> rw [h] at c1 <;> simp [Foot.meets] at c1
  constructor
  · intro hT
    apply Classical.byContradiction
    intro hne
    obtain ⟨h1, h2⟩ := t.loc_change (by omega) hne
    exact key h1 hT (.inl h2)
  · intro hT
    apply Classical.byContradiction
    intro hne
    obtain ⟨h1, h2⟩ := t.loc_change hj hne
    exact key hT h1 (.inr h2)
end text
end Go.Ag
/- A drawn region after some of its operations, in whatever order. -/
namespace Go.Ag

section text
variable {Q : Prog} {f : FuncId} {all : Array Oper} {mk : Mask} {F : Nat → Fr} {S : Nat → St} {M : Nat → Mask} {lv : Nat → Nat} {Lo : Nat → Bool}

/-- frame and heap after the operations of a set -/
structure Cur (Q : Prog) (f : FuncId) (all : Array Oper) (F : Nat → Fr) (S : Nat → St) (M : Nat → Mask) (H : Nat → Option AObj) (D : Nat → Prop) (fr : Fr) (h : Nat → Option AObj) : Prop where
  env : ∀ t, nth fr.env t = mix (fun k => nth (F k).env t) D all.size
  size : fr.size = (F 0).size
  loc : ∀ u, (fr.loc.gen u, fun g => fr.loc.get u g) = mix (Text.L F u) D all.size
  heap : ∀ n, h n = mix (Text.X Q f all F S M H n) D all.size

/-- a set of operations that may be done so far -/
def Closed (all : Array Oper) (D : Nat → Prop) : Prop := ∀ j o, D j → all[j]? = some o → ∀ e ∈ o.after, Region.binds .any e = true → D e.on

/-- an operation that may be the next one -/
structure Next1 (all : Array Oper) (D : Nat → Prop) (j : Nat) (o : Oper) : Prop where
  closed : Closed all D
  at_ : all[j]? = some o
  new : ¬ D j
  preds : ∀ e ∈ o.after, Region.binds .any e = true → D e.on

theorem Next1.ord {D : Nat → Prop} {j : Nat} {o : Oper} (x : Next1 all D j o) {i : Nat} (h : Ord all i j) : D i :=
  h.dep.ready x.closed fun o' ho e he hb => by
    rw [x.at_] at ho; injection ho with ho; subst ho
    exact x.preds e he hb

theorem Next1.notOrd {D : Nat → Prop} {j : Nat} {o : Oper} (x : Next1 all D j o) {k : Nat} (hk : D k) : ¬ Ord all j k := fun h => x.new (h.dep.closed x.closed hk)

/-- a cell that an operation touches is as the operation found it in the text's run; behind it, as it left it -/
theorem Next1.both {α : Type} {X : Nat → α} {D : Nat → Prop} {j : Nat} {o : Oper} (x : Next1 all D j o)
    (hb : ∀ i, i < j → ¬ Ord all i j → X (i + 1) = X i) (ha : ∀ k, j < k → k < all.size → ¬ Ord all j k → X (k + 1) = X k) :
    mix X D all.size = X j ∧ mix X (fun k => D k ∨ k = j) all.size = X (j + 1) := by
  have hj := Text.lt_size x.at_
  have hb' : ∀ i, i < j → X (i + 1) ≠ X i → D i := fun i hi hne => by
    apply Classical.byContradiction
    intro hd
    exact hne (hb i hi fun h => hd (x.ord h))
  have ha' : ∀ k, j < k → k < all.size → D k → X (k + 1) = X k := fun k h1 h2 hd => ha k h1 h2 (x.notOrd hd)
  refine ⟨mix_at (by omega) hb' fun k h1 h2 hd => ?_, mix_next hj hb' ha'⟩
  by_cases e : k = j
  · exact absurd (e ▸ hd) x.new
  · exact ha' k (by omega) h2 hd

theorem Next1.env (t : Text Q f all mk F S M lv Lo) {D : Nat → Prop} {j d : Nat} {o : Oper} (x : Next1 all D j o) (hT : Text.Te all j d) :
    mix (fun k => nth (F k).env d) D all.size = nth (F j).env d ∧ mix (fun k => nth (F k).env d) (fun k => D k ∨ k = j) all.size = nth (F (j + 1)).env d :=
  x.both (X := fun k => nth (F k).env d) (fun _i hi hn => (t.env_apart hi (Text.lt_size x.at_) hn).1 hT) fun _k h1 h2 hn => (t.env_apart h1 h2 hn).2 hT

theorem Next1.loc (t : Text Q f all mk F S M lv Lo) {D : Nat → Prop} {j u : Nat} {o : Oper} (x : Next1 all D j o) (hT : Text.Tl Q f all F j u) :
    mix (Text.L F u) D all.size = Text.L F u j ∧ mix (Text.L F u) (fun k => D k ∨ k = j) all.size = Text.L F u (j + 1) :=
  x.both (fun _i hi hn => (t.loc_apart hi (Text.lt_size x.at_) hn).1 hT) fun _k h1 h2 hn => (t.loc_apart h1 h2 hn).2 hT

theorem Next1.heap (t : Text Q f all mk F S M lv Lo) {H : Nat → Option AObj} (h0 : ∀ n o, hidden mk n = false → (S 0).heap.get n = some o → H n = some o) {D : Nat → Prop} {j n : Nat} {o : Oper} (x : Next1 all D j o)
    (hT : Text.Th Q f all F S M j n) :
    mix (Text.X Q f all F S M H n) D all.size = Text.X Q f all F S M H n j ∧ mix (Text.X Q f all F S M H n) (fun k => D k ∨ k = j) all.size = Text.X Q f all F S M H n (j + 1) :=
  x.both (fun _i hi hn => (t.heap_apart h0 hi (Text.lt_size x.at_) hn).1 hT) fun _k h1 h2 hn => (t.heap_apart h0 h1 h2 hn).2 hT

/-- an untouched cell -/
theorem Next1.keep {α : Type} {X : Nat → α} {D : Nat → Prop} {j n : Nat} (h : X (j + 1) = X j) : mix X (fun k => D k ∨ k = j) n = mix X D n := mix_same h

variable {H : Nat → Option AObj} {D : Nat → Prop} {fr : Fr} {h : Nat → Option AObj} {j : Nat} {o : Oper}

/-- operands -/
theorem Cur.ev (t : Text Q f all mk F S M lv Lo) (c : Cur Q f all F S M H D fr h) (x : Next1 all D j o) : ∀ y ∈ o.op.operands, Ag.ev fr.env y = Ag.ev (F j).env y := by
  intro y hy
  cases y with
  | tmp d =>
    simp only [Ag.ev]
    rw [c.env d, (x.env t ⟨o, x.at_, .inl ?_⟩).1]
    unfold looks
    refine List.mem_append_left _ (List.mem_filterMap.2 ⟨.tmp d, by simpa using hy, rfl⟩)
  | _ => rfl

/-- guards -/
theorem Cur.wanted (t : Text Q f all mk F S M lv Lo) (c : Cur Q f all F S M H D fr h) (x : Next1 all D j o) : wantedA all fr.env o = wantedA all (F j).env o := by
  unfold wantedA
  cases hg : o.guard with
  | none => rfl
  | some g =>
    obtain ⟨g, want⟩ := g
    simp only
    cases hd : (all[g]?).bind (·.dst) with
    | none => rfl
    | some d =>
      simp only
      rw [c.env d, (x.env t ⟨o, x.at_, .inl ?_⟩).1]
      unfold looks
      refine List.mem_append_right _ ?_
      simp [hg, hd]
end text
end Go.Ag
/- A drawn region: one more operation. -/
namespace Go.Ag

theorem putDst_some {fr : Fr} {dst : Option Tmp} {v : AVal} {l : Loc} (h : ∀ d, dst = some d → d < fr.size) : ∃ fr', putDst fr dst v l = some fr' := by
  unfold putDst
  cases hd : dst with
  | none => exact ⟨_, rfl⟩
  | some d =>
    have : Nat.blt d fr.size = true := by rw [nblt]; exact decide_eq_true (h d hd)
    simp only [this, cond_true]
    exact ⟨_, rfl⟩

section text
variable {Q : Prog} {f : FuncId} {all : Array Oper} {mk : Mask} {F : Nat → Fr} {S : Nat → St} {M : Nat → Mask} {lv : Nat → Nat} {Lo : Nat → Bool}
variable {H : Nat → Option AObj} {D : Nat → Prop} {fr : Fr} {h : Trie AObj} {j : Nat} {o : Oper}

/-- the state that a step starts from, over some heap -/
def Text.from_ (S : Nat → St) (j : Nat) (h : Trie AObj) : St := ⟨h, (S j).next, (S j).next, (S j).ci⟩

theorem Cur.sees (t : Text Q f all mk F S M lv Lo) (h0 : ∀ n o, hidden mk n = false → (S 0).heap.get n = some o → H n = some o) (c : Cur Q f all F S M H D fr h.get) (x : Next1 all D j o)
    (hw : wantedA all (F j).env o = true) : Sees (Text.fm Q f F S M j o) (Text.from_ S j (S j).heap) (Text.from_ S j h) where
  next := rfl
  minw := rfl
  ci := rfl
  get n ob hn hg := by
    have hg : (S j).heap.get n = some ob := hg
    show h.get n = some ob
    have hT : Text.Th Q f all F S M j n := ⟨o, x.at_, hw, .inl ⟨hn, by rw [hg]; simp⟩⟩
    rw [c.heap n, (x.heap t h0 hT).1]
    refine t.X_sees h0 (Nat.le_of_lt (Text.lt_size x.at_)) n ob ?_ hg
    cases e : hidden mk n with
    | false => rfl
    | true =>
      have := t.tr.more j o (by simpa using x.at_) n e
      rw [Nat.zero_add] at this
      rw [Text.fm, footMask_more this] at hn; cases hn

/-- the operation runs as in the text's run; and what is then -/
theorem Cur.run (t : Text Q f all mk F S M lv Lo) (h0 : ∀ n o, hidden mk n = false → (S 0).heap.get n = some o → H n = some o) (c : Cur Q f all F S M H D fr h.get) (x : Next1 all D j o)
    (hw : wantedA all (F j).env o = true) :
    ∃ v loc' s1 fr', operS Q (lvl Q (lv j)) f o (Text.fm Q f F S M j o) fr (Text.from_ S j (S j).heap) = some (v, loc', s1) ∧ s1.ci = (S j).ci ∧ s1.next = (S (j + 1)).next ∧ putDst fr o.dst v loc' = some fr' ∧
      ∀ s2', Same (Text.fm Q f F S M j o) (Text.from_ S j (S j).heap) s1 (Text.from_ S j h) s2' → Cur Q f all F S M H (fun k => D k ∨ k = j) fr' s2'.heap.get := by
  obtain ⟨v, loc1, s1, h1, h2, h3, h4, h5, g⟩ := t.done x.at_ hw
  obtain ⟨loc2, e1, e2, e3, e4⟩ := foot_oper (c := (S j).next) (e := (F j).env) (n := (F j).size) (M j) (F j).loc v loc1 s1 h1 fr.loc (fun u hu => by
    have hT : Text.Tl Q f all F j u := ⟨o, x.at_, hw, hu⟩
    have h6 := (c.loc u).trans (x.loc t hT).1
    unfold Text.L at h6
    rw [Prod.mk.injEq] at h6
    exact ⟨h6.1.symm, fun g => (congrFun h6.2 g).symm⟩)
  have e1 : operS Q (lvl Q (lv j)) f o (Text.fm Q f F S M j o) ⟨(F j).env, (F j).size, fr.loc⟩ (Text.from_ S j (S j).heap) = some (v, loc2, s1) := e1
  rw [operS_env (e2 := fr.env) (n2 := fr.size) (fun y hy => (c.ev t x y hy).symm)] at e1
  have hsz : fr.size = (F j).size := c.size.trans (t.size_eq (Nat.le_of_lt (Text.lt_size x.at_))).symm
  obtain ⟨p1, p2, p3, p4⟩ := putDst_spec h3
  have hp : ∃ fr', putDst fr o.dst v loc2 = some fr' := putDst_some fun d hd => by rw [hsz]; exact (p3 d hd).1
  obtain ⟨fr', hp⟩ := hp
  obtain ⟨q1, q2, q3, q4⟩ := putDst_spec hp
  refine ⟨v, loc2, s1, fr', e1, h2, by rw [h4]; rfl, hp, fun s2' same => ⟨fun d => ?_, q1.trans c.size, fun u => ?_, fun n => ?_⟩⟩
  · by_cases hd : o.dst = some d
    · rw [(q3 d hd).2, (x.env t ⟨o, x.at_, .inr hd⟩).2, (p3 d hd).2]
    · rw [q4 d hd, c.env d]
      exact (mix_same (X := fun k => nth (F k).env d) (p4 d hd)).symm
  · rw [q2]
    by_cases hu : Text.foot Q f F j o = .loc u
    · rw [(x.loc t ⟨o, x.at_, hw, hu⟩).2]
      have := e2 u hu
      unfold Text.L
      rw [p2, this.1]
      rw [Prod.mk.injEq]
      exact ⟨rfl, funext fun g => (this.2 g).symm⟩
    · obtain ⟨a1, a2⟩ := e3 u hu
      rw [mix_same (X := Text.L F u) (Text.L_eq.2 (by rw [p2]; exact a1)), ← c.loc u, Prod.mk.injEq]
      exact ⟨a2.1, funext a2.2⟩
  · have hiff : Text.Th Q f all F S M j n ↔ Touch (Text.fm Q f F S M j o) (Text.from_ S j (S j).heap) s1 n := by
      constructor
      · rintro ⟨o', ho', _, hT⟩
        rw [x.at_] at ho'; injection ho' with ho'; subst ho'
        rw [h4] at hT; exact hT
      · intro hT
        refine ⟨o, x.at_, hw, ?_⟩
        rw [h4]; exact hT
    by_cases hT : Text.Th Q f all F S M j n
    · rw [(x.heap t h0 hT).2, Text.X, if_pos hT, h4]
      exact same.inside n (hiff.1 hT)
    · rw [mix_same (X := Text.X Q f all F S M H n) (by rw [Text.X, if_neg hT]), ← c.heap n]
      exact same.outside n (fun e => hT (hiff.2 e))

/-- an operation that is not wanted -/
theorem Cur.skip (t : Text Q f all mk F S M lv Lo) (c : Cur Q f all F S M H D fr h.get) (x : Next1 all D j o) (hw : wantedA all (F j).env o = false) :
    ∃ fr', putDst fr o.dst undefA fr.loc = some fr' ∧ Cur Q f all F S M H (fun k => D k ∨ k = j) fr' h.get := by
  rcases t.step x.at_ with ⟨h', _⟩ | ⟨_, h3, _⟩
  · rw [hw] at h'; cases h'
  have hsz : fr.size = (F j).size := c.size.trans (t.size_eq (Nat.le_of_lt (Text.lt_size x.at_))).symm
  obtain ⟨p1, p2, p3, p4⟩ := putDst_spec h3
  have hp : ∃ fr', putDst fr o.dst undefA fr.loc = some fr' := putDst_some fun d hd => by rw [hsz]; exact (p3 d hd).1
  obtain ⟨fr', hp⟩ := hp
  obtain ⟨q1, q2, q3, q4⟩ := putDst_spec hp
  refine ⟨fr', hp, ⟨fun d => ?_, q1.trans c.size, fun u => ?_, fun n => ?_⟩⟩
  · by_cases hd : o.dst = some d
    · rw [(q3 d hd).2, (x.env t ⟨o, x.at_, .inr hd⟩).2, (p3 d hd).2]
    · rw [q4 d hd, c.env d]
      exact (mix_same (X := fun k => nth (F k).env d) (p4 d hd)).symm
  · rw [q2, mix_same (X := Text.L F u) (Text.L_eq.2 (by rw [p2]; exact .refl _ _)), ← c.loc u]
  · rw [mix_same (X := Text.X Q f all F S M H n) ?_, ← c.heap n]
    rw [Text.X, if_neg]
    rintro ⟨o', ho', hw', _⟩
    rw [x.at_] at ho'; injection ho' with ho'; subst ho'
    rw [hw] at hw'; cases hw'

/-- at the start -/
theorem Cur.start {s2 : Trie AObj} (hD : ∀ k, ¬ D k) : Cur Q f all F S M s2.get D (F 0) s2.get where
  env d := (mix_none (X := fun k => nth (F k).env d) fun k _ => hD k).symm
  size := rfl
  loc u := by rw [mix_none (X := Text.L F u) fun k _ => hD k]; rfl
  heap n := by rw [mix_none (X := Text.X Q f all F S M s2.get n) fun k _ => hD k]; rfl

/-- at the end -/
theorem Cur.fin (c : Cur Q f all F S M H D fr h.get) (hD : ∀ k, k < all.size → D k) :
    fr.size = (F 0).size ∧ (∀ d, nth fr.env d = nth (F all.size).env d) ∧ (∀ u, LocAt fr.loc (F all.size).loc u) ∧ ∀ n, h.get n = Text.X Q f all F S M H n all.size := by
  refine ⟨c.size, fun d => ?_, fun u => ?_, fun n => ?_⟩
  · rw [c.env d]; exact mix_all (X := fun k => nth (F k).env d) hD
  · have := c.loc u
    rw [mix_all hD] at this
    unfold Text.L at this
    rw [Prod.mk.injEq] at this
    exact ⟨this.1, congrFun this.2⟩
  · rw [c.heap n]; exact mix_all hD
end text
end Go.Ag
