/- The evaluator is sound. -/
import Derived.Test.YtbfmdojdemckbaaGreatAg6
import Derived.OrdersIn
import Derived.LoopNIn
import Derived.RangeFuncRecord
import Derived.Scope
/- Ranges over functions: fences, records, marks. -/
namespace Go.Ag

/-- a function's frame, or a round's -/
def fen : Option Nat → Fence
  | none => Fence.wide
  | some l => Fence.wide.inRound l
theorem fen_fn (ro : Option Nat) (f : FuncId) : (fen ro).fn f := by cases ro <;> exact trivial
theorem fen_depth (ro : Option Nat) : (fen ro).depth = none := by cases ro <;> rfl
theorem fen_round (ro : Option Nat) : (fen ro).round = ro := by cases ro <;> rfl
theorem fen_in (ro : Option Nat) (l : Nat) : (fen ro).inRound l = fen (some l) := by cases ro <;> rfl
theorem fen_n (ro : Option Nat) (n : Nat) : (fen ro).depth.isSome = true → 1 ≤ n := by rw [fen_depth]; intro h; cases h
theorem fen_calls {ro : Option Nat} {P : Program} {f : FuncId} {args : Array Value} {w : World} {R : Ending → World → Prop} : CallsIn (fen ro) 0 P f args w R ↔ Calls P f args w R := by
  cases ro with
  | none => exact callsIn_wide
  | some l => exact callsIn_wide (n := 0)

/-- a block of a loop's record or of deferred calls -/
def Aside : Obj → Prop
  | .loop _ => True
  | .deferred _ => True
  | _ => False
theorem Aside.warm {o : Obj} (h : Aside o) : Obj.warm o := by cases o <;> first | exact trivial | exact h.elim

section aside
variable {G : Gh} {h : Trie AObj} {w : World} {b : Nat} {o ob : Obj}

theorem aside_cells (hb : w.heap[b]? = some o) (ha : Aside o) {C : Array Value} {e : TypeId} {z : Nat × Nat} : w.heap[b]? ≠ some (.cells C e z) := by
  rw [hb]; intro h; injection h with h; subst h; exact ha.elim

theorem aside_cell (hb : w.heap[b]? = some o) (ha : Aside o) (i : Nat) : w.cell? ⟨b, i, none⟩ = none := by
  cases o <;> first
    | exact ha.elim
    | simp [World.cell?, hb]

theorem WR.aside_ro (x : WR G h w) (hb : w.heap[b]? = some o) (ha : Aside o) (i : Nat) : G.ro b i = none := by
  cases e : G.ro b i with
  | none => rfl
  | some v =>
    obtain ⟨_, y, hy, _⟩ := x.ro b i v e
    rw [aside_cell hb ha] at hy; cases hy

theorem WR.aside (x : WR G h w) (hb : w.heap[b]? = some o) (ha : Aside o) (hno : ¬ Owns G h b) : WR G h (putBlock w b ob) where
  obj n o' hn := by
    obtain ⟨a, h1, h2, h3⟩ := x.obj n o' hn
    refine ⟨a, h1, h2, h3.of_block ?_⟩
    rw [putBlock_get w b _ ob (lt_of_get hb), if_neg]
    intro e
    exact hno ⟨n, a, by rw [hn]; simp, h1, e⟩
  sep := x.sep
  ro c i v hv := by
    have hc : c ≠ b := fun e => by subst e; rw [x.aside_ro hb ha] at hv; cases hv
    obtain ⟨h1, y, h2, h3⟩ := x.ro c i v hv
    refine ⟨h1, y, ?_, h3⟩
    rw [← h2]; simp [World.cell?, putBlock_get w b _ ob (lt_of_get hb), hc]
  apart := x.apart
  dim c d hd := by
    have hc : c ≠ b := fun e => by
      subst e
      obtain ⟨C, e, h1, _⟩ := x.dim c d hd
      exact aside_cells hb ha h1
    rw [putBlock_get w b _ ob (lt_of_get hb), if_neg hc]; exact x.dim c d hd
  below n a ha' := by rw [putBlock_size]; exact x.below n a ha'

theorem LocsR.aside {B : Nat → Nat} {loc : Loc} (x : LocsR G h B loc w) (hb : w.heap[b]? = some o) (ha : Aside o) : LocsR G h B loc (putBlock w b ob) where
  cells t cs ht := by
    obtain ⟨C, e, h1, h2⟩ := x.cells t cs ht
    refine ⟨C, e, ?_, h2⟩
    rw [putBlock_get w b _ ob (lt_of_get hb), if_neg]
    · exact h1
    · intro e'; rw [e'] at h1; exact aside_cells hb ha h1
  free := x.free
  ro := x.ro
  inj := x.inj

theorem FrR.aside {B : Nat → Nat} {fr : Fr} {tmps : Array Value} (x : FrR G h B fr tmps w) (hb : w.heap[b]? = some o) (ha : Aside o) : FrR G h B fr tmps (putBlock w b ob) :=
  ⟨x.size, x.env, x.locs.aside hb ha⟩

theorem FrR.not_LB {B : Nat → Nat} {fr : Fr} {tmps : Array Value} (x : FrR G h B fr tmps w) (hb : w.heap[b]? = some o) (ha : Aside o) : ¬ LB B fr.loc b := by
  rintro ⟨t, cs, h1, rfl⟩
  obtain ⟨C, e, h2, _⟩ := x.locs.cells t cs h1
  exact aside_cells hb ha h2

theorem WR.not_deferred (x : WR G h w) {d : Option (List Deferred)} (hb : w.heap[b]? = some (.deferred d)) : ¬ Owns G h b := by
  rintro ⟨n, a, h1, h2, rfl⟩
  cases e : h.get n with
  | none => exact h1 e
  | some o =>
    obtain ⟨a', h3, _, h4⟩ := x.obj n o e
    rw [h2] at h3; injection h3 with h3; subst h3
    cases o with
    | cells cs => obtain ⟨C, e, h5, _⟩ := h4; rw [hb] at h5; cases h5
    | tok => obtain ⟨C, e, h5⟩ := h4; rw [hb] at h5; cases h5
    | map es c => obtain ⟨ES, h5, _⟩ := h4; rw [hb] at h5; cases h5
    | iter m a b c => obtain ⟨_, m', h5, _⟩ := h4; rw [hb] at h5; cases h5
    | loop _ _ _ _ _ _ _ => obtain ⟨r, h5, _⟩ := h4; rw [hb] at h5; cases h5

/-- an object put back in its place -/
theorem WR.back (x : WR G h w) {n : Nat} {a : Addr} {lo : AObj} (ha : G.at_ n = some a) (hs : a.spot = none) (hno : ¬ Owns G h a.block) (hr : ObjR G w a lo) (hro : ∀ i, G.ro a.block i = none) : WR G (h.set n (some lo)) w := by
  refine ⟨?_, ?_, x.ro, ?_, x.dim, x.below⟩
  · intro m o' hm
    rw [Trie.get_set] at hm
    by_cases e : m = n
    · rw [if_pos e] at hm
      injection hm with hm; subst hm; subst e
      exact ⟨a, ha, hs, hr⟩
    · rw [if_neg e] at hm; exact x.obj m o' hm
  · intro m k c d hm hk hc hd he
    rw [Trie.get_set] at hm hk
    by_cases e1 : m = n <;> by_cases e2 : k = n
    · rw [e1, e2]
    · rw [e1, ha] at hc
      rw [if_neg e2] at hk
      injection hc with hc; subst hc
      exact absurd ⟨k, d, hk, hd, he.symm⟩ hno
    · rw [e2, ha] at hd
      rw [if_neg e1] at hm
      injection hd with hd; subst hd
      exact absurd ⟨m, c, hm, hc, he⟩ hno
    · rw [if_neg e1] at hm
      rw [if_neg e2] at hk
      exact x.sep m k c d hm hk hc hd he
  · intro m ob b i v hm hb hv
    rw [Trie.get_set] at hm
    by_cases e : m = n
    · subst e; rw [ha] at hb; injection hb with hb; subst hb
      rw [hro] at hv; cases hv
    · rw [if_neg e] at hm
      exact x.apart m ob b i v hm hb hv

theorem owns_back {n c : Nat} {a : Addr} {lo : AObj} (ha : G.at_ n = some a) (h' : Owns G (h.set n (some lo)) c) : c = a.block ∨ Owns G h c := by
  obtain ⟨m, d, h1, h2, h3⟩ := h'
  rw [Trie.get_set] at h1
  by_cases e : m = n
  · subst e; rw [ha] at h2; injection h2 with h2; subst h2; exact .inl h3.symm
  · rw [if_neg e] at h1; exact .inr ⟨m, d, h1, h2, h3⟩

variable {G0 : Gh} {h0 : Trie AObj} {w0 : World} {lo hi : Nat} {L : Nat → Prop}
theorem ExtL.aside (x : ExtL G0 h0 w0 G h w lo hi L) (hb : w.heap[b]? = some o) (ha : Aside o) (ha' : Aside ob) (hk : b < w0.heap.size → Owns G0 h0 b) : ExtL G0 h0 w0 G h (putBlock w b ob) lo hi L where
  le := x.le
  size := by rw [putBlock_size]; exact x.size
  keep c hc ho hl := by
    rw [putBlock_get w b c ob (lt_of_get hb), if_neg]
    · exact x.keep c hc ho hl
    · intro e; subst e; exact ho (hk hc)
  owns := x.owns
  names := x.names
  cells := x.cells
  quiet := x.quiet.trans (quiet_put w hb ha.warm ha'.warm)
theorem ExtL.toExt (x : ExtL G0 h0 w0 G h w lo hi L) (hL : ∀ b, ¬ L b) : Ext G0 h0 w0 G h w lo hi :=
  ⟨x.le, x.size, fun b hb ho => x.keep b hb ho (hL b), x.owns, x.names, x.cells, x.quiet⟩
theorem Ext.aside (x : Ext G0 h0 w0 G h w lo hi) (hb : w.heap[b]? = some o) (ha : Aside o) (ha' : Aside ob) (hk : b < w0.heap.size → Owns G0 h0 b) : Ext G0 h0 w0 G h (putBlock w b ob) lo hi :=
  (ExtL.aside (x.toL fun _ => False) hb ha ha' hk).toExt fun _ h => h
end aside

/-- the marks of ranges over functions among deferred calls -/
def mark (r : Nat) : Deferred := { target := .collected r, args := #[] }
structure Marks (lo : Nat) (w : World) (rs : List Nat) : Prop where
  nodup : rs.Nodup
  at_ : ∀ r ∈ rs, lo ≤ r ∧ w.heap[r]? = some (.deferred (some []))
theorem Marks.nil (lo : Nat) (w : World) : Marks lo w [] := ⟨.nil, fun _ h => by cases h⟩

theorem putObj_eq (w : World) (b : Nat) (o : Obj) : w.putObj b o = putBlock w b o := rfl

/-- a round's frame -/
theorem setPs_frame {G : Gh} : ∀ {ps : List Tmp} {args : List AVal} {xs : List Value} {env env' : Env} {size : Nat} {tmps : Array Value}, setPs ps args env = some env' → VRs G args xs →
    (∀ t ∈ ps, t < size) → tmps.size = size → (∀ t, VR G (nth env t) (tmps.getD t undef)) →
    xs.length = ps.length ∧ ((ps.zip xs).foldl (fun tmps (t, a) => tmps.setIfInBounds t a) tmps).size = size ∧ ∀ t, VR G (nth env' t) (((ps.zip xs).foldl (fun tmps (t, a) => tmps.setIfInBounds t a) tmps).getD t undef)
  | [], [], xs, env, env', size, tmps, he, hv, hp, hs, ht => by
    cases hv
    simp only [setPs, Option.some.injEq] at he
    subst he
    exact ⟨rfl, hs, ht⟩
  | [], _ :: _, _, _, _, _, _, he, _, _, _, _ => by cases he
  | _ :: _, [], _, _, _, _, _, he, _, _, _, _ => by cases he
  | p :: ps, v :: args, xs, env, env', size, tmps, he, hv, hp, hs, ht => by
    cases hv with
    | cons a b =>
      rename_i x xs
      have hpl : p < tmps.size := by rw [hs]; exact hp p (by simp)
      have := setPs_frame (tmps := tmps.setIfInBounds p x) (ps := ps) he b (fun t h => hp t (by simp [h])) (by simpa using hs) (fun t => by
        rw [Ag.getD_set _ _ _ _ hpl]
        unfold nth
        rw [Trie.get_set]
        by_cases e : t = p
        · rw [if_pos e, if_pos e]; exact a
        · rw [if_neg e, if_neg e]; exact ht t)
      exact ⟨by simp [this.1], this.2⟩
end Go.Ag
/- Soundness: one operation, calls among them. -/
namespace Go.Ag

def Agree (k : Nat) (ch ch' : Nat → Nat) : Prop := ∀ i, i < k → ch' i = ch i
theorem Agree.refl (k : Nat) (ch : Nat → Nat) : Agree k ch ch := fun _ _ => rfl
theorem Agree.trans {k k' : Nat} {ch ch' ch'' : Nat → Nat} (h : Agree k ch ch') (h' : Agree k' ch' ch'') (hk : k ≤ k') : Agree k ch ch'' := fun i hi => (h' i (Nat.lt_of_lt_of_le hi hk)).trans (h i hi)

def Inb (Q : Prog) (ch : Nat → Nat) : Prop := ∀ i, ch i < Q.kmax i

/-- no names beyond -/
def Fresh (s : St) : Prop := ∀ n, s.next ≤ n → s.heap.get n = none

theorem Fresh.goes {mk : Mask} {s s' : St} (h : Fresh s) (g : Goes mk s s') : Fresh s' := fun n hn => by
  have h0 := h n (Nat.le_trans g.next hn)
  rw [g.frame n ?_]
  · exact h0
  · rintro (⟨_, h'⟩ | h')
    · exact h' h0
    · omega

/-- what a call comes to -/
def CallsTo (P : Program) (f : FuncId) (args : Array Value) (w : World) (R : Value → World → Prop) : Prop :=
  (∃ y w', (callFunc f args).run P w = .ok (.value y) w' ∧ R y w') ∨
  ((callFunc f args).run P w = .ok (.enter f args) w ∧ Calls P f args w (fun e w' => ∃ y, e = .returned y ∧ R y w'))

theorem CallsTo.mono {P : Program} {f : FuncId} {args : Array Value} {w : World} {R R' : Value → World → Prop} (h : CallsTo P f args w R) (hr : ∀ y w', R y w' → R' y w') : CallsTo P f args w R' := by
  rcases h with ⟨y, w', h1, h2⟩ | ⟨h1, h2⟩
  · exact .inl ⟨y, w', h1, hr y w' h2⟩
  · exact .inr ⟨h1, h2.mono fun e w' ⟨y, he, h3⟩ => ⟨y, he, hr y w' h3⟩⟩

/-- contracts that read the heap hold -/
def SpecHHolds (Q : Prog) : Prop :=
  ∀ f sp, Q.specH f = some sp → ∀ args v (G : Gh) (h : Trie AObj) (w : World) (xs : List Value), WR G h w → VRs G args xs → runRd h.get (sp args) = some v →
    CallsTo Q.P f ⟨xs⟩ w fun y w' => ∃ G', WR G' h w' ∧ Ext G h w G' h w' 0 0 ∧ VR G' v y

/-- contracts hold -/
def SpecHolds (Q : Prog) : Prop :=
  ∀ f sp, Q.spec f = some sp → ∀ args v, sp args = some v → ∀ (G : Gh) (h : Trie AObj) (w : World) (xs : List Value), WR G h w → VRs G args xs →
    CallsTo Q.P f ⟨xs⟩ w fun y w' => ∃ G', WR G' h w' ∧ Ext G h w G' h w' 0 0 ∧ VR G' v y

/-- the state of things ahead of a piece of code -/
structure Pre (mk : Mask) (A : Nat → Prop) (G : Gh) (s s2 : St) (w : World) : Prop where
  fresh : Fresh s
  sees : Sees mk s s2
  wr : WR G s2.heap w
  free : ∀ m, s.next ≤ m → A m → G.at_ m = none

/-- what a call leaves -/
structure CallPost (Q : Prog) (n : Nat) (f : FuncId) (args : List AVal) (mk : Mask) (ch : Nat → Nat) (G : Gh) (s s2 : St) (w : World) (y : Value) (w' : World)
    (ch' : Nat → Nat) (v : AVal) (s' s2' : St) (G' : Gh) : Prop where
  agree : Agree s.ci ch ch'
  inb : Inb Q ch'
  eval : (lvl (Q.at ch') n).call f args mk s = some (v, s')
  same : Same mk s s' s2 s2'
  wr : WR G' s2'.heap w'
  ext : Ext G s2.heap w G' s2'.heap w' s.next s'.next
  val : VR G' v y

def CallSound (Q : Prog) (n : Nat) : Prop :=
  ∀ (f : FuncId) (args : List AVal) (mk : Mask) (s s2 : St) (G : Gh) (w : World) (xs : List Value) (ch : Nat → Nat) (A : Nat → Prop),
    Pre mk A G s s2 w → VRs G args xs → Inb Q ch →
    (∀ ch', Agree s.ci ch ch' → Inb Q ch' → ∃ v s', (lvl (Q.at ch') n).call f args mk s = some (v, s') ∧ ∀ m, s.next ≤ m → m < s'.next → A m) →
    CallsTo Q.P f ⟨xs⟩ w fun y w' => ∃ ch' v s' s2' G', CallPost Q n f args mk ch G s s2 w y w' ch' v s' s2' G'

section ext
variable {G G' G'' : Gh} {h h' h'' : Trie AObj} {w w' w'' : World} {lo mid hi : Nat} {L L' : Nat → Prop}

theorem ExtL.trans (x : ExtL G h w G' h' w' lo mid L) (y : ExtL G' h' w' G'' h'' w'' mid hi L') (hL : ∀ b, L' b → L b ∨ w.heap.size ≤ b) (l1 : lo ≤ mid) (l2 : mid ≤ hi) :
    ExtL G h w G'' h'' w'' lo hi L where
  le := x.le.trans y.le
  size := Nat.le_trans x.size y.size
  keep b hb ho hl := (y.keep b (Nat.lt_of_lt_of_le hb x.size) (fun o => ho (x.owns b hb o)) (fun l => (hL b l).elim hl (fun h => by omega))).trans (x.keep b hb ho hl)
  owns b hb o := x.owns b hb (y.owns b (Nat.lt_of_lt_of_le hb x.size) o)
  names n a h h0 := by
    cases e : G'.at_ n with
    | none => have := y.names n a h e; omega
    | some b => have := x.names n b e h0; omega
  cells b o v hb h h0 := by
    cases e : G'.ro b o with
    | none => exact x.owns b hb (y.cells b o v (Nat.lt_of_lt_of_le hb x.size) h e)
    | some u => exact x.cells b o u hb e h0
  quiet := x.quiet.trans y.quiet

theorem ExtL.widen {lo' hi' : Nat} (x : ExtL G h w G' h' w' lo hi L) (h1 : lo' ≤ lo) (h2 : hi ≤ hi') : ExtL G h w G' h' w' lo' hi' L :=
  ⟨x.le, x.size, x.keep, x.owns, fun n a e e0 => by have := x.names n a e e0; omega, x.cells, x.quiet⟩

end ext

theorem defers_trans {G' G'' : Gh} {h' h'' : Trie AObj} {w' w'' : World} {B' : Nat → Nat} {fr' : Fr} {tmps : Array Value} {d d' d'' : List Deferred} {lo l1 l2 : Nat} (wr : WR G' h' w') (fx : FrR G' h' B' fr' tmps w')
    (x : ∃ rs, d' = rs.map mark ++ d ∧ Marks lo w' rs) (hlo : lo ≤ w'.heap.size) (ex : ExtL G' h' w' G'' h'' w'' l1 l2 (LB B' fr'.loc)) (y : ∃ rs, d'' = rs.map mark ++ d' ∧ Marks w'.heap.size w'' rs) :
    ∃ rs, d'' = rs.map mark ++ d ∧ Marks lo w'' rs := by
  obtain ⟨rx, x1, x2⟩ := x
  obtain ⟨ry, y1, y2⟩ := y
  have keep : ∀ r ∈ rx, w''.heap[r]? = some (.deferred (some [])) := fun r hr => by
    have h1 := (x2.at_ r hr).2
    exact (ex.keep r (lt_of_get h1) (wr.not_deferred h1) (fx.not_LB h1 trivial)).trans h1
  refine ⟨ry ++ rx, by rw [y1, x1]; simp, ⟨?_, ?_⟩⟩
  · rw [List.nodup_append]
    refine ⟨y2.nodup, x2.nodup, fun r hr q hq e => ?_⟩
    subst e
    have h1 := (y2.at_ r hr).1
    have h2 := lt_of_get (x2.at_ r hq).2
    omega
  · intro r hr
    rcases List.mem_append.1 hr with hr | hr
    · exact ⟨Nat.le_trans hlo (y2.at_ r hr).1, (y2.at_ r hr).2⟩
    · exact ⟨(x2.at_ r hr).1, keep r hr⟩

/-- what a piece of code leaves -/
structure After (mk : Mask) (fr : Fr) (G : Gh) (B : Nat → Nat) (s s2 : St) (a : Act) (w : World) (fr' : Fr) (G' : Gh) (B' : Nat → Nat) (s' s2' : St) (a' : Act) (w' : World) : Prop where
  goes : Goes mk s s'
  same : Same mk s s' s2 s2'
  wr : WR G' s2'.heap w'
  ext : ExtL G s2.heap w G' s2'.heap w' s.next s'.next (LB B fr.loc)
  fx : FrR G' s2'.heap B' fr' a'.tmps w'
  boxes : ∀ b, LB B' fr'.loc b → LB B fr.loc b ∨ w.heap.size ≤ b
  defers : ∃ rs, a'.defers = rs.map mark ++ a.defers ∧ Marks w.heap.size w' rs

section after
variable {mk : Mask} {A : Nat → Prop} {fr fr' fr'' : Fr} {G G' G'' : Gh} {B B' B'' : Nat → Nat} {s s' s'' s2 s2' s2'' : St} {a a' a'' : Act} {w w' w'' : World}

theorem After.refl (p : Pre mk A G s s2 w) (fx : FrR G s2.heap B fr a.tmps w) : After mk fr G B s s2 a w fr G B s s2 a w where
  goes := .refl _ _
  same := .refl p.sees
  wr := p.wr
  ext := Ext.refl.toL _
  fx := fx
  boxes _ h := .inl h
  defers := ⟨[], rfl, .nil _ _⟩

theorem After.trans (x : After mk fr G B s s2 a w fr' G' B' s' s2' a' w') (y : After mk fr' G' B' s' s2' a' w' fr'' G'' B'' s'' s2'' a'' w'') :
    After mk fr G B s s2 a w fr'' G'' B'' s'' s2'' a'' w'' where
  goes := x.goes.trans y.goes
  same := .trans x.goes y.goes x.same y.same
  wr := y.wr
  ext := x.ext.trans y.ext x.boxes x.goes.next y.goes.next
  fx := y.fx
  boxes b h := by
    rcases y.boxes b h with h | h
    · exact x.boxes b h
    · exact .inr (Nat.le_trans x.ext.size h)
  defers := defers_trans x.wr x.fx x.defers x.ext.size y.ext y.defers

theorem Pre.after (p : Pre mk A G s s2 w) (x : After mk fr G B s s2 a w fr' G' B' s' s2' a' w') : Pre mk A G' s' s2' w' where
  fresh := p.fresh.goes x.goes
  sees := x.same.sees p.sees x.goes
  wr := x.wr
  free m hm hA := by
    cases e : G'.at_ m with
    | none => rfl
    | some ad =>
      have h0 := p.free m (Nat.le_trans x.goes.next hm) hA
      have := x.ext.names m ad e h0
      omega

theorem act_put_defers (a : Act) (d : Option Tmp) (v : Value) : (a.put d v).defers = a.defers := by
  cases d <;> rfl
end after

section chain
variable {α β : Type}
/-- an evaluation succeeds for all choices to come, and takes only names of a set -/
def Safe (Q : Prog) (A : Nat → Prop) (ch : Nat → Nat) (s : St) (E : (Nat → Nat) → Option (α × Fr × St)) : Prop :=
  ∀ ch', Agree s.ci ch ch' → Inb Q ch' → ∃ x fr' s', E ch' = some (x, fr', s') ∧ ∀ m, s.next ≤ m → m < s'.next → A m

/-- what an evaluation says of the run -/
def Post (Q : Prog) (mk : Mask) (ch : Nat → Nat) (fr : Fr) (G : Gh) (B : Nat → Nat) (s s2 : St) (a : Act) (w : World) (E : (Nat → Nat) → Option (α × Fr × St)) (x : α) (a' : Act) (w' : World) : Prop :=
  ∃ ch' fr' s' s2' G' B', Agree s.ci ch ch' ∧ Inb Q ch' ∧ E ch' = some (x, fr', s') ∧ After mk fr G B s s2 a w fr' G' B' s' s2' a' w'

/-- an evaluation hangs on its own choices alone -/
def Own (E : (Nat → Nat) → Option (α × Fr × St)) : Prop := ∀ ch x fr' s', E ch = some (x, fr', s') → ∀ ch', Agree s'.ci ch ch' → E ch' = some (x, fr', s')

variable {Q : Prog} {A : Nat → Prop} {ch ch1 : Nat → Nat} {s s1 : St} {E1 : (Nat → Nat) → Option (α × Fr × St)} {E2 : α → Fr → St → (Nat → Nat) → Option (β × Fr × St)}

theorem Safe.first (hs : Safe Q A ch s (fun c => (E1 c).bind fun r => E2 r.1 r.2.1 r.2.2 c)) (g : ∀ x fr' s' c y fr'' s'', E2 x fr' s' c = some (y, fr'', s'') → s'.next ≤ s''.next) : Safe Q A ch s E1 := by
  intro ch' h1 h2
  obtain ⟨x, fr', s', h3, h4⟩ := hs ch' h1 h2
  simp only [Option.bind_eq_some_iff] at h3
  obtain ⟨⟨x1, fr1, s1⟩, h5, h6⟩ := h3
  exact ⟨x1, fr1, s1, h5, fun m hm hm' => h4 m hm (Nat.lt_of_lt_of_le hm' (g _ _ _ _ _ _ _ h6))⟩

theorem Safe.second (hs : Safe Q A ch s (fun c => (E1 c).bind fun r => E2 r.1 r.2.1 r.2.2 c)) (ho : Own E1) {x : α} {fr1 : Fr} (hag : Agree s.ci ch ch1) (e1 : E1 ch1 = some (x, fr1, s1)) (hci : s.ci ≤ s1.ci) (hnx : s.next ≤ s1.next) :
    Safe Q A ch1 s1 (E2 x fr1 s1) := by
  intro ch' h1 h2
  obtain ⟨y, fr', s', h3, h4⟩ := hs ch' (hag.trans h1 hci) h2
  have := ho ch1 x fr1 s1 e1 ch' h1
  simp only [this, Option.bind_some] at h3
  exact ⟨y, fr', s', h3, fun m hm => h4 m (Nat.le_trans hnx hm)⟩

theorem Post.second {mk : Mask} {fr fr1 : Fr} {G G1 : Gh} {B B1 : Nat → Nat} {s2 s21 : St} {a a1 a' : Act} {w w1 w' : World} {x : α} {y : β} (ho : Own E1) (hag : Agree s.ci ch ch1)
    (e1 : E1 ch1 = some (x, fr1, s1)) (af : After mk fr G B s s2 a w fr1 G1 B1 s1 s21 a1 w1) (p : Post Q mk ch1 fr1 G1 B1 s1 s21 a1 w1 (E2 x fr1 s1) y a' w') :
    Post Q mk ch fr G B s s2 a w (fun c => (E1 c).bind fun r => E2 r.1 r.2.1 r.2.2 c) y a' w' := by
  obtain ⟨ch', fr', s', s2', G', B', h1, h2, h3, h4⟩ := p
  refine ⟨ch', fr', s', s2', G', B', hag.trans h1 af.goes.ci, h2, ?_, af.trans h4⟩
  simp only [ho ch1 x fr1 s1 e1 ch' h1, Option.bind_some]
  exact h3
end chain

def Ex.to : Ex → Exit
  | .normal => .normal
  | .exit id => .exit id
  | .ret => .ret

noncomputable def codeE (Q : Prog) (n : Nat) (f : FuncId) (c : Code) (mk : Mask) (fr : Fr) (s : St) (ch : Nat → Nat) : Option (Ex × Fr × St) := (lvl (Q.at ch) n).code f c mk fr s

def CodeSound (Q : Prog) (n : Nat) : Prop :=
  ∀ (ro : Option Nat) (f : FuncId) (c : Code) (mk : Mask) (fr : Fr) (ch : Nat → Nat) (A : Nat → Prop) (G : Gh) (B : Nat → Nat) (s s2 : St) (a : Act) (w : World), (ro ≠ none → flat' c = true) →
    Pre mk A G s s2 w → FrR G s2.heap B fr a.tmps w → Inb Q ch → Safe Q A ch s (codeE Q n f c mk fr s) →
    ∀ K : Exit → Act → World → Prop, (∀ x a' w', Post Q mk ch fr G B s s2 a w (codeE Q n f c mk fr s) x a' w' → K x.to a' w') →
      c.wpIn (fen ro) 0 Q.P K a w ∧ ∀ b, c = .loop b → Code.roundsIn (fen ro) 0 Q.P b K n a w

theorem code_own (Q : Prog) (n : Nat) (f : FuncId) (c : Code) (mk : Mask) (fr : Fr) (s : St) : Own (codeE Q n f c mk fr s) :=
  fun ch x fr' s' h ch' hag => (lvl_ch Q n).code f c mk fr ch s x fr' s' h ch' hag

theorem code_goes {Q : Prog} {n : Nat} {f : FuncId} {c : Code} {mk : Mask} {fr : Fr} {s : St} {ch : Nat → Nat} {x : Ex} {fr' : Fr} {s' : St} (h : codeE Q n f c mk fr s ch = some (x, fr', s')) : Goes mk s s' :=
  ((lvl_loc Q n).code f c mk fr ch s x fr' s' h).1

/-- what a round leaves -/
structure YPost (Q : Prog) (n : Nat) (m : Nat) (args : List AVal) (mk : Mask) (ch : Nat → Nat) (G : Gh) (s s2 : St) (w : World) (y : Value) (w' : World)
    (ch' : Nat → Nat) (v : AVal) (s' s2' : St) (G' : Gh) : Prop where
  agree : Agree s.ci ch ch'
  inb : Inb Q ch'
  eval : yieldS (lvl (Q.at ch') n) m args mk s = some (v, s')
  same : Same mk s s' s2 s2'
  wr : WR G' s2'.heap w'
  ext : Ext G s2.heap w G' s2'.heap w' s.next s'.next
  val : VR G' v y

theorem round_sound {Q : Prog} {n : Nat} (hcs : CodeSound Q n) (ro : Option Nat) {m : Nat} {args : List AVal} {mk : Mask} {s s2 : St} {G : Gh} {w : World} {xs : List Value} {ch : Nat → Nat} {A : Nat → Prop}
    (p : Pre mk A G s s2 w) (hv : VRs G args xs) (hi : Inb Q ch) {ad : Addr} (hm : G.at_ m = some ad)
    (hs : ∀ ch', Agree s.ci ch ch' → Inb Q ch' → ∃ v s', yieldS (lvl (Q.at ch') n) m args mk s = some (v, s') ∧ ∀ q, s.next ≤ q → q < s'.next → A q) :
    ∃ rec : Loop, w.heap[ad.block]? = some (.loop rec) ∧ xs.length = rec.params.size ∧
      RoundIn (fen ro) 0 Q.P ad.block rec.fn ((rec.params.zip ⟨xs⟩).foldl (fun tmps (t, a) => tmps.setIfInBounds t a) rec.tmps) rec.assign rec.body w
        (fun e w' => ∃ y, e = .returned y ∧ ∃ ch' v s' s2' G', YPost Q n m args mk ch G s s2 w y w' ch' v s' s2' G') := by
  obtain ⟨v0, s0, h0, _⟩ := hs ch (.refl _ _) hi
  simp only [yieldS, Option.bind_eq_some_iff] at h0
  obtain ⟨o, ho, ⟨u, o', s3⟩, hin, _⟩ := h0
  unfold yieldIn at hin
  split at hin
  case h_2 => cases hin
  rename_i f env size ps a b
  obtain ⟨hps, hin⟩ := bif_none hin
  simp only [Option.bind_eq_some_iff] at hin
  obtain ⟨env', henv, _⟩ := hin
  have ho2 := (get_vis (p.sees.look ho)).2
  obtain ⟨ad', hm', hsp, rec, hrec, hL⟩ := p.wr.obj m _ ho2
  rw [hm] at hm'; injection hm' with hm'; subst hm'
  have g1 := Goes.put ho (mk := mk) none
  have y1 : Sees mk (s.put m none) (s2.put m none) := (Same.put p.sees ho none).sees p.sees g1
  have wr1 : WR G (s2.put m none).heap w := p.wr.killed m
  have hno : ¬ Owns G (s2.put m none).heap ad.block := not_owns_killed p.wr (by rw [ho2]; simp) hm
  have howned : Owns G s2.heap ad.block := ⟨m, ad, by rw [ho2]; simp, hm, rfl⟩
  have hl := lt_of_get hrec
  have p1 : Pre mk A G (s.put m none) (s2.put m none) w := ⟨p.fresh.goes g1, y1, wr1, p.free⟩
  have hps' : ∀ t ∈ ps, t < size := fun t ht => blt_lt (List.all_eq_true.1 hps t ht)
  obtain ⟨hlen, hsz, henvR⟩ := setPs_frame henv hv hps' hL.size hL.env
  have hfold : (rec.params.zip ⟨xs⟩).foldl (fun tmps (t, a) => tmps.setIfInBounds t a) rec.tmps = (ps.zip xs).foldl (fun tmps (t, a) => tmps.setIfInBounds t a) rec.tmps := by
    rw [← hL.params]
    have : rec.params.zip (⟨xs⟩ : Array Value) = (⟨rec.params.toList.zip xs⟩ : Array (Tmp × Value)) := by apply Array.ext'; simp
    rw [this]; simp
  have hparams : rec.params.size = ps.length := by rw [← hL.params]; simp
  have hnil : ∀ t, Loc.get [] t (Loc.gen [] t) = none := fun t => rfl
  have fx1 : FrR G (s2.put m none).heap (fun _ => 0) ⟨env', size, []⟩ ((ps.zip xs).foldl (fun tmps (t, a) => tmps.setIfInBounds t a) rec.tmps) w :=
    ⟨hsz, fun t => LV.of_VR (henvR t), ⟨(fun t cs h => by cases h), (fun t cs h => by cases h), (fun t cs h => by cases h), (fun t u cs ds h => by cases h)⟩⟩
  have hev : ∀ c, yieldS (lvl (Q.at c) n) m args mk s = ((codeE Q n f a mk ⟨env', size, []⟩ (s.put m none) c).bind (yield1 (lvl (Q.at c) n) f env size ps a b mk)).bind fun x => some (x.1, x.2.2.put m (some x.2.1)) := by
    intro c
    simp only [yieldS, ho, Option.bind_some, yieldIn, hps, cond_true, henv]; rfl
  refine ⟨rec, hrec, by rw [hlen, hparams], ?_⟩
  rw [hfold, hL.assign, hL.body]
  refine roundIn_of_wpIn (fen_fn ro _) ?_
  rw [fen_in]
  refine (hcs (some ad.block) f a mk ⟨env', size, []⟩ ch A G (fun _ => 0) (s.put m none) (s2.put m none) ⟨_, []⟩ w (fun _ => hL.flatA) p1 fx1 hi ?_ _ ?_).1
  · intro c h1 h2
    obtain ⟨v, s', h3, h4⟩ := hs c h1 h2
    rw [hev] at h3
    simp only [Option.bind_eq_some_iff, Option.some.injEq, Prod.mk.injEq] at h3
    obtain ⟨⟨u, o', s5⟩, ⟨⟨x, fr', s4⟩, h5, h6⟩, _, rfl⟩ := h3
    refine ⟨x, fr', s4, h5, fun q hq hq' => h4 q hq (Nat.lt_of_lt_of_le hq' ?_)⟩
    cases x with
    | exit i => cases h6
    | ret => cases h6
    | normal =>
      simp only [yield1, Option.bind_eq_some_iff] at h6
      obtain ⟨⟨x2, fr2, s6⟩, h7, h8⟩ := h6
      have e6 : s6 = s5 := by cases x2 <;> (simp only [yield2, Option.some.injEq, Prod.mk.injEq] at h8; exact h8.2.2)
      subst e6
      exact (code_goes (Q := Q) (n := n) (ch := c) h7).next
  · rintro x a1 w1 ⟨c1, fr1, s3, s23, G1, B1, ag1, in1, e1, af1⟩
    obtain ⟨v, s', h3, h4⟩ := hs c1 ag1 in1
    have h3' := h3
    rw [hev, e1] at h3
    simp only [Option.bind_some, Option.bind_eq_some_iff, Option.some.injEq, Prod.mk.injEq] at h3
    obtain ⟨⟨u, o', s5⟩, h6, _, rfl⟩ := h3
    have hnL : ¬ LB (fun _ => 0) ([] : Loc) ad.block := fun ⟨t, cs, h, _⟩ => by cases h
    have keep1 : w1.heap[ad.block]? = some (.loop rec) := (af1.ext.keep _ hl hno hnL).trans hrec
    have hno1 : ¬ Owns G1 s23.heap ad.block := fun o => hno (af1.ext.owns _ hl o)
    cases x with
    | exit i => cases h6
    | ret => cases h6
    | normal =>
      refine ⟨_, run_beginRound keep1 hL.state, ?_⟩
      rw [putObj_eq]
      have p1' := p1.after af1
      have p2 : Pre mk A G1 s3 s23 (putBlock w1 ad.block (.loop { rec with state := .busy })) := ⟨p1'.fresh, p1'.sees, p1'.wr.aside keep1 trivial hno1, p1'.free⟩
      have fx2 : FrR G1 s23.heap B1 fr1 a1.tmps (putBlock w1 ad.block (.loop { rec with state := .busy })) := af1.fx.aside keep1 trivial
      have hl1 := lt_of_get keep1
      have hb1 : (putBlock w1 ad.block (.loop { rec with state := .busy })).heap[ad.block]? = some (.loop { rec with state := .busy }) := by rw [putBlock_get _ _ _ _ hl1, if_pos rfl]
      refine (hcs (some ad.block) f b mk fr1 c1 A G1 B1 s3 s23 a1 _ (fun _ => hL.flatB) p2 fx2 in1 ?_ _ ?_).1
      · intro c h1 h2
        obtain ⟨v, s', h7, h8⟩ := hs c (ag1.trans h1 af1.goes.ci) h2
        rw [hev, code_own Q n f a mk _ _ c1 _ _ _ e1 c h1] at h7
        simp only [Option.bind_some, Option.bind_eq_some_iff, Option.some.injEq, Prod.mk.injEq, yield1] at h7
        obtain ⟨⟨u, o', s6⟩, ⟨⟨x2, fr2, s7⟩, h9, h10⟩, _, rfl⟩ := h7
        refine ⟨x2, fr2, s7, h9, fun q hq hq' => h8 q (Nat.le_trans af1.goes.next hq) ?_⟩
        have e6 : s7 = s6 := by cases x2 <;> (simp only [yield2, Option.some.injEq, Prod.mk.injEq] at h10; exact h10.2.2)
        subst e6; exact hq'
      · rintro x2 a2 w3 ⟨c2, fr2, s6, s26, G2, B2, ag2, in2, e2, af2⟩
        have keep2 : w3.heap[ad.block]? = some (.loop { rec with state := .busy }) := (af2.ext.keep _ (by rw [putBlock_size]; exact hl1) hno1 (fx2.not_LB hb1 trivial)).trans hb1
        have hno2 : ¬ Owns G2 s26.heap ad.block := fun o => hno1 (af2.ext.owns _ (by rw [putBlock_size]; exact hl1) o)
        have hm2 : G2.at_ m = some ad := af2.ext.le.at_ _ _ (af1.ext.le.at_ _ _ hm)
        have fin : ∀ (jump : Option Code) (pe : Option Ex), jump = pe.map Ex.code → yield2 f env size ps a b (x2, fr2, s6) = some (.bool jump.isNone, .loop f env size ps a b pe, s6) →
            ∃ v w', (Instr.endRound ad.block jump).run Q.P w3 = .ok v w' ∧ ∃ y, Ending.returned v = .returned y ∧ ∃ ch' v s' s2' G', YPost Q n m args mk ch G s s2 w y w' ch' v s' s2' G' := by
          intro jump pe hj hy2
          refine ⟨_, _, run_endRound jump keep2, _, rfl, c2, .bool jump.isNone, s6.put m (some (.loop f env size ps a b pe)), s26.put m (some (.loop f env size ps a b pe)), G2, ?_⟩
          rw [putObj_eq]
          have hext : ExtL G s2.heap w G2 s26.heap w3 s.next s6.next (fun _ => False) := by
            have x0 : Ext G s2.heap w G (s2.put m none).heap w s.next s.next := Ext.killed
            have x1 : ExtL G s2.heap w G1 s23.heap (putBlock w1 ad.block (.loop { rec with state := .busy })) s.next s3.next (fun _ => False) :=
              ((x0.toL fun _ => False).trans af1.ext (fun b h => by obtain ⟨t, cs, h, _⟩ := h; cases h) (Nat.le_refl _) af1.goes.next).aside keep1 trivial trivial (fun _ => howned)
            exact x1.trans af2.ext (fun b h => by
              rcases af1.boxes b h with h | h
              · obtain ⟨t, cs, h, _⟩ := h; cases h
              · exact .inr h) af1.goes.next af2.goes.next
          refine ⟨ag1.trans ag2 af1.goes.ci, in2, ?_, (Same.trans af1.goes af2.goes af1.same af2.same).hide p.sees ho _, ?_, ?_, .bool _⟩
          · rw [hev, code_own Q n f a mk _ _ c1 _ _ _ e1 c2 ag2]
            have e2 : (lvl (Q.at c2) n).code f b mk fr1 s3 = some (x2, fr2, s6) := e2
            simp only [Option.bind_some, yield1, e2, hy2]
          · refine (af2.wr.aside keep2 trivial hno2).back hm2 hsp hno2 ⟨_, by rw [putBlock_get _ _ _ _ (lt_of_get keep2), if_pos rfl], ?_⟩ (af2.wr.aside_ro keep2 trivial)
            refine ⟨?_, hj, hL.size, fun t => (hL.env t).mono (af1.ext.le.trans af2.ext.le), hL.params, hL.assign, hL.body, hL.flatA, hL.flatB⟩
            cases pe <;> (subst hj; rfl)
          · have x2 := (hext.toExt fun _ h => h).aside (ob := .loop { { rec with state := .busy } with state := if jump.isNone then .ready else .done, pending := jump }) keep2 trivial trivial (fun _ => howned)
            exact ⟨x2.le, x2.size, x2.keep, fun c hc o => by
              rcases owns_back hm2 o with rfl | o
              · exact howned
              · exact x2.owns c hc o, x2.names, x2.cells, x2.quiet⟩
        cases x2 with
        | normal => exact fin none none rfl rfl
        | exit id => exact fin (some (.exit id)) (some (.exit id)) rfl rfl
        | ret => exact fin (some .ret) (some .ret) rfl rfl
end Go.Ag
/- Soundness: one operation, calls and rounds among them. -/
namespace Go.Ag

/-- what an operation leaves -/
structure OperPost (Q : Prog) (n : Nat) (f : FuncId) (o : Oper) (mk : Mask) (fr : Fr) (ch : Nat → Nat) (G : Gh) (B : Nat → Nat) (s s2 : St) (w : World) (x : Value) (w' : World)
    (ch' : Nat → Nat) (v : AVal) (loc' : Loc) (s' s2' : St) (G' : Gh) (B' : Nat → Nat) : Prop where
  agree : Agree s.ci ch ch'
  inb : Inb Q ch'
  eval : operS (Q.at ch') (lvl (Q.at ch') n) f o mk fr s = some (v, loc', s')
  same : Same mk s s' s2 s2'
  wr : WR G' s2'.heap w'
  ext : ExtL G s2.heap w G' s2'.heap w' s.next s'.next (LB B fr.loc)
  locs : LocsR G' s2'.heap B' loc' w'
  val : LV G' loc' B' v x
  old : ∀ u y, LV G fr.loc B u y → LV G' loc' B' u y
  boxes : ∀ b, LB B' loc' b → LB B fr.loc b ∨ w.heap.size ≤ b

theorem nextCount_le {mk : Mask} {ch : Nat → Nat} {kmax : Nat → Nat} {it : AVal} {b : Bool} {s : St} {r : AVal × St} (h : nextA mk ch kmax it b s = some r) (h2 : 2 ≤ nextCount mk it s) : nextCount mk it s ≤ kmax s.ci := by
  unfold nextA at h
  split at h
  · rename_i n
    simp only [Option.bind_eq_some_iff] at h
    obtain ⟨ob, hob, h⟩ := h
    split at h
    · simp [nextCount, hob] at h2
    · rename_i m since seen stepped
      cases b
      · simp only [cond_false, Option.bind_eq_some_iff] at h
        obtain ⟨ob2, hob2, h⟩ := h
        split at h
        · rename_i es clock
          have hc : nextCount mk (.ptr n 0) s = (unseen seen es).length := by simp [nextCount, hob, hob2]
          rw [hc] at h2 ⊢
          rcases bif_some h with ⟨_, h⟩ | ⟨_, h⟩
          · cases h
          · generalize unseen seen es = l at h h2
            unfold nextIn at h
            split at h
            · simp at h2
            · obtain ⟨_, h⟩ := bif_none h
              split at h
              · simp at h2
              · obtain ⟨h, _⟩ := bif_none h
                exact ble_le h
        · cases h
      · cases h
    · cases h
  · cases h

theorem oper_sound {Q : Prog} {n : Nat} (hc : CallSound Q n) (hcs : CodeSound Q n) (ro : Option Nat) {f : FuncId} {o : Oper} {mk : Mask} {fr : Fr} {ch : Nat → Nat} {A : Nat → Prop} {G : Gh} {B : Nat → Nat} {s s2 : St} {a : Act} {w : World}
    (p : Pre mk A G s s2 w) (fx : FrR G s2.heap B fr a.tmps w) (hi : Inb Q ch)
    (he : ∀ ch', Agree s.ci ch ch' → Inb Q ch' → ∃ v loc' s', operS (Q.at ch') (lvl (Q.at ch') n) f o mk fr s = some (v, loc', s') ∧ ∀ m, s.next ≤ m → m < s'.next → A m)
    (K : Act → World → Prop) (E : Exit → Act → World → Prop)
    (hK : ∀ x w' ch' v loc' s' s2' G' B', OperPost Q n f o mk fr ch G B s s2 w x w' ch' v loc' s' s2' G' B' → K (a.put o.dst x) w') : o.wpIn (fen ro) 0 Q.P a w K E := by
  have hloc : Loc3 mk (fun ch s => operS (Q.at ch) (lvl (Q.at ch) n) f o mk fr s) := loc_oper (Q := Q) (lvl_loc Q n) f o mk fr
  -- operations that call no function of Go
  have plain : (∀ c, o.op ≠ .defer c) → (∀ ch' s, operS (Q.at ch') (lvl (Q.at ch') n) f o mk fr s = aop Q.P mk ch' Q.kmax (Q.hint f) o.dst o.op fr s) → o.wpIn (fen ro) 0 Q.P a w K E := by
    intro hnd hop
    -- the choice that the world makes
    have hch : ∃ ch', Agree s.ci ch ch' ∧ Inb Q ch' ∧ ∀ x b xv, o.op = .next x b → evc fr.env x = some xv → 2 ≤ nextCount mk xv s2 →
        ch' s2.ci % nextCount mk xv s2 = (w.tape w.drawn (.mapNext (nextCount mk xv s2))) % nextCount mk xv s2 := by
      by_cases hn : ∃ x b xv, o.op = .next x b ∧ evc fr.env x = some xv ∧ 2 ≤ nextCount mk xv s2
      · obtain ⟨x, b, xv, hx1, hx2, hx3⟩ := hn
        obtain ⟨v, loc', s', h1, _⟩ := he ch (.refl _ _) hi
        obtain ⟨s2', h3, _⟩ := (hloc ch s v loc' s' h1).2 ch s2 (fun _ _ => rfl) p.sees
        have hle : nextCount mk xv s2 ≤ Q.kmax s.ci := by
          have h3 : operS (Q.at ch) (lvl (Q.at ch) n) f o mk fr s2 = some (v, loc', s2') := h3
          rw [hop, hx1] at h3
          simp only [aop, hx2, Option.bind_some, retVS, Option.bind_eq_some_iff] at h3
          obtain ⟨r, hr, _⟩ := h3
          rw [← p.sees.ci]; exact nextCount_le hr hx3
        refine ⟨fun i => if i = s.ci then (w.tape w.drawn (.mapNext (nextCount mk xv s2))) % nextCount mk xv s2 else ch i, ?_, ?_, ?_⟩
        · intro i hi'
          simp only
          rw [if_neg (by omega)]
        · intro i
          simp only
          split
          · rename_i e; subst e
            exact Nat.lt_of_lt_of_le (Nat.mod_lt _ (by omega)) hle
          · exact hi i
        · intro x' b' xv' hx1' hx2' _
          rw [hx1] at hx1'
          injection hx1' with e1 e2
          subst e1
          rw [hx2] at hx2'
          injection hx2' with e3
          subst e3
          simp only
          rw [if_pos p.sees.ci, Nat.mod_mod]
      · exact ⟨ch, .refl _ _, hi, fun x b xv h1 h2 h3 => absurd ⟨x, b, xv, h1, h2, h3⟩ hn⟩
    obtain ⟨ch', hag, hin, hch⟩ := hch
    obtain ⟨v, loc', s', h1, h2⟩ := he ch' hag hin
    obtain ⟨g, hl⟩ := hloc ch' s v loc' s' h1
    obtain ⟨s2', h3, h4⟩ := hl ch' s2 (fun _ _ => rfl) p.sees
    have h3' : aop Q.P mk ch' Q.kmax (Q.hint f) o.dst o.op fr s2 = some (v, loc', s2') := by rw [← hop]; exact h3
    have hpost := aop_sound p.wr fx h3' (fun m hm1 hm2 => p.free m (by rw [← p.sees.next]; exact hm1) (h2 m (by rw [← p.sees.next]; exact hm1) (by rw [← h4.next]; exact hm2))) hch
    obtain ⟨nx, x, w', G', B', r1, r2, r3, r4, r5, r6, r7, r8⟩ := hpost
    have r4' : ExtL G s2.heap w G' s2'.heap w' s.next s'.next (LB B fr.loc) := by rw [← p.sees.next, ← h4.next]; exact r4
    have hk := hK x w' ch' v loc' s' s2' G' B' ⟨hag, hin, h1, h4, r3, r4', r5, r6, r7, r8⟩
    refine ⟨fun _ _ => fen_fn ro _, ?_⟩
    rw [Oper.semAt_eq _ _ _ hnd, r1]
    rcases r2 with rfl | ⟨rfl, rfl⟩ <;> exact hk
  cases hop : o.op
  case call c =>
    cases hcl : c.callee with
    | builtin b => exact plain (fun c h => by rw [hop] at h; cases h) fun ch' s => by simp only [operS, hop, hcl, aop]; rfl
    | invoke x y =>
      obtain ⟨v, loc', s', h1, _⟩ := he ch (.refl _ _) hi
      simp [operS, hop, hcl, callOp, callee, isYld] at h1
    | value g =>
      have hnd : ∀ c, o.op ≠ .defer c := fun c h => by rw [hop] at h; cases h
      cases hyld : isYld fr.env c with
      | true =>
        have heval : ∀ ch' s, operS (Q.at ch') (lvl (Q.at ch') n) f o mk fr s = yieldOp (lvl (Q.at ch') n) c mk fr s := fun ch' s => by simp only [operS, hop, hcl, hyld, cond_true]
        obtain ⟨v0, loc0, s0, h0, _⟩ := he ch (.refl _ _) hi
        rw [heval] at h0
        simp only [yieldOp, Option.bind_eq_some_iff] at h0
        obtain ⟨⟨m, args⟩, hyee, _⟩ := h0
        have hyee' := hyee
        simp only [yieldee, hcl, Option.bind_eq_some_iff] at hyee
        obtain ⟨gv, hg, hyee⟩ := hyee
        have hgl := fx.ev hg
        cases gv <;> try (cases hyee; done)
        rename_i m'
        simp only [Option.bind_eq_some_iff, Option.some.injEq, Prod.mk.injEq] at hyee
        obtain ⟨as, has, rfl, rfl⟩ := hyee
        have hgl : VR G (.yld m') (a.eval g) := hgl
        generalize hgx : a.eval g = gx at hgl
        cases hgl with
        | yld hm =>
          rename_i ad
          have hargs := (fx.evcs has).1
          obtain ⟨rec, q1, q2, q3⟩ := round_sound hcs ro p hargs hi hm (fun ch' ha hb => by
            obtain ⟨v, loc', s', h1, h2⟩ := he ch' ha hb
            rw [heval] at h1
            simp only [yieldOp, hyee', Option.bind_some, Option.bind_eq_some_iff, Option.some.injEq, Prod.mk.injEq] at h1
            obtain ⟨⟨v1, s1⟩, h3, rfl, rfl, rfl⟩ := h1
            exact ⟨v1, s1, h3, h2⟩)
          have hrun : (execOp a.eval o).run Q.P w = .ok (.round ad.block rec.fn ((rec.params.zip ⟨c.args.toList.map a.eval⟩).foldl (fun tmps (t, a) => tmps.setIfInBounds t a) rec.tmps) rec.assign rec.body) w := by
            have hsz : (⟨c.args.toList.map a.eval⟩ : Array Value).size = rec.params.size := by rw [← q2]; rfl
            have := run_yield (P := Q.P) (args := ⟨c.args.toList.map a.eval⟩) q1 hsz
            have e : (#[] : Array Value) ++ c.args.map a.eval = ⟨c.args.toList.map a.eval⟩ := by apply Array.ext'; simp
            simp only [execOp, hop, resolve, hcl, hgx, Deferred.ofValue, Sem.run_bind, Sem.run_pure, Result.andThen_ok, invoke, e]
            exact this
          refine ⟨fun _ _ => fen_fn ro _, ?_⟩
          rw [Oper.semAt_eq _ _ _ hnd, hrun]
          refine ⟨fen_n ro 0, q3.mono ?_⟩
          rintro e w' ⟨y, rfl, ch', v, s', s2', G', c1⟩
          refine hK y w' ch' v fr.loc s' s2' G' B ⟨c1.agree, c1.inb, ?_, c1.same, c1.wr, c1.ext.toL _, fx.locs.ext c1.ext, LV.of_VR c1.val, fun _ _ h => h.mono c1.ext.le, fun _ h => .inl h⟩
          rw [heval]
          simp only [yieldOp, hyee', Option.bind_some, c1.eval]
      | false =>
      have heval : ∀ ch' s, operS (Q.at ch') (lvl (Q.at ch') n) f o mk fr s = callOp (lvl (Q.at ch') n) c mk fr s := fun ch' s => by simp only [operS, hop, hcl, hyld, cond_false]
      obtain ⟨v0, loc0, s0, h0, _⟩ := he ch (.refl _ _) hi
      rw [heval] at h0
      simp only [callOp, Option.bind_eq_some_iff] at h0
      obtain ⟨⟨fn, args⟩, hcallee, _⟩ := h0
      have hcallee' := hcallee
      simp only [callee, hcl, Option.bind_eq_some_iff] at hcallee
      obtain ⟨gv, hg, hcallee⟩ := hcallee
      have hgl := fx.ev hg
      cases gv <;> try (cases hcallee; done)
      rename_i fn' first captured
      cases fn' <;> try (cases hcallee; done)
      rename_i fid
      simp only [Option.bind_eq_some_iff] at hcallee
      obtain ⟨as, has, hcallee⟩ := hcallee
      simp only [Option.some.injEq, Prod.mk.injEq] at hcallee
      obtain ⟨rfl, rfl⟩ := hcallee
      have hgl : VR G (.func (.func fid) first captured) (a.eval g) := hgl
      generalize hgx : a.eval g = gx at hgl
      cases hgl with
      | func hf hcap =>
        rename_i fs cs
        have hargs := (fx.evcs has).1
        have hall : VRs G (first ++ (as ++ captured)) (fs ++ (c.args.toList.map a.eval ++ cs)) := hf.append (hargs.append hcap)
        have hrun : (execOp a.eval o).run Q.P w = (callFunc fid ⟨fs ++ (c.args.toList.map a.eval ++ cs)⟩).run Q.P w := by
          have : (((⟨fs⟩ : Array Value) ++ c.args.map a.eval) ++ (⟨cs⟩ : Array Value)) = ⟨fs ++ (c.args.toList.map a.eval ++ cs)⟩ := by
            apply Array.ext'; simp
          simp only [execOp, hop, resolve, hcl, hgx, Deferred.ofValue, Sem.run_bind, Sem.run_pure, Result.andThen_ok, invoke, this]
        have hcs' := hc fid (first ++ (as ++ captured)) mk s s2 G w _ ch A p hall hi (fun ch' ha hb => by
          obtain ⟨v, loc', s', h1, h2⟩ := he ch' ha hb
          rw [heval] at h1
          simp only [callOp, hcallee', Option.bind_some, Option.bind_eq_some_iff] at h1
          obtain ⟨⟨v1, s1⟩, h3, h1⟩ := h1
          simp only [Option.some.injEq, Prod.mk.injEq] at h1
          obtain ⟨rfl, rfl, rfl⟩ := h1
          exact ⟨v1, s1, h3, h2⟩)
        have fin : ∀ y w', (∃ ch' v s' s2' G', CallPost Q n fid (first ++ (as ++ captured)) mk ch G s s2 w y w' ch' v s' s2' G') → K (a.put o.dst y) w' := by
          rintro y w' ⟨ch', v, s', s2', G', c⟩
          refine hK y w' ch' v fr.loc s' s2' G' B ⟨c.agree, c.inb, ?_, c.same, c.wr, c.ext.toL _, fx.locs.ext c.ext, LV.of_VR c.val, fun _ _ h => h.mono c.ext.le, fun _ h => .inl h⟩
          rw [heval]
          simp only [callOp, hcallee', Option.bind_some, c.eval]
        refine ⟨fun _ _ => fen_fn ro _, ?_⟩
        rw [Oper.semAt_eq _ _ _ hnd, hrun]
        rcases hcs' with ⟨y, w', h1, h2⟩ | ⟨h1, h2⟩
        · rw [h1]; exact fin y w' h2
        · rw [h1]
          refine ⟨fen_n ro 0, fen_calls.2 (h2.mono ?_)⟩
          rintro e w' ⟨y, rfl, h3⟩
          exact fin y w' h3
  case defer c =>
    obtain ⟨v, loc', s', h1, _⟩ := he ch (.refl _ _) hi
    simp only [operS, hop, aop] at h1
    cases h1
  all_goals exact plain (fun c h => by rw [hop] at h; cases h) fun ch' s => by simp only [operS, hop]; rfl

section after
variable {mk : Mask} {A : Nat → Prop} {fr fr' fr'' : Fr} {G G' G'' : Gh} {B B' B'' : Nat → Nat} {s s' s'' s2 s2' s2'' : St} {a a' a'' : Act} {w w' w'' : World}

theorem OperPost.after {Q : Prog} {n : Nat} {f : FuncId} {o : Oper} {ch ch' : Nat → Nat} {x : Value} {v : AVal} {loc' : Loc}
    (fx : FrR G s2.heap B fr a.tmps w) (q : OperPost Q n f o mk fr ch G B s s2 w x w' ch' v loc' s' s2' G' B') (hp : putDst fr o.dst v loc' = some fr') :
    After mk fr G B s s2 a w fr' G' B' s' s2' (a.put o.dst x) w' where
  goes := (loc_oper (Q := Q) (lvl_loc Q n) f o mk fr ch' s v loc' s' q.eval).1
  same := q.same
  wr := q.wr
  ext := q.ext
  fx := fx.put hp q.locs q.val q.old
  boxes b h := q.boxes b (by rw [(putDst_spec hp).2.1] at h; exact h)
  defers := ⟨[], act_put_defers _ _ _, .nil _ _⟩

theorem undef_VR (G : Gh) : VR G undefA undef := .tup .nil

theorem After.skip (p : Pre mk A G s s2 w) (fx : FrR G s2.heap B fr a.tmps w) {dst : Option Tmp} (hp : putDst fr dst undefA fr.loc = some fr') :
    After mk fr G B s s2 a w fr' G B s s2 (a.put dst undef) w where
  goes := .refl _ _
  same := .refl p.sees
  wr := p.wr
  ext := Ext.refl.toL _
  fx := fx.put hp fx.locs (LV.of_VR (undef_VR G)) fun _ _ h => h
  boxes b h := .inl (by rw [(putDst_spec hp).2.1] at h; exact h)
  defers := ⟨[], act_put_defers _ _ _, .nil _ _⟩
end after

end Go.Ag
/- Soundness: what follows one behind the other. -/
namespace Go.Ag

noncomputable def opsE (Q : Prog) (n : Nat) (f : FuncId) (all : Array Oper) (mk : Mask) (l : List Oper) (fr : Fr) (s : St) (ch : Nat → Nat) : Option (Ex × Fr × St) :=
  ((lvl (Q.at ch) n).ops f all mk l fr s).bind fun x => some (.normal, x.1, x.2)

def OpsSound (Q : Prog) (n : Nat) : Prop :=
  ∀ (ro : Option Nat) (f : FuncId) (all : Array Oper) (mk : Mask) (l : List Oper) (i : Nat) (fr : Fr) (ch : Nat → Nat) (A : Nat → Prop) (G : Gh) (B : Nat → Nat) (s s2 : St) (a : Act) (w : World),
    Pre mk A G s s2 w → FrR G s2.heap B fr a.tmps w → Inb Q ch → (∀ k o, l[k]? = some o → all[i + k]? = some o) → Safe Q A ch s (opsE Q n f all mk l fr s) →
    ∀ K : Exit → Act → World → Prop, (∀ a' w', Post Q mk ch fr G B s s2 a w (opsE Q n f all mk l fr s) .normal a' w' → K .normal a' w') → wpOpsIn (fen ro) 0 Q.P all K (List.range' i l.length) a w

theorem ops_goes {Q : Prog} {n : Nat} {f : FuncId} {all : Array Oper} {mk : Mask} {l : List Oper} {fr : Fr} {s : St} {ch : Nat → Nat} {x : Ex} {fr' : Fr} {s' : St} (h : opsE Q n f all mk l fr s ch = some (x, fr', s')) : Goes mk s s' := by
  simp only [opsE, Option.bind_eq_some_iff, Option.some.injEq, Prod.mk.injEq] at h
  obtain ⟨⟨fr1, s1⟩, h1, _, _, rfl⟩ := h
  exact ((lvl_loc Q n).ops f all mk l fr ch s fr1 s1 h1).1

theorem ops_sound {Q : Prog} {n : Nat} (hc : CallSound Q n) (hcs : CodeSound Q n) (hn : OpsSound Q n) : OpsSound Q (n + 1) := by
  intro ro f all mk l i fr ch A G B s s2 a w p fx hi hl hs K hK
  cases l with
  | nil =>
    simp only [List.length_nil, List.range'_zero, wpOpsIn]
    exact hK a w ⟨ch, fr, s, s2, G, B, .refl _ _, hi, rfl, .refl p fx⟩
  | cons o rest =>
    have ho : all[i]? = some o := hl 0 o rfl
    have hl' : ∀ k o, rest[k]? = some o → all[i + 1 + k]? = some o := fun k o' hk => by
      have := hl (k + 1) o' (by simpa using hk)
      rwa [show i + 1 + k = i + (k + 1) by omega]
    simp only [List.length_cons, List.range'_succ, wpOpsIn, ho, fx.wanted]
    cases hw : wantedA all fr.env o with
    | false =>
      simp only [Bool.false_eq_true, if_false]
      have hev : ∀ c, opsE Q (n + 1) f all mk (o :: rest) fr s c = ((putDst fr o.dst undefA fr.loc).bind fun fr' => opsE Q n f all mk rest fr' s c) := by
        intro c
        show ((opsS (Q.at c) (lvl (Q.at c) n) f all mk (o :: rest) fr s).bind _) = _
        simp only [opsS, hw, cond_false, opsE]
        cases putDst fr o.dst undefA fr.loc <;> rfl
      obtain ⟨x0, fr0, s0, h0, _⟩ := hs ch (.refl _ _) hi
      rw [hev] at h0
      simp only [Option.bind_eq_some_iff] at h0
      obtain ⟨fr1, hp, _⟩ := h0
      have af := After.skip p fx (a := a) hp
      refine ⟨fun _ _ => fen_fn ro _, ?_⟩
      refine hn ro f all mk rest (i + 1) fr1 ch A G B s s2 _ w p af.fx hi hl' ?_ K ?_
      · intro c h1 h2
        have := hs c h1 h2
        rw [hev, hp] at this
        exact this
      · intro a' w' ⟨c, fr', s', s2', G', B', h1, h2, h3, h4⟩
        refine hK a' w' ⟨c, fr', s', s2', G', B', h1, h2, ?_, af.trans h4⟩
        rw [hev, hp]; exact h3
    | true =>
      simp only [if_true]
      have hev : ∀ c, opsE Q (n + 1) f all mk (o :: rest) fr s c = ((operS (Q.at c) (lvl (Q.at c) n) f o mk fr s).bind fun x => (putDst fr o.dst x.1 x.2.1).bind fun fr' => opsE Q n f all mk rest fr' x.2.2 c) := by
        intro c
        show ((opsS (Q.at c) (lvl (Q.at c) n) f all mk (o :: rest) fr s).bind _) = _
        simp only [opsS, hw, cond_true, opsE]
        cases operS (Q.at c) (lvl (Q.at c) n) f o mk fr s with
        | none => rfl
        | some x =>
          simp only [Option.bind_some]
          cases putDst fr o.dst x.1 x.2.1 <;> rfl
      refine oper_sound (f := f) (fr := fr) hc hcs ro p fx hi ?_ _ K ?_
      · intro c h1 h2
        obtain ⟨x0, fr0, s0, h0, hA⟩ := hs c h1 h2
        rw [hev] at h0
        simp only [Option.bind_eq_some_iff] at h0
        obtain ⟨⟨v, loc', s1⟩, h3, fr1, _, h5⟩ := h0
        exact ⟨v, loc', s1, h3, fun m hm hm' => hA m hm (Nat.lt_of_lt_of_le hm' (ops_goes h5).next)⟩
      · intro x w' c1 v loc' s1 s21 G1 B1 q
        obtain ⟨x0, fr0, s0, h0, _⟩ := hs c1 q.agree q.inb
        rw [hev, q.eval] at h0
        simp only [Option.bind_some, Option.bind_eq_some_iff] at h0
        obtain ⟨fr1, hp, _⟩ := h0
        have af := q.after fx hp
        have hown : ∀ c, Agree s1.ci c1 c → operS (Q.at c) (lvl (Q.at c) n) f o mk fr s = some (v, loc', s1) := fun c hag =>
          ch_oper (Q := Q) (lvl_loc Q n) (lvl_ch Q n) f o mk fr c1 s v loc' s1 q.eval c hag
        refine hn ro f all mk rest (i + 1) fr1 c1 A G1 B1 s1 s21 _ w' (p.after af) af.fx q.inb hl' ?_ K ?_
        · intro c h1 h2
          obtain ⟨y, fr', s', h3, h4⟩ := hs c (q.agree.trans h1 af.goes.ci) h2
          rw [hev, hown c h1] at h3
          simp only [Option.bind_some, hp] at h3
          exact ⟨y, fr', s', h3, fun m hm => h4 m (Nat.le_trans af.goes.next hm)⟩
        · intro a' w'' ⟨c, fr', s', s2', G', B', h1, h2, h3, h4⟩
          refine hK a' w'' ⟨c, fr', s', s2', G', B', q.agree.trans h1 af.goes.ci, h2, ?_, af.trans h4⟩
          rw [hev, hown c h1]
          simp only [Option.bind_some, hp]
          exact h3
end Go.Ag
/- Soundness: drawn regions. -/
namespace Go.Ag

theorem LB.congr {B : Nat → Nat} {l l2 : Loc} (h : ∀ u, LocAt l l2 u) {b : Nat} : LB B l b → LB B l2 b := by
  rintro ⟨t, cs, h1, h2⟩
  refine ⟨t, cs, ?_, h2⟩
  rw [← (h t).1, ← (h t).2]; exact h1

theorem FrR.congr {G : Gh} {h : Trie AObj} {B : Nat → Nat} {fr fr2 : Fr} {tmps : Array Value} {w : World} (x : FrR G h B fr tmps w) (hs : fr2.size = fr.size) (he : ∀ d, nth fr2.env d = nth fr.env d)
    (hl : ∀ u, LocAt fr.loc fr2.loc u) : FrR G h B fr2 tmps w where
  size := x.size.trans hs.symm
  env t := by
    have := x.env t
    rw [he t]
    revert this
    generalize nth fr.env t = v
    generalize tmps.getD t undef = y
    intro hv
    cases v <;> first
      | exact hv
      | (obtain ⟨h1, h2, h3⟩ := hv
         exact ⟨by rw [← (hl _).1]; exact h1, h2, fun e => h3 (by rw [(hl _).1]; exact e)⟩)
  locs := by
    have hg : ∀ t cs, fr2.loc.get t (fr2.loc.gen t) = some cs → fr.loc.get t (fr.loc.gen t) = some cs := fun t cs h => by
      rw [(hl t).1, (hl t).2]; exact h
    exact ⟨fun t cs h => x.locs.cells t cs (hg t cs h), fun t cs h => x.locs.free t cs (hg t cs h), fun t cs h => x.locs.ro t cs (hg t cs h),
      fun t u cs ds h h' => x.locs.inj t u cs ds (hg t cs h) (hg u ds h')⟩

section text
variable {Q : Prog} {f : FuncId} {all : Array Oper} {mk : Mask} {F : Nat → Fr} {S : Nat → St} {M : Nat → Mask} {lv : Nat → Nat} {Lo : Nat → Bool}

/-- a name that no step touches is as it was -/
theorem Text.untouched (t : Text Q f all mk F S M lv Lo) {k n : Nat} (hk : k < all.size) (h : ¬ Text.Th Q f all F S M k n) : (S (k + 1)).heap.get n = (S k).heap.get n := by
  have ho : all[k]? = some all[k] := Array.getElem?_eq_getElem hk
  cases hw : wantedA all (F k).env all[k] with
  | true =>
    obtain ⟨v, loc', s1, _, _, _, h4, _, g⟩ := t.done ho hw
    rw [h4]
    refine g.frame n fun t' => h ⟨_, ho, hw, ?_⟩
    rw [h4]; exact t'
  | false =>
    rcases t.step ho with ⟨h', _⟩ | ⟨_, _, h'⟩
    · rw [hw] at h'; cases h'
    · rw [h']

theorem Text.X_from {H : Nat → Option AObj} (t : Text Q f all mk F S M lv Lo) {n k : Nat} (h : Text.X Q f all F S M H n k = (S k).heap.get n) : ∀ {j : Nat}, k ≤ j → j ≤ all.size → Text.X Q f all F S M H n j = (S j).heap.get n
  | 0, h1, _ => by have : k = 0 := by omega
                   subst this; exact h
  | j + 1, h1, h2 => by
    by_cases e : k = j + 1
    · subst e; exact h
    · have ih := t.X_from h (j := j) (by omega) (by omega)
      rw [Text.X]
      split
      · rfl
      · rename_i hT
        rw [ih, t.untouched (by omega) hT]

/-- what a step touches lies in sight, or is new -/
theorem Text.Th_touch (t : Text Q f all mk F S M lv Lo) {n : Nat} : ∀ {k : Nat}, k ≤ all.size → hidden mk n = false → (S k).heap.get n ≠ none → Touch mk (S 0) (S k) n
  | 0, _, hn, h => .inl ⟨hn, h⟩
  | k + 1, hk, hn, h => by
    have hle := t.next_le (Array.getElem?_eq_getElem (show k < all.size by omega))
    by_cases hT : Text.Th Q f all F S M k n
    · obtain ⟨o, ho, hw, ht⟩ := hT
      rcases ht with ⟨_, h2⟩ | h2
      · exact (t.Th_touch (k := k) (by omega) hn h2).imp id fun h => ⟨h.1, by omega⟩
      · exact .inr ⟨Nat.le_trans (t.mono (Nat.zero_le k) (by omega)) h2.1, h2.2⟩
    · rw [t.untouched (by omega) hT] at h
      exact (t.Th_touch (k := k) (by omega) hn h).imp id fun h => ⟨h.1, by omega⟩

theorem Text.hid (t : Text Q f all mk F S M lv Lo) {n k : Nat} {o : Oper} (ho : all[k]? = some o) (h : hidden (Text.fm Q f F S M k o) n = false) : hidden mk n = false := by
  cases e : hidden mk n with
  | false => rfl
  | true =>
    have := t.tr.more k o (by simpa using ho) n e
    rw [Nat.zero_add] at this
    rw [Text.fm, footMask_more this] at h; cases h

/-- the full heap behind a drawn region -/
theorem Text.same (t : Text Q f all mk F S M lv Lo) {s2 : Trie AObj} (h0 : ∀ n o, hidden mk n = false → (S 0).heap.get n = some o → s2.get n = some o) (n : Nat) :
    (Touch mk (S 0) (S all.size) n → Text.X Q f all F S M s2.get n all.size = (S all.size).heap.get n) ∧ (¬ Touch mk (S 0) (S all.size) n → Text.X Q f all F S M s2.get n all.size = s2.get n) := by
  constructor
  · rintro (⟨h1, h2⟩ | ⟨h1, h2⟩)
    · refine t.X_from (k := 0) ?_ (Nat.zero_le _) (Nat.le_refl _)
      cases e : (S 0).heap.get n with
      | none => exact absurd e h2
      | some o => exact h0 n o h1 e
    · have : ∃ k, k < all.size ∧ (S k).next ≤ n ∧ n < (S (k + 1)).next := by
        have key : ∀ j, j ≤ all.size → n < (S j).next → ∃ k, k < all.size ∧ (S k).next ≤ n ∧ n < (S (k + 1)).next := by
          intro j
          induction j with
          | zero => intro _ h; omega
          | succ j ih =>
            intro hj h
            rcases Nat.lt_or_ge n (S j).next with h' | h'
            · exact ih (by omega) h'
            · exact ⟨j, by omega, h', h⟩
        exact key _ (Nat.le_refl _) h2
      obtain ⟨k, hk, h3, h4⟩ := this
      have ho : all[k]? = some all[k] := Array.getElem?_eq_getElem hk
      have hw : wantedA all (F k).env all[k] = true := by
        cases hw : wantedA all (F k).env all[k] with
        | true => rfl
        | false =>
          rcases t.step ho with ⟨h', _⟩ | ⟨_, _, h'⟩
          · rw [hw] at h'; cases h'
          · rw [h'] at h4; omega
      refine t.X_from (k := k + 1) ?_ (by omega) (Nat.le_refl _)
      rw [Text.X, if_pos ⟨_, ho, hw, .inr ⟨h3, h4⟩⟩]
  · intro hn
    have key : ∀ j, j ≤ all.size → Text.X Q f all F S M s2.get n j = s2.get n := by
      intro j
      induction j with
      | zero => intro _; rfl
      | succ j ih =>
        intro hj
        rw [Text.X, if_neg]
        · exact ih (by omega)
        · rintro ⟨o, ho, hw, ht⟩
          have hm := t.mono (show j + 1 ≤ all.size by omega) (Nat.le_refl _)
          rcases ht with ⟨h1, h2⟩ | ⟨h1, h2⟩
          · have hmj := t.mono (show j ≤ all.size by omega) (Nat.le_refl _)
            exact hn ((t.Th_touch (show j ≤ all.size by omega) (t.hid ho h1) h2).imp id fun h => ⟨h.1, by omega⟩)
          · exact hn (.inr ⟨Nat.le_trans (t.mono (Nat.zero_le j) (by omega)) h1, by omega⟩)
    exact key _ (Nat.le_refl _)
end text

noncomputable def drawE (Q : Prog) (n : Nat) (f : FuncId) (all : Array Oper) (mk : Mask) (fr : Fr) (s : St) (ch : Nat → Nat) : Option (Ex × Fr × St) :=
  ((lvl (Q.at ch) n).draw f all (Region.before all).toList mk [] 0 all.toList fr s).bind fun x => some (.normal, x.1, x.2)

/-- the state of things inside a drawn region -/
structure Mid (Q : Prog) (f : FuncId) (all : Array Oper) (F : Nat → Fr) (S : Nat → St) (M : Nat → Mask) (B : Nat → Nat) (G : Gh) (s2 : St) (a : Act) (w : World) (listed : Array Bool) (a' : Act) (w' : World)
    (fr' : Fr) (h : Trie AObj) (G' : Gh) (B' : Nat → Nat) : Prop where
  size : listed.size = all.size
  closed : Closed all (fun k => listed.getD k false = true)
  cur : Cur Q f all F S M s2.heap.get (fun k => listed.getD k false = true) fr' h.get
  wr : WR G' h w'
  ext : ExtL G s2.heap w G' h w' (S 0).next (S all.size).next (LB B (F 0).loc)
  fx : FrR G' h B' fr' a'.tmps w'
  boxes : ∀ b, LB B' fr'.loc b → LB B (F 0).loc b ∨ w.heap.size ≤ b
  defers : ∃ rs, a'.defers = rs.map mark ++ a.defers ∧ Marks w.heap.size w' rs
  free : ∀ k, k < all.size → listed.getD k false = false → ∀ m, (S k).next ≤ m → m < (S (k + 1)).next → G'.at_ m = none

theorem Cur.congr {Q : Prog} {f : FuncId} {all : Array Oper} {F : Nat → Fr} {S : Nat → St} {M : Nat → Mask} {H : Nat → Option AObj} {D D' : Nat → Prop} {fr : Fr} {h : Nat → Option AObj} (c : Cur Q f all F S M H D fr h)
    (hD : ∀ k, k < all.size → (D k ↔ D' k)) : Cur Q f all F S M H D' fr h where
  env t := (c.env t).trans (mix_congr (X := fun k => nth (F k).env t) fun k hk _ => hD k hk)
  size := c.size
  loc u := (c.loc u).trans (mix_congr (X := Text.L F u) fun k hk _ => hD k hk)
  heap n := (c.heap n).trans (mix_congr (X := Text.X Q f all F S M H n) fun k hk _ => hD k hk)

theorem getD_setb {listed : Array Bool} {i : Nat} (hi : i < listed.size) (k : Nat) : (listed.setIfInBounds i true).getD k false = true ↔ (listed.getD k false = true ∨ k = i) := by
  simp only [Array.getD_eq_getD_getElem?, Array.getElem?_setIfInBounds]
  by_cases e : i = k
  · subst e; simp [hi]
  · simp [e, Ne.symm e]

/-- how many operations are not done yet -/
def undone (listed : Array Bool) : Nat := listed.toList.countP (fun b => !b)

theorem undone_set {listed : Array Bool} {i : Nat} (h : listed.getD i true = false) : undone (listed.setIfInBounds i true) + 1 = undone listed := by
  obtain ⟨l⟩ := listed
  simp only [undone, List.setIfInBounds_toArray, Array.getD_eq_getD_getElem?, List.getElem?_toArray] at *
  induction l generalizing i with
  | nil => simp at h
  | cons b l ih =>
    cases i with
    | zero =>
      simp at h; subst h
      simp
    | succ i =>
      have := ih (i := i) (by simpa using h)
      simp only [List.set_cons_succ, List.countP_cons]
      omega

theorem undone_all {listed : Array Bool} (h : undone listed = 0) (k : Nat) (hk : k < listed.size) : listed.getD k false = true := by
  obtain ⟨l⟩ := listed
  simp only [undone, List.countP_eq_zero] at h
  simp only [List.size_toArray] at hk
  have := h l[k] (List.getElem_mem hk)
  simp only [Array.getD_eq_getD_getElem?, List.getElem?_toArray, List.getElem?_eq_getElem hk, Option.getD_some]
  simpa using this

theorem draw_any {Q : Prog} {f : FuncId} {all : Array Oper} {mk : Mask} {ch : Nat → Nat} {G : Gh} {B : Nat → Nat} {s2 : St} {a : Act} {w : World}
    {F : Nat → Fr} {S : Nat → St} {M : Nat → Mask} {lv : Nat → Nat} {Lo : Nat → Bool} (t : Text (Q.at ch) f all mk F S M lv Lo) (ro : Option Nat) (hc : ∀ k, k < all.size → CallSound Q (lv k) ∧ CodeSound Q (lv k)) (hi : Inb Q ch)
    (h0 : ∀ n o, hidden mk n = false → (S 0).heap.get n = some o → s2.heap.get n = some o) (K : Exit → Act → World → Prop)
    (hK : ∀ listed a' w' fr' h G' B', (∀ k, k < all.size → listed.getD k false = true) → Mid (Q.at ch) f all F S M B G s2 a w listed a' w' fr' h G' B' → K .normal a' w') :
    ∀ (fuel : Nat) (listed : Array Bool) (a' : Act) (w' : World) (fr' : Fr) (h : Trie AObj) (G' : Gh) (B' : Nat → Nat), undone listed = fuel →
      Mid (Q.at ch) f all F S M B G s2 a w listed a' w' fr' h G' B' → wpAnyIn (fen ro) 0 Q.P .any all K fuel listed a' w' := by
  intro fuel
  induction fuel with
  | zero =>
    intro listed a' w' fr' h G' B' hu m
    have hall : ∀ k, k < all.size → listed.getD k false = true := fun k hk => undone_all hu k (by rw [m.size]; exact hk)
    refine ⟨?_, hK listed a' w' fr' h G' B' hall m⟩
    rw [List.eq_nil_iff_forall_not_mem]
    intro i hi
    rw [mem_ready] at hi
    obtain ⟨h1, o, h2, _⟩ := hi
    have hlt := Text.lt_size h2
    have := hall i hlt
    simp only [Array.getD_eq_getD_getElem?] at h1 this
    rw [Array.getElem?_eq_getElem (by rw [m.size]; exact hlt)] at h1 this
    simp at h1 this
    rw [h1] at this; cases this
  | succ fuel ih =>
    intro listed a' w' fr' h G' B' hu m
    refine ⟨fun hr => ?_, fun i hi' => ?_⟩
    · -- the least that is not done is ready
      exfalso
      have key : ∀ k, k < all.size → listed.getD k false = true := by
        intro k
        induction k using Nat.strongRecOn with
        | _ k ihk =>
          intro hk
          have ho : all[k]? = some all[k] := Array.getElem?_eq_getElem hk
          have hnot : k ∉ Region.ready .any all listed := by rw [hr]; simp
          rw [mem_ready] at hnot
          have hkl : k < listed.size := by rw [m.size]; exact hk
          cases e : listed.getD k false with
          | true => rfl
          | false =>
            exfalso
            apply hnot
            refine ⟨?_, all[k], ho, fun ed hed hb => ?_⟩
            · simp only [Array.getD_eq_getD_getElem?, Array.getElem?_eq_getElem hkl, Option.getD_some] at e ⊢
              exact e
            · have hlt := apartAll_back t.ap k all[k] (by simp) ed hed hb
              rw [Nat.zero_add] at hlt
              exact ihk ed.on hlt (by omega)
      have hz : undone listed = 0 := by
        obtain ⟨l⟩ := listed
        simp only [undone, List.countP_eq_zero]
        intro b hb
        obtain ⟨k, hk, rfl⟩ := List.getElem_of_mem hb
        have hs := m.size
        simp only [List.size_toArray] at hs
        have := key k (by omega)
        simp only [Array.getD_eq_getD_getElem?, List.getElem?_toArray, List.getElem?_eq_getElem hk, Option.getD_some] at this
        simp [this]
      omega
    · rw [mem_ready] at hi'
      obtain ⟨h1, o, ho, h2⟩ := hi'
      have hlt := Text.lt_size ho
      have hil : i < listed.size := by rw [m.size]; exact hlt
      have hnd : ¬ listed.getD i false = true := by
        simp only [Array.getD_eq_getD_getElem?, Array.getElem?_eq_getElem hil, Option.getD_some] at h1 ⊢
        rw [h1]; simp
      have hnd' : listed.getD i false = false := by simpa using hnd
      have x : Next1 all (fun k => listed.getD k false = true) i o := ⟨m.closed, ho, hnd, h2⟩
      have hu' : undone (listed.setIfInBounds i true) = fuel := by have := undone_set h1; omega
      have hsz' : (listed.setIfInBounds i true).size = all.size := by rw [Array.size_setIfInBounds]; exact m.size
      have hcl' : Closed all (fun k => (listed.setIfInBounds i true).getD k false = true) := by
        intro j oj hj hoj e he hb
        rw [getD_setb hil] at hj ⊢
        rcases hj with hj | rfl
        · exact .inl (m.closed j oj hj hoj e he hb)
        · rw [ho] at hoj; injection hoj with hoj; subst hoj
          exact .inl (h2 e he hb)
      have hfr' : ∀ {G1 : Gh} {h1' : Trie AObj} {w1 : World} {L : Nat → Prop}, ExtL G' h w' G1 h1' w1 (S i).next (S (i + 1)).next L →
          ∀ k, k < all.size → (listed.setIfInBounds i true).getD k false = false → ∀ q, (S k).next ≤ q → q < (S (k + 1)).next → G1.at_ q = none := by
        intro G1 h1' w1 L ex k hk hkd q hq1 hq2
        have hk2 : ¬ (listed.getD k false = true ∨ k = i) := fun h => by
          rw [← getD_setb hil] at h; rw [hkd] at h; cases h
        have hkf : listed.getD k false = false := by
          cases e : listed.getD k false with
          | false => rfl
          | true => exact absurd (.inl e) hk2
        have h0' := m.free k hk hkf q hq1 hq2
        cases e : G1.at_ q with
        | none => rfl
        | some ad =>
          obtain ⟨e1, e2⟩ := ex.names q ad e h0'
          rcases Nat.lt_trichotomy k i with h | h | h
          · have := t.mono (show k + 1 ≤ i by omega) (by omega); omega
          · exact absurd (.inr h) hk2
          · have := t.mono (show i + 1 ≤ k by omega) (by omega); omega
      unfold wpOpIn
      simp only [ho]
      rw [m.fx.wanted, m.cur.wanted t x]
      cases hw : wantedA all (F i).env o with
      | false =>
        simp only [Bool.false_eq_true, if_false]
        obtain ⟨fr1, hp, hcur⟩ := m.cur.skip t x hw
        refine ⟨fun _ _ => fen_fn ro _, ?_⟩
        refine ih _ _ _ fr1 h G' B' hu' ⟨hsz', hcl', hcur.congr fun k _ => (getD_setb hil k).symm, m.wr, m.ext, m.fx.put hp m.fx.locs (LV.of_VR (undef_VR G')) fun _ _ h => h, ?_, ?_, ?_⟩
        · intro b hb; rw [(putDst_spec hp).2.1] at hb; exact m.boxes b hb
        · rw [act_put_defers]; exact m.defers
        · exact hfr' (L := fun _ => False) (Ext.refl.toL _)
      | true =>
        simp only [if_true]
        obtain ⟨v, loc1, s1, fr1, e1, e2, e3, hp, hcur⟩ := m.cur.run t h0 x hw
        have hsees := m.cur.sees t h0 x hw
        have hpre : Pre (Text.fm (Q.at ch) f F S M i o) (fun q => q < (S (i + 1)).next) G' (Text.from_ S i (S i).heap) (Text.from_ S i h) w' :=
          ⟨fun n hn => t.none_above (Nat.le_of_lt hlt) n hn, hsees, m.wr, fun q hq1 hq2 => m.free i hlt hnd' q hq1 hq2⟩
        refine oper_sound (hc i hlt).1 (hc i hlt).2 ro hpre m.fx hi (f := f) (fr := fr') ?_ _ K ?_
        · intro c hag _
          have := ch_oper (Q := Q) (lvl_loc Q (lv i)) (lvl_ch Q (lv i)) f o (Text.fm (Q.at ch) f F S M i o) fr' ch (Text.from_ S i (S i).heap) v loc1 s1 e1 c (fun j hj => hag j (by rw [e2] at hj; exact hj))
          exact ⟨v, loc1, s1, this, fun q _ hq => by rw [e3] at hq; exact hq⟩
        · intro y w1 c v' loc' s1' s21 G1 B1 q
          have := ch_oper (Q := Q) (lvl_loc Q (lv i)) (lvl_ch Q (lv i)) f o (Text.fm (Q.at ch) f F S M i o) fr' ch (Text.from_ S i (S i).heap) v loc1 s1 e1 c (fun j hj => q.agree j (by rw [e2] at hj; exact hj))
          have hq := q.eval
          have this : operS (Q.at c) (lvl (Q.at c) (lv i)) f o (Text.fm (Q.at ch) f F S M i o) fr' (Text.from_ S i (S i).heap) = some (v, loc1, s1) := this
          rw [this] at hq
          simp only [Option.some.injEq, Prod.mk.injEq] at hq
          obtain ⟨rfl, rfl, rfl⟩ := hq
          have hc1 := hcur s21 q.same
          have af := q.after m.fx hp
          have ex : ExtL G' h w' G1 s21.heap w1 (S i).next (S (i + 1)).next (LB B' fr'.loc) := by
            have := q.ext; rw [e3] at this; exact this
          refine ih _ _ _ fr1 s21.heap G1 B1 hu' ⟨hsz', hcl', hc1.congr fun k _ => (getD_setb hil k).symm, q.wr, ?_, af.fx, ?_, defers_trans m.wr m.fx m.defers m.ext.size ex af.defers, hfr' ex⟩
          · have x1 := m.ext
            have x2 := ex.widen (lo' := (S 0).next) (hi' := (S all.size).next) (t.mono (Nat.zero_le i) (Nat.le_of_lt hlt)) (t.mono (show i + 1 ≤ all.size by omega) (Nat.le_refl _))
            exact ⟨x1.le.trans x2.le, Nat.le_trans x1.size x2.size,
              fun b hb ho hl => (x2.keep b (Nat.lt_of_lt_of_le hb x1.size) (fun o => ho (x1.owns b hb o)) (fun l => (m.boxes b l).elim hl (fun h => by omega))).trans (x1.keep b hb ho hl),
              fun b hb o => x1.owns b hb (x2.owns b (Nat.lt_of_lt_of_le hb x1.size) o),
              fun n ad h h0 => by
                cases e : G'.at_ n with
                | none => exact x2.names n ad h e
                | some b => exact x1.names n b e h0,
              fun b o v hb h h0 => by
                cases e : G'.ro b o with
                | none => exact x1.owns b hb (x2.cells b o v (Nat.lt_of_lt_of_le hb x1.size) h e)
                | some u => exact x1.cells b o u hb e h0,
              x1.quiet.trans x2.quiet⟩
          · intro b hb
            rcases af.boxes b hb with h' | h'
            · exact m.boxes b h'
            · exact .inr (Nat.le_trans m.ext.size h')

theorem draw_sound {Q : Prog} {n : Nat} (hm : Q.P.follows .mixedOrders = true) (ro : Option Nat) (hc : ∀ k, k < n → CallSound Q k ∧ CodeSound Q k) {f : FuncId} {all : Array Oper} {mk : Mask} {fr : Fr} {ch : Nat → Nat} {A : Nat → Prop} {G : Gh} {B : Nat → Nat}
    {s s2 : St} {a : Act} {w : World} {id : Nat} (p : Pre mk A G s s2 w) (fx : FrR G s2.heap B fr a.tmps w) (hi : Inb Q ch) (hap : apartAll all 0 all.toList (Region.before all).toList = true)
    (hs : Safe Q A ch s (drawE Q n f all mk fr s)) (K : Exit → Act → World → Prop)
    (hK : ∀ a' w', Post Q mk ch fr G B s s2 a w (drawE Q n f all mk fr s) .normal a' w' → K .normal a' w') : (Code.region id all true).wpIn (fen ro) 0 Q.P K a w := by
  obtain ⟨x0, fr1, s1, h0, hA⟩ := hs ch (.refl _ _) hi
  have h0' := h0
  simp only [drawE, Option.bind_eq_some_iff, Option.some.injEq, Prod.mk.injEq] at h0
  obtain ⟨⟨fr2, s2'⟩, hd, hx, hf, hs'⟩ := h0
  subst hx; dsimp only at hf hs'; subst hf; subst hs'
  obtain ⟨F, S, M, lv, Lo, eF, eS, eF', eS', hlv, tr⟩ := draw_trace hd
  rw [Nat.zero_add, Array.length_toList] at eF' eS'
  have t : Text (Q.at ch) f all mk F S M lv Lo := ⟨tr, hap, by rw [eS]; exact p.fresh⟩
  have hsee : ∀ n o, hidden mk n = false → (S 0).heap.get n = some o → s2.heap.get n = some o := by rw [eS]; exact p.sees.get
  have hgo := ((lvl_loc Q n).draw f all _ mk [] 0 all.toList fr ch s fr2 s2' hd).1
  refine wpIn_region_any hm ?_
  refine draw_any (G := G) (B := B) (s2 := s2) (a := a) (w := w) t ro (fun k hk => hc _ ?_) hi hsee K ?_ all.size _ a _ (F 0) s2.heap G B ?_ ?_
  · have := hlv k all[k] (by simp)
    rwa [Nat.zero_add] at this
  · intro listed a' w' fr' h G' B' hall m
    obtain ⟨c1, c2, c3, c4⟩ := m.cur.fin hall
    refine hK a' w' ⟨ch, fr2, s2', ⟨h, s2'.next, s2'.minw, s2'.ci⟩, G', B', .refl _ _, hi, h0', hgo, ⟨rfl, rfl, rfl, ?_, ?_⟩, m.wr, ?_, ?_, ?_, m.defers⟩
    · intro n hn
      show h.get n = _
      rw [c4, ← eS']
      exact (t.same hsee n).1 (by rw [eS, eS']; exact hn)
    · intro n hn
      show h.get n = _
      rw [c4]
      exact (t.same hsee n).2 (by rw [eS, eS']; exact hn)
    · have := m.ext; rw [eS, eS', eF] at this; exact this
    · refine m.fx.congr ?_ ?_ ?_
      · rw [← eF', c1]; exact t.size_eq (Nat.le_refl _)
      · intro d; rw [← eF', c2]
      · intro u; rw [← eF']; exact c3 u
    · intro b hb
      rw [← eF] 
      refine m.boxes b (LB.congr (fun u => ?_) hb)
      rw [← eF']; exact (c3 u).symm
  · simp [undone, List.countP_replicate]
  · refine ⟨by simp, ?_, ?_, p.wr.of_heap rfl, (Ext.of_heap (w := w) (w' := { w with drawn := w.drawn + 1 }) rfl ⟨rfl, rfl⟩).toL _, ?_, fun b h => .inl h, ⟨[], rfl, .nil _ _⟩, ?_⟩
    · intro j o hj
      simp [Array.getD_eq_getD_getElem?, Array.getElem?_replicate] at hj
      split at hj <;> simp at hj
    · refine Cur.start fun k hk => ?_
      simp [Array.getD_eq_getD_getElem?, Array.getElem?_replicate] at hk
      split at hk <;> simp at hk
    · rw [eF]
      exact ⟨fx.size, fx.env, ⟨fx.locs.cells, fx.locs.free, fx.locs.ro, fx.locs.inj⟩⟩
    · intro k hk _ q h1 h2
      have l1 := t.mono (Nat.zero_le k) (Nat.le_of_lt hk)
      have l2 := t.mono (show k + 1 ≤ all.size by omega) (Nat.le_refl _)
      rw [eS] at l1
      rw [eS'] at l2
      exact p.free q (by omega) (hA q (by omega) (by omega))
end Go.Ag
/- Soundness: code, calls, all levels. -/
namespace Go.Ag

/-- what the evaluator takes of a program -/
structure Good (Q : Prog) : Prop where
  mixed : Q.P.follows .mixedOrders = true
  spec : SpecHolds Q
  specH : SpecHHolds Q
  names : ∀ (f : Nat) (fn : Func), Q.P.funcs[f]? = some fn → (fn.name == "runtime.NumGoroutine") = false

section code
variable {Q : Prog} {n : Nat}

noncomputable def seqE (Q : Prog) (n : Nat) (f : FuncId) (y : Code) (mk : Mask) (x : Ex) (fr : Fr) (s : St) (c : Nat → Nat) : Option (Ex × Fr × St) := seqS (lvl (Q.at c) n) f y mk (x, fr, s)

theorem seq_core (hn : CodeSound Q n) (ro : Option Nat) {f : FuncId} {x y : Code} {mk : Mask} {fr : Fr} {ch : Nat → Nat} {A : Nat → Prop} {G : Gh} {B : Nat → Nat} {s s2 : St} {a : Act} {w : World}
    (hf : ro ≠ none → flat' x = true) (p : Pre mk A G s s2 w) (fx : FrR G s2.heap B fr a.tmps w) (hi : Inb Q ch) (hs : Safe Q A ch s (fun c => (codeE Q n f x mk fr s c).bind fun r => seqE Q n f y mk r.1 r.2.1 r.2.2 c))
    (K : Exit → Act → World → Prop) (KY : Act → World → Prop)
    (hK : ∀ e a' w', Post Q mk ch fr G B s s2 a w (fun c => (codeE Q n f x mk fr s c).bind fun r => seqE Q n f y mk r.1 r.2.1 r.2.2 c) e a' w' → K e.to a' w')
    (hY : ∀ a1 w1 ch1 fr1 s1 s21 G1 B1, Pre mk A G1 s1 s21 w1 → FrR G1 s21.heap B1 fr1 a1.tmps w1 → Inb Q ch1 → Safe Q A ch1 s1 (codeE Q n f y mk fr1 s1) →
      (∀ e a' w', Post Q mk ch1 fr1 G1 B1 s1 s21 a1 w1 (codeE Q n f y mk fr1 s1) e a' w' → K e.to a' w') → KY a1 w1) : x.wpIn (fen ro) 0 Q.P (Exit.then KY K) a w := by
  have hown := code_own Q n f x mk fr s
  refine (hn ro f x mk fr ch A G B s s2 a w hf p fx hi (hs.first ?_) _ ?_).1
  · intro e fr' s' c e2 fr'' s'' h
    unfold seqE at h
    cases e with
    | normal => exact (code_goes (n := n) h).next
    | exit id => simp only [seqS, Option.some.injEq, Prod.mk.injEq] at h; obtain ⟨_, _, rfl⟩ := h; exact Nat.le_refl _
    | ret => simp only [seqS, Option.some.injEq, Prod.mk.injEq] at h; obtain ⟨_, _, rfl⟩ := h; exact Nat.le_refl _
  · rintro e a1 w1 ⟨c1, fr1, s1, s21, G1, B1, h1, h2, h3, h4⟩
    cases e with
    | normal =>
      refine hY a1 w1 c1 fr1 s1 s21 G1 B1 (p.after h4) h4.fx h2 ?_ ?_
      · exact hs.second hown h1 h3 h4.goes.ci h4.goes.next
      · intro e a' w' pp
        exact hK e a' w' (Post.second (E2 := fun x fr s c => seqE Q n f y mk x fr s c) hown h1 h3 h4 pp)
    | exit id =>
      refine hK (.exit id) a1 w1 ⟨c1, fr1, s1, s21, G1, B1, h1, h2, ?_, h4⟩
      simp only [h3, Option.bind_some]; rfl
    | ret =>
      refine hK .ret a1 w1 ⟨c1, fr1, s1, s21, G1, B1, h1, h2, ?_, h4⟩
      simp only [h3, Option.bind_some]; rfl

theorem code_sound (hgd : Good Q) (hn : CodeSound Q n) (ho : OpsSound Q n) (hcall : CallSound Q n) (hc : ∀ k, k < n → CallSound Q k ∧ CodeSound Q k) : CodeSound Q (n + 1) := by
  intro ro f c mk fr ch A G B s s2 a w hfl p fx hi hs K hK
  cases c with
  | skip => exact ⟨wpIn_skip (hK .normal a w ⟨ch, fr, s, s2, G, B, .refl _ _, hi, rfl, .refl p fx⟩), by simp⟩
  | label l => exact ⟨wpIn_label (hK .normal a w ⟨ch, fr, s, s2, G, B, .refl _ _, hi, rfl, .refl p fx⟩), by simp⟩
  | ret => exact ⟨wpIn_ret (hK .ret a w ⟨ch, fr, s, s2, G, B, .refl _ _, hi, rfl, .refl p fx⟩), by simp⟩
  | exit id => exact ⟨wpIn_exit (hK (.exit id) a w ⟨ch, fr, s, s2, G, B, .refl _ _, hi, rfl, .refl p fx⟩), by simp⟩
  | seq x y =>
    have hfl : ro ≠ none → flat' x = true ∧ flat' y = true := fun h => by simpa [flat'] using hfl h
    refine ⟨wpIn_seq (seq_core hn ro (fun h => (hfl h).1) p fx hi hs K _ hK ?_), by simp⟩
    intro a1 w1 ch1 fr1 s1 s21 G1 B1 p1 fx1 hi1 hs1 hK1
    exact (hn ro f y mk fr1 ch1 A G1 B1 s1 s21 a1 w1 (fun h => (hfl h).2) p1 fx1 hi1 hs1 K hK1).1
  | cond x y z =>
    refine ⟨?_, by simp⟩
    obtain ⟨e0, fr0, s0, h0, _⟩ := hs ch (.refl _ _) hi
    have h0 : (ev fr.env x).bind (condS (lvl (Q.at ch) n) f y z mk fr s) = some (e0, fr0, s0) := h0
    simp only [Option.bind_eq_some_iff] at h0
    obtain ⟨v, hv, h0⟩ := h0
    have hl := fx.ev hv
    cases v <;> try (cases h0; done)
    rename_i b
    have hl : VR G (.bool b) (a.eval x) := hl
    have hx : a.eval x = .bool b := by
      generalize a.eval x = u at hl
      cases hl; rfl
    have hev : ∀ c, codeE Q (n + 1) f (.cond x y z) mk fr s c = codeE Q n f (if b then y else z) mk fr s c := by
      intro c
      show (ev fr.env x).bind (condS (lvl (Q.at c) n) f y z mk fr s) = _
      rw [hv]; cases b <;> rfl
    have hfl : ro ≠ none → flat' (if b then y else z) = true := fun h => by
      have : flat' y = true ∧ flat' z = true := by simpa [flat'] using hfl h
      cases b
      · exact this.2
      · exact this.1
    refine wpIn_cond hx (hn ro f _ mk fr ch A G B s s2 a w hfl p fx hi ?_ K ?_).1
    · intro c h1 h2; have := hs c h1 h2; rw [hev] at this; exact this
    · rintro e a' w' ⟨c, fr', s', s2', G', B', h1, h2, h3, h4⟩
      exact hK e a' w' ⟨c, fr', s', s2', G', B', h1, h2, by rw [hev]; exact h3, h4⟩
  | block id b =>
    refine ⟨wpIn_block ?_, by simp⟩
    have hev : ∀ c, codeE Q (n + 1) f (.block id b) mk fr s c = (codeE Q n f b mk fr s c).bind fun x => some (blockS id x) := fun _ => rfl
    refine (hn ro f b mk fr ch A G B s s2 a w (fun h => by simpa [flat'] using hfl h) p fx hi ?_ _ ?_).1
    · intro c h1 h2
      obtain ⟨e, fr', s', h3, h4⟩ := hs c h1 h2
      rw [hev] at h3
      simp only [Option.bind_eq_some_iff] at h3
      obtain ⟨⟨e1, fr1, s1⟩, h5, h6⟩ := h3
      refine ⟨e1, fr1, s1, h5, ?_⟩
      have : s1 = s' := by
        cases e1 <;> simp only [blockS, Option.some.injEq, Prod.mk.injEq] at h6
        · exact h6.2.2
        · rename_i i
          cases hb : Nat.beq i id <;> rw [hb] at h6 <;> simp at h6 <;> exact h6.2.2
        · exact h6.2.2
      subst this; exact h4
    · rintro e a' w' ⟨c, fr', s', s2', G', B', h1, h2, h3, h4⟩
      have hpost : ∀ e', blockS id (e, fr', s') = (e', fr', s') → K e'.to a' w' := fun e' he =>
        hK e' a' w' ⟨c, fr', s', s2', G', B', h1, h2, by rw [hev, h3, Option.bind_some, he], h4⟩
      cases e with
      | normal => exact hpost .normal rfl
      | ret => exact hpost .ret rfl
      | exit i =>
        show (if i = id then K .normal a' w' else K (.exit i) a' w')
        by_cases e : i = id
        · rw [if_pos e]
          refine hpost .normal ?_
          subst e; simp [blockS]
        · rw [if_neg e]
          refine hpost (.exit i) ?_
          have : Nat.beq i id = false := by
            cases h : Nat.beq i id with
            | false => rfl
            | true => exact absurd (beq_eq h) e
          simp [blockS, this]
  | scope b =>
    have hro : ro = none := by
      cases ro with
      | none => rfl
      | some l => exact absurd (hfl (by simp)) (by simp [flat'])
    subst hro
    refine ⟨(wpIn_wide (n := 0)).2 (wp_scope_straight ((wpIn_wide (n := 0)).1 ?_)), by simp⟩
    refine (hn none f b mk fr ch A G B s s2 a w (fun h => absurd rfl h) p fx hi hs _ ?_).1
    intro e a' w' h
    have := hK e a' w' h
    cases e <;> exact this
  | loop b =>
    have hfb : ro ≠ none → flat' b = true := fun h => by simpa [flat'] using hfl h
    have hrounds : Code.roundsIn (fen ro) 0 Q.P b K (n + 1) a w := by
      rw [roundsIn_succ]
      refine seq_core (y := .loop b) hn ro hfb p fx hi hs K _ hK ?_
      intro a1 w1 ch1 fr1 s1 s21 G1 B1 p1 fx1 hi1 hs1 hK1
      exact (hn ro f (.loop b) mk fr1 ch1 A G1 B1 s1 s21 a1 w1 hfl p1 fx1 hi1 hs1 K hK1).2 b rfl
    refine ⟨wpIn_loop_rounds _ hrounds, ?_⟩
    intro b' hb; injection hb with hb; subst hb; exact hrounds
  | region id ops draw =>
    refine ⟨?_, by simp⟩
    cases draw with
    | false =>
      refine wpIn_region ?_
      have := ho ro f ops mk ops.toList 0 fr ch A G B s s2 a w p fx hi (fun k o hk => by rw [Nat.zero_add]; simpa using hk) hs K (fun a' w' h => hK .normal a' w' h)
      rw [Array.length_toList, ← List.range_eq_range'] at this
      exact this
    | true =>
      have hev : ∀ c, codeE Q (n + 1) f (.region id ops true) mk fr s c = (bif apartAll ops 0 ops.toList (Region.before ops).toList then (lvl (Q.at c) n).draw f ops (Region.before ops).toList mk [] 0 ops.toList fr s else none).bind fun x => some (.normal, x.1, x.2) := fun _ => rfl
      cases hap : apartAll ops 0 ops.toList (Region.before ops).toList with
      | false =>
        obtain ⟨e0, fr0, s0, h0, _⟩ := hs ch (.refl _ _) hi
        rw [hev, hap] at h0
        cases h0
      | true =>
        simp only [hap, cond_true] at hev
        refine draw_sound hgd.mixed ro hc p fx hi hap ?_ K ?_ (n := n) (f := f)
        · intro c h1 h2; have := hs c h1 h2; rw [hev] at this; exact this
        · rintro a' w' ⟨c, fr', s', s2', G', B', h1, h2, h3, h4⟩
          exact hK .normal a' w' ⟨c, fr', s', s2', G', B', h1, h2, by rw [hev]; exact h3, h4⟩
  | rangeFunc g ps ca cb =>
    refine ⟨?_, by simp⟩
    have hro : ro = none := by
      cases ro with
      | none => rfl
      | some l => exact absurd (hfl (by simp)) (by simp [flat'])
    subst hro
    obtain ⟨e0, fr0, s0, h0, hA0⟩ := hs ch (.refl _ _) hi
    have hev0 : ∀ c, codeE Q (n + 1) f (.rangeFunc g ps ca cb) mk fr s c = (ev fr.env g).bind (rangeS (Q.at c) (lvl (Q.at c) n) f ps.toList ca cb mk fr s) := fun _ => rfl
    rw [hev0] at h0
    simp only [Option.bind_eq_some_iff] at h0
    obtain ⟨gv, hg, h0⟩ := h0
    unfold rangeS at h0
    split at h0
    case h_2 => cases h0
    rename_i h first captured
    obtain ⟨hb, h0⟩ := bif_none h0
    have hb' := hb
    simp only [Bool.and_eq_true] at hb
    obtain ⟨hbody, hnoref, hfa, hfb⟩ := hb
    have hgl := fx.ev hg
    have hgl : VR G (.func (.func h) first captured) (a.eval g) := hgl
    generalize hgx : a.eval g = gx at hgl
    cases hgl with
    | func hfst hcap =>
    rename_i fs cs
    have hev : ∀ c, codeE Q (n + 1) f (.rangeFunc g ps ca cb) mk fr s c = ((lvl (Q.at c) n).call h (first ++ (.yld s.next :: captured)) mk (s.new (.loop f fr.env fr.size ps.toList ca cb none))).bind fun x => rangeEnd mk s.next fr x.2 := by
      intro c
      have hb' : (hasBody (Q.at c).P h && (fr.env.all noRef && (flat' ca && flat' cb))) = true := hb'
      rw [hev0, hg]
      simp only [Option.bind_some, rangeS, hb', cond_true]
    have hend : ∀ c x fr' s', codeE Q (n + 1) f (.rangeFunc g ps ca cb) mk fr s c = some (x, fr', s') → ∃ v s1 o, (lvl (Q.at c) n).call h (first ++ (.yld s.next :: captured)) mk (s.new (.loop f fr.env fr.size ps.toList ca cb none)) = some (v, s1) ∧
        s1.get mk s.next = some o ∧ (∃ f' env' size' ps' a' b' pe, o = .loop f' env' size' ps' a' b' pe ∧ x = pendEx pe) ∧ fr' = fr ∧ s' = s1.put s.next none := by
      intro c x fr' s' h1
      rw [hev] at h1
      simp only [Option.bind_eq_some_iff] at h1
      obtain ⟨⟨v, s1⟩, h2, h3⟩ := h1
      simp only [rangeEnd, Option.bind_eq_some_iff] at h3
      obtain ⟨o, h4, h5⟩ := h3
      cases o with
      | loop f' env' size' ps' a' b' pe =>
        simp only [Option.some.injEq, Prod.mk.injEq] at h5
        obtain ⟨rfl, rfl, rfl⟩ := h5
        exact ⟨v, s1, _, h2, h4, ⟨f', env', size', ps', a', b', pe, rfl, rfl⟩, rfl, rfl⟩
      | cells _ => cases h5
      | tok => cases h5
      | map _ _ => cases h5
      | iter _ _ _ _ => cases h5
    have hnx : ∀ c v s1, (lvl (Q.at c) n).call h (first ++ (.yld s.next :: captured)) mk (s.new (.loop f fr.env fr.size ps.toList ca cb none)) = some (v, s1) → s.next + 1 ≤ s1.next := fun c v s1 h1 =>
      ((lvl_loc Q n).call h _ mk c _ v s1 h1).1.next
    obtain ⟨e1, fr1, s1, h1, hA1⟩ := hs ch (.refl _ _) hi
    have hAn : A s.next := by
      obtain ⟨v, s1', o, q1, _, _, _, q5⟩ := hend _ _ _ _ h1
      refine hA1 _ (Nat.le_refl _) ?_
      have := hnx _ _ _ q1
      rw [q5]; exact this
    have hfree : G.at_ s.next = none := p.free _ (Nat.le_refl _) hAn
    -- the record
    refine wpIn_rangeFunc ?_
    intro fn _
    obtain ⟨rec, hrec⟩ : ∃ rec : Loop, rec = { state := .ready, pending := none, fn, tmps := a.tmps, params := ps, assign := ca, body := cb, defers := w.heap.size } := ⟨_, rfl⟩
    have r1 : (Instr.enterLoop fn a.tmps ps ca cb (fen none).round).run Q.P w = .ok (w.heap.size + 1, [mark w.heap.size]) ((w.alloc (.deferred (some []))).alloc (.loop rec)) := by
      rw [hrec]; exact run_enterLoop_outer fn a.tmps ps ca cb
    obtain ⟨wrA, xA⟩ := p.wr.fresh (.deferred (some [])) trivial
    obtain ⟨wrB, xB⟩ := wrA.fresh (.loop rec) trivial
    obtain ⟨w1, hw1⟩ : ∃ w1, (w.alloc (.deferred (some []))).alloc (.loop rec) = w1 := ⟨_, rfl⟩
    rw [hw1] at r1 wrB xB
    have hsA : (w.alloc (.deferred (some []))).heap.size = w.heap.size + 1 := by simp
    have hs1 : w1.heap.size = w.heap.size + 2 := by rw [← hw1]; simp
    have hl1 : w1.heap[w.heap.size + 1]? = some (.loop rec) := by rw [← hw1, alloc_get, if_pos hsA.symm]
    have hd1 : w1.heap[w.heap.size]? = some (.deferred (some [])) := by rw [← hw1, alloc_get, if_neg (by omega), alloc_get, if_pos rfl]
    have hno1 : ¬ Owns G s2.heap (w.heap.size + 1) := fun o => by have := p.wr.owned_lt o; omega
    have x1 : Ext G s2.heap w G s2.heap w1 s.next s.next := (xA s.next s.next).trans (xB s.next s.next) (Nat.le_refl _) (Nat.le_refl _)
    have hLR : LoopR G rec fr.env fr.size ps.toList ca cb none := by
      subst hrec
      refine ⟨rfl, rfl, fx.size, fun t => ?_, rfl, rfl, rfl, hfa, hfb⟩
      have := fx.env t
      have hnr : noRef (nth fr.env t) = true := by
        unfold nth
        cases hgt : fr.env.get t with
        | none => rfl
        | some v => exact Trie.all_get hnoref hgt
      cases hv : nth fr.env t <;> rw [hv] at this hnr <;> first | exact this | cases hnr
    have wr2 := wrB.named (n := s.next) (a := ⟨w.heap.size + 1, 0, none⟩) (o := .loop f fr.env fr.size ps.toList ca cb none) hfree (by rw [hs1]; show w.heap.size + 1 < _; omega) rfl hno1 ⟨rec, hl1, hLR⟩ (fun i v hv => by
      rw [wrB.aside_ro hl1 trivial] at hv; cases hv)
    have hle := G.name_le (⟨w.heap.size + 1, 0, none⟩ : Addr) hfree
    have hat : (G.name s.next ⟨w.heap.size + 1, 0, none⟩).at_ s.next = some ⟨w.heap.size + 1, 0, none⟩ := by simp [Gh.name]
    have wr2 : WR (G.name s.next ⟨w.heap.size + 1, 0, none⟩) (s2.new (.loop f fr.env fr.size ps.toList ca cb none)).heap w1 := by
      show WR _ (s2.heap.set s2.next _) _
      rw [p.sees.next]; exact wr2
    have g0 := Goes.new mk s (.loop f fr.env fr.size ps.toList ca cb none)
    have sm0 := Same.new p.sees (.loop f fr.env fr.size ps.toList ca cb none)
    have p2 : Pre mk A (G.name s.next ⟨w.heap.size + 1, 0, none⟩) (s.new (.loop f fr.env fr.size ps.toList ca cb none)) (s2.new (.loop f fr.env fr.size ps.toList ca cb none)) w1 :=
      ⟨p.fresh.goes g0, sm0.sees p.sees g0, wr2, fun q hq hAq => by
        have hq : s.next + 1 ≤ q := hq
        show (if q = s.next then _ else G.at_ q) = none
        rw [if_neg (by omega)]; exact p.free q (by omega) hAq⟩
    have hargs : VRs (G.name s.next ⟨w.heap.size + 1, 0, none⟩) (first ++ (.yld s.next :: captured)) (fs ++ (.func (.yield (w.heap.size + 1)) #[] #[] :: cs)) :=
      (hfst.mono hle).append (.cons (.yld hat) (hcap.mono hle))
    have hcl := hcall h _ mk _ _ _ w1 _ ch A p2 hargs hi (fun ch' ha hb => by
      obtain ⟨x, fr', s', q1, q2⟩ := hs ch' ha hb
      obtain ⟨v, s1', o, q3, _, _, _, q5⟩ := hend _ _ _ _ q1
      refine ⟨v, s1', q3, fun q hq hq' => q2 q ?_ ?_⟩
      · have hq : s.next + 1 ≤ q := hq
        omega
      · rw [q5]; exact hq')
    have hent : (callFunc h ⟨fs ++ (.func (.yield (w.heap.size + 1)) #[] #[] :: cs)⟩).run Q.P w1 = .ok (.enter h ⟨fs ++ (.func (.yield (w.heap.size + 1)) #[] #[] :: cs)⟩) w1 := by
      unfold hasBody at hbody
      cases hfn : (Q.at ch).P.funcs[h]? with
      | none => rw [hfn] at hbody; cases hbody
      | some fnn =>
        rw [hfn] at hbody
        have hfn : Q.P.funcs[h]? = some fnn := hfn
        have hbody : fnn.body.isSome = true := hbody
        cases hbb : fnn.body with
        | none => rw [hbb] at hbody; cases hbody
        | some bb =>
          have hnm := hgd.names h fnn hfn
          have hnm' : ¬ fnn.name = "runtime.NumGoroutine" := by simpa using hnm
          simp [callFunc, go_sem, hfn, hbb, hnm']
    have hcalls : Calls Q.P h ⟨fs ++ (.func (.yield (w.heap.size + 1)) #[] #[] :: cs)⟩ w1 (fun e w' => ∃ y, e = .returned y ∧ ∃ ch' v s' s2' G', CallPost Q n h (first ++ (.yld s.next :: captured)) mk ch (G.name s.next ⟨w.heap.size + 1, 0, none⟩) (s.new (.loop f fr.env fr.size ps.toList ca cb none)) (s2.new (.loop f fr.env fr.size ps.toList ca cb none)) w1 y w' ch' v s' s2' G') := by
      rcases hcl with ⟨y, w', h1, _⟩ | ⟨_, h2⟩
      · rw [hent] at h1; cases h1
      · exact h2
    have eargs : (⟨fs⟩ : Array Value) ++ #[.func (.yield (w.heap.size + 1)) #[] #[]] ++ (⟨cs⟩ : Array Value) = ⟨fs ++ (.func (.yield (w.heap.size + 1)) #[] #[] :: cs)⟩ := by
      apply Array.ext'; simp
    refine ⟨w.heap.size + 1, [mark w.heap.size], w1, { target := .fn (.func h) ⟨cs⟩, args := ⟨fs⟩ ++ #[.func (.yield (w.heap.size + 1)) #[] #[]] }, w1, h, ⟨fs ++ (.func (.yield (w.heap.size + 1)) #[] #[] :: cs)⟩, w1, r1, ?_, fun f' _ => fen_fn none f', ?_, fen_n none 0, ?_⟩
    · simp [resolve, Act.eval, Deferred.ofValue] at hgx ⊢
      simp [hgx]
    · simp only [invoke, eargs]; exact hent
    refine fen_calls.2 (hcalls.mono ?_)
    rintro e w3 ⟨y, rfl, ch', v, s', s2', G', c⟩
    have hags : Agree s.ci ch ch' := c.agree
    obtain ⟨xx, frx, sx, hx, hAx⟩ := hs ch' hags c.inb
    obtain ⟨v', s1', o, q3, q4, ⟨f', env', size', ps', a', b', pe, rfl, rfl⟩, efr, rfl⟩ := hend _ _ _ _ hx
    replace efr := efr.symm
    subst efr
    have hce := c.eval
    rw [q3] at hce
    simp only [Option.some.injEq, Prod.mk.injEq] at hce
    obtain ⟨rfl, rfl⟩ := hce
    have gC := ((lvl_loc Q n).call h _ mk ch' _ v' s1' q3).1
    have y2 := c.same.sees (sm0.sees p.sees g0) gC
    have q4' := y2.look q4
    have hat' : G'.at_ s.next = some ⟨w.heap.size + 1, 0, none⟩ := c.ext.le.at_ _ _ hat
    obtain ⟨ad, ha1, _, rec', hr1, hLR'⟩ := c.wr.obj s.next _ (get_vis q4').2
    rw [hat'] at ha1; injection ha1 with ha1; subst ha1
    have hr1 : w3.heap[w.heap.size + 1]? = some (.loop rec') := hr1
    have hst : rec'.state ≠ .busy := by rw [hLR'.state]; cases pe <;> simp
    have hkill : ¬ Owns G' (s2'.put s.next none).heap (w.heap.size + 1) := not_owns_killed c.wr (by rw [(get_vis q4').2]; simp) hat'
    have hwr4 : WR G' (s2'.put s.next none).heap (putBlock w3 (w.heap.size + 1) (.loop { rec' with state := .exhausted })) := (c.wr.killed s.next).aside hr1 trivial hkill
    have hdk : w3.heap[w.heap.size]? = some (.deferred (some [])) := by
      refine (c.ext.keep _ (by omega) ?_).trans hd1
      exact wr2.not_deferred hd1
    have hxt : ExtL G s2.heap w G' (s2'.put s.next none).heap (putBlock w3 (w.heap.size + 1) (.loop { rec' with state := .exhausted })) s.next s1'.next (LB B fr.loc) := by
      have hC := c.ext
      refine ExtL.aside (o := .loop rec') ?_ hr1 trivial trivial (fun h => by omega)
      refine ⟨hle.trans hC.le, Nat.le_trans x1.size hC.size, ?_, ?_, ?_, ?_, x1.quiet.trans hC.quiet⟩
      · intro b hb ho _
        refine (hC.keep b (by omega) ?_).trans (x1.keep b hb ho)
        rintro ⟨m, ad, t1, t2, t3⟩
        have t1 : (s2.heap.set s2.next _).get m ≠ none := t1
        rw [Trie.get_set, p.sees.next] at t1
        have t2 : (if m = s.next then some ⟨w.heap.size + 1, 0, none⟩ else G.at_ m) = some ad := t2
        by_cases e : m = s.next
        · rw [if_pos e] at t2; injection t2 with t2; subst t2
          have t3 : w.heap.size + 1 = b := t3
          omega
        · rw [if_neg e] at t1 t2; exact ho ⟨m, ad, t1, t2, t3⟩
      · intro b hb ho
        have ho := hC.owns b (by omega) (owns_killed ho)
        obtain ⟨m, ad, t1, t2, t3⟩ := ho
        have t1 : (s2.heap.set s2.next _).get m ≠ none := t1
        rw [Trie.get_set, p.sees.next] at t1
        have t2 : (if m = s.next then some ⟨w.heap.size + 1, 0, none⟩ else G.at_ m) = some ad := t2
        by_cases e : m = s.next
        · rw [if_pos e] at t2; injection t2 with t2; subst t2
          have t3 : w.heap.size + 1 = b := t3
          omega
        · rw [if_neg e] at t1 t2; exact ⟨m, ad, t1, t2, t3⟩
      · intro m ad hm h0
        by_cases e : m = s.next
        · subst e
          exact ⟨Nat.le_refl _, Nat.lt_of_lt_of_le (Nat.lt_succ_self _) gC.next⟩
        · have h0' : (G.name s.next ⟨w.heap.size + 1, 0, none⟩).at_ m = none := by
            show (if m = s.next then _ else G.at_ m) = none
            rw [if_neg e]; exact h0
          have := hC.names m ad hm h0'
          have hq : s.next + 1 ≤ m := this.1
          exact ⟨by omega, this.2⟩
      · intro b o v hb hv h0
        have ho := hC.cells b o v (by omega) hv h0
        obtain ⟨m, ad, t1, t2, t3⟩ := ho
        have t1 : (s2.heap.set s2.next _).get m ≠ none := t1
        rw [Trie.get_set, p.sees.next] at t1
        have t2 : (if m = s.next then some ⟨w.heap.size + 1, 0, none⟩ else G.at_ m) = some ad := t2
        by_cases e : m = s.next
        · rw [if_pos e] at t2; injection t2 with t2; subst t2
          have t3 : w.heap.size + 1 = b := t3
          omega
        · rw [if_neg e] at t1 t2; exact ⟨m, ad, t1, t2, t3⟩
    have hfx4 : FrR G' (s2'.put s.next none).heap B fr a.tmps (putBlock w3 (w.heap.size + 1) (.loop { rec' with state := .exhausted })) := by
      have e1 : LocsR (G.name s.next ⟨w.heap.size + 1, 0, none⟩) (s2.new (.loop f fr.env fr.size ps.toList ca cb none)).heap B fr.loc w1 := by
        have := fx.locs.ext x1
        refine ⟨fun t cs ht => ?_, fun t cs ht ho => ?_, this.ro, this.inj⟩
        · obtain ⟨C, e, u1, u2⟩ := this.cells t cs ht
          exact ⟨C, e, u1, fun i v hi => let ⟨v1, z, v2, v3⟩ := u2 i v hi; ⟨v1, z, v2, v3.mono hle⟩⟩
        · obtain ⟨m, ad, t1, t2, t3⟩ := ho
          have t1 : (s2.heap.set s2.next _).get m ≠ none := t1
          rw [Trie.get_set, p.sees.next] at t1
          have t2 : (if m = s.next then some ⟨w.heap.size + 1, 0, none⟩ else G.at_ m) = some ad := t2
          by_cases e : m = s.next
          · rw [if_pos e] at t2; injection t2 with t2; subst t2
            obtain ⟨C, ty, u1, _⟩ := fx.locs.cells t cs ht
            have t3 : w.heap.size + 1 = B t := t3
            have := lt_of_get u1
            omega
          · rw [if_neg e] at t1 t2; exact fx.locs.free t cs ht ⟨m, ad, t1, t2, t3⟩
      have e2 := e1.ext c.ext
      have e3 : LocsR G' (s2'.put s.next none).heap B fr.loc w3 := ⟨e2.cells, fun t cs ht ho => e2.free t cs ht (owns_killed ho), e2.ro, e2.inj⟩
      exact ⟨fx.size, fun t => (fx.env t).mono (hle.trans c.ext.le), e3.aside hr1 trivial⟩
    have gP := Goes.put q4 (mk := mk) none
    have hpost : Post Q mk ch fr G B s s2 a w (codeE Q (n + 1) f (.rangeFunc g ps ca cb) mk fr s) (pendEx pe) { a with defers := [mark w.heap.size] ++ a.defers } (putBlock w3 (w.heap.size + 1) (.loop { rec' with state := .exhausted })) := by
      refine ⟨ch', fr, s1'.put s.next none, s2'.put s.next none, G', B, hags, c.inb, hx, ⟨(g0.trans gC).trans gP, (sm0.trans g0 gC c.same).trans (g0.trans gC) gP (.put y2 q4 none), hwr4, hxt, hfx4, fun b h => .inl h, [w.heap.size], rfl, by simp, ?_⟩⟩
      intro r hr
      simp only [List.mem_singleton] at hr
      subst hr
      refine ⟨Nat.le_refl _, ?_⟩
      rw [putBlock_get _ _ _ _ (lt_of_get hr1), if_neg (by omega)]; exact hdk
    refine ⟨_, _, run_endLoop hr1 hst, ?_⟩
    have := hK _ _ _ hpost
    rw [putObj_eq]
    rw [hLR'.pending] at this ⊢
    cases pe with
    | none => exact this
    | some x =>
      cases x with
      | normal => exact wpIn_skip this
      | exit id => exact wpIn_exit this
      | ret => exact wpIn_ret this
  | _ =>
    obtain ⟨e0, fr0, s0, h0, _⟩ := hs ch (.refl _ _) hi
    cases h0
end code

section results
variable {P : Program} {mk : Mask} {G : Gh} {B : Nat → Nat} {fr : Fr} {s : St} {tmps : Array Value} {w : World}

theorem load_run {t : TypeId} {u v : AVal} {x : Value} (wr : WR G s.heap w) (fl : LocsR G s.heap B fr.loc w) (hl : LV G fr.loc B u x) (he : loadA P mk t u fr.loc s = some v) :
    ∃ ad y, x = .pointer (some ad) ∧ (loadVar t ad).run P w = .ok y w ∧ VR G v y := by
  unfold loadA at he
  split at he
  · rename_i t' g off
    simp only [Option.bind_eq_some_iff] at he
    obtain ⟨cs, hcs, he⟩ := he
    obtain ⟨h1, _, h2⟩ := hl
    have hg := loc_gen hcs
    replace h2 := h2 hg
    subst hg
    obtain ⟨C, e, hb, hc⟩ := fl.cells t' cs hcs
    obtain ⟨y, hy, hv, ht⟩ := run_readCells (w := w) (b := B t') (base := 0) he (fun i u hi => by
      obtain ⟨hs, z, hz, hr⟩ := hc i u hi
      exact ⟨hs, z, by rw [cell_of hb]; simpa using hz, hr⟩)
    simp only [Nat.zero_add] at hy
    exact ⟨_, y, h2, hy, hv⟩
  · rename_i n off
    simp only [Option.bind_eq_some_iff] at he
    obtain ⟨ob, hob, he⟩ := he
    split at he
    · rename_i cs
      have hl : VR G _ _ := hl
      cases hl
      rename_i ad hn
      obtain ⟨ad', hn', hsp, C, e, hb, _, hc⟩ := wr.obj n _ (get_some hob)
      rw [hn] at hn'; injection hn' with hn'; subst hn'
      obtain ⟨y, hy, hv, ht⟩ := run_readCells (w := w) (b := ad.block) (base := ad.off) he (fun i u hi => by
        obtain ⟨hs, z, hz, hr⟩ := hc i u hi
        exact ⟨hs, z, by rw [cell_of hb]; exact hz, hr⟩)
      exact ⟨_, y, rfl, hy, hv⟩
    · cases he
  · rename_i cs
    have hl : VR G _ _ := hl
    cases hl
    rename_i b base hro
    obtain ⟨y, hy, hv, ht⟩ := run_readCells (w := w) (b := b) (base := base) he (fun i u hi => wr.ro _ _ _ (hro i u hi))
    simp only [Nat.add_zero] at hy
    exact ⟨_, y, rfl, hy, hv⟩
  · cases he

def readResult (tmps : Array Value) : ResultVar → Sem Value
  | .tmp t => pure (tmps.getD t undef)
  | .cell a t => do loadVar t (← asAddr (tmps.getD a undef))

theorem results_list {Q : Prog} (wr : WR G s.heap w) (fx : FrR G s.heap B fr tmps w) : ∀ {l : List ResultVar} {vs : List AVal}, resultsA Q mk fr s l = some vs →
    ∃ ys, (l.mapM (readResult tmps)).run Q.P w = .ok ys w ∧ VRs G vs ys
  | [], _, h => by
    simp only [resultsA, Option.some.injEq] at h; subst h
    exact ⟨[], by simp [Sem.run_pure], .nil⟩
  | r :: l, _, h => by
    simp only [resultsA, Option.bind_eq_some_iff] at h
    obtain ⟨v, hv, vs, hvs, h⟩ := h
    obtain ⟨hcl, h⟩ := bif_none h
    injection h with h; subst h
    obtain ⟨ys, h1, h2⟩ := results_list wr fx hvs
    have : ∃ y, (readResult tmps r).run Q.P w = .ok y w ∧ VR G v y := by
      cases r with
      | tmp t =>
        have hx := FrR.evc (a := ⟨tmps, []⟩) fx hv
        exact ⟨_, rfl, hx.1⟩
      | cell a t =>
        obtain ⟨ad, y, e1, e2, e3⟩ := load_run wr fx.locs (fx.env a) hv
        exact ⟨y, by simp [readResult, e1, asAddr, e2], e3⟩
    obtain ⟨y, h3, h4⟩ := this
    refine ⟨y :: ys, ?_, .cons h4 h2⟩
    rw [List.mapM_cons]
    simp [h3, h1]

theorem results_run {Q : Prog} (wr : WR G s.heap w) (fx : FrR G s.heap B fr tmps w) {fn : Func} {vs : List AVal} (h : resultsA Q mk fr s fn.results.toList = some vs) :
    ∃ y, (results fn tmps).run Q.P w = .ok y w ∧ VR G (packA vs) y := by
  obtain ⟨ys, h1, h2⟩ := results_list wr fx h
  have hr : results fn tmps = (do let vs ← fn.results.mapM (readResult tmps); pure (if h : vs.size = 1 then vs[0] else .tuple vs)) := by
    unfold results
    congr 1
  rw [hr, Array.mapM_eq_mapM_toList]
  simp only [Sem.run_bind, Sem.run_map, h1, Result.andThen_ok, Sem.run_pure]
  cases h2 with
  | nil => exact ⟨.tuple ⟨[]⟩, by simp, .tup .nil⟩
  | cons a b =>
    rename_i v y vs' ys'
    cases b with
    | nil => exact ⟨y, by simp, a⟩
    | cons c d => exact ⟨.tuple ⟨_⟩, by simp, .tup (.cons a (.cons c d))⟩
end results

theorem ofArgs_get : ∀ (l : List AVal) (n t : Nat), (ofArgs n l).get t = if t < n then none else l[t - n]?
  | [], n, t => by
    simp only [ofArgs]
    have : (Trie.nil : Env).get t = none := rfl
    rw [this]; simp
  | v :: l, n, t => by
    rw [ofArgs, Trie.get_set, ofArgs_get l (n + 1) t]
    by_cases e : t = n
    · subst e; simp
    · rw [if_neg e]
      by_cases h : t < n
      · simp [h, Nat.lt_succ_of_lt h]
      · rw [if_neg h, if_neg (by omega), show t - n = (t - (n + 1)) + 1 by omega]
        simp

theorem entry_frame {G : Gh} {h : Trie AObj} {w : World} {args : List AVal} {xs : List Value} (hv : VRs G args xs) (nt : Nat) :
    FrR G h (fun _ => 0) ⟨ofArgs 0 args, bif Nat.ble args.length nt then nt else args.length, []⟩ ((⟨xs⟩ : Array Value) ++ Array.replicate (nt - (⟨xs⟩ : Array Value).size) undef) w where
  size := by
    have := hv.length
    simp only [Array.size_append, List.size_toArray, Array.size_replicate, nble]
    by_cases e : args.length ≤ nt
    · simp [e]; omega
    · simp [e]; omega
  env t := by
    have hlen := hv.length
    simp only [nth, ofArgs_get, Nat.not_lt_zero, if_false, Nat.sub_zero]
    cases e : args[t]? with
    | some v =>
      obtain ⟨x, hx, hr⟩ := hv.get e
      have hlt : t < xs.length := by
        rcases Nat.lt_or_ge t xs.length with h | h
        · exact h
        · rw [List.getElem?_eq_none h] at hx; cases hx
      have : ((⟨xs⟩ : Array Value) ++ Array.replicate (nt - (⟨xs⟩ : Array Value).size) undef).getD t undef = x := by
        rw [Array.getD_eq_getD_getElem?, Array.getElem?_append_left (by simpa using hlt)]
        simp [hx]
      rw [this]
      exact LV.of_VR hr
    | none =>
      have hge : xs.length ≤ t := by rw [← hlen]; exact List.getElem?_eq_none_iff.1 e
      have : ((⟨xs⟩ : Array Value) ++ Array.replicate (nt - (⟨xs⟩ : Array Value).size) undef).getD t undef = undef := by
        rw [Array.getD_eq_getD_getElem?, Array.getElem?_append_right (by simpa using hge), Array.getElem?_replicate]
        split <;> rfl
      rw [this]
      exact LV.of_VR (undef_VR G)
  locs := ⟨fun t cs h => by simp [Loc.get] at h, fun t cs h => by simp [Loc.get] at h, fun t cs h => by simp [Loc.get] at h, fun t u cs ds h => by simp [Loc.get] at h⟩

theorem leaves_marks {Q : Prog} {fn : Func} {R : Ending → World → Prop} {G0 G : Gh} {h0 : Trie AObj} {w0 : World} {B : Nat → Nat} {fr : Fr} {tmps : Array Value} {lo hi : Nat} {mk : Mask} {s : St} {vs : List AVal}
    (hres : resultsA Q mk fr s fn.results.toList = some vs) (hR : ∀ y w', WR G s.heap w' → Ext G0 h0 w0 G s.heap w' lo hi → VR G (packA vs) y → R (.returned y) w') :
    ∀ (rs : List Nat) (w : World), WR G s.heap w → FrR G s.heap B fr tmps w → Ext G0 h0 w0 G s.heap w lo hi → Marks w0.heap.size w rs → LeavesInM Fence.wide 0 Q.P fn tmps R (rs.map mark ++ []) .returning w
  | [], w, wr, fx, ex, _ => by
    obtain ⟨y, r1, r2⟩ := results_run (Q := Q) wr fx hres
    exact ⟨y, r1, hR y w wr ex r2⟩
  | r :: rs, w, wr, fx, ex, m => by
    obtain ⟨h1, h2⟩ := m.at_ r (by simp)
    have hnd := List.nodup_cons.1 m.nodup
    refine ⟨by simp, .inl ⟨r, putBlock w r (.deferred none), rfl, run_takeDeferred h2, ?_⟩⟩
    refine leaves_marks hres hR rs _ (wr.aside h2 trivial (wr.not_deferred h2)) (fx.aside h2 trivial) (ex.aside h2 trivial trivial fun h => by omega) ⟨hnd.2, fun q hq => ?_⟩
    obtain ⟨q1, q2⟩ := m.at_ q (by simp [hq])
    refine ⟨q1, ?_⟩
    rw [putBlock_get _ _ _ _ (lt_of_get h2), if_neg]
    · exact q2
    · intro e; subst e; exact hnd.1 hq

theorem call_sound {Q : Prog} {n : Nat} (hg : Good Q) (hn : CodeSound Q n) : CallSound Q (n + 1) := by
  intro f args mk s s2 G w xs ch A p hv hi hs
  have hev : ∀ c, (lvl (Q.at c) (n + 1)).call f args mk s = callS (Q.at c) (lvl (Q.at c) n) f args mk s := fun _ => rfl
  cases hsp : Q.spec f with
  | some sp =>
    have hev' : ∀ c, (lvl (Q.at c) (n + 1)).call f args mk s = (sp args).bind fun v => some (v, s) := by
      intro c
      have : (Q.at c).spec f = some sp := hsp
      rw [hev, callS, this]
    obtain ⟨v, s', h0, _⟩ := hs ch (.refl _ _) hi
    rw [hev'] at h0
    simp only [Option.bind_eq_some_iff, Option.some.injEq, Prod.mk.injEq] at h0
    obtain ⟨v', h1, rfl, rfl⟩ := h0
    refine (hg.spec f sp hsp args v' h1 G s2.heap w xs p.wr hv).mono ?_
    rintro y w' ⟨G', h2, h3, h4⟩
    refine ⟨ch, v', s, s2, G', .refl _ _, hi, by rw [hev', h1]; rfl, .refl p.sees, h2, ?_, h4⟩
    exact ⟨h3.le, h3.size, h3.keep, h3.owns, fun m a e e0 => by have := h3.names m a e e0; omega, h3.cells, h3.quiet⟩
  | none =>
  cases hsh : Q.specH f with
  | some sp =>
    have hev' : ∀ c, (lvl (Q.at c) (n + 1)).call f args mk s = (runRd (s.get mk) (sp args)).bind fun v => some (v, s) := by
      intro c
      have h1 : (Q.at c).spec f = none := hsp
      have h2 : (Q.at c).specH f = some sp := hsh
      rw [hev, callS, h1]
      simp only [h2]
    obtain ⟨v, s', h0, _⟩ := hs ch (.refl _ _) hi
    rw [hev'] at h0
    simp only [Option.bind_eq_some_iff, Option.some.injEq, Prod.mk.injEq] at h0
    obtain ⟨v', h1, rfl, rfl⟩ := h0
    have h1' : runRd s2.heap.get (sp args) = some v' := by
      have := runRd_sees p.sees (sp args) v' h1
      generalize sp args = x at this
      clear h1 hev'
      induction x with
      | ret _ => exact this
      | ask m k ih =>
        simp only [runRd, Option.bind_eq_some_iff] at this ⊢
        obtain ⟨o, q1, q2⟩ := this
        exact ⟨o, (get_vis q1).2, ih o q2⟩
    refine (hg.specH f sp hsh args v' G s2.heap w xs p.wr hv h1').mono ?_
    rintro y w' ⟨G', h2, h3, h4⟩
    refine ⟨ch, v', s, s2, G', .refl _ _, hi, by rw [hev', h1]; rfl, .refl p.sees, h2, ?_, h4⟩
    exact ⟨h3.le, h3.size, h3.keep, h3.owns, fun m a e e0 => by have := h3.names m a e e0; omega, h3.cells, h3.quiet⟩
  | none =>
    have hev' : ∀ c, (lvl (Q.at c) (n + 1)).call f args mk s = (Q.P.funcs[f]?).bind fun fn => fn.body.bind fun b =>
        (codeE Q n f b mk ⟨ofArgs 0 args, bif Nat.ble args.length fn.ntmps then fn.ntmps else args.length, []⟩ s c).bind (endS (Q.at c) fn mk) := by
      intro c
      have h1 : (Q.at c).spec f = none := hsp
      have h2 : (Q.at c).specH f = none := hsh
      rw [hev, callS, h1]
      simp only [h2]; rfl
    obtain ⟨v0, s0, h0, _⟩ := hs ch (.refl _ _) hi
    rw [hev'] at h0
    simp only [Option.bind_eq_some_iff] at h0
    obtain ⟨fn, hf, b, hb, _⟩ := h0
    have hev2 : ∀ c, (lvl (Q.at c) (n + 1)).call f args mk s = (codeE Q n f b mk ⟨ofArgs 0 args, bif Nat.ble args.length fn.ntmps then fn.ntmps else args.length, []⟩ s c).bind (endS (Q.at c) fn mk) := by
      intro c; rw [hev', hf]; simp only [Option.bind_some, hb]
    right
    have hnm := hg.names f fn hf
    refine ⟨?_, ?_⟩
    · have hnm' : ¬ fn.name = "runtime.NumGoroutine" := by simpa using hnm
      simp [callFunc, go_sem, hf, hb, hnm']
    refine (callsIn_wide (n := 0)).1 (callsIn_of_wp_marks hf hb trivial ?_)
    have fx := entry_frame (G := G) (h := s2.heap) (w := w) hv fn.ntmps
    refine (hn none f b mk _ ch A G (fun _ => 0) s s2 _ w (fun h => absurd rfl h) p fx hi ?_ _ ?_).1
    · intro c h1 h2
      obtain ⟨v, s', h3, h4⟩ := hs c h1 h2
      rw [hev2] at h3
      simp only [Option.bind_eq_some_iff] at h3
      obtain ⟨⟨x, fr', s1⟩, h5, h6⟩ := h3
      refine ⟨x, fr', s1, h5, ?_⟩
      have : s1 = s' := by
        cases x <;> simp only [endS, Option.bind_eq_some_iff, Option.some.injEq, Prod.mk.injEq] at h6
        · obtain ⟨_, _, _, e⟩ := h6; exact e
        · cases h6
        · obtain ⟨_, _, _, e⟩ := h6; exact e
      subst this; exact h4
    · rintro x a' w' ⟨c, fr', s', s2', G', B', h1, h2, h3, h4⟩
      obtain ⟨v, s1, h5, _⟩ := hs c h1 h2
      have h5' := h5
      rw [hev2, h3] at h5
      simp only [Option.bind_some] at h5
      have hend : ∀ vs, resultsA (Q.at c) mk fr' s' fn.results.toList = some vs → v = packA vs → s1 = s' →
          LeavesInM Fence.wide 0 Q.P fn a'.tmps (fun e w' => ∃ y', e = .returned y' ∧ ∃ ch' v s' s2' G', CallPost Q (n + 1) f args mk ch G s s2 w y' w' ch' v s' s2' G') a'.defers .returning w' := by
        intro vs hvs e1 e2
        have hvs2 : resultsA (Q.at c) mk fr' s2' fn.results.toList = some vs :=
          loc_results (Q := Q.at c) mk fr' fn.results.toList s' s2' vs hvs (fun m o hm => (h4.same.sees p.sees h4.goes).look hm)
        obtain ⟨rs, d1, d2⟩ := h4.defers
        rw [d1]
        have hx0 : Ext G s2.heap w G' s2'.heap w' s.next s'.next := h4.ext.toExt fun b ⟨t, cs, e, _⟩ => by simp [Loc.get] at e
        refine leaves_marks (Q := Q.at c) hvs2 ?_ rs w' h4.wr h4.fx hx0 d2
        intro y w'' u1 u2 u3
        refine ⟨y, rfl, c, v, s1, s2', G', h1, h2, h5', by rw [e2]; exact h4.same, u1, ?_, by rw [e1]; exact u3⟩
        rw [e2]; exact u2
      cases x with
      | exit id => cases h5
      | normal =>
        simp only [endS, Option.bind_eq_some_iff, Option.some.injEq, Prod.mk.injEq] at h5
        obtain ⟨vs, hvs, e1, e2⟩ := h5
        exact hend vs hvs e1.symm e2.symm
      | ret =>
        simp only [endS, Option.bind_eq_some_iff, Option.some.injEq, Prod.mk.injEq] at h5
        obtain ⟨vs, hvs, e1, e2⟩ := h5
        exact hend vs hvs e1.symm e2.symm

theorem all_sound {Q : Prog} (hg : Good Q) (n : Nat) : CallSound Q n ∧ OpsSound Q n ∧ CodeSound Q n := by
  induction n using Nat.strongRecOn with
  | _ n ih =>
    cases n with
    | zero =>
      refine ⟨?_, ?_, ?_⟩
      · intro f args mk s s2 G w xs ch A p hv hi hs
        obtain ⟨v, s', h, _⟩ := hs ch (.refl _ _) hi; cases h
      · intro ro f all mk l i fr ch A G B s s2 a w p fx hi hl hs K hK
        obtain ⟨x, fr', s', h, _⟩ := hs ch (.refl _ _) hi; cases h
      · intro ro f c mk fr ch A G B s s2 a w hfl p fx hi hs K hK
        obtain ⟨x, fr', s', h, _⟩ := hs ch (.refl _ _) hi; cases h
    | succ n =>
      obtain ⟨h1, h2, h3⟩ := ih n (by omega)
      exact ⟨call_sound hg h3, ops_sound h1 h3 h2, code_sound hg h3 h2 h1 fun k hk => ⟨(ih k (by omega)).1, (ih k (by omega)).2.2⟩⟩
end Go.Ag
