/- The plain law of MergeOne. -/
import Derived.Test.YtbfmdojdemckbaaGreatZ10
/- What Merge gives where one side is the base, or both are the same. -/
namespace Go.Proofs.YtbfmdojdemckbaaGreat
open Go.Ag
theorem less_not (p k : Bytes) : Op.bytesLess p k = !Ag.leBytes k p := by
  rw [Ag.leBytes_iff, Go.Proofs.bytesLess_eq]
  by_cases h : k ≤ p
  · have h1 : ¬ p < k := List.not_lt.2 h
    simp [Go.leB, h, h1]
  · have h1 : p < k := List.not_le.1 h
    simp [Go.leB, h, h1]
theorem le_nil {k : Bytes} (h : nameOk k = true) : Ag.leBytes k [] = false := by
  cases k with
  | nil => cases h
  | cons a k => rfl
theorem name_ne {k : Bytes} (h : nameOk k = true) : (k == []) = false := by
  cases k with
  | nil => cases h
  | cons a k => rfl
theorem tags_ok : ∀ (l : List Tag) (p : Option Bytes) (last : Bytes), (p = none ∧ last = [] ∨ p = some last) → rTags p l = true → tagsOk last l = true
  | [], _, _, _, _ => rfl
  | t :: r, p, last, hp, h => by
    simp only [rTags] at h
    cases hb : tBad p t with
    | true => rw [hb] at h; cases h
    | false =>
      rw [hb] at h
      simp only [tBad, Bool.or_eq_false_iff, Bool.not_eq_false'] at hb
      obtain ⟨⟨⟨h1, h2⟩, h3⟩, h4⟩ := hb
      have h5 : Ag.leBytes t.1 last = false := by
        rcases hp with ⟨rfl, rfl⟩ | rfl
        · exact le_nil h1
        · simp only [prevBad, Bool.not_eq_false'] at h4
          rw [less_not, Bool.not_eq_true'] at h4
          exact h4
      have h6 : (t.2 == []) = false := by
        have : ¬ t.2.length < 1 := of_decide_eq_false h2
        cases ht : t.2 with
        | nil => rw [ht] at this; simp at this
        | cons _ _ => rfl
      simp only [tagsOk, tagBad, h1, h5, h6, h3, Bool.not_true, Bool.or_self, cond_false]
      exact tags_ok r (some t.1) t.1 (.inr rfl) h
theorem refs_ok (kind : Int) : ∀ (l : List Bytes) (p : Option Bytes) (last : Bytes) (seen : List Bytes), (p = none ∧ last = [] ∨ p = some last) → rRefs kind p seen l = true → anyWrong kind last seen l = false
  | [], _, _, _, _, _ => rfl
  | r :: l, p, last, seen, hp, h => by
    simp only [rRefs] at h
    cases hb : rBad kind p seen r with
    | true => rw [hb] at h; cases h
    | false =>
      rw [hb] at h
      simp only [rBad, Bool.or_eq_false_iff, Bool.not_eq_false'] at hb
      obtain ⟨⟨h1, h2⟩, h3⟩ := hb
      have h4 : (ieq kind 2 && (r == last)) = false := by
        rcases hp with ⟨rfl, rfl⟩ | rfl
        · rw [name_ne h1, Bool.and_false]
        · have : prevIs (some last) r = (r == last) := by
            show (last == r) = (r == last)
            by_cases e : r = last
            · subst e; rfl
            · rw [beq_eq_false_iff_ne.2 e, beq_eq_false_iff_ne.2 (Ne.symm e)]
          rw [this] at h2; exact h2
      simp only [anyWrong, wrongAt, h1, h3, h4, Bool.not_true, Bool.or_self, Bool.false_or]
      exact refs_ok kind l (some r) r (addK r seen) (.inr rfl) h
theorem ref_valid {o : Obj} (h : refObj o = true) : objValid o = true := by
  simp only [refObj, Bool.and_eq_true, Bool.not_eq_true'] at h
  obtain ⟨⟨⟨⟨h1, h2⟩, h3⟩, h4⟩, h5⟩ := h
  unfold refTags at h4
  cases h60 : decide (60 < o.tags.length) with
  | true => rw [h60] at h4; cases h4
  | false =>
  rw [h60] at h4
  have ht : tagValid o.tags = true := by
    have : ¬ 60 < o.tags.length := of_decide_eq_false h60
    simp only [tagValid, tags_ok o.tags none [] (.inl ⟨rfl, rfl⟩) h4, Bool.true_and]
    exact decide_eq_true (by omega)
  unfold refsOk at h5
  cases h20 : decide (2000 < o.refs.length) with
  | true => rw [h20] at h5; cases h5
  | false =>
  rw [h20] at h5
  cases hr : rRefs o.kind none [] o.refs with
  | false => rw [hr] at h5; cases h5
  | true =>
  rw [hr] at h5
  simp only [cond_true, cond_false] at h5
  have hw := refs_ok o.kind o.refs none [] [] (.inl ⟨rfl, rfl⟩) hr
  have hleast : decide (o.refs.length < leastOf o.kind) = false := by
    apply decide_eq_false
    unfold leastOf
    unfold countOk at h5
    cases k1 : ieq o.kind 1 with
    | true =>
      have e : o.kind = 1 := by simpa [ieq] using k1
      rw [e]; exact Nat.not_lt_zero _
    | false =>
    rw [k1] at h5
    cases k2 : ieq o.kind 2 with
    | true => rw [k2] at h5; simp only [cond_true, cond_false, decide_eq_true_eq] at h5 ⊢; omega
    | false =>
    rw [k2] at h5
    cases k3 : ieq o.kind 3 with
    | true => rw [k3] at h5; simp only [cond_true, cond_false, decide_eq_true_eq] at h5 ⊢; omega
    | false =>
    rw [k3] at h5
    cases k4 : ieq o.kind 4 with
    | true => rw [k4] at h5; simp only [cond_true, cond_false, decide_eq_true_eq] at h5 ⊢; omega
    | false =>
    rw [k4] at h5
    simp only [cond_false, beq_iff_eq] at h5
    cases ieq o.kind 5 <;> simp only [cond_true, cond_false] <;> omega
  have hh : headBad o = false := by simp only [headBad, h2, h1, ht, hleast, h20, Bool.not_true, Bool.or_self]
  unfold objValid
  rw [hh, hw]
  simp only [cond_false]
  unfold atOk at h3
  unfold countOk at h5
  cases k1 : ieq o.kind 1 with
  | true =>
    rw [k1] at h3 h5
    simp only [cond_true] at h3 h5 ⊢
    rw [h5, h3]; rfl
  | false =>
    rw [k1] at h3 h5
    simp only [cond_false] at h3 h5 ⊢
    cases k5 : ieq o.kind 5 with
    | false => simp only [cond_false]; exact h3
    | true =>
      have e : o.kind = 5 := by simpa [ieq] using k5
      rw [e] at h5
      have h5 : (o.refs.length == 3) = true := h5
      simp only [cond_true, h5, h3, Bool.and_self]
theorem objs_ok : ∀ (l : List Obj) (p : Option Bytes) (last : Bytes), (p = none ∧ last = [] ∨ p = some last) → rObjs p l = true → objsOk last l = true
  | [], _, _, _, _ => rfl
  | o :: r, p, last, hp, h => by
    simp only [rObjs] at h
    cases hb : oBad p o with
    | true => rw [hb] at h; cases h
    | false =>
      rw [hb] at h
      simp only [oBad, Bool.or_eq_false_iff, Bool.not_eq_false'] at hb
      obtain ⟨h1, h4⟩ := hb
      have hn : nameOk o.id = true := by
        simp only [refObj, Bool.and_eq_true] at h1; exact h1.1.1.1.1
      have h5 : Ag.leBytes o.id last = false := by
        rcases hp with ⟨rfl, rfl⟩ | rfl
        · exact le_nil hn
        · simp only [prevBad, Bool.not_eq_false'] at h4
          rw [less_not, Bool.not_eq_true'] at h4
          exact h4
      simp only [objsOk, ref_valid h1, h5, Bool.not_true, Bool.or_self, cond_false]
      exact objs_ok r (some o.id) o.id (.inr rfl) h
theorem ref_map {l : List Obj} (h : refMap l = true) : mapValid l = true := by
  unfold refMap at h
  cases hl : decide (1000000 < l.length) with
  | true => rw [hl] at h; cases h
  | false =>
    rw [hl] at h
    have : ¬ 1000000 < l.length := of_decide_eq_false hl
    simp only [mapValid, objs_ok l none [] (.inl ⟨rfl, rfl⟩) h, Bool.true_and]
    exact decide_eq_true (by omega)
/- the names of a valid map -/
theorem ids_sorted : ∀ (l : List Obj) (last : Bytes), objsOk last l = true → (∀ k ∈ l.map (·.id), Op.bytesLess last k = true) ∧ (l.map (·.id)).Pairwise (fun a b => Op.bytesLess a b = true)
  | [], _, _ => ⟨fun k h => (by cases h), List.Pairwise.nil⟩
  | o :: r, last, h => by
    simp only [objsOk] at h
    cases hb : (!objValid o || Ag.leBytes o.id last) with
    | true => rw [hb] at h; cases h
    | false =>
      rw [hb] at h
      simp only [Bool.or_eq_false_iff] at hb
      obtain ⟨h1, h2⟩ := ids_sorted r o.id h
      have h3 : Op.bytesLess last o.id = true := by rw [less_not, hb.2]; rfl
      refine ⟨fun k hk => ?_, List.pairwise_cons.2 ⟨h1, h2⟩⟩
      rcases List.mem_cons.1 hk with rfl | hk
      · exact h3
      · have h4 := h1 k hk
        rw [Go.Proofs.bytesLess_eq, decide_eq_true_eq] at h3 h4 ⊢
        exact List.lt_trans h3 h4
theorem ids_name : ∀ (l : List Obj) (last : Bytes), objsOk last l = true → ∀ q ∈ l, nameOk q.id = true
  | [], _, _, q, h => by cases h
  | o :: r, last, h, q, hq => by
    simp only [objsOk] at h
    cases hb : (!objValid o || Ag.leBytes o.id last) with
    | true => rw [hb] at h; cases h
    | false =>
      rw [hb] at h
      rcases List.mem_cons.1 hq with rfl | hq
      · simp only [Bool.or_eq_false_iff, Bool.not_eq_false'] at hb
        have h1 := hb.1
        unfold objValid at h1
        cases hh : headBad q with
        | true => rw [hh] at h1; cases h1
        | false =>
          simp only [headBad, Bool.or_eq_false_iff, Bool.not_eq_false'] at hh
          exact hh.1.1.1.2
      · exact ids_name r o.id h q hq
theorem name_short {k : Bytes} (h : nameOk k = true) : k.length < 4294967296 := by
  cases k with
  | nil => cases h
  | cons a k =>
    simp only [nameOk, Bool.and_eq_true] at h
    have := Nat.le_of_ble_eq_true h.2
    omega
theorem less_irrefl (k : Bytes) : Op.bytesLess k k = false := by
  rw [Go.Proofs.bytesLess_eq]; exact decide_eq_false (List.lt_irrefl k)
theorem ids_nodup {l : List Obj} (h : mapValid l = true) : (l.map (·.id)).Nodup := by
  simp only [mapValid, Bool.and_eq_true] at h
  refine (ids_sorted l [] h.1).2.imp fun hab e => ?_
  subst e
  rw [less_irrefl] at hab; cases hab
theorem sortB_ids {l : List Obj} (h : mapValid l = true) : sortB (l.map (·.id)) = l.map (·.id) := by
  simp only [mapValid, Bool.and_eq_true] at h
  have hs : (l.map (·.id)).Pairwise (fun a b => Go.leB a b = true) := (ids_sorted l [] h.1).2.imp fun hab => by
    rw [Go.Proofs.bytesLess_eq, decide_eq_true_eq] at hab
    simp only [Go.leB, decide_eq_true_eq]; exact List.le_of_lt hab
  refine List.Perm.eq_of_pairwise (le := fun a b => Go.leB a b = true) (fun a b _ _ h1 h2 => ?_) (sortB_sorted _) hs (sortB_perm _)
  simp only [Go.leB, decide_eq_true_eq] at h1 h2
  exact List.le_antisymm h1 h2
theorem objAt_nodup : ∀ {l : List Obj} {q : Obj}, (l.map (·.id)).Nodup → q ∈ l → objAt q.id l = some q
  | [], _, _, h => by cases h
  | o :: r, q, hn, h => by
    simp only [List.map_cons, List.nodup_cons] at hn
    simp only [objAt]
    rcases List.mem_cons.1 h with rfl | h
    · simp
    · have : (q.id == o.id) = false := beq_eq_false_iff_ne.2 fun e => hn.1 (by rw [← e]; exact List.mem_map.2 ⟨q, h, rfl⟩)
      rw [this]; exact objAt_nodup hn.2 h
theorem objAt_ne {l : List Obj} {k : Bytes} : objAt k l ≠ none ↔ k ∈ l.map (·.id) := by
  constructor
  · intro h
    cases e : objAt k l with
    | none => exact absurd e h
    | some q =>
      obtain ⟨h1, h2⟩ := objAt_some e
      exact List.mem_map.2 ⟨q, h1, h2⟩
  · intro h
    induction l with
    | nil => cases h
    | cons o r ih =>
      simp only [objAt]
      cases hb : k == o.id with
      | true => simp
      | false =>
        have hne : k ≠ o.id := by simpa using hb
        simp only [List.map_cons, List.mem_cons] at h
        exact ih (h.resolve_left hne)
theorem findO_objAt {k : Bytes} : ∀ (l : List Obj) (i : Nat), findO k l i ≠ none → objAt k l ≠ none
  | [], _, h => absurd rfl h
  | o :: r, i, h => by
    simp only [findO] at h
    simp only [objAt]
    cases hb : k == o.id with
    | true => simp
    | false =>
      have hne : k ≠ o.id := by simpa using hb
      have : (o.id == k) = false := beq_eq_false_iff_ne.2 (Ne.symm hne)
      rw [this] at h
      exact findO_objAt r (i + 1) h
theorem refErr_found (l : List Obj) (kind : Int) : ∀ (rs : List Bytes) (i : Nat), refErr l kind i rs = 0 → ∀ r ∈ rs, objAt r l ≠ none
  | [], _, _, r, h => by cases h
  | a :: rs, i, h, r, hr => by
    simp only [refErr] at h
    cases hf : findO a l 0 with
    | none => rw [hf] at h; cases h
    | some kq =>
      rw [hf] at h
      simp only at h
      cases hk : ieq kq.2.kind (wantedK kind (i : Nat)) with
      | false => rw [hk] at h; cases h
      | true =>
        rw [hk] at h
        rcases List.mem_cons.1 hr with rfl | hr
        · exact findO_objAt l 0 (by rw [hf]; simp)
        · exact refErr_found l kind rs (i + 1) h r hr
theorem allRefs_found (l : List Obj) : ∀ (r : List Obj), allRefs l r = true → ∀ q ∈ r, ∀ k ∈ q.refs, objAt k l ≠ none
  | [], _, q, h => by cases h
  | o :: r, h, q, hq => by
    simp only [allRefs] at h
    cases hz : ieq (refErr l o.kind 0 o.refs) 0 with
    | false => rw [hz] at h; cases h
    | true =>
      rw [hz] at h
      rcases List.mem_cons.1 hq with rfl | hq
      · exact refErr_found l q.kind q.refs 0 (by simpa [ieq] using hz)
      · exact allRefs_found l r h q hq
theorem closed_facts {l : List Obj} (h : closedL l = true) : mapValid l = true ∧ ∀ q ∈ l, ∀ k ∈ q.refs, objAt k l ≠ none := by
  unfold closedL at h
  cases hr : refMap l with
  | false => rw [hr] at h; cases h
  | true => rw [hr] at h; exact ⟨ref_map hr, allRefs_found l l h⟩
end Go.Proofs.YtbfmdojdemckbaaGreat
/- What Merge gives where one side is the base, or both are the same: the three cases of MergeOne. -/
namespace Go.Proofs.YtbfmdojdemckbaaGreat
open Go.Ag
def EqvO : Option Obj → Option Obj → Prop
  | none, none => True
  | some o, some q => o.Eqv q
  | _, _ => False
theorem Obj.Eqv.symm {o q : Obj} (h : o.Eqv q) : q.Eqv o := ⟨h.id.symm, h.kind.symm, h.x.symm, h.y.symm, h.refs.symm, h.tags.symm⟩
theorem EqvO.refl (p : Option Obj) : EqvO p p := by cases p with | none => trivial | some o => exact Obj.Eqv.rfl
theorem optEq_iff (p q : Option Obj) : optEq p q = true ↔ EqvO p q := by
  cases p <;> cases q <;> simp only [optEq, EqvO, objEq_iff, Bool.false_eq_true]
theorem optEq_refl (p : Option Obj) : optEq p p = true := (optEq_iff p p).2 (.refl p)
theorem EqvO.symm {p q : Option Obj} (h : EqvO p q) : EqvO q p := by
  cases p <;> cases q <;> first | exact h | exact Obj.Eqv.symm h
/-- one side wins -/
structure Side (b o t w : List Obj) : Prop where
  out : ∀ k, EqvO (objAt k w) (outO b o t k)
  tame : ∀ k, (optEq (objAt k o) (objAt k t) || optEq (objAt k t) (objAt k b) || optEq (objAt k o) (objAt k b)) = true
theorem side1 (b o : List Obj) : Side b o b o where
  out k := by
    unfold outO
    rw [optEq_refl (objAt k b)]
    cases optEq (objAt k o) (objAt k b) <;> exact .refl _
  tame k := by rw [optEq_refl (objAt k b)]; simp
theorem side3 (b o : List Obj) : Side b o o o where
  out k := by
    unfold outO
    rw [optEq_refl (objAt k o)]; exact .refl _
  tame k := by rw [optEq_refl (objAt k o)]; simp
theorem side2 (b o : List Obj) : Side b b o o where
  out k := by
    unfold outO
    cases h1 : optEq (objAt k b) (objAt k o) with
    | true => exact EqvO.symm ((optEq_iff _ _).1 h1)
    | false =>
      cases h2 : optEq (objAt k o) (objAt k b) with
      | true =>
        have := (optEq_iff _ _).2 (EqvO.symm ((optEq_iff _ _).1 h2))
        rw [h1] at this; cases this
      | false => exact .refl _
  tame k := by rw [optEq_refl (objAt k b)]; simp
theorem Side.ne {b o t w : List Obj} (h : Side b o t w) (k : Bytes) : outO b o t k ≠ none ↔ objAt k w ≠ none := by
  have := h.out k
  cases e1 : objAt k w <;> cases e2 : outO b o t k <;> rw [e1, e2] at this <;> first | (simp; done) | cases this
/-- what is asked of a map -/
structure MapOk (l : List Obj) : Prop where
  valid : mapValid l = true
  good : ∀ q ∈ l, q.Good
  len : l.length ≤ 64
theorem MapOk.nodup {l : List Obj} (h : MapOk l) : (l.map (·.id)).Nodup := ids_nodup h.valid
theorem MapOk.short {l : List Obj} (h : MapOk l) : ∀ q ∈ l, q.id.length < 4294967296 := fun q hq => by
  have hv := h.valid
  simp only [mapValid, Bool.and_eq_true] at hv
  exact name_short (ids_name l [] hv.1 q hq)
theorem calm_of {b o t w : List Obj} (hs : Side b o t w) (hb : MapOk b) (ho : MapOk o) (ht : MapOk t) (hw : ∀ q ∈ w, ∀ k ∈ q.refs, objAt k w ≠ none) : Calm b o t :=
  ⟨hb.valid, ho.valid, ht.valid, hb.good, ho.good, ht.good, hb.len, ho.len, ht.len, hb.nodup, ho.nodup, ht.nodup, ho.short, ht.short, hs.tame, fun k q hq r hr => by
    have h1 := hs.out k
    rw [hq] at h1
    cases e : objAt k w with
    | none => rw [e] at h1; cases h1
    | some p =>
      rw [e] at h1
      have h1 : p.Eqv q := h1
      rw [h1.refs] at hr
      exact (hs.ne r).2 (hw p (objAt_some e).1 r hr)⟩
theorem merged_eqv {b o t w : List Obj} (hs : Side b o t w) (hw : mapValid w = true) : ListEqv (merged b o t) w := by
  have hp : (outKeys b o t).Perm (w.map (·.id)) := (List.perm_ext_iff_of_nodup (uniq_nodup _) (ids_nodup hw)).2 fun k => mem_outKeys.trans ((hs.ne k).trans objAt_ne)
  have hm : merged b o t = w.map fun q => outG b o t q.id := by
    unfold merged
    rw [sortB_congr hp, sortB_ids hw, List.map_map]; rfl
  rw [hm]
  refine ⟨by simp, fun i p q h1 h2 => ?_⟩
  rw [List.getElem?_map, h2] at h1
  simp only [Option.map_some, Option.some.injEq] at h1
  subst h1
  have h3 := objAt_nodup (ids_nodup hw) (List.mem_of_getElem? h2)
  have h4 := hs.out q.id
  rw [h3] at h4
  cases e : outO b o t q.id with
  | none => rw [e] at h4; cases h4
  | some g =>
    rw [e] at h4
    have h4 : q.Eqv g := h4
    have : outG b o t q.id = g := by show (outO b o t q.id).getD zeroObj = g; rw [e]; rfl
    rw [this]; exact h4.symm
end Go.Proofs.YtbfmdojdemckbaaGreat
