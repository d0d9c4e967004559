/- Contracts of slices.Sorted of maps.Keys, of the comparing of strings, of slices.SortedFunc on nothing. -/
import Derived.Test.YtbfmdojdemckbaaGreatZ7
import Derived.Test.YtbfmdojdemckbaaGreatK1
import Derived.WideShapes
import Derived.Lib.Bytealg
import Derived.Test.YtbfmdojdemckbaaGreatZ2
/- slices.Sorted of maps.Keys, out of the shelf's contracts -/
namespace Go.Proofs.YtbfmdojdemckbaaGreat
open Go.Ag
open Go.RowKit (Below)

/-- nothing that was there has changed -/
structure Still (w w' : World) : Prop where
  os : w'.os = w.os
  output : w'.output = w.output
  size : w.heap.size ≤ w'.heap.size
  block : ∀ k, k < w.heap.size → w'.heap[k]? = w.heap[k]?
theorem addRo' {G : Gh} {h : Trie AObj} {w w' : World} (wr : WR G h w) (bl : Still w w') (f : Nat → Nat → Option AVal)
    (hf : ∀ b o v, f b o = some v → w.heap.size ≤ b ∧ v.scal = true ∧ ∃ x, w'.cell? ⟨b, o, none⟩ = some x ∧ VR G v x) :
    ∃ G' : Gh, (∀ b o v, f b o = some v → G'.ro b o = some v) ∧ G.le G' ∧ WR G' h w' ∧ Ext G h w G' h w' 0 0 := by
  let G' : Gh := { at_ := G.at_, ro := fun b o => if b < w.heap.size then G.ro b o else f b o, dim := G.dim }
  have hlt : ∀ b o v, G.ro b o = some v → b < w.heap.size := fun b o v e => by
    obtain ⟨_, x, hx, _⟩ := wr.ro b o v e
    exact World.block_lt_of_cell? w ⟨b, o, none⟩ hx
  have hle : G.le G' := ⟨fun _ _ e => e, fun b o v e => by
    show (if b < w.heap.size then G.ro b o else f b o) = some v
    rw [if_pos (hlt b o v e)]; exact e, fun _ _ e => e⟩
  have hro : ∀ b o v, G'.ro b o = some v → (b < w.heap.size ∧ G.ro b o = some v) ∨ (¬ b < w.heap.size ∧ f b o = some v) := fun b o v e => by
    have e : (if b < w.heap.size then G.ro b o else f b o) = some v := e
    by_cases hb : b < w.heap.size
    · rw [if_pos hb] at e; exact .inl ⟨hb, e⟩
    · rw [if_neg hb] at e; exact .inr ⟨hb, e⟩
  refine ⟨G', fun b o v e => ?_, hle, ⟨?_, ?_, ?_, ?_, ?_, ?_⟩, hle, bl.size, fun b hb _ => bl.block b hb, fun b _ o => o, fun n a e e0 => (by have e : G.at_ n = some a := e; rw [e] at e0; cases e0), ?_, bl.os, bl.output, bl.size, fun a ha => World.frozen?_of_block (bl.block _ ha)⟩
  · show (if b < w.heap.size then G.ro b o else f b o) = some v
    have := (hf b o v e).1
    rw [if_neg (by omega)]; exact e
  · intro n o e
    obtain ⟨a, h1, h2, h3⟩ := wr.obj n o e
    exact ⟨a, h1, h2, (h3.of_block (bl.block _ (wr.below n a h1))).mono hle⟩
  · exact wr.sep
  · intro b o v e
    rcases hro b o v e with ⟨hb, e⟩ | ⟨hb, e⟩
    · obtain ⟨h1, x, h2, h3⟩ := wr.ro b o v e
      exact ⟨h1, x, (World.cell?_of_block (bl.block b hb)).trans h2, h3.mono hle⟩
    · obtain ⟨_, h1, x, h2, h3⟩ := hf b o v e
      exact ⟨h1, x, h2, h3.mono hle⟩
  · intro n ob a i v e ea er
    rcases hro _ _ _ er with ⟨_, er⟩ | ⟨hb, _⟩
    · exact wr.apart n ob a i v e ea er
    · exact absurd (wr.below n a ea) hb
  · intro b d e
    obtain ⟨C, el, h1, h2⟩ := wr.dim b d e
    have hb : b < w.heap.size := by
      rcases Nat.lt_or_ge b w.heap.size with hb | hb
      · exact hb
      · rw [Array.getElem?_eq_none hb] at h1; cases h1
    exact ⟨C, el, (bl.block b hb).trans h1, h2⟩
  · exact fun n a e => Nat.lt_of_lt_of_le (wr.below n a e) bl.size
  · intro b o v hb e e0
    rcases hro b o v e with ⟨_, e⟩ | ⟨hb', _⟩
    · rw [e] at e0; cases e0
    · exact absurd hb hb'

theorem addRo {G : Gh} {h : Trie AObj} {w w' : World} (wr : WR G h w) (bl : Below w.heap.size w w') (f : Nat → Nat → Option AVal)
    (hf : ∀ b o v, f b o = some v → w.heap.size ≤ b ∧ v.scal = true ∧ ∃ x, w'.cell? ⟨b, o, none⟩ = some x ∧ VR G v x) :
    ∃ G' : Gh, (∀ b o v, f b o = some v → G'.ro b o = some v) ∧ G.le G' ∧ WR G' h w' ∧ Ext G h w G' h w' 0 0 := addRo' wr ⟨bl.os, bl.output, bl.size, bl.block⟩ f hf

/- maps.Keys -/
def keysSp : Sp
  | [.map m] => some (.func (.func 49) [] [.roz [.map m]])
  | _ => none
theorem keysSp_ok : SpecOk Tryz.prog 26 keysSp := by
  intro args v hv G h w xs wr hx
  unfold keysSp at hv
  split at hv
  · rename_i m
    injection hv with hv; subst hv
    cases hx with
    | cons a b =>
      cases b
      cases a with
      | map ha =>
        rename_i a
        refine .inr ⟨Go.Proofs.enters_of Tryz.func26 (by kernel_rfl) rfl _ _, (callsIn_wide.1 (Tryz.maps_Keys_26 (some a.block) w)).mono ?_⟩
        rintro e w' ⟨rfl, rfl⟩
        refine ⟨_, rfl, ?_⟩
        have hbl : Below w.heap.size w (w.alloc (.cells #[.map (some a.block)] 61)) := (Below.refl _ w).alloc (Nat.le_refl _) _
        obtain ⟨G', h1, h2, h3, h4⟩ := addRo wr hbl (fun b o => if b = w.heap.size ∧ o = 0 then some (.map m) else none) (by
          intro b o v e
          have e : (if b = w.heap.size ∧ o = 0 then some (AVal.map m) else none) = some v := e
          split at e
          · rename_i hc
            obtain ⟨rfl, rfl⟩ := hc
            simp only [and_self, if_true, Option.some.injEq] at e; subst e
            refine ⟨Nat.le_refl _, rfl, .map (some a.block), ?_, .map ha⟩
            exact World.cell?_alloc_new w #[Value.map (some a.block)] 61 0
          · cases e)
        refine ⟨G', h3, h4, .func .nil (.cons (.roz ?_) .nil)⟩
        intro i x hi
        match i with
        | 0 =>
          simp only [List.getElem?_cons_zero, Option.some.injEq] at hi
          subst hi
          exact h1 _ _ _ (by simp)
        | i + 1 => simp at hi
  · cases hv

def keys3Sp : Sp
  | [.map m] => some (.func (.func 185) [] [.roz [.map m]])
  | _ => none
theorem keys3Sp_ok : SpecOk Tryz.prog 120 keys3Sp := by
  intro args v hv G h w xs wr hx
  unfold keys3Sp at hv
  split at hv
  · rename_i m
    injection hv with hv; subst hv
    cases hx with
    | cons a b =>
      cases b
      cases a with
      | map ha =>
        rename_i a
        refine .inr ⟨Go.Proofs.enters_of Tryz.func120 (by kernel_rfl) rfl _ _, (callsIn_wide.1 (Tryz.maps_Keys_120 (some a.block) w)).mono ?_⟩
        rintro e w' ⟨rfl, rfl⟩
        refine ⟨_, rfl, ?_⟩
        have hbl : Below w.heap.size w (w.alloc (.cells #[.map (some a.block)] 195)) := (Below.refl _ w).alloc (Nat.le_refl _) _
        obtain ⟨G', h1, h2, h3, h4⟩ := addRo wr hbl (fun b o => if b = w.heap.size ∧ o = 0 then some (.map m) else none) (by
          intro b o v e
          have e : (if b = w.heap.size ∧ o = 0 then some (AVal.map m) else none) = some v := e
          split at e
          · rename_i hc
            obtain ⟨rfl, rfl⟩ := hc
            simp only [and_self, if_true, Option.some.injEq] at e; subst e
            refine ⟨Nat.le_refl _, rfl, .map (some a.block), ?_, .map ha⟩
            exact World.cell?_alloc_new w #[Value.map (some a.block)] 195 0
          · cases e)
        refine ⟨G', h3, h4, .func .nil (.cons (.roz ?_) .nil)⟩
        intro i x hi
        match i with
        | 0 =>
          simp only [List.getElem?_cons_zero, Option.some.injEq] at hi
          subst hi
          exact h1 _ _ _ (by simp)
        | i + 1 => simp at hi
  · cases hv

/- a list of strings in order -/
def insB (x : List UInt8) : List (List UInt8) → List (List UInt8)
  | [] => [x]
  | y :: l => bif Ag.leBytes x y then x :: y :: l else y :: insB x l
def sortB : List (List UInt8) → List (List UInt8)
  | [] => []
  | x :: l => insB x (sortB l)
theorem Ag.leBytes_iff (x y : List UInt8) : Ag.leBytes x y = Go.leB x y := by
  have h : Ag.leBytes x y = (Op.bytesLess x y || x == y) := rfl
  rw [h, Go.Proofs.bytesLess_eq]
  apply Bool.eq_iff_iff.2
  simp only [Go.leB, Bool.or_eq_true, decide_eq_true_eq, beq_iff_eq]
  constructor
  · rintro (h | rfl)
    · exact List.le_of_lt h
    · exact List.le_refl _
  · intro h
    by_cases e : x = y
    · exact .inr e
    · exact .inl (Classical.byContradiction fun hc => e (List.le_antisymm h (List.not_lt.1 hc)))
theorem insB_perm (x : List UInt8) : ∀ l, (insB x l).Perm (x :: l)
  | [] => .refl _
  | y :: l => by
    simp only [insB]
    cases Ag.leBytes x y with
    | true => exact .refl _
    | false => exact ((insB_perm x l).cons y).trans (.swap x y l)
theorem sortB_perm : ∀ l, (sortB l).Perm l
  | [] => .refl _
  | x :: l => (insB_perm x _).trans ((sortB_perm l).cons x)
theorem leB_trans (a b c : List UInt8) (h1 : Go.leB a b = true) (h2 : Go.leB b c = true) : Go.leB a c = true := by
  simp only [Go.leB, decide_eq_true_eq] at *; exact List.le_trans h1 h2
theorem leB_total (a b : List UInt8) : (Go.leB a b || Go.leB b a) = true := by
  simp only [Go.leB, Bool.or_eq_true, decide_eq_true_eq]; exact List.le_total a b
theorem insB_sorted (x : List UInt8) : ∀ l, l.Pairwise (fun a b => Go.leB a b = true) → (insB x l).Pairwise (fun a b => Go.leB a b = true)
  | [], _ => by simp [insB]
  | y :: l, h => by
    simp only [insB]
    cases e : Ag.leBytes x y with
    | true =>
      rw [Ag.leBytes_iff] at e
      refine List.pairwise_cons.2 ⟨fun z hz => ?_, h⟩
      rcases List.mem_cons.1 hz with rfl | hz
      · exact e
      · exact leB_trans _ _ _ e ((List.pairwise_cons.1 h).1 z hz)
    | false =>
      rw [Ag.leBytes_iff] at e
      refine List.pairwise_cons.2 ⟨fun z hz => ?_, insB_sorted x l (List.pairwise_cons.1 h).2⟩
      rcases List.mem_cons.1 ((insB_perm x l).mem_iff.1 hz) with rfl | hz
      · have := leB_total z y
        rw [e, Bool.false_or] at this
        exact this
      · exact (List.pairwise_cons.1 h).1 z hz
theorem sortB_sorted : ∀ l, (sortB l).Pairwise (fun a b => Go.leB a b = true)
  | [] => .nil
  | x :: l => insB_sorted x _ (sortB_sorted l)
theorem sortB_eq (l : List (List UInt8)) : l.mergeSort (fun x y => decide (x ≤ y)) = sortB l := by
  refine List.Perm.eq_of_pairwise (le := fun a b => Go.leB a b = true) (fun a b _ _ h1 h2 => ?_) (List.pairwise_mergeSort leB_trans leB_total l) (sortB_sorted l) ((List.mergeSort_perm l _).trans (sortB_perm l).symm)
  simp only [Go.leB, decide_eq_true_eq] at h1 h2
  exact List.le_antisymm h1 h2

/- slices.Sorted[string] -/
def entKeys : List Ent → Option (List Bytes)
  | [] => some []
  | e :: es => match e.key with
    | .str k => (entKeys es).bind fun l => some (k :: l)
    | _ => none
def distB : List Bytes → Bool
  | [] => true
  | k :: l => !l.any (fun x => x == k) && distB l
def distN : List Nat → Bool
  | [] => true
  | k :: l => !l.any (Nat.beq k) && distN l
def allB : List Bytes → Bool
  | [] => true
  | k :: l => Nat.blt k.length 4294967296 && allB l
def allN (c : Nat) : List Nat → Bool
  | [] => true
  | k :: l => Nat.blt k c && allN c l
def fitEs (es : List Ent) (clock : Nat) (ks : List Bytes) : Bool :=
  Nat.blt es.length 4294967296 && allB ks && distB ks && allN clock (es.map (·.born)) && distN (es.map (·.born))
def listV : List AVal → AVal
  | [] => .nils
  | x :: l => .list 1 (x :: l) .no
def sortSp : List AVal → Rd
  | [.func (.func g) [] [.roz [.map m]]] => bif Nat.beq g 49 || Nat.beq g 185 then .ask m fun
    | .map es clock => .ret ((entKeys es).bind fun ks => bif fitEs es clock ks then some (listV ((sortB ks).map strV)) else none)
    | _ => .ret none
    else .ret none
  | _ => .ret none
theorem distB_iff : ∀ {l : List Bytes}, distB l = true → l.Nodup
  | [], _ => .nil
  | k :: l, h => by
    simp only [distB, Bool.and_eq_true, Bool.not_eq_true', List.any_eq_false, beq_iff_eq] at h
    exact List.nodup_cons.2 ⟨fun hm => h.1 k hm rfl, distB_iff h.2⟩
theorem distN_iff : ∀ {l : List Nat}, distN l = true → l.Nodup
  | [], _ => .nil
  | k :: l, h => by
    simp only [distN, Bool.and_eq_true, Bool.not_eq_true', List.any_eq_false] at h
    exact List.nodup_cons.2 ⟨fun hm => h.1 k hm (by simp), distN_iff h.2⟩
theorem allB_iff : ∀ {l : List Bytes}, allB l = true → ∀ k ∈ l, k.length < 4294967296
  | [], _, _, h => by cases h
  | a :: l, h, k, hk => by
    simp only [allB, Bool.and_eq_true] at h
    rcases List.mem_cons.1 hk with rfl | hk
    · exact Nat.le_of_ble_eq_true h.1
    · exact allB_iff h.2 k hk
theorem allN_iff {c : Nat} : ∀ {l : List Nat}, allN c l = true → ∀ k ∈ l, k < c
  | [], _, _, h => by cases h
  | a :: l, h, k, hk => by
    simp only [allN, Bool.and_eq_true] at h
    rcases List.mem_cons.1 hk with rfl | hk
    · exact Nat.le_of_ble_eq_true h.1
    · exact allN_iff h.2 k hk
theorem ents_keys {G : Gh} : ∀ {es : List Ent} {ES : List MapEntry} {ks : List Bytes}, EntsR G es ES → entKeys es = some ks → ES.map (·.key) = ks.map (fun k => Value.string ⟨⟨k⟩⟩) ∧ ES.map (·.born) = es.map (·.born) ∧ ES.length = es.length
  | [], _, ks, .nil, h => by
    simp only [entKeys, Option.some.injEq] at h
    subst h; exact ⟨rfl, rfl, rfl⟩
  | e :: es, _, ks, .cons a b, h => by
    simp only [entKeys] at h
    split at h
    · rename_i k hk
      simp only [Option.bind_eq_some_iff, Option.some.injEq] at h
      obtain ⟨l, h1, rfl⟩ := h
      obtain ⟨q1, q2, q3⟩ := ents_keys b h1
      have hkey := a.key
      rw [hk] at hkey
      cases hx : (‹MapEntry›).key with
      | _ => first
        | (rw [hx] at hkey
           cases hkey
           refine ⟨?_, ?_, ?_⟩
           · simp only [List.map_cons, q1, hx]
           · simp only [List.map_cons, q2, a.born]
           · simp only [List.length_cons, q3])
        | (rw [hx] at hkey; cases hkey)
    · cases h
def rdAny : Value → Option (DataW Unit × List MemPlace) := fun _ => some (.nil, [])
theorem u_9 : Tryz.prog.underlying 9 = some .string := by kernel_rfl
theorem rd_key (k : Bytes) (hk : k.length < 4294967296) {x : MapEntry} (hx : x.key = .string ⟨⟨k⟩⟩) : Go.WideElems.rd Tryz.prog 9 rdAny x = some (.string k, .nil) := by
  have h : keyOf Tryz.prog 9 x.key = some (.string k) := by
    rw [hx]
    simp only [keyOf, u_9, mapKey]
    have : (ByteArray.mk ⟨k⟩).size ≤ maxLen := by
      show k.length ≤ 2 ^ 63 - 1
      omega
    rw [if_pos this]
  simp only [Go.WideElems.rd, h, Option.bind_some, rdAny, Option.map_some]

theorem pl_keys {ks : List Bytes} (hlen : ∀ k ∈ ks, k.length < 4294967296) : ∀ {l : List MapEntry}, l.map (·.key) = ks.map (fun k => Value.string ⟨⟨k⟩⟩) → l.map (fun x => Go.strOf (Go.WideElems.rg Tryz.prog 9 rdAny x).1) = ks := by
  induction ks with
  | nil =>
    intro l h
    cases l with
    | nil => rfl
    | cons _ _ => simp at h
  | cons k ks ih =>
    intro l h
    cases l with
    | nil => simp at h
    | cons x l =>
      simp only [List.map_cons, List.cons.injEq] at h
      have h1 := Go.WideElems.rg_of (rd_key k (hlen k (by simp)) h.1)
      rw [List.map_cons, h1, ih (fun k hk => hlen k (by simp [hk])) h.2]
      rfl
theorem seq_keys {g : Nat} (hg : (Nat.beq g 49 || Nat.beq g 185) = true) {w : World} {b a n : Nat} {D : DataW Unit} (hB : b < w.heap.size) (hm : w.cell? ⟨b, 0, none⟩ = some (.map (some a))) (hown : w.ownsMap Tryz.prog 9 rdAny a n D) :
    SeqGives Fence.wide 2 Tryz.prog g #[.pointer (some ⟨b, 0, none⟩)] Go.Proofs.encStr (fun ss => ss.Perm (Go.strKeys D)) (Go.Maps.size D) w ∧ ∀ args w, (callFunc g args).run Tryz.prog w = .ok (.enter g args) w := by
  rw [Bool.or_eq_true] at hg
  rcases hg with hg | hg <;> have hg := Nat.eq_of_beq_eq_true hg <;> subst hg
  · exact ⟨Go.Proofs.AnyZ.keys_gives (ρ := Tryz.keys26_ren) { Tryz.keys26 with } Fence.wide 2 trivial rfl (by omega) b a n D w hB hm hown, enters_of Tryz.func49 (by kernel_rfl) rfl⟩
  · exact ⟨Go.Proofs.AnyZ.keys_gives (ρ := Tryz.keys120_ren) { Tryz.keys120 with } Fence.wide 2 trivial rfl (by omega) b a n D w hB hm hown, enters_of Tryz.func185 (by kernel_rfl) rfl⟩
theorem sort_calls {g : Nat} (hg : (Nat.beq g 49 || Nat.beq g 185) = true) {w : World} {b a : Nat} {ES : Array MapEntry} {clock : Nat} {ks : List Bytes} (hm : w.cell? ⟨b, 0, none⟩ = some (.map (some a))) (hh : w.heap[a]? = some (.map ES clock))
    (hk : ES.toList.map (·.key) = ks.map (fun k => Value.string ⟨⟨k⟩⟩)) (hsz : ES.size < 4294967296) (hlen : ∀ k ∈ ks, k.length < 4294967296) (hnd : ks.Nodup) (hb1 : ∀ x ∈ ES.toList, x.born < clock) (hb2 : (ES.toList.map (·.born)).Nodup) :
    Calls Tryz.prog 25 #[.func (.func g) #[] #[.pointer (some ⟨b, 0, none⟩)]] w fun e w' => ∃ v, e = .returned v ∧ w'.ownsRow w.heap.size 9 1 v ks.length ((sortB ks).map Go.Proofs.encStr) ∧ (v = .slice none 0 0 ↔ ks = []) ∧ Below w.heap.size w w' := by
  have hB : b < w.heap.size := World.block_lt_of_cell? w ⟨b, 0, none⟩ hm
  have hfit : Go.WideElems.Fit Tryz.prog 9 rdAny ES clock := by
    refine ⟨by show ES.size ≤ 2 ^ 63 - 1; omega, ⟨hb1, hb2, ?_⟩, fun x hx => ?_⟩
    · rw [hk]
      exact List.pairwise_map.2 (hnd.imp fun hne e => hne (by simpa using e))
    · have : x.key ∈ ES.toList.map (·.key) := List.mem_map.2 ⟨x, hx, rfl⟩
      rw [hk] at this
      obtain ⟨k, hk1, hk2⟩ := List.mem_map.1 this
      exact ⟨_, rd_key k (hlen k hk1) hk2.symm⟩
  have hown : w.ownsMap Tryz.prog 9 rdAny a ES.size (.map ((ES.toList.map (Go.WideElems.rg Tryz.prog 9 rdAny)).foldr DataW.insert [])) := ⟨ES, clock, hh, hfit, Nat.le_refl _, rfl⟩
  have hsize : Go.Maps.size (DataW.map ((ES.toList.map (Go.WideElems.rg Tryz.prog 9 rdAny)).foldr DataW.insert [])) = ES.size := Go.length_read (P := Tryz.prog) (k := 9) (R0 := rdAny) ES
  obtain ⟨hseq, hent⟩ := seq_keys hg hB hm hown
  rw [hsize] at hseq
  refine (callsIn_wide.1 (Go.Proofs.AnyZ.sorted_in Tryz.sorted25 Fence.wide 5 trivial trivial trivial trivial rfl (by omega) (Tryz.sorts25 _) (enters_of Tryz.func48 (by kernel_rfl) rfl) g #[.pointer (some ⟨b, 0, none⟩)] trivial hent _ _ (by show ES.size ≤ 2 ^ 63 - 1; omega) (by omega) _ hseq)).mono ?_
  rintro e w' ⟨v, ss, rfl, hS, hrow, hnil, hbl⟩
  have hks : (Go.strKeys (DataW.map ((ES.toList.map (Go.WideElems.rg Tryz.prog 9 rdAny)).foldr DataW.insert []))).Perm ks := by
    have h1 := (Go.WideShapes.sorted_perm (ES.toList.map (Go.WideElems.rg Tryz.prog 9 rdAny))).map fun p => Go.strOf p.1
    rw [List.map_map, Function.comp_def] at h1
    have h2 := pl_keys hlen hk
    rw [h2] at h1
    exact h1
  have hp : ss.Perm ks := hS.trans hks
  refine ⟨v, rfl, ?_, ?_, hbl⟩
  · have h1 := Go.mergeSort_of_perm hp
    have h2 : ks.mergeSort Go.leB = sortB ks := sortB_eq ks
    have h3 : ss.mergeSort (fun x y => decide (x ≤ y)) = sortB ks := h1.trans h2
    rw [h3, hp.length_eq] at hrow
    exact hrow
  · rw [hnil]
    constructor
    · intro e; subst e; exact List.nil_perm.1 hp
    · intro e; subst e; exact List.perm_nil.1 hp
theorem flat_strs : ∀ (l : List Bytes), flat (l.map strV) = l.map strV
  | [] => rfl
  | a :: l => by
    have ih := flat_strs l
    simp only [flat, List.map_cons] at ih ⊢
    first
      | (rw [List.flatMap_cons, ih]; rfl)
      | (simp [strV, AVal.cells]; exact ih)
theorem sortSp_ok {args : List AVal} {v : AVal} {G : Gh} {h : Trie AObj} {w : World} {xs : List Value} (wr : WR G h w) (hx : VRs G args xs) (hv : runRd h.get (sortSp args) = some v) :
    CallsTo Tryz.prog 25 ⟨xs⟩ w fun y w' => ∃ G', WR G' h w' ∧ Ext G h w G' h w' 0 0 ∧ VR G' v y := by
  unfold sortSp at hv
  split at hv
  · rename_i g m
    cases hg : Nat.beq g 49 || Nat.beq g 185 with
    | false => rw [hg] at hv; simp only [cond_false, runRd] at hv; cases hv
    | true =>
    rw [hg] at hv
    simp only [cond_true, runRd, Option.bind_eq_some_iff] at hv
    obtain ⟨o, ho, hv⟩ := hv
    split at hv
    · rename_i es clock
      simp only [runRd, Option.bind_eq_some_iff] at hv
      obtain ⟨ks, hks, hv⟩ := hv
      obtain ⟨hfit, hv⟩ := bif_none hv
      injection hv with hv; subst hv
      obtain ⟨a, ha, _, ES, hES, hent⟩ := wr.obj m _ ho
      cases hx with
      | cons p q =>
        cases q
        cases p with
        | func p1 p2 =>
          cases p1
          cases p2 with
          | cons p3 p4 =>
            cases p4
            cases p3 with
            | roz hro =>
              rename_i b
              have hr := hro 0 (.map m) (by simp)
              obtain ⟨_, x, hx, hxv⟩ := wr.ro _ _ _ hr
              cases hxv with
              | map ha' =>
                rw [ha] at ha'
                injection ha' with ha'; subst ha'
                obtain ⟨e1, e2, e3⟩ := ents_keys hent hks
                simp only [fitEs, Bool.and_eq_true] at hfit
                obtain ⟨⟨⟨⟨f1, f2⟩, f3⟩, f4⟩, f5⟩ := hfit
                have hlen := allB_iff f2
                have hc := sort_calls hg hx hES e1 (by
                  have : es.length < 4294967296 := Nat.le_of_ble_eq_true f1
                  rw [← Array.length_toList]; omega) hlen (distB_iff f3) (fun z hz => allN_iff f4 _ (by rw [← e2]; exact List.mem_map.2 ⟨z, hz, rfl⟩)) (by rw [e2]; exact distN_iff f5)
                refine .inr ⟨enters_of Tryz.func25 (by kernel_rfl) rfl _ _, hc.mono ?_⟩
                rintro e w' ⟨v, rfl, hrow, hnil, hbl⟩
                refine ⟨v, rfl, ?_⟩
                have hsl : (sortB ks).length = ks.length := (sortB_perm ks).length_eq
                rcases hrow.2 with ⟨rfl, hz⟩ | ⟨gb, cap, cur, rfl, hgb, hcur, hn, hcap, hcs, htk⟩
                · have hk0 : ks = [] := List.eq_nil_of_length_eq_zero hz
                  subst hk0
                  obtain ⟨G', _, h2, h3, h4⟩ := addRo wr hbl (fun _ _ => none) (by intro b o v e; cases e)
                  exact ⟨G', h3, h4, .nils⟩
                · have hne : ks ≠ [] := fun e => by
                    have := hnil.2 e
                    cases this
                  obtain ⟨G', h1, h2, h3, h4⟩ := addRo wr hbl (fun b o => if b = gb then ((sortB ks).map strV)[o]? else none) (by
                    intro b o u e
                    have e : (if b = gb then ((sortB ks).map strV)[o]? else none) = some u := e
                    split at e
                    · rename_i hb; subst hb
                      rw [if_pos rfl, List.getElem?_map, Option.map_eq_some_iff] at e
                      obtain ⟨k, hk, rfl⟩ := e
                      refine ⟨hgb, rfl, .string ⟨⟨k⟩⟩, ?_, .str k⟩
                      rw [cell_of hcur]
                      have h1 : (cur.toList.take (ks.length * 1))[o]? = some (.string ⟨⟨k⟩⟩) := by
                        rw [htk, List.getElem?_map, hk]; rfl
                      rw [List.getElem?_take] at h1
                      split at h1
                      · rw [← Array.getElem?_toList]; exact h1
                      · cases h1
                    · cases e)
                  refine ⟨G', h3, h4, ?_⟩
                  have hlv : listV ((sortB ks).map strV) = .list 1 ((sortB ks).map strV) .no := by
                    cases hsb : sortB ks with
                    | nil => rw [hsb] at hsl; exact absurd (List.eq_nil_of_length_eq_zero hsl.symm) hne
                    | cons _ _ => rfl
                  rw [hlv, ← hsl]
                  have hml : ((sortB ks).map strV).length = (sortB ks).length := List.length_map ..
                  rw [← hml]
                  refine .list (.inr rfl) Nat.zero_lt_one (fun x hx => ?_) (by rw [hml, hsl]; exact hn) (fun i x hi => ?_) trivial
                  · obtain ⟨k, _, rfl⟩ := List.mem_map.1 hx
                    rfl
                  · rw [flat_strs] at hi
                    refine h1 _ _ _ ?_
                    rw [if_pos rfl, Nat.zero_add]; exact hi
    · simp only [runRd] at hv; cases hv
  · simp only [runRd] at hv; cases hv
end Go.Proofs.YtbfmdojdemckbaaGreat
/- the comparing of strings, which has no body -/
namespace Go.Proofs.YtbfmdojdemckbaaGreat
open Go.Ag
def cmpB : List UInt8 → List UInt8 → Int
  | [], [] => 0
  | [], _ :: _ => -1
  | _ :: _, [] => 1
  | a :: x, b :: y => bif Nat.blt a.toNat b.toNat then -1 else bif Nat.blt b.toNat a.toNat then 1 else cmpB x y
def cmpSp : Sp
  | [.str a, .str b] => some (.int .i64 (cmpB a b))
  | _ => none
theorem cmpB_eq : ∀ (a b : List UInt8), cmpB a b = Lib.compareBytes a b := by
  intro a
  induction a with
  | nil => intro b; cases b <;> rfl
  | cons u x ih =>
    intro b
    cases b with
    | nil => rfl
    | cons v y =>
      simp only [cmpB, Lib.compareBytes, UInt8.lt_iff_toNat_lt, nat_blt, ih]
      by_cases h1 : u.toNat < v.toNat
      · simp [h1]
      · by_cases h2 : v.toNat < u.toNat <;> simp [h1, h2]
theorem cmpSp_ok : SpecOk Tryz.prog 83 cmpSp := by
  intro args v hv G h w xs wr hx
  unfold cmpSp at hv
  split at hv
  · rename_i a b
    injection hv with hv; subst hv
    cases hx with
    | cons p q =>
      cases q with
      | cons q r =>
        cases r
        cases p
        cases q
        refine .inl ⟨.int .i64 (Lib.compareBytes a b), w, ?_, G, wr, .refl, ?_⟩
        · have := run_callFunc_extern (P := Tryz.prog) (f := 83) (fn := Tryz.f83) (e := Extern.BytealgCompare.compare) (by kernel_rfl) (by kernel_rfl) (by kernel_rfl) (by kernel_rfl) (by kernel_rfl) #[.string ⟨⟨a⟩⟩, .string ⟨⟨b⟩⟩] w
          rw [show (⟨[Value.string ⟨⟨a⟩⟩, .string ⟨⟨b⟩⟩]⟩ : Array Value) = #[.string ⟨⟨a⟩⟩, .string ⟨⟨b⟩⟩] from rfl, this, Lib.run_compareString]
          rfl
        · rw [cmpB_eq]; exact .int _ _
  · cases hv
end Go.Proofs.YtbfmdojdemckbaaGreat
/- slices.SortedFunc on an empty set of conflicts -/
namespace Go.Proofs.YtbfmdojdemckbaaGreat
open Go.Ag
def sfSp : List AVal → Rd
  | [.func (.func 52) [] [.ptr n 0], .func (.func 30) [] []] => .ask n fun
    | .cells [.map m] => .ask m fun
      | .map [] 0 => .ret (some .nils)
      | _ => .ret none
    | _ => .ret none
  | _ => .ret none
noncomputable def sM : St := ⟨Trie.set .nil 0 (some (.map [] 0)), 1, 1, 0⟩
def sfArgs : List AVal := [.func (.func 52) [] [.ro [.map 0]], .func (.func 30) [] []]
def isEmptyM : Option AObj → Bool
  | some (.map [] 0) => true
  | _ => false
def isNils : AVal → Bool
  | .nils => true
  | _ => false
noncomputable def evalF : Bool := match (lvl (QT T1) 400).call 28 sfArgs [] sM with
  | some (v, s) => isNils v && isEmptyM (s.heap.get 0) && Nat.beq s.ci 0
  | none => false
theorem evF : evalF = true := by kernel_rfl
theorem isEmptyM_iff {o : Option AObj} (h : isEmptyM o = true) : o = some (.map [] 0) := by
  unfold isEmptyM at h; split at h <;> first | rfl | cases h
theorem isNils_iff {v : AVal} (h : isNils v = true) : v = .nils := by
  unfold isNils at h; split at h <;> first | rfl | cases h
theorem evF_run : ∃ s', (lvl (QT T1) 400).call 28 sfArgs [] sM = some (.nils, s') ∧ s'.heap.get 0 = some (.map [] 0) ∧ s'.ci = 0 := by
  have h := evF
  unfold evalF at h
  split at h
  · rename_i v s e
    simp only [Bool.and_eq_true] at h
    obtain ⟨⟨h1, h2⟩, h3⟩ := h
    exact ⟨s, by rw [e, isNils_iff h1], isEmptyM_iff h2, Nat.eq_of_beq_eq_true h3⟩
  · cases h
theorem sM_get (n : Nat) : sM.heap.get n = if n = 0 then some (.map [] 0) else none := by
  show (Trie.set .nil 0 _).get n = _
  rw [Trie.get_set]
  split <;> rfl
theorem sfSp_ok {args : List AVal} {v : AVal} {G : Gh} {h : Trie AObj} {w : World} {xs : List Value} (wr : WR G h w) (hx : VRs G args xs) (hv : runRd h.get (sfSp args) = some v) :
    CallsTo Tryz.prog 28 ⟨xs⟩ w fun y w' => ∃ G', WR G' h w' ∧ Ext G h w G' h w' 0 0 ∧ VR G' v y := by
  unfold sfSp at hv
  split at hv
  · rename_i n
    simp only [runRd, Option.bind_eq_some_iff] at hv
    obtain ⟨o, ho, hv⟩ := hv
    split at hv
    · rename_i m
      simp only [runRd, Option.bind_eq_some_iff] at hv
      obtain ⟨o2, ho2, hv⟩ := hv
      split at hv
      · simp only [runRd, Option.some.injEq] at hv
        subst hv
        obtain ⟨a, ha, _, C, el, hC, _, hcs⟩ := wr.obj n _ ho
        obtain ⟨_, x, hCx, hxv⟩ := hcs 0 (.map m) (by simp)
        obtain ⟨am, ham, hams, ES, hES, hent⟩ := wr.obj m _ ho2
        have hES0 : ES = #[] := by
          cases hl : ES.toList with
          | nil => exact Array.toList_eq_nil_iff.1 hl
          | cons p q => rw [hl] at hent; cases hent
        subst hES0
        cases hxv with
        | map ham2 =>
        rw [ham] at ham2
        injection ham2 with ham2
        subst ham2
        have hne : am.block ≠ a.block := fun e => by rw [e, hC] at hES; cases hES
        have hcell : w.cell? ⟨a.block, a.off + 0, none⟩ = some (.map (some am.block)) := by rw [cell_of hC]; exact hCx
        let G0 : Gh := { at_ := fun i => if i = 0 then some am else none, ro := fun b o => if b = a.block ∧ o = a.off + 0 then some (.map 0) else none, dim := fun _ => none }
        have hro : ∀ b o v, G0.ro b o = some v → b = a.block ∧ o = a.off + 0 ∧ v = .map 0 := fun b o v e => by
          have e : (if b = a.block ∧ o = a.off + 0 then some (AVal.map 0) else none) = some v := e
          split at e
          · rename_i hc; injection e with e; exact ⟨hc.1, hc.2, e.symm⟩
          · cases e
        have hat : ∀ i b, G0.at_ i = some b → i = 0 ∧ b = am := fun i b e => by
          have e : (if i = 0 then some am else none) = some b := e
          split at e
          · rename_i hc; injection e with e; exact ⟨hc, e.symm⟩
          · cases e
        have hat0 : G0.at_ 0 = some am := by show (if 0 = 0 then some am else none) = _; rw [if_pos rfl]
        have hobj : ∀ i o, sM.heap.get i = some o → i = 0 ∧ o = .map [] 0 := fun i o e => by
          rw [sM_get] at e
          split at e
          · rename_i hc; injection e with e; exact ⟨hc, e.symm⟩
          · cases e
        have wr0 : WR G0 sM.heap w := by
          refine ⟨?_, ?_, ?_, ?_, ?_, ?_⟩
          · intro i o e
            obtain ⟨rfl, rfl⟩ := hobj i o e
            exact ⟨am, rfl, hams, #[], hES, .nil⟩
          · intro i j b c h1 h2 h3 h4 _
            rw [(hat _ _ h3).1, (hat _ _ h4).1]
          · intro b o v e
            obtain ⟨rfl, rfl, rfl⟩ := hro b o v e
            exact ⟨rfl, _, hcell, .map (a := am) rfl⟩
          · intro i ob b j v _ h2 h3
            obtain ⟨h4, _, _⟩ := hro _ _ _ h3
            rw [(hat _ _ h2).2] at h4
            exact absurd h4 hne
          · intro b d e; cases e
          · intro i b e
            rw [(hat _ _ e).2]
            exact wr.below m am ham
        have pre : Pre [] (fun _ => True) G0 sM sM w := by
          refine ⟨fun i hi => ?_, .refl _ _, wr0, fun i hi _ => ?_⟩
          · have : 1 ≤ i := hi
            rw [sM_get, if_neg (by omega)]
          · have : 1 ≤ i := hi
            show (if i = 0 then some am else none) = none
            rw [if_neg (by omega)]
        obtain ⟨s1, hev, hg0, hci⟩ := evF_run
        cases hx with
        | cons p q =>
        cases q with
        | cons q r =>
        cases r
        cases p with
        | func p1 p2 =>
        cases p1
        cases p2 with
        | cons p3 p4 =>
        cases p4
        cases p3 with
        | ptr hp =>
        rw [ha] at hp
        injection hp with hp
        subst hp
        cases q with
        | func q1 q2 =>
        cases q1
        cases q2
        have hx0 : VRs G0 sfArgs [.func (.func 52) #[] #[.pointer (some ⟨a.block, a.off + 0, none⟩)], .func (.func 30) #[] #[]] := by
          refine .cons (.func .nil (.cons (.ro ?_) .nil)) (.cons (.func .nil .nil) .nil)
          intro i x hi
          match i with
          | 0 =>
            simp only [List.getElem?_cons_zero, Option.some.injEq] at hi
            subst hi
            show (if a.block = a.block ∧ a.off + 0 + 0 = a.off + 0 then some (AVal.map 0) else none) = _
            rw [if_pos ⟨rfl, rfl⟩]
          | i + 1 => simp at hi
        have he : ∀ ch, (lvl ((QT T1).at ch) 400).call 28 sfArgs [] sM = some (.nils, s1) := fun ch => (lvl_ch (QT T1) 400).call 28 sfArgs [] (fun _ => 0) sM .nils s1 hev ch (fun i hi => by
          have hi : i < s1.ci := hi
          omega)
        have hc := (all_sound (good_of T1_ok) 400).1 28 sfArgs [] sM sM G0 w _ (fun _ => 0) (fun _ => True) pre hx0 (fun _ => Nat.zero_lt_succ 1) (fun ch' _ _ => ⟨.nils, s1, he ch', fun _ _ _ => trivial⟩)
        refine CallsTo.mono hc ?_
        rintro y w' ⟨ch', v', s', s2', G1, c⟩
        have h1 := c.eval
        rw [he] at h1
        simp only [Option.some.injEq, Prod.mk.injEq] at h1
        obtain ⟨rfl, rfl⟩ := h1
        have h2 : s2'.heap.get 0 = some (.map [] 0) := by
          by_cases ht : Ag.Touch [] sM s1 0
          · rw [c.same.inside 0 ht]; exact hg0
          · rw [c.same.outside 0 ht, sM_get]; rfl
        have hstill : Still w w' := by
          refine ⟨c.ext.quiet.1, c.ext.quiet.2.1, c.ext.size, fun k hk => ?_⟩
          by_cases hkm : k = am.block
          · subst hkm
            obtain ⟨b, hb, _, ES, hES2, hent2⟩ := c.wr.obj 0 _ h2
            have hb0 : G1.at_ 0 = some am := c.ext.le.at_ 0 am hat0
            have hb1 : b = am := Option.some.inj (hb.symm.trans hb0)
            rw [hb1] at hES2
            have : ES = #[] := by
              cases hl : ES.toList with
              | nil => exact Array.toList_eq_nil_iff.1 hl
              | cons p q => rw [hl] at hent2; cases hent2
            subst this
            rw [hES2, hES]
          · refine c.ext.keep k hk ?_
            rintro ⟨i, b, _, h4, h5⟩
            rw [(hat _ _ h4).2] at h5
            exact hkm h5.symm
        obtain ⟨G', _, g2, g3, g4⟩ := addRo' wr hstill (fun _ _ => none) (by intro b o v e; cases e)
        refine ⟨G', g3, g4, ?_⟩
        have := c.val
        cases this
        exact .nils
      · simp only [runRd] at hv; cases hv
    · simp only [runRd] at hv; cases hv
  · simp only [runRd] at hv; cases hv
end Go.Proofs.YtbfmdojdemckbaaGreat
