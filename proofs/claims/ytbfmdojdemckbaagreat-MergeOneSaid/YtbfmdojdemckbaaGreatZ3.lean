/- Contracts of lexer.Name, tag.Valid, object.word, least, on. -/
import Derived.Test.YtbfmdojdemckbaaGreatZ2
import Derived.Test.YtbfmdojdemckbaaGreatZ1
/- Decoders of values; heaps; maps with keys that are strings. -/
namespace Go.Proofs.YtbfmdojdemckbaaGreat
open Go.Ag
def small : Nat := 9223372036854775808
abbrev Tag := Bytes × Bytes
def strV (s : Bytes) : AVal := .str s
def tagV (t : Tag) : AVal := .agg [.str t.1, .str t.2]
def asStr : AVal → Option Bytes
  | .str s => some s
  | _ => none
def asTag : AVal → Option Tag
  | .agg [.str a, .str b] => some (a, b)
  | _ => none
def mapO {α β : Type} (g : α → Option β) : List α → Option (List β)
  | [] => some []
  | a :: l => (g a).bind fun b => (mapO g l).bind fun r => some (b :: r)
def asL {α : Type} (n : Nat) (dec : AVal → Option α) : AVal → Option (List α)
  | .nils => some []
  | .list m xs _ => bif Nat.beq m n then mapO dec xs else none
  | _ => none
theorem asStr_enc {v : AVal} {s : Bytes} (h : asStr v = some s) : v = strV s := by
  unfold asStr at h; split at h
  · injection h with h; subst h; rfl
  · cases h
theorem asTag_enc {v : AVal} {t : Tag} (h : asTag v = some t) : v = tagV t := by
  unfold asTag at h; split at h
  · injection h with h; subst h; rfl
  · cases h
theorem mapO_enc {α : Type} {dec : AVal → Option α} {enc : α → AVal} (hd : ∀ v a, dec v = some a → v = enc a) : ∀ {xs : List AVal} {l : List α}, mapO dec xs = some l → xs = l.map enc
  | [], l, h => by simp only [mapO, Option.some.injEq] at h; subst h; rfl
  | x :: xs, l, h => by
    simp only [mapO, Option.bind_eq_some_iff, Option.some.injEq] at h
    obtain ⟨a, h1, r, h2, rfl⟩ := h
    rw [List.map_cons, ← hd x a h1, ← mapO_enc hd h2]
theorem mapO_of {α : Type} {dec : AVal → Option α} {enc : α → AVal} (hd : ∀ a, dec (enc a) = some a) : ∀ (l : List α), mapO dec (l.map enc) = some l
  | [] => rfl
  | a :: l => by simp only [List.map_cons, mapO, hd, Option.bind_some, mapO_of hd l]
theorem asL_isL {α : Type} {n : Nat} {dec : AVal → Option α} {enc : α → AVal} (hd : ∀ v a, dec v = some a → v = enc a) {v : AVal} {l : List α} (h : asL n dec v = some l) : IsL n enc v l := by
  unfold asL at h
  split at h
  · injection h with h; exact .inl ⟨rfl, h.symm⟩
  · obtain ⟨h1, h2⟩ := bif_none h
    have := Nat.eq_of_beq_eq_true h1
    subst this
    rename_i xs r
    exact .inr ⟨r, by rw [mapO_enc hd h2]⟩
  · cases h
theorem isL_asL {α : Type} {n : Nat} {dec : AVal → Option α} {enc : α → AVal} (hd : ∀ a, dec (enc a) = some a) {v : AVal} {l : List α} (h : IsL n enc v l) : asL n dec v = some l := by
  rcases h with ⟨rfl, rfl⟩ | ⟨r, rfl⟩
  · rfl
  · simp only [asL, mapO_of hd, nat_beq, beq_self_eq_true, cond_true]
theorem pures_map {α : Type} {enc : α → AVal} (hp : ∀ a, pureV (enc a) = true) (l : List α) : pures (l.map enc) = true := by
  rw [pures_all]
  intro v hv
  obtain ⟨a, _, rfl⟩ := List.mem_map.1 hv
  exact hp a
theorem isL_top {α : Type} {n : Nat} {enc : α → AVal} (hp : ∀ a, pureV (enc a) = true) {v : AVal} {l : List α} (h : IsL n enc v l) : topP v = true ∧ IsL n enc (weak v) l := by
  rcases h with ⟨rfl, rfl⟩ | ⟨r, rfl⟩
  · exact ⟨rfl, .inl ⟨rfl, rfl⟩⟩
  · exact ⟨by simpa [topP] using pures_map hp l, .inr (by
      simp only [weak, weaks_pure (pures_map hp l)]
      exact ⟨_, rfl⟩)⟩
theorem strV_pure (s : Bytes) : pureV (strV s) = true := rfl
theorem tagV_pure (t : Tag) : pureV (tagV t) = true := rfl
theorem asStr_strV (s : Bytes) : asStr (strV s) = some s := rfl
theorem asTag_tagV (t : Tag) : asTag (tagV t) = some t := rfl

/- heaps -/
theorem get_put (s : St) (n m : Nat) (o : Option AObj) : (s.put n o).get [] m = bif m == n then o else s.get [] m := by
  simp only [St.get, St.put, hidden, cond_false, Trie.get_set]
  by_cases h : m = n
  · subst h; simp
  · rw [if_neg h, beq_eq_false_iff_ne.2 h]; rfl
theorem get_new (s : St) (m : Nat) (o : AObj) : (s.new o).get [] m = bif m == s.next then some o else s.get [] m := by
  simp only [St.get, St.new, hidden, cond_false, Trie.get_set]
  by_cases h : m = s.next
  · subst h; simp
  · rw [if_neg h, beq_eq_false_iff_ne.2 h]; rfl
theorem next_put (s : St) (n : Nat) (o : Option AObj) : (s.put n o).next = s.next := rfl
theorem next_new (s : St) (o : AObj) : (s.new o).next = s.next + 1 := rfl
theorem ci_put (s : St) (n : Nat) (o : Option AObj) : (s.put n o).ci = s.ci := rfl
theorem ci_new (s : St) (o : AObj) : (s.new o).ci = s.ci := rfl

/- maps with keys that are strings -/
def ents (n : Nat) : List (Bytes × AVal) → List Ent
  | [] => []
  | (k, v) :: l => ⟨.str k, v, n⟩ :: ents (n + 1) l
def look (k : Bytes) : List (Bytes × AVal) → Option AVal
  | [] => none
  | (a, v) :: l => bif k == a then some v else look k l
def posOf (k : Bytes) : List (Bytes × AVal) → Nat
  | [] => 0
  | (a, _) :: l => bif k == a then 0 else posOf k l + 1
section
variable {P : Program} {kt : TypeId} (heq : ∀ a b : List UInt8, eqT P 8 kt (.str a) (.str b) = some (a == b))
include heq
theorem find_ents : ∀ (l : List (Bytes × AVal)) (k : Bytes) (n i : Nat), findKeyA P kt (.str k) (ents n l) i = some ((look k l).map fun v => (i + posOf k l, ⟨.str k, v, n + posOf k l⟩))
  | [], k, n, i => rfl
  | (a, v) :: l, k, n, i => by
    simp only [ents, findKeyA, heq, Option.bind_some, look, posOf]
    cases h : k == a with
    | true =>
      have : k = a := by simpa using h
      subst this
      simp
    | false =>
      simp only [cond_false]
      rw [find_ents l k (n + 1) (i + 1)]
      cases look k l with
      | none => rfl
      | some u =>
        simp only [Option.map_some]
        rw [show i + 1 + posOf k l = i + (posOf k l + 1) by omega, show n + 1 + posOf k l = n + (posOf k l + 1) by omega]
theorem lookup_ents {t : TypeId} {e : TypeId} {z : AVal} (hk : ∀ k : List UInt8, keyType P t (.str k) = some (kt, e)) (hz : zeroA P e = some z) {s : St} {m : Nat} {l : List (Bytes × AVal)} {c : Nat} (hs : s.get [] m = some (.map (ents 0 l) c)) (k : Bytes) :
    lookupA P [] t (.map m) (.str k) false s = some ((look k l).getD z) := by
  simp only [lookupA, hk, Option.bind_some, hz, lookupIn, hs, find_ents heq l k 0 0]
  cases look k l <;> rfl
end
theorem ents_append : ∀ (l r : List (Bytes × AVal)) (n : Nat), ents n (l ++ r) = ents n l ++ ents (n + l.length) r
  | [], r, n => rfl
  | (a, v) :: l, r, n => by simp only [List.cons_append, ents, ents_append l r (n + 1), List.length_cons]; congr 3; omega
/-- an entry written -/
def insM (k : Bytes) (v : AVal) : List (Bytes × AVal) → List (Bytes × AVal)
  | [] => [(k, v)]
  | (a, u) :: l => bif k == a then (k, v) :: l else (a, u) :: insM k v l
theorem look_ins (k j : Bytes) (v : AVal) : ∀ l, look j (insM k v l) = bif j == k then some v else look j l
  | [] => by
    simp only [insM, look]
  | (a, u) :: l => by
    simp only [insM]
    cases h : k == a with
    | true =>
      have : k = a := by simpa using h
      subst this
      simp only [cond_true, look]
      cases j == k <;> rfl
    | false =>
      simp only [cond_false, look, look_ins k j v l]
      cases h2 : j == a with
      | false => rfl
      | true =>
        have : j = a := by simpa using h2
        subst this
        have : (j == k) = false := by
          cases h3 : j == k with
          | false => rfl
          | true => have : j = k := by simpa using h3
                    subst this; simp at h
        simp [this]
theorem ins_none {k : Bytes} {v : AVal} : ∀ {l}, look k l = none → insM k v l = l ++ [(k, v)]
  | [], _ => rfl
  | (a, u) :: l, h => by
    simp only [look] at h
    simp only [insM]
    cases h1 : k == a with
    | true => rw [h1] at h; cases h
    | false => rw [h1] at h; simp only [cond_false, ins_none h, List.cons_append]
theorem ents_set {k : Bytes} {u v : AVal} : ∀ {l : List (Bytes × AVal)} {n : Nat}, look k l = some u → (ents n l).set (posOf k l) ⟨.str k, v, n + posOf k l⟩ = ents n (insM k v l)
  | [], _, h => by cases h
  | (a, w) :: l, n, h => by
    simp only [look] at h
    simp only [insM, posOf, ents]
    cases h1 : k == a with
    | true => simp [ents]
    | false =>
      rw [h1] at h
      simp only [cond_false, List.set_cons_succ, ents]
      rw [← ents_set (l := l) (n := n + 1) h, show n + (posOf k l + 1) = n + 1 + posOf k l by omega]
theorem update_ents {P : Program} {kt t e : TypeId} (heq : ∀ a b : List UInt8, eqT P 8 kt (.str a) (.str b) = some (a == b)) (hk : ∀ k : List UInt8, keyType P t (.str k) = some (kt, e)) {s : St} {m : Nat} {l : List (Bytes × AVal)} (hs : s.get [] m = some (.map (ents 0 l) l.length)) (k : Bytes) (v : AVal) :
    updateA P [] t (.map m) (.str k) v s = some (s.put m (some (.map (ents 0 (insM k v l)) (insM k v l).length))) := by
  have hlen : ∀ {l : List (Bytes × AVal)} {u : AVal}, look k l = some u → (insM k v l).length = l.length := by
    intro l
    induction l with
    | nil => intro u h; cases h
    | cons x l ih =>
      obtain ⟨a, w⟩ := x
      intro u h
      simp only [look] at h
      simp only [insM]
      cases h1 : k == a with
      | true => rfl
      | false => rw [h1] at h; simp only [cond_false, List.length_cons, ih h]
  simp only [updateA, hk, Option.bind_some, hs, find_ents heq l k 0 0]
  cases h : look k l with
  | none =>
    simp only [Option.map_none, ins_none h, List.length_append, List.length_cons, List.length_nil, ents_append, Nat.zero_add]
    rfl
  | some u =>
    have hks : keySame (.str k) (.str k) = true := by simp [keySame, scalSame]
    simp only [Option.map_some, hks, cond_true, hlen h]
    have := ents_set (v := v) (n := 0) h
    rw [Nat.zero_add] at this ⊢
    rw [this]
end Go.Proofs.YtbfmdojdemckbaaGreat
/- lexer.Name -/
namespace Go.Proofs.YtbfmdojdemckbaaGreat
open Go.Ag

def isLetter (b : UInt8) : Bool := letterN b.toNat
def isDigit (b : UInt8) : Bool := digitN b.toNat
def nameRest (s : Bytes) : Bool := s.all fun b => isLetter b || isDigit b || Nat.beq b.toNat 95
def nameOk (s : Bytes) : Bool := match s with | [] => false | b :: r => isLetter b && nameRest r && Nat.ble (b :: r).length 24
def nameSp : Sp
  | [.str s] => bif Nat.blt s.length small then some (.bool (nameOk s)) else none
  | _ => none
theorem nameSp_str {s : Bytes} (h : s.length < small) : nameSp [.str s] = some (.bool (nameOk s)) := by
  simp only [nameSp, nat_blt, h, decide_true, cond_true]

def okAt (i : Nat) (b : UInt8) : Bool := isLetter b || (!(i == 0) && (isDigit b || (b.toNat == 95)))
def nameFrom : Nat → Bytes → Bool
  | _, [] => true
  | i, b :: r => okAt i b && nameFrom (i + 1) r

theorem nameFrom_rest : ∀ (s : Bytes) (i : Nat), nameFrom (i + 1) s = nameRest s
  | [], _ => rfl
  | b :: r, i => by
    simp only [nameFrom, nameRest, List.all_cons]
    rw [nameFrom_rest r (i + 1)]
    simp [okAt, nameRest, Bool.or_assoc, nat_beq]

theorem cls3 (b : UInt8) : ieq ((clsOf b.toNat : Nat) : Int) 3 = isLetter b := by
  rw [show (3 : Int) = ((3 : Nat) : Int) from rfl, ieq_nat]
  unfold clsOf isLetter
  cases letterN b.toNat with
  | true => rfl
  | false =>
    simp only [cond_false]
    cases digitN b.toNat with
    | true => rfl
    | false =>
      simp only [cond_false]
      cases memN b.toNat [32, 9, 10] with
      | true => rfl
      | false =>
        simp only [cond_false]
        cases memN b.toNat [59, 44, 46, 58, 40, 41, 123, 125, 91, 93, 61, 60, 62, 47, 45] with
        | true => rfl
        | false =>
          simp only [cond_false]
          cases Nat.beq b.toNat 35 <;> cases Nat.beq b.toNat 95 <;> cases Nat.beq b.toNat 34 <;> rfl

theorem cls_all : (List.range 256).all (fun n => (Nat.beq (clsOf n) 4 == digitN n) && (Nat.beq (clsOf n) 5 == Nat.beq n 95)) = true := by decide +kernel
theorem cls4 (b : UInt8) : ieq ((clsOf b.toNat : Nat) : Int) 4 = isDigit b := by
  rw [show (4 : Int) = ((4 : Nat) : Int) from rfl, ieq_nat, ← nat_beq]
  have := List.all_eq_true.1 cls_all b.toNat (List.mem_range.2 b.toNat_lt)
  simp only [Bool.and_eq_true, beq_iff_eq] at this
  exact this.1
theorem cls5 (b : UInt8) : ieq ((clsOf b.toNat : Nat) : Int) 5 = (b.toNat == 95) := by
  rw [← nat_beq b.toNat, show (5 : Int) = ((5 : Nat) : Int) from rfl, ieq_nat, ← nat_beq]
  have := List.all_eq_true.1 cls_all b.toNat (List.mem_range.2 b.toNat_lt)
  simp only [Bool.and_eq_true, beq_iff_eq] at this
  exact this.2

section
variable {sp : FuncId → Option (List AVal → Option AVal)}
theorem name_loop {str : Bytes} (hsmall : str.length < 9223372036854775808) {s : St} {g : Nat} : ∀ (rest pre : Bytes) (e : Env) (lc : Ag.Loc), str = pre ++ rest →
    nth e 0 = .str str → nth e 3 = .lref 3 g 0 → lc.gen 3 = g → lc.get 3 g = some (clsCells 256 0) → nth e 8 = .int .i64 (str.length : Nat) → nth e 9 = .int .i64 (pre.length : Nat) →
    W (QS sp) 58 (.loop k58_l0) ⟨e, 39, lc⟩ s fun x fr s' => s' = s ∧ fr.size = 39 ∧ ((x = .exit 0 ∧ nth fr.env 0 = .str str ∧ nameFrom pre.length rest = true) ∨ (x = .ret ∧ nth fr.env 2 = .bool false ∧ nameFrom pre.length rest = false)) := by
  intro rest
  induction rest with
  | nil =>
    intro pre e lc hpre h0 h3 hg hl h8 h9
    have hlen : str.length = pre.length := by rw [hpre]; simp
    refine W.loop1 ?_
    unfold k58_l0
    refine W.sreg ?_
    unfold k58_r3
    simp only [WP_nil, WP_always, stepK_some, p_bin, ev_tmp, evc_eq, retV_ok, bi_lss, Option.bind_some, clean_int, cond_true, QS_P, ilt_nat, true_and, Nat.reduceLT, decide_false, h8, h9, hlen, Nat.lt_irrefl]
    refine W.seq (W.cond (t := false) (by simp only [ev_tmp, nth_set, Nat.reduceBEq, cond_true, *]) ?_)
    refine W.exit ?_
    refine ⟨rfl, rfl, .inl ⟨rfl, ?_, rfl⟩⟩
    simp only [nth_set, Nat.reduceBEq, cond_false, *]
  | cons b rest ih =>
    intro pre e lc hpre h0 h3 hg hl h8 h9
    have hlt : pre.length < str.length := by rw [hpre]; simp
    have hdrop : str.drop pre.length = b :: rest := by rw [hpre]; simp
    have hb : b.toNat < 256 := b.toNat_lt
    have hcell := clsCells_at 256 0 b.toNat hb
    rw [Nat.zero_add] at hcell
    have hwr : IntKind.i64.wrap ((pre.length : Int) + 1) = ((pre.length + 1 : Nat) : Int) := by rw [wrap64_small (by omega) (by omega)]; omega
    have hi0 : ieq (pre.length : Int) 0 = (pre.length == 0) := ieq_nat _ 0
    refine W.loop1 ?_
    unfold k58_l0
    refine W.sreg ?_
    unfold k58_r3
    simp only [WP_nil, WP_always, stepK_some, p_bin, ev_tmp, evc_eq, retV_ok, bi_lss, Option.bind_some, clean_int, cond_true, QS_P, ilt_nat, true_and, Nat.reduceLT, decide_true, h8, h9, hlt]
    refine W.seq (W.cond (t := true) (by simp only [ev_tmp, nth_set, Nat.reduceBEq, cond_true, *]) (W.skip ?_))
    refine W.seq (W.block ?_)
    refine W.sreg ?_
    unfold k58_r4
    simp only [WP_nil, WP_always, stepK_some, nth_set, p_move, p_assign, ev_tmp, retV_ok, cond_true, cond_false, beq_self_eq_true, true_and, Nat.reduceBEq, Nat.reduceLT, h9]
    refine W.sreg ?_
    unfold k58_r5
    simp only [WP_nil, WP_always, stepK_some, nth_set, p_move, p_assign, p_load, p_index, p_indexAddr, ev_tmp, evc_eq, load_loc, natOf_cast, retV_ok, Option.bind_some, clean_str, cond_true, cond_false, QS_P, beq_self_eq_true, true_and, Nat.zero_add, Nat.reduceBEq, Nat.reduceLT, nat_beq, nat_blt, decide_true, rd_5, ia_151_l, ix_9, h0, h3, hdrop, hb, hg, hl, hcell, Nat.mul_one]
    refine W.sreg ?_
    unfold k58_r6
    have fin : ∀ e' lc', nth e' 30 = .bool true → W (QS sp) 58 (.cond (Operand.tmp 30) (.seq (.region k58_r7) .ret) .skip) ⟨e', 39, lc'⟩ s fun x fr s' => x = .ret ∧ s' = s ∧ fr.size = 39 ∧ nth fr.env 2 = .bool false := by
      intro e' lc' h
      refine W.cond (t := true) (by simp only [ev_tmp, h]) (W.sreg ?_)
      unfold k58_r7
      simp only [WP_nil, WP_always, stepK_some, p_assign, ev_const, ofValue_bool, retV_ok, true_and, Nat.reduceLT]
      exact W.ret ⟨rfl, rfl, rfl, by simp only [nth_set, Nat.reduceBEq, cond_true, *]⟩
    cases hL : isLetter b with
    | true =>
      simp only [WP_nil, WP_always, WP_when, stepK_some, whenK_false, wantV_ft, wantV_undef, nth_set, p_move, p_pick, p_bin, ev_tmp, ev_const, evc_eq, ofValue_bool, ofValue_int, pick_eq, pickV_false, retV_ok, bu_neq, Option.bind_some, clean_int, cond_true, cond_false, QS_P, Bool.not_true, beq_self_eq_true, true_and, Nat.reduceBEq, Nat.reduceLT, cls3, hL]
      refine W.cond (t := false) (by simp only [ev_tmp, nth_set, Nat.reduceBEq, cond_true, cond_false, *]) (W.skip ?_)
      simp only [block_normal, next_normal]
      refine W.reg ?_
      unfold k58_r8
      simp only [WP_nil, WP_always, stepK_some, nth_set, p_move, p_bin, ev_tmp, ev_const, evc_eq, ofValue_int, retV_ok, bi_add, Option.bind_some, clean_int, cond_true, cond_false, QS_P, beq_self_eq_true, true_and, Nat.reduceBEq, Nat.reduceLT, h9, hwr, next_normal]
      refine (ih (pre ++ [b]) _ _ (by rw [hpre]; simp) (by simp only [nth_set, Nat.reduceBEq, cond_false, *]) (by simp only [nth_set, Nat.reduceBEq, cond_false, *]) hg hl (by simp only [nth_set, Nat.reduceBEq, cond_false, *]) (by simp only [nth_set, Nat.reduceBEq, cond_true, cond_false, List.length_append, List.length_cons, List.length_nil])).mono ?_
      have hok : okAt pre.length b = true := by simp [okAt, hL]
      simp only [nameFrom, hok, Bool.true_and, List.length_append, List.length_cons, List.length_nil]
      exact fun _ _ _ h => h
    | false =>
    cases hz : pre.length == 0 with
    | true =>
      simp only [WP_nil, WP_always, WP_when, stepK_some, whenK_true, whenK_false, wantV_tt, wantV_tf, wantV_undef, nth_set, p_move, p_pick, p_bin, ev_tmp, ev_const, evc_eq, ofValue_bool, ofValue_int, pick_eq, pickV_true, retV_ok, bi_eql, bu_neq, Option.bind_some, clean_int, cond_true, cond_false, QS_P, Bool.not_false, beq_self_eq_true, true_and, Nat.reduceBEq, Nat.reduceLT, hi0, cls3, hL, hz]
      refine (fin _ _ ?_).mono ?_
      · simp only [nth_set, Nat.reduceBEq, cond_true, cond_false, *]
      · rintro x fr s' ⟨rfl, rfl, hs, h⟩
        exact ⟨rfl, hs, .inr ⟨rfl, h, by simp [nameFrom, okAt, hL, hz]⟩⟩
    | false =>
    cases hD : isDigit b with
    | true =>
      simp only [WP_nil, WP_always, WP_when, stepK_some, whenK_true, whenK_false, wantV_tt, wantV_ft, wantV_ff, nth_set, p_move, p_pick, p_bin, ev_tmp, ev_const, evc_eq, ofValue_bool, ofValue_int, pick_eq, pickV_true, pickV_false, retV_ok, bi_eql, bu_neq, Option.bind_some, clean_int, cond_true, cond_false, QS_P, Bool.not_true, Bool.not_false, beq_self_eq_true, true_and, Nat.reduceBEq, Nat.reduceLT, hi0, cls3, cls4, hL, hz, hD]
      refine W.cond (t := false) (by simp only [ev_tmp, nth_set, Nat.reduceBEq, cond_true, cond_false, *]) (W.skip ?_)
      simp only [block_normal, next_normal]
      refine W.reg ?_
      unfold k58_r8
      simp only [WP_nil, WP_always, stepK_some, nth_set, p_move, p_bin, ev_tmp, ev_const, evc_eq, ofValue_int, retV_ok, bi_add, Option.bind_some, clean_int, cond_true, cond_false, QS_P, beq_self_eq_true, true_and, Nat.reduceBEq, Nat.reduceLT, h9, hwr, next_normal]
      refine (ih (pre ++ [b]) _ _ (by rw [hpre]; simp) (by simp only [nth_set, Nat.reduceBEq, cond_false, *]) (by simp only [nth_set, Nat.reduceBEq, cond_false, *]) hg hl (by simp only [nth_set, Nat.reduceBEq, cond_false, *]) (by simp only [nth_set, Nat.reduceBEq, cond_true, cond_false, List.length_append, List.length_cons, List.length_nil])).mono ?_
      have hok : okAt pre.length b = true := by simp [okAt, hL, hz, hD]
      simp only [nameFrom, hok, Bool.true_and, List.length_append, List.length_cons, List.length_nil]
      exact fun _ _ _ h => h
    | false =>
    cases hU : b.toNat == 95 with
    | true =>
      simp only [WP_nil, WP_always, WP_when, stepK_some, whenK_true, wantV_tt, wantV_ff, nth_set, p_move, p_pick, p_bin, ev_tmp, ev_const, evc_eq, ofValue_bool, ofValue_int, pick_eq, pickV_true, pickV_false, retV_ok, bi_eql, bu_neq, Option.bind_some, clean_int, cond_true, cond_false, QS_P, Bool.not_true, Bool.not_false, beq_self_eq_true, true_and, Nat.reduceBEq, Nat.reduceLT, hi0, cls3, cls4, cls5, hL, hz, hD, hU]
      refine W.cond (t := false) (by simp only [ev_tmp, nth_set, Nat.reduceBEq, cond_true, cond_false, *]) (W.skip ?_)
      simp only [block_normal, next_normal]
      refine W.reg ?_
      unfold k58_r8
      simp only [WP_nil, WP_always, stepK_some, nth_set, p_move, p_bin, ev_tmp, ev_const, evc_eq, ofValue_int, retV_ok, bi_add, Option.bind_some, clean_int, cond_true, cond_false, QS_P, beq_self_eq_true, true_and, Nat.reduceBEq, Nat.reduceLT, h9, hwr, next_normal]
      refine (ih (pre ++ [b]) _ _ (by rw [hpre]; simp) (by simp only [nth_set, Nat.reduceBEq, cond_false, *]) (by simp only [nth_set, Nat.reduceBEq, cond_false, *]) hg hl (by simp only [nth_set, Nat.reduceBEq, cond_false, *]) (by simp only [nth_set, Nat.reduceBEq, cond_true, cond_false, List.length_append, List.length_cons, List.length_nil])).mono ?_
      have hok : okAt pre.length b = true := by simp [okAt, hL, hz, hD, hU]
      simp only [nameFrom, hok, Bool.true_and, List.length_append, List.length_cons, List.length_nil]
      exact fun _ _ _ h => h
    | false =>
      simp only [WP_nil, WP_always, WP_when, stepK_some, whenK_true, wantV_tt, wantV_ff, nth_set, p_move, p_pick, p_bin, ev_tmp, ev_const, evc_eq, ofValue_bool, ofValue_int, pick_eq, pickV_true, pickV_false, retV_ok, bi_eql, bu_neq, Option.bind_some, clean_int, cond_true, cond_false, QS_P, Bool.not_false, beq_self_eq_true, true_and, Nat.reduceBEq, Nat.reduceLT, hi0, cls3, cls4, cls5, hL, hz, hD, hU]
      refine (fin _ _ ?_).mono ?_
      · simp only [nth_set, Nat.reduceBEq, cond_true, cond_false, *]
      · rintro x fr s' ⟨rfl, rfl, hs, h⟩
        exact ⟨rfl, hs, .inr ⟨rfl, h, by simp [nameFrom, okAt, hL, hz, hD, hU]⟩⟩

theorem name_run (h156 : sp 89 = some sp156) (h94 : sp 58 = none) (str : Bytes) (hsmall : str.length < 9223372036854775808) (s : St) : RunC (QS sp) 58 [.str str] s (.bool (nameOk str)) s := by
  have hspec : sp156 [] = some (.agg (clsCells 256 0)) := rfl
  have hln := clsCells_length 256 0
  refine RunC.of2 k58_func k58_code k58_tmps k58_res h94 ?_
  unfold k58
  refine W.sreg ?_
  unfold k58_r0
  simp only [frame0, ofArgs, WP_nil, WP_always, stepK_some, p_assign, ev_const, ofValue_bool, retV_ok, cond_true, List.length_cons, List.length_nil, true_and, Nat.zero_add, Nat.reduceLT, Nat.reduceLeDiff, nat_ble, decide_true]
  refine W.sreg ?_
  unfold k58_r1
  have hz : zeroA Tryz.prog 151 = some (.agg (repCells [.int .u8 0] 256)) := by kernel_rfl
  have hrl : (repCells [AVal.int .u8 0] 256).length = 256 := by kernel_rfl
  have hw : writeCells (repCells [AVal.int .u8 0] 256) 0 (clsCells 256 0) = some (clsCells 256 0) := by
    simp only [writeCells, hrl, hln, nat_ble]
    have : List.drop (0 + 256) (repCells [AVal.int .u8 0] 256) = [] := List.drop_eq_nil_of_le (by rw [hrl]; omega)
    rw [this]; simp
  simp only [h156, hspec, hz, hw, hln, WP_nil, WP_always, WP_always0, stepK_some, stepK0_some, nth_set, gen_nil, loc_set', loc_set_set, p_alloc, p_store, p_call, callee_func, ev_tmp, evc_eq, evcs_nil, boxA_loc, hintOf_some, cells_agg, store_loc, Option.bind_some, clean_agg, cond_true, cond_false, QS_P, QS_hint, QS_spec, beq_self_eq_true, true_and, Nat.zero_add, Nat.reduceBEq, Nat.reduceLT, Bool.and_true, nat_beq, nat_blt, decide_true, sz_151, hint_58_3]
  refine W.seq (W.sreg ?_)
  unfold k58_r2
  simp only [WP_nil, WP_always, stepK_some, nth_set, p_move, p_builtin, ev_tmp, ev_const, evc_eq, evcs_nil, evcs_cons, ofValue_int, retV_ok, retVS_some, bl_len, hintOf_some, Option.bind_some, clean_str, cond_true, cond_false, QS_P, QS_hint, beq_self_eq_true, true_and, Nat.reduceBEq, Nat.reduceLT, nat_beq, ln_9]
  refine W.block ?_
  refine (name_loop hsmall (g := 1) str [] _ _ rfl (by simp only [nth_set, Nat.reduceBEq, cond_true, cond_false, *]) (by simp only [nth_set, Nat.reduceBEq, cond_true, cond_false, *]) (by simp only [gen_nil, gen_set', Nat.reduceBEq, cond_true]) (by simp only [loc_set', Nat.reduceBEq, cond_true]) (by simp only [nth_set, Nat.reduceBEq, cond_true, cond_false, *]) (by simp only [nth_set, Nat.reduceBEq, cond_true, cond_false]; rfl)).mono ?_
  rintro x ⟨e, sz, lc⟩ s' ⟨rfl, hs, ⟨rfl, h0, hok⟩ | ⟨rfl, h2, hok⟩⟩
  · have hs : sz = 39 := hs
    subst hs
    have h0 : nth e 0 = .str str := h0
    show W (QS sp) 58 _ _ _ _
    refine W.sreg ?_
    unfold k58_r9
    have hil : ile (str.length : Int) 24 = decide (str.length ≤ 24) := ile_nat _ 24
    cases str with
    | nil =>
      simp only [WP_nil, WP_always, WP_when, stepK_some, whenK_false, wantV_ft, nth_set, p_move, p_assign, p_pick, p_bin, ev_tmp, ev_const, evc_eq, ofValue_bool, ofValue_str, pick_eq, pickV_false, retV_ok, bs_neq, Option.bind_some, clean_str, cond_true, cond_false, QS_P, Bool.not_true, beq_self_eq_true, true_and, Nat.reduceBEq, Nat.reduceLT, h0]
      refine W.ret ⟨rfl, .inr rfl, res_tmp ?_ rfl⟩
      simp only [nth_set, Nat.reduceBEq, cond_true, cond_false, *]
      rfl
    | cons b r =>
      have hne : ((b :: r : Bytes) == []) = false := rfl
      simp only [WP_nil, WP_always, WP_when, stepK_some, whenK_true, wantV_tt, nth_set, p_move, p_assign, p_pick, p_bin, p_builtin, ev_tmp, ev_const, evc_eq, evcs_nil, evcs_cons, ofValue_bool, ofValue_int, ofValue_str, pick_eq, pickV_true, retV_ok, retVS_some, bi_leq, bs_neq, bl_len, hintOf_some, Option.bind_some, clean_int, clean_str, cond_true, cond_false, QS_P, QS_hint, List.length_cons, Bool.not_false, beq_self_eq_true, true_and, Nat.reduceBEq, Nat.reduceLT, nat_beq, ln_9, h0, hne]
      refine W.ret ⟨rfl, .inr rfl, res_tmp ?_ rfl⟩
      simp only [nth_set, Nat.reduceBEq, cond_true, cond_false]
      have hn : nameOk (b :: r) = decide ((b :: r).length ≤ 24) := by
        simp only [nameFrom, List.length_nil, Nat.zero_add, Bool.and_eq_true] at hok
        have h1 : isLetter b = true := by simpa [okAt] using hok.1
        have h2 : nameRest r = true := by rw [← nameFrom_rest r 0]; exact hok.2
        simp only [nameOk, h1, h2, Bool.true_and, nat_ble]
      rw [hn]
      exact congrArg AVal.bool hil
  · refine ⟨rfl, .inr rfl, res_tmp ?_ rfl⟩
    rw [h2]
    cases str with
    | nil => cases hok
    | cons b r =>
      simp only [nameFrom, List.length_nil, Nat.zero_add, Bool.and_eq_false_iff] at hok
      refine congrArg AVal.bool ?_
      rcases hok with h | h
      · have h1 : isLetter b = false := by simpa [okAt] using h
        simp [nameOk, h1]
      · have h2 : nameRest r = false := by rw [← nameFrom_rest r 0]; exact h
        simp [nameOk, h2]
end

def T2 : Tbl := (89, sp156) :: T1
theorem T2_ok : TblOk T2 := .cons sp156_ok T1_ok
theorem nameSp_ok : SpecOk Tryz.prog 58 nameSp := by
  intro args v hv G h w xs wr hx
  unfold nameSp at hv
  split at hv
  · rename_i s
    obtain ⟨h1, hv⟩ := bif_none hv
    injection hv with hv; subst hv
    have h1 : s.length < small := Nat.le_of_ble_eq_true h1
    exact spec_of_run (Q := QT T2) (good_of T2_ok) (fun _ => Nat.zero_lt_succ 1) (args := [.str s]) (v := .bool (nameOk s)) (s' := s0) rfl (name_run (sp := fun f => tblGet f T2) rfl rfl s h1 s0) rfl ⟨1, rfl⟩ G h w xs wr hx
  · cases hv
end Go.Proofs.YtbfmdojdemckbaaGreat
/- tag.Valid -/
namespace Go.Proofs.YtbfmdojdemckbaaGreat
open Go.Ag
def tagBad (last : Bytes) (t : Tag) : Bool := !nameOk t.1 || Ag.leBytes t.1 last || (t.2 == []) || decide (200 < t.2.length)
def tagsOk : Bytes → List Tag → Bool
  | _, [] => true
  | last, t :: r => bif tagBad last t then false else tagsOk t.1 r
def tagValid (l : List Tag) : Bool := tagsOk [] l && decide (l.length ≤ 60)


section
variable {sp : FuncId → Option (List AVal → Option AVal)} (h94 : sp 58 = some nameSp)
include h94
theorem tag_loop {v : AVal} {l : List Tag} (hl : IsL 2 tagV v l) (hk : ∀ t ∈ l, t.1.length < small) (hsmall : l.length < small) {s : St} : ∀ (rest pre : List Tag) (e : Env) (lc : Ag.Loc) (last : Bytes), l = pre ++ rest →
    nth e 0 = v → nth e 6 = v → nth e 7 = .int .i64 (l.length : Nat) → nth e 8 = .int .i64 (pre.length : Nat) → nth e 3 = .str last →
    W (QS sp) 59 (.loop k59_l0) ⟨e, 39, lc⟩ s fun x fr s' => s' = s ∧ fr.size = 39 ∧ ((x = .exit 0 ∧ nth fr.env 0 = v ∧ tagsOk last rest = true) ∨ (x = .ret ∧ nth fr.env 2 = .bool false ∧ tagsOk last rest = false)) := by
  intro rest
  induction rest with
  | nil =>
    intro pre e lc last hpre h0 h6 h7 h8 h3
    have hlen : l.length = pre.length := by rw [hpre]; simp
    refine W.loop1 ?_
    unfold k59_l0
    refine W.sreg ?_
    unfold k59_r3
    simp only [WP_nil, WP_always, stepK_some, p_bin, ev_tmp, evc_eq, retV_ok, bi_lss, Option.bind_some, clean_int, cond_true, QS_P, ilt_nat, true_and, Nat.reduceLT, decide_false, h7, h8, hlen, Nat.lt_irrefl, decide_false, Nat.reduceLT]
    refine W.seq (W.cond (t := false) (by simp only [ev_tmp, nth_set_eq]) ?_)
    refine W.exit ?_
    refine ⟨rfl, rfl, .inl ⟨rfl, ?_, rfl⟩⟩
    simp only [nth_set, cond_false, Nat.reduceBEq, h0]
  | cons t rest ih =>
    intro pre e lc last hpre h0 h6 h7 h8 h3
    have hlt : pre.length < l.length := by rw [hpre]; simp
    have hat : l[pre.length]? = some t := by rw [hpre]; simp
    have hia := fun lc => hl.at ia_38_l hat lc .i64
    have hcl := hl.clean
    have hns := nameSp_str (hk t (List.mem_of_getElem? hat))
    have hsm : small = 9223372036854775808 := rfl
    have hwr : IntKind.i64.wrap ((pre.length : Int) + 1) = ((pre.length + 1 : Nat) : Int) := by rw [wrap64_small (by omega) (by omega)]; omega
    refine W.loop1 ?_
    unfold k59_l0
    refine W.sreg ?_
    unfold k59_r3
    simp only [WP_nil, WP_always, stepK_some, p_bin, ev_tmp, evc_eq, retV_ok, bi_lss, Option.bind_some, clean_int, cond_true, QS_P, ilt_nat, true_and, Nat.reduceLT, decide_true, h7, h8, hlt, decide_true, Nat.reduceLT]
    refine W.seq (W.cond (t := true) (by simp only [ev_tmp, nth_set_eq]) (W.skip ?_))
    refine W.seq (W.block ?_)
    refine W.sreg ?_
    unfold k59_r4
    simp only [WP_nil, WP_always, WP_always0, stepK_some, stepK0_some, nth_set, loc_set', loc_set_set, p_alloc, p_load, p_store, p_indexAddr, ev_tmp, evc_eq, boxA_loc, load_ro, retV_ok, hintOf_some, cells_agg, store_loc, Option.bind_some, clean_agg, cond_true, cond_false, QS_P, QS_hint, List.length_cons, List.length_nil, cut, writeCells, List.take, List.drop, List.take_succ_cons, List.nil_append, List.cons_append, beq_self_eq_true, true_and, Nat.zero_add, Nat.reduceBEq, Nat.reduceLT, Nat.reduceAdd, Nat.reduceLeDiff, Bool.and_true, nat_beq, nat_blt, nat_ble, decide_true, rd_51, sz_51, zr_51, hint_59_5, h6, h8, hia, tagV]
    refine W.seq (W.sreg ?_)
    unfold k59_r5
    have fin : ∀ e' lc', nth e' 32 = .bool true → tagBad last t = true → W (QS sp) 59 (.cond (Operand.tmp 32) (.seq (.region k59_r6) .ret) .skip) ⟨e', 39, lc'⟩ s fun x fr s' => x = .ret ∧ s' = s ∧ fr.size = 39 ∧ nth fr.env 2 = .bool false := by
      intro e' lc' h _
      refine W.cond (t := true) (by simp only [ev_tmp, h]) (W.sreg ?_)
      unfold k59_r6
      simp only [WP_nil, WP_always, stepK_some, p_assign, ev_const, ofValue_bool, retV_ok, true_and, Nat.reduceLT]
      exact W.ret ⟨rfl, rfl, rfl, by simp only [nth_set, Nat.reduceBEq, cond_true, *]⟩
    cases hb1 : nameOk t.1 with
    | false =>
      simp only [WP_nil, WP_always, WP_when, stepK_some, whenK_false, wantV_tf, nth_set, gen_set', loc_set', p_move, p_pick, p_load, p_un, p_fieldAddr, p_call, callee_func, ev_tmp, ev_const, evc_eq, evcs_nil, evcs_cons, ofValue_bool, load_loc, pick_eq, pickV_true, retV_ok, un_not, Option.bind_some, clean_bool, clean_str, cond_true, cond_false, QS_P, QS_spec, List.drop, List.head?_cons, Bool.not_false, beq_self_eq_true, true_and, Nat.add_zero, Nat.reduceBEq, Nat.reduceLT, nat_beq, rd_9, fa_51_0_l, h94, hns, hb1]
      refine (fin _ _ ?_ ?_).mono ?_
      · simp only [nth_set, Nat.reduceBEq, cond_true, cond_false, *]
      · simp [tagBad, hb1]
      · rintro x fr s' ⟨rfl, rfl, hs, h⟩
        exact ⟨rfl, hs, .inr ⟨rfl, h, by simp [tagsOk, tagBad, hb1]⟩⟩
    | true =>
    cases hb2 : Ag.leBytes t.1 last with
    | true =>
      simp only [WP_nil, WP_always, WP_when, stepK_some, whenK_true, whenK_false, wantV_tf, wantV_ff, nth_set, gen_set', loc_set', p_move, p_pick, p_load, p_bin, p_un, p_fieldAddr, p_call, callee_func, ev_tmp, ev_const, evc_eq, evcs_nil, evcs_cons, ofValue_bool, load_loc, pick_eq, pickV_true, pickV_false, retV_ok, bs_leq, un_not, Option.bind_some, clean_bool, clean_str, cond_true, cond_false, QS_P, QS_spec, List.drop, List.head?_cons, Bool.not_true, beq_self_eq_true, true_and, Nat.add_zero, Nat.reduceBEq, Nat.reduceLT, nat_beq, rd_9, fa_51_0_l, h3, h94, hns, hb1, hb2]
      refine (fin _ _ ?_ ?_).mono ?_
      · simp only [nth_set, Nat.reduceBEq, cond_true, cond_false, *]
      · simp [tagBad, hb1, hb2]
      · rintro x fr s' ⟨rfl, rfl, hs, h⟩
        exact ⟨rfl, hs, .inr ⟨rfl, h, by simp [tagsOk, tagBad, hb1, hb2]⟩⟩
    | false =>
    cases hb3 : t.2 == [] with
    | true =>
      simp only [WP_nil, WP_always, WP_when, stepK_some, whenK_true, whenK_false, wantV_tf, wantV_ff, nth_set, gen_set', loc_set', p_move, p_pick, p_load, p_bin, p_un, p_fieldAddr, p_call, callee_func, ev_tmp, ev_const, evc_eq, evcs_nil, evcs_cons, ofValue_bool, ofValue_str, load_loc, pick_eq, pickV_true, pickV_false, retV_ok, bs_eql, bs_leq, un_not, Option.bind_some, clean_bool, clean_str, cond_true, cond_false, QS_P, QS_spec, List.drop, List.head?_cons, Bool.not_true, beq_self_eq_true, true_and, Nat.zero_add, Nat.add_zero, Nat.reduceBEq, Nat.reduceLT, nat_beq, rd_9, fa_51_0_l, fa_51_1_l, h3, h94, hns, hb1, hb2, hb3]
      refine (fin _ _ ?_ ?_).mono ?_
      · simp only [nth_set, Nat.reduceBEq, cond_true, cond_false, *]
      · simp [tagBad, hb1, hb2, hb3]
      · rintro x fr s' ⟨rfl, rfl, hs, h⟩
        exact ⟨rfl, hs, .inr ⟨rfl, h, by simp [tagsOk, tagBad, hb1, hb2, hb3]⟩⟩
    | false =>
    have hil : ilt 200 (t.2.length : Nat) = decide (200 < t.2.length) := ilt_nat 200 _
    cases hb4 : decide (200 < t.2.length) with
    | true =>
      simp only [WP_nil, WP_always, WP_when, stepK_some, whenK_true, wantV_ff, nth_set, gen_set', loc_set', p_move, p_pick, p_load, p_bin, p_un, p_fieldAddr, p_builtin, p_call, callee_func, ev_tmp, ev_const, evc_eq, evcs_nil, evcs_cons, ofValue_bool, ofValue_int, ofValue_str, load_loc, pick_eq, pickV_false, retV_ok, retVS_some, bi_gtr, bs_eql, bs_leq, un_not, bl_len, hintOf_some, Option.bind_some, clean_bool, clean_int, clean_str, cond_true, cond_false, QS_P, QS_hint, QS_spec, List.drop, List.head?_cons, Bool.not_true, beq_self_eq_true, true_and, Nat.zero_add, Nat.add_zero, Nat.reduceBEq, Nat.reduceLT, nat_beq, rd_9, fa_51_0_l, fa_51_1_l, ln_9, hint_59_30, h3, h94, hns, hb1, hb2, hb3, hil, hb4]
      refine (fin _ _ ?_ ?_).mono ?_
      · simp only [nth_set, Nat.reduceBEq, cond_true, cond_false, *]
      · simp [tagBad, hb1, hb2, hb3, hb4]
      · rintro x fr s' ⟨rfl, rfl, hs, h⟩
        exact ⟨rfl, hs, .inr ⟨rfl, h, by simp [tagsOk, tagBad, hb1, hb2, hb3, hb4]⟩⟩
    | false =>
      simp only [WP_nil, WP_always, WP_when, stepK_some, whenK_true, wantV_ff, nth_set, gen_set', loc_set', p_move, p_pick, p_load, p_bin, p_un, p_fieldAddr, p_builtin, p_call, callee_func, ev_tmp, ev_const, evc_eq, evcs_nil, evcs_cons, ofValue_bool, ofValue_int, ofValue_str, load_loc, pick_eq, pickV_false, retV_ok, retVS_some, bi_gtr, bs_eql, bs_leq, un_not, bl_len, hintOf_some, Option.bind_some, clean_bool, clean_int, clean_str, cond_true, cond_false, QS_P, QS_hint, QS_spec, List.drop, List.head?_cons, Bool.not_true, beq_self_eq_true, true_and, Nat.zero_add, Nat.add_zero, Nat.reduceBEq, Nat.reduceLT, nat_beq, rd_9, fa_51_0_l, fa_51_1_l, ln_9, hint_59_30, h3, h94, hns, hb1, hb2, hb3, hil, hb4]
      refine W.cond (t := false) (by simp only [ev_tmp, nth_set, Nat.reduceBEq, cond_true, cond_false, *]) (W.skip ?_)
      simp only [next_normal]
      refine W.reg ?_
      unfold k59_r7
      simp only [WP_nil, WP_always, stepK_some, nth_set, gen_set', loc_set', p_assign, p_load, p_fieldAddr, ev_tmp, load_loc, retV_ok, Option.bind_some, cond_true, cond_false, QS_P, List.drop, List.head?_cons, beq_self_eq_true, true_and, Nat.add_zero, Nat.reduceBEq, Nat.reduceLT, nat_beq, rd_9, fa_51_0_l, next_normal, block_normal]
      refine W.reg ?_
      unfold k59_r8
      simp only [WP_nil, WP_always, stepK_some, nth_set, p_move, p_bin, ev_tmp, ev_const, evc_eq, ofValue_int, retV_ok, bi_add, Option.bind_some, clean_int, cond_true, cond_false, QS_P, beq_self_eq_true, true_and, Nat.reduceBEq, Nat.reduceLT, h8, hwr, next_normal]
      refine (ih (pre ++ [t]) _ _ t.1 (by rw [hpre]; simp) (by simp only [nth_set, Nat.reduceBEq, cond_false, *]) (by simp only [nth_set, Nat.reduceBEq, cond_false, *]) (by simp only [nth_set, Nat.reduceBEq, cond_false, *]) (by simp only [nth_set, Nat.reduceBEq, cond_true, cond_false, List.length_append, List.length_cons, List.length_nil]) (by simp only [nth_set, Nat.reduceBEq, cond_true, cond_false, *])).mono ?_
      have hbad : tagBad last t = false := by simp [tagBad, hb1, hb2, hb3, hb4]
      simp only [tagsOk, hbad, cond_false]
      exact fun _ _ _ h => h

theorem tag_run (h95 : sp 59 = none) {v : AVal} {l : List Tag} (hl : IsL 2 tagV v l) (hk : ∀ t ∈ l, t.1.length < small) (hsmall : l.length < small) (s : St) : RunC (QS sp) 59 [v] s (.bool (tagValid l)) s := by
  have hlen := fun mk s => hl.len ln_38_n ln_38_l mk s
  have hcl := hl.clean
  refine RunC.of2 k59_func k59_code k59_tmps k59_res h95 ?_
  unfold k59
  refine W.sreg ?_
  unfold k59_r0
  simp only [frame0, ofArgs, WP_nil, WP_always, stepK_some, p_assign, ev_const, ofValue_bool, retV_ok, cond_true, List.length_cons, List.length_nil, true_and, Nat.zero_add, Nat.reduceLT, Nat.reduceLeDiff, nat_ble, decide_true]
  refine W.sreg ?_
  unfold k59_r1
  simp only [WP_nil, WP_always, stepK_some, p_assign, ev_const, ofValue_str, retV_ok, true_and, Nat.reduceLT]
  refine W.seq (W.sreg ?_)
  unfold k59_r2
  simp only [WP_nil, WP_always, stepK_some, nth_set, p_move, p_builtin, ev_tmp, ev_const, evc_eq, evcs_nil, evcs_cons, ofValue_int, retV_ok, retVS_some, bl_len, hintOf_some, Option.bind_some, cond_true, cond_false, QS_P, QS_hint, beq_self_eq_true, true_and, Nat.reduceBEq, Nat.reduceLT, nat_beq, hcl, hlen]
  refine W.block ?_
  refine (tag_loop h94 hl hk hsmall l [] _ _ [] rfl (by simp only [nth_set, Nat.reduceBEq, cond_true, cond_false, *]) (by simp only [nth_set, Nat.reduceBEq, cond_true, cond_false, *]) (by simp only [nth_set, Nat.reduceBEq, cond_true, cond_false, *]) (by simp only [nth_set, Nat.reduceBEq, cond_true, cond_false]; rfl) (by simp only [nth_set, Nat.reduceBEq, cond_true, cond_false, *])).mono ?_
  rintro x ⟨e, sz, lc⟩ s' ⟨rfl, hs, ⟨rfl, h0, hok⟩ | ⟨rfl, h2, hok⟩⟩
  · have hs : sz = 39 := hs
    subst hs
    have h0 : nth e 0 = v := h0
    show W (QS sp) 59 _ _ _ _
    refine W.sreg ?_
    unfold k59_r9
    simp only [WP_nil, WP_always, stepK_some, nth_set, p_move, p_assign, p_bin, p_builtin, ev_tmp, ev_const, evc_eq, evcs_nil, evcs_cons, ofValue_int, retV_ok, retVS_some, bi_leq, bl_len, hintOf_some, Option.bind_some, clean_int, cond_true, cond_false, QS_P, QS_hint, beq_self_eq_true, true_and, Nat.reduceBEq, Nat.reduceLT, nat_beq, h0, hcl, hlen]
    refine W.ret ⟨rfl, .inr rfl, res_tmp ?_ rfl⟩
    simp only [nth_set, Nat.reduceBEq, cond_true, cond_false, tagValid, hok, Bool.true_and]
    exact congrArg AVal.bool (ile_nat l.length 60)
  · exact ⟨rfl, .inr rfl, res_tmp (by rw [h2]; simp [tagValid, hok]) rfl⟩
end

def smallTags : List Tag → Bool
  | [] => true
  | t :: l => Nat.blt t.1.length small && smallTags l
theorem smallTags_mem : ∀ {l : List Tag}, smallTags l = true → ∀ t ∈ l, t.1.length < small
  | [], _, _, h => by cases h
  | a :: l, h, t, ht => by
    simp only [smallTags, Bool.and_eq_true] at h
    rcases List.mem_cons.1 ht with rfl | ht
    · exact Nat.le_of_ble_eq_true h.1
    · exact smallTags_mem h.2 t ht
theorem smallTags_of : ∀ {l : List Tag}, (∀ t ∈ l, t.1.length < small) → smallTags l = true
  | [], _ => rfl
  | a :: l, h => by
    simp only [smallTags, Bool.and_eq_true]
    exact ⟨Nat.ble_eq_true_of_le (h a (by simp)), smallTags_of fun t ht => h t (by simp [ht])⟩
def tagSp : Sp
  | [v] => (asL 2 asTag v).bind fun l => bif Nat.blt l.length small && smallTags l then some (.bool (tagValid l)) else none
  | _ => none
theorem tagSp_of {v : AVal} {l : List Tag} (h : IsL 2 tagV v l) (h1 : l.length < small) (h2 : ∀ t ∈ l, t.1.length < small) : tagSp [v] = some (.bool (tagValid l)) := by
  simp only [tagSp, isL_asL asTag_tagV h, Option.bind_some, nat_blt, h1, decide_true, smallTags_of h2, Bool.and_self, cond_true]
def T3 : Tbl := (58, nameSp) :: T2
theorem T3_ok : TblOk T3 := .cons nameSp_ok T2_ok
theorem tagSp_ok : SpecOk Tryz.prog 59 tagSp := by
  intro args u hv G h w xs wr hx
  unfold tagSp at hv
  split at hv
  · rename_i v
    simp only [Option.bind_eq_some_iff] at hv
    obtain ⟨l, h1, hv⟩ := hv
    obtain ⟨h2, hv⟩ := bif_none hv
    injection hv with hv; subst hv
    simp only [Bool.and_eq_true] at h2
    have hl : IsL 2 tagV v l := asL_isL (fun _ _ => asTag_enc) h1
    obtain ⟨ht, hw⟩ := isL_top tagV_pure hl
    exact spec_of_run (Q := QT T3) (good_of T3_ok) (fun _ => Nat.zero_lt_succ 1) (args := [v]) (v := .bool (tagValid l)) (s' := s0) (by simp only [tops, ht, Bool.and_self])
      (tag_run (sp := fun f => tblGet f T3) rfl rfl hw (smallTags_mem h2.2) (Nat.le_of_ble_eq_true h2.1) s0) rfl ⟨1, rfl⟩ G h w xs wr hx
  · cases hv
end Go.Proofs.YtbfmdojdemckbaaGreat
/- object.word, least, on -/
namespace Go.Proofs.YtbfmdojdemckbaaGreat
open Go.Ag

def wordOf (k : Int) : Bytes := bif ieq k 1 then [110, 111, 100, 101] else bif ieq k 2 then [119, 97, 121] else bif ieq k 3 then [97, 114, 101, 97] else bif ieq k 4 then [114, 111, 117, 116, 101] else bif ieq k 5 then [116, 117, 114, 110] else []
def wordSp : Sp
  | [.int .i64 k] => some (.str (wordOf k))
  | _ => none
theorem ev93_0 : evalC [] 100 57 [.int .i64 0] = some (.str (wordOf 0), 0) := by kernel_rfl
theorem ev93_1 : evalC [] 100 57 [.int .i64 1] = some (.str (wordOf 1), 0) := by kernel_rfl
theorem ev93_2 : evalC [] 100 57 [.int .i64 2] = some (.str (wordOf 2), 0) := by kernel_rfl
theorem ev93_3 : evalC [] 100 57 [.int .i64 3] = some (.str (wordOf 3), 0) := by kernel_rfl
theorem ev93_4 : evalC [] 100 57 [.int .i64 4] = some (.str (wordOf 4), 0) := by kernel_rfl
theorem ev93_5 : evalC [] 100 57 [.int .i64 5] = some (.str (wordOf 5), 0) := by kernel_rfl

theorem word_run {sp : FuncId → Option (List AVal → Option AVal)} (h93 : sp 57 = none) {k : Int} (hk : k < 0 ∨ 6 ≤ k) (s : St) : RunC (QS sp) 57 [.int .i64 k] s (.str []) s := by
  refine RunC.of2 k57_func k57_code k57_tmps k57_res h93 ?_
  unfold k57
  refine W.sreg ?_
  unfold k57_r0
  simp only [frame0, ofArgs, WP_nil, WP_always, stepK_some, p_assign, ev_const, ofValue_str, retV_ok, cond_true, List.length_cons, List.length_nil, true_and, Nat.zero_add, Nat.reduceLT, Nat.reduceLeDiff, nat_ble, decide_true]
  refine W.sreg ?_
  unfold k57_r1
  simp only [WP_nil, WP_always, WP_always0, stepK_some, stepK0_some, nth_set, gen_nil, loc_set', loc_set_set, p_alloc, p_build, p_store, ev_tmp, ev_const, evc_eq, ofValue_str, boxA_loc, retV_ok, hintOf_some, cells_agg, cells_str, store_loc, Option.bind_some, clean_str, clean_agg, cond_true, cond_false, QS_P, QS_hint, List.length_cons, List.length_nil, writeCells, List.take, List.drop, List.drop_succ_cons, List.take_succ_cons, List.nil_append, List.cons_append, beq_self_eq_true, true_and, Nat.zero_add, Nat.reduceBEq, Nat.reduceLT, Nat.reduceAdd, Nat.reduceMul, Nat.reduceLeDiff, Bool.and_true, nat_beq, nat_blt, nat_ble, decide_true, bd_150, sz_150, zr_150, hint_57_3, fillA]
  refine W.seq (W.sreg ?_)
  unfold k57_r2
  have fin : ∀ e' lc', nth e' 10 = .bool true → W (QS sp) 57 (.cond (Operand.tmp 10) (.seq (.region k57_r3) .ret) .skip) ⟨e', 14, lc'⟩ s fun x fr s' => x = .ret ∧ s' = s ∧ nth fr.env 2 = .str [] := by
    intro e' lc' h
    refine W.cond (t := true) (by simp only [ev_tmp, h]) (W.sreg ?_)
    unfold k57_r3
    simp only [WP_nil, WP_always, stepK_some, p_assign, ev_const, ofValue_str, retV_ok, true_and, Nat.reduceLT]
    exact W.ret ⟨rfl, rfl, by simp only [nth_set, Nat.reduceBEq, cond_true, *]⟩
  cases h1 : ilt k 0 with
  | true =>
    simp only [WP_nil, WP_always, WP_when, stepK_some, whenK_false, wantV_tf, nth_set, p_move, p_pick, p_bin, ev_tmp, ev_const, evc_eq, ofValue_bool, ofValue_int, pick_eq, pickV_true, retV_ok, bi_lss, Option.bind_some, clean_int, cond_true, cond_false, QS_P, beq_self_eq_true, true_and, Nat.reduceBEq, Nat.reduceLT, h1]
    refine (fin _ _ ?_).mono ?_
    · simp only [nth_set, Nat.reduceBEq, cond_true, cond_false, *]
    · rintro x fr s' ⟨rfl, rfl, h⟩
      exact ⟨rfl, .inr rfl, res_tmp h rfl⟩
  | false =>
    have h2 : ile 6 k = true := by
      simp only [ilt, decide_eq_false_iff_not] at h1
      simp only [ile, decide_eq_true_eq]; omega
    simp only [WP_nil, WP_always, WP_when, stepK_some, whenK_true, wantV_ff, nth_set, p_move, p_pick, p_bin, ev_tmp, ev_const, evc_eq, ofValue_bool, ofValue_int, pick_eq, pickV_false, retV_ok, bi_lss, bi_geq, Option.bind_some, clean_int, cond_true, cond_false, QS_P, beq_self_eq_true, true_and, Nat.reduceBEq, Nat.reduceLT, h1, h2]
    refine (fin _ _ ?_).mono ?_
    · simp only [nth_set, Nat.reduceBEq, cond_true, cond_false, *]
    · rintro x fr s' ⟨rfl, rfl, h⟩
      exact ⟨rfl, .inr rfl, res_tmp h rfl⟩

theorem ieq_ne {a b : Int} (h : a ≠ b) : ieq a b = false := beq_eq_false_iff_ne.2 h
theorem wordSp_ok : SpecOk Tryz.prog 57 wordSp := by
  intro args u hv G h w xs wr hx
  unfold wordSp at hv
  split at hv
  · rename_i k
    injection hv with hv; subst hv
    have hcase : (k < 0 ∨ 6 ≤ k) ∨ k = 0 ∨ k = 1 ∨ k = 2 ∨ k = 3 ∨ k = 4 ∨ k = 5 := by omega
    rcases hcase with hk | rfl | rfl | rfl | rfl | rfl | rfl
    · have hw : wordOf k = [] := by
        simp only [wordOf, ieq_ne (show k ≠ 1 by omega), ieq_ne (show k ≠ 2 by omega), ieq_ne (show k ≠ 3 by omega), ieq_ne (show k ≠ 4 by omega), ieq_ne (show k ≠ 5 by omega), cond_false]
      rw [hw]
      exact spec_of_run (Q := QT []) (good_of .nil) (fun _ => Nat.zero_lt_succ 1) (args := [.int .i64 k]) (v := .str []) (s' := s0) rfl (word_run (sp := fun f => tblGet f []) rfl hk s0) rfl ⟨1, rfl⟩ G h w xs wr hx
    · exact spec_of_evalC .nil ev93_0 (args' := [.int .i64 0]) rfl rfl G h w xs wr hx
    · exact spec_of_evalC .nil ev93_1 (args' := [.int .i64 1]) rfl rfl G h w xs wr hx
    · exact spec_of_evalC .nil ev93_2 (args' := [.int .i64 2]) rfl rfl G h w xs wr hx
    · exact spec_of_evalC .nil ev93_3 (args' := [.int .i64 3]) rfl rfl G h w xs wr hx
    · exact spec_of_evalC .nil ev93_4 (args' := [.int .i64 4]) rfl rfl G h w xs wr hx
    · exact spec_of_evalC .nil ev93_5 (args' := [.int .i64 5]) rfl rfl G h w xs wr hx
  · cases hv

def leastOf (k : Int) : Nat := bif ieq k 2 then 2 else bif ieq k 3 then 3 else bif ieq k 4 then 1 else bif ieq k 5 then 3 else 0
def leastSp : Sp
  | [.int .i64 k] => bif ile 0 k && ilt k 6 then some (.int .i64 (leastOf k : Nat)) else none
  | _ => none
theorem ev96_0 : evalC [] 100 60 [.int .i64 0] = some (.int .i64 (leastOf 0 : Nat), 0) := by kernel_rfl
theorem ev96_1 : evalC [] 100 60 [.int .i64 1] = some (.int .i64 (leastOf 1 : Nat), 0) := by kernel_rfl
theorem ev96_2 : evalC [] 100 60 [.int .i64 2] = some (.int .i64 (leastOf 2 : Nat), 0) := by kernel_rfl
theorem ev96_3 : evalC [] 100 60 [.int .i64 3] = some (.int .i64 (leastOf 3 : Nat), 0) := by kernel_rfl
theorem ev96_4 : evalC [] 100 60 [.int .i64 4] = some (.int .i64 (leastOf 4 : Nat), 0) := by kernel_rfl
theorem ev96_5 : evalC [] 100 60 [.int .i64 5] = some (.int .i64 (leastOf 5 : Nat), 0) := by kernel_rfl
theorem leastSp_ok : SpecOk Tryz.prog 60 leastSp := by
  intro args u hv G h w xs wr hx
  unfold leastSp at hv
  split at hv
  · rename_i k
    obtain ⟨hk, hv⟩ := bif_none hv
    injection hv with hv; subst hv
    simp only [ile, ilt, Bool.and_eq_true, decide_eq_true_eq] at hk
    have hcase : k = 0 ∨ k = 1 ∨ k = 2 ∨ k = 3 ∨ k = 4 ∨ k = 5 := by omega
    rcases hcase with rfl | rfl | rfl | rfl | rfl | rfl
    · exact spec_of_evalC .nil ev96_0 (args' := [.int .i64 0]) rfl rfl G h w xs wr hx
    · exact spec_of_evalC .nil ev96_1 (args' := [.int .i64 1]) rfl rfl G h w xs wr hx
    · exact spec_of_evalC .nil ev96_2 (args' := [.int .i64 2]) rfl rfl G h w xs wr hx
    · exact spec_of_evalC .nil ev96_3 (args' := [.int .i64 3]) rfl rfl G h w xs wr hx
    · exact spec_of_evalC .nil ev96_4 (args' := [.int .i64 4]) rfl rfl G h w xs wr hx
    · exact spec_of_evalC .nil ev96_5 (args' := [.int .i64 5]) rfl rfl G h w xs wr hx
  · cases hv

def onGrid (x y : Int) : Bool := ile 0 x && ilt x 1048576 && ile 0 y && ilt y 1048576
def onSp : Sp
  | [.agg [.int .i64 x, .int .i64 y]] => some (.bool (onGrid x y))
  | _ => none
theorem on_run {sp : FuncId → Option (List AVal → Option AVal)} (h99 : sp 63 = none) (x y : Int) (s : St) : RunC (QS sp) 63 [.agg [.int .i64 x, .int .i64 y]] s (.bool (onGrid x y)) s := by
  refine RunC.of2 k63_func k63_code k63_tmps k63_res h99 ?_
  unfold k63
  refine W.sreg ?_
  unfold k63_r0
  simp only [frame0, ofArgs, WP_nil, WP_always, stepK_some, nth_set, gen_nil, p_assign, p_box, ev_tmp, ev_const, evc_eq, ofValue_bool, boxA_loc, retV_ok, hintOf_some, cells_agg, Option.bind_some, clean_agg, cond_true, QS_hint, List.length_cons, List.length_nil, beq_self_eq_true, true_and, Nat.zero_add, Nat.reduceLT, Nat.reduceLeDiff, nat_ble, decide_true, hint_63_1]
  refine W.sreg ?_
  unfold k63_r1
  cases h1 : ile 0 x with
  | false =>
    simp only [WP_nil, WP_always, WP_when, stepK_some, whenK_false, wantV_ft, nth_set, gen_nil, gen_set', loc_set', p_move, p_assign, p_pick, p_load, p_bin, p_fieldAddr, ev_tmp, ev_const, evc_eq, ofValue_bool, ofValue_int, load_loc, pick_eq, pickV_false, retV_ok, bi_geq, Option.bind_some, clean_int, cond_true, cond_false, QS_P, List.drop, List.head?_cons, beq_self_eq_true, true_and, Nat.add_zero, Nat.reduceBEq, Nat.reduceLT, nat_beq, rd_3, fa_36_0_l, h1]
    refine W.ret ⟨rfl, .inr rfl, res_tmp ?_ rfl⟩
    simp only [nth_set, Nat.reduceBEq, cond_true, cond_false, *]
    simp only [onGrid, h1, Bool.false_and]
  | true =>
  cases h2 : ilt x 1048576 with
  | false =>
    simp only [WP_nil, WP_always, WP_when, stepK_some, whenK_true, whenK_false, wantV_tt, wantV_ft, nth_set, gen_nil, gen_set', loc_set', p_move, p_assign, p_pick, p_load, p_bin, p_fieldAddr, ev_tmp, ev_const, evc_eq, ofValue_bool, ofValue_int, load_loc, pick_eq, pickV_true, pickV_false, retV_ok, bi_lss, bi_geq, Option.bind_some, clean_int, cond_true, cond_false, QS_P, List.drop, List.head?_cons, beq_self_eq_true, true_and, Nat.add_zero, Nat.reduceBEq, Nat.reduceLT, nat_beq, rd_3, fa_36_0_l, h1, h2]
    refine W.ret ⟨rfl, .inr rfl, res_tmp ?_ rfl⟩
    simp only [nth_set, Nat.reduceBEq, cond_true, cond_false, *]
    simp only [onGrid, h1, h2, Bool.and_false, Bool.false_and]
  | true =>
  cases h3 : ile 0 y with
  | false =>
    simp only [WP_nil, WP_always, WP_when, stepK_some, whenK_true, whenK_false, wantV_tt, wantV_ft, nth_set, gen_nil, gen_set', loc_set', p_move, p_assign, p_pick, p_load, p_bin, p_fieldAddr, ev_tmp, ev_const, evc_eq, ofValue_bool, ofValue_int, load_loc, pick_eq, pickV_true, pickV_false, retV_ok, bi_lss, bi_geq, Option.bind_some, clean_int, cond_true, cond_false, QS_P, List.drop, List.head?_cons, beq_self_eq_true, true_and, Nat.zero_add, Nat.add_zero, Nat.reduceBEq, Nat.reduceLT, nat_beq, rd_3, fa_36_0_l, fa_36_1_l, h1, h2, h3]
    refine W.ret ⟨rfl, .inr rfl, res_tmp ?_ rfl⟩
    simp only [nth_set, Nat.reduceBEq, cond_true, cond_false, *]
    simp only [onGrid, h1, h2, h3, Bool.and_false, Bool.false_and]
  | true =>
    simp only [WP_nil, WP_always, WP_when, stepK_some, whenK_true, wantV_tt, nth_set, gen_nil, gen_set', loc_set', p_move, p_assign, p_pick, p_load, p_bin, p_fieldAddr, ev_tmp, ev_const, evc_eq, ofValue_bool, ofValue_int, load_loc, pick_eq, pickV_true, retV_ok, bi_lss, bi_geq, Option.bind_some, clean_int, cond_true, cond_false, QS_P, List.drop, List.head?_cons, beq_self_eq_true, true_and, Nat.zero_add, Nat.add_zero, Nat.reduceBEq, Nat.reduceLT, nat_beq, rd_3, fa_36_0_l, fa_36_1_l, h1, h2, h3]
    refine W.ret ⟨rfl, .inr rfl, res_tmp ?_ rfl⟩
    simp only [nth_set, Nat.reduceBEq, cond_true, cond_false, *]
    simp only [onGrid, h1, h2, h3, Bool.true_and]
theorem onSp_ok : SpecOk Tryz.prog 63 onSp := by
  intro args u hv G h w xs wr hx
  unfold onSp at hv
  split at hv
  · rename_i x y
    injection hv with hv; subst hv
    exact spec_of_run (Q := QT []) (good_of .nil) (fun _ => Nat.zero_lt_succ 1) (args := [.agg [.int .i64 x, .int .i64 y]]) (v := .bool (onGrid x y)) (s' := s0) rfl (on_run (sp := fun f => tblGet f []) rfl x y s0) rfl ⟨1, rfl⟩ G h w xs wr hx
  · cases hv
def T4 : Tbl := (57, wordSp) :: (60, leastSp) :: (63, onSp) :: (59, tagSp) :: T3
theorem T4_ok : TblOk T4 := .cons wordSp_ok (.cons leastSp_ok (.cons onSp_ok (.cons tagSp_ok T3_ok)))
end Go.Proofs.YtbfmdojdemckbaaGreat
/- Loads and stores through the heap; calls inside regions. -/
namespace Go.Proofs.YtbfmdojdemckbaaGreat
open Go.Ag
def loadO (P : Program) (t : TypeId) (off : Nat) : Option AObj → Option AVal
  | some (.cells cs) => readCells P t cs off
  | _ => none
theorem load_ptr (P : Program) (mk : Mask) (t : TypeId) (n off : Nat) (lc : Ag.Loc) (s : St) : loadA P mk t (.ptr n off) lc s = loadO P t off (s.get mk n) := by
  simp only [loadA]
  cases s.get mk n with
  | none => rfl
  | some o => cases o <;> rfl
theorem loadO_cells (P : Program) (t : TypeId) (off : Nat) (cs : List AVal) : loadO P t off (some (.cells cs)) = readCells P t cs off := rfl
noncomputable def storeO (lc : Ag.Loc) (s : St) (m off : Nat) (v : AVal) : Option AObj → Option (Ag.Loc × St)
  | some (.cells cs) => (writeCells cs off v.cells).bind fun cs' => some (lc, s.put m (some (.cells cs')))
  | _ => none
theorem store_ptr' (P : Program) (mk : Mask) (t : TypeId) (m off : Nat) (v : AVal) (lc : Ag.Loc) (s : St) : storeA P mk t (.ptr m off) v lc s = (sizeA P t).bind fun n => bif Nat.beq v.cells.length n && Nat.blt 0 n then storeO lc s m off v (s.get mk m) else none := by
  simp only [storeA]
  cases s.get mk m with
  | none => rfl
  | some o => cases o <;> rfl
theorem storeO_cells (lc : Ag.Loc) (s : St) (m off : Nat) (v : AVal) (cs : List AVal) : storeO lc s m off v (some (.cells cs)) = (writeCells cs off v.cells).bind fun cs' => some (lc, s.put m (some (.cells cs'))) := rfl

section
variable {Q : Prog} {f : FuncId}
theorem WL_split (n : Nat) {l : List SOp} {fr : Fr} {s : St} {N : Fr → St → Prop} (h : WP Q f (l.take n) fr s fun fr s => WL Q f (l.drop n) fr s N) : WL Q f l fr s N := by
  obtain ⟨fr1, s1, h1, h2⟩ := h
  have := WL.app h1 h2
  rwa [List.take_append_drop] at this
/-- a call of a function value -/
theorem WL_call {d : Tmp} {x : Operand} {av : Array Operand} {ts : Array TypeId} {l : List SOp} {e : Env} {sz : Nat} {lc : Ag.Loc} {s s1 : St} {g : FuncId} {args : List AVal} {v : AVal} {N : Fr → St → Prop}
    (hc : callee e { callee := .value x, args := av, argTypes := ts } = some (g, args)) (hr : RunC Q g args s v s1) (hd : d < sz) (hk : WL Q f l ⟨e.set d (some v), sz, lc⟩ s1 N) :
    WL Q f (⟨some d, .call { callee := .value x, args := av, argTypes := ts }, .always⟩ :: l) ⟨e, sz, lc⟩ s N :=
  WL.call rfl rfl (fun b => by simp) hc hr (put_some.2 ⟨hd, rfl⟩) hk
theorem WL_WP {l : List SOp} {fr : Fr} {s : St} {N : Fr → St → Prop} (h : WP Q f l fr s N) : WL Q f l fr s N := let ⟨_, _, h1, h2⟩ := h; WL.run h1 h2
theorem callee_val {e : Env} {x : Operand} {av : Array Operand} {ts : Array TypeId} {n : FuncId} {a b : List AVal} (h : ev e x = some (.func (.func n) a b)) : callee e { callee := .value x, args := av, argTypes := ts } = (evcs e av.toList).bind fun args => some (n, a ++ (args ++ b)) := by
  simp only [callee, h, Option.bind_some]
end
/- objects -/
structure Obj where
  id : Bytes
  kind : Int
  x : Int
  y : Int
  refsV : AVal
  tagsV : AVal
  refs : List Bytes
  tags : List Tag
def Obj.cells (o : Obj) : List AVal := [.str o.id, .int .i64 o.kind, .int .i64 o.x, .int .i64 o.y, o.refsV, o.tagsV]
def Obj.val (o : Obj) : AVal := .agg o.cells
structure Obj.Ok (o : Obj) : Prop where
  refs : IsL 1 strV o.refsV o.refs
  tags : IsL 2 tagV o.tagsV o.tags
  id : o.id.length < small
  reflen : o.refs.length < small
  ref : ∀ r ∈ o.refs, r.length < small
  taglen : o.tags.length < small
  key : ∀ t ∈ o.tags, t.1.length < small
/-- set entries -/
def setM (ks : List Bytes) : List (Bytes × AVal) := ks.map fun k => (k, .bool true)
theorem look_set (k : Bytes) : ∀ ks, look k (setM ks) = bif ks.contains k then some (.bool true) else none
  | [] => rfl
  | a :: ks => by
    have ih := look_set k ks
    simp only [setM, List.map_cons, look, List.contains_cons] at ih ⊢
    rw [ih]
    cases k == a <;> simp
theorem look_setD (k : Bytes) (ks : List Bytes) : (look k (setM ks)).getD (.bool false) = .bool (ks.contains k) := by
  rw [look_set]; cases ks.contains k <;> rfl
def addK (k : Bytes) (ks : List Bytes) : List Bytes := bif ks.contains k then ks else ks ++ [k]
theorem ins_set (k : Bytes) : ∀ ks, insM k (.bool true) (setM ks) = setM (addK k ks)
  | [] => rfl
  | a :: ks => by
    have ih := ins_set k ks
    simp only [setM, List.map_cons, insM, addK, List.contains_cons] at ih ⊢
    cases h : k == a with
    | true =>
      have : k = a := by simpa using h
      subst this
      simp
    | false =>
      simp only [cond_false, Bool.false_or, ih]
      cases ks.contains k <;> simp
theorem mem_addK (k j : Bytes) (ks : List Bytes) : (addK k ks).contains j = ((j == k) || ks.contains j) := by
  unfold addK
  cases h : ks.contains k with
  | true =>
    simp only [cond_true]
    cases h1 : j == k with
    | false => rfl
    | true => have : j = k := by simpa using h1
              subst this; simp only [h, Bool.or_self]
  | false =>
    simp only [cond_false]
    rw [Bool.eq_iff_iff]
    simp only [List.contains_iff_mem, List.mem_append, List.mem_singleton, Bool.or_eq_true, beq_iff_eq]
    exact or_comm
end Go.Proofs.YtbfmdojdemckbaaGreat
