/- The walk of ValidClosures; its arguments as values. -/
import Derived.Test.YtnjhbfefpcjjaaaGreatY6
import Derived.Test.YtnjhbfefpcjjaaaGreatHd
import Derived.ProofKit
/- planispherelaw20.ValidClosures -/
namespace Go.Proofs.YtnjhbfefpcjjaaaGreat
open Go.Ag

def cV : List Obj → AVal
  | [] => .nils
  | o :: l => .list 6 ((o :: l).map Obj.val) .no
theorem mapV_eq (l : List Obj) : mapV l = .agg [cV l] := by cases l <;> rfl
theorem cV_isL (l : List Obj) : IsL 6 Obj.val (cV l) l := by
  cases l with
  | nil => exact .inl ⟨rfl, rfl⟩
  | cons o l => exact .inr ⟨_, rfl⟩

theorem sl_22 (mk : Mask) (n : Nat) (xs : List AVal) (r : Right) (lo hi : Operand) (e : Env) (s : St) : sliceA Tryz.prog mk 22 (.list n xs r) (some lo) (some hi) none e s =
    ((ev e hi).bind natOf).bind fun h => ((ev e lo).bind natOf).bind fun l => bif Nat.beq n 6 && Nat.ble l h && Nat.ble h xs.length then some (.list n ((xs.take h).drop l) (bif Nat.beq h xs.length && (Nat.blt l h || Nat.beq l 0) then r else .no)) else none := by kernel_rfl
theorem take_drop_one {α : Type} {l : List α} {i : Nat} {a : α} (h : l[i]? = some a) : (l.take (i + 1)).drop i = [a] := by
  induction l generalizing i with
  | nil => simp at h
  | cons b l ih =>
    cases i with
    | zero => simp at h; subst h; simp
    | succ i => simpa using ih (by simpa using h)
theorem slice_one {v : AVal} {l : List Obj} (hl : IsL 6 Obj.val v l) {i : Nat} {o : Obj} (hat : l[i]? = some o) : ∃ r, ∀ (mk : Mask) (lo hi : Tmp) (e : Env) (s : St), nth e lo = .int .i64 (i : Nat) → nth e hi = .int .i64 ((i + 1 : Nat) : Int) → sliceA Tryz.prog mk 22 v (some (.tmp lo)) (some (.tmp hi)) none e s = some (.list 6 [o.val] r) := by
  have hlt : i < l.length := by
    rcases Nat.lt_or_ge i l.length with h | h
    · exact h
    · rw [List.getElem?_eq_none h] at hat; cases hat
  rcases hl with ⟨rfl, rfl⟩ | ⟨r, rfl⟩
  · simp at hat
  · refine ⟨bif Nat.beq (i + 1) l.length && (Nat.blt i (i + 1) || Nat.beq i 0) then r else .no, fun mk lo hi e s h1 h2 => ?_⟩
    rw [sl_22]
    simp only [ev_tmp, h1, h2, Option.bind_some, natOf_cast, List.length_map]
    have q : (Nat.beq 6 6 && Nat.ble i (i + 1) && Nat.ble (i + 1) l.length) = true := by
      simp only [nat_ble, Bool.and_eq_true, decide_eq_true_eq]
      exact ⟨⟨rfl, by omega⟩, by omega⟩
    rw [q, cond_true]
    have : List.drop i (List.take (i + 1) (List.map Obj.val l)) = [o.val] := take_drop_one (by rw [List.getElem?_map, hat]; rfl)
    rw [this]

structure StI (s : St) (N : List Bytes) : Prop where
  hm : s.minw ≤ s.next
  hn : 1 ≤ s.next
  hc : s.ci = 0
  g : s.get [] 0 = some (.map (ents 0 (setM N)) (setM N).length)
theorem minw_put (s : St) (n : Nat) (o : Option AObj) : (s.put n o).minw ≤ s.minw := by
  show (bif Nat.ble s.minw n then s.minw else n) ≤ s.minw
  rw [nat_ble]
  by_cases h : s.minw ≤ n
  · simp [h]
  · simp [h]; omega
noncomputable def StI.next (s : St) (N : List Bytes) (k : Bytes) : St := s.put 0 (some (.map (ents 0 (setM (addK k N))) (setM (addK k N)).length))
theorem StI.add {s : St} {N : List Bytes} (h : StI s N) (k : Bytes) : StI (StI.next s N k) (addK k N) :=
  ⟨Nat.le_trans (minw_put _ _ _) h.hm, h.hn, h.hc, by rw [StI.next, get_put]; rfl⟩
theorem StI.up {s : St} {N : List Bytes} (h : StI s N) (k : Bytes) : updateA Tryz.prog [] 46 (.map 0) (.str k) (.bool true) s = some (StI.next s N k) := by
  have hup := update_ents eq_9 mp_46 h.g k (.bool true)
  rw [ins_set] at hup
  exact hup

def OwnI (s : St) (ov : AVal) (acc : List Bytes) : Prop := (ov = .nils ∧ acc = []) ∨ (acc ≠ [] ∧ ∃ k, ov = .list 1 (acc.map strV) (.own k) ∧ s.get [] k = some .tok ∧ 1 ≤ k)
theorem OwnI.clean {s : St} {ov : AVal} {acc : List Bytes} (h : OwnI s ov acc) : ov.clean = true := by
  rcases h with ⟨rfl, _⟩ | ⟨_, k, rfl, _⟩ <;> rfl
theorem OwnI.isL {s : St} {ov : AVal} {acc : List Bytes} (h : OwnI s ov acc) : IsL 1 strV ov acc := by
  rcases h with ⟨rfl, h⟩ | ⟨_, k, rfl, _⟩
  · exact .inl ⟨rfl, h⟩
  · exact .inr ⟨_, rfl⟩
theorem OwnI.put {s : St} {ov : AVal} {acc : List Bytes} (h : OwnI s ov acc) (N : List Bytes) (k : Bytes) : OwnI (StI.next s N k) ov acc := by
  rcases h with h | ⟨h1, k, h2, h3, h4⟩
  · exact .inl h
  · refine .inr ⟨h1, k, h2, ?_, h4⟩
    rw [StI.next, get_put, beq_eq_false_iff_ne.2 (by omega)]; exact h3
theorem app_own {s : St} {ov : AVal} {acc : List Bytes} {N : List Bytes} (h : OwnI s ov acc) (hs : StI s N) (hlen : acc.length < 1000000) (x : Bytes) :
    ∃ ov' s', appendA Tryz.prog [] 25 ov (.list 1 [.str x] .full) false s = some (ov', s') ∧ OwnI s' ov' (acc ++ [x]) ∧ StI s' N := by
  have hn := hs.hn
  have hm := hs.hm
  rcases h with ⟨rfl, rfl⟩ | ⟨hne, k, rfl, hk, h5⟩
  · refine ⟨.list 1 [.str x] (.own s.next), s.new .tok, ?_, .inr ⟨by simp, s.next, rfl, ?_, hn⟩, ⟨?_, ?_, hs.hc, ?_⟩⟩
    · have : roomy 1 16 = true := roomy_small (by omega) (by omega)
      simp only [appendA, el_25, Option.bind_some, elemsA, nat_beq, beq_self_eq_true, cond_true, appendTo, madeA, List.length_cons, List.length_nil, Nat.zero_add, this, cond_false]
    · rw [get_new, beq_self_eq_true]; rfl
    · exact Nat.le_succ_of_le hm
    · exact Nat.le_succ_of_le hn
    · rw [get_new, beq_eq_false_iff_ne.2 (by omega)]; exact hs.g
  · refine ⟨.list 1 ((acc ++ [x]).map strV) (.own s.next), (s.put k none).new .tok, ?_, .inr ⟨by simp, s.next, rfl, ?_, hn⟩, ⟨?_, ?_, hs.hc, ?_⟩⟩
    · have : roomy (acc.length + 1) 16 = true := roomy_small (by omega) (by omega)
      simp only [appendA, el_25, Option.bind_some, elemsA, nat_beq, beq_self_eq_true, cond_true, appendTo, hk, List.length_map, List.length_cons, List.length_nil, Nat.zero_add, this, Bool.and_self, List.map_append, List.map_cons, List.map_nil, strV]
    · rw [get_new, next_put, beq_self_eq_true]; rfl
    · exact Nat.le_succ_of_le (Nat.le_trans (minw_put s k Option.none) hm)
    · exact Nat.le_succ_of_le hn
    · rw [get_new, next_put, beq_eq_false_iff_ne.2 (by omega), cond_false, get_put, beq_eq_false_iff_ne.2 (by omega)]; exact hs.g

structure LawI (v u cv : AVal) (e : Env) (lc : Ag.Loc) : Prop where
  h1 : nth e 1 = u
  h2 : nth e 2 = .lref 2 1 0
  g2 : lc.gen 2 = 1
  b2 : lc.get 2 1 = some [v]
  h5 : nth e 5 = .bool true
  h6 : nth e 6 = .lref 6 1 0
  g6 : lc.gen 6 = 1
  b6 : lc.get 6 1 = some [cv]
  h7 : nth e 7 = .map 0

section
variable {sp : FuncId → Option (List AVal → Option AVal)}

theorem law_ids {v u cv : AVal} {ids : List Bytes} (hi : IsL 1 strV u ids) (hsmall : ids.length < small) {lc : Ag.Loc} : ∀ (rest pre : List Bytes) (e : Env) (s : St) (N : List Bytes), ids = pre ++ rest → LawI v u cv e lc → StI s N → (∀ x, x ∈ N ↔ x ∈ pre) → nth e 8 = .int .i64 (pre.length : Nat) →
    W (QS sp) 5 (.loop k5_l0) ⟨e, 149, lc⟩ s fun x fr s' => x = .exit 0 ∧ ∃ e' N', fr = ⟨e', 149, lc⟩ ∧ LawI v u cv e' lc ∧ StI s' N' ∧ ∀ x, x ∈ N' ↔ x ∈ ids := by
  intro rest
  have hcl := hi.clean
  have hlen := fun mk s => hi.len ln_25_n ln_25_l mk s
  have hsm : small = 9223372036854775808 := rfl
  induction rest with
  | nil =>
    intro pre e s N hpre I hS hN h8
    obtain ⟨h1, h2, g2, b2, h5, h6, g6, b6, h7⟩ := I
    have hl : ids.length = pre.length := by rw [hpre]; simp
    refine W.loop1 ?_
    unfold k5_l0
    refine W.seq (W.sreg ?_)
    unfold k5_r9
    simp only [WP_nil, WP_always, stepK_some, nth_set, p_move, p_bin, p_builtin, ev_tmp, evc_eq, evcs_nil, evcs_cons, retV_ok, retVS_some, bi_lss, bl_len, hintOf_some, Option.bind_some, clean_int, cond_true, cond_false, QS_P, QS_hint, ilt_nat, beq_self_eq_true, true_and, Nat.reduceBEq, Nat.reduceLT, nat_beq, decide_false, h8, h1, hcl, hlen, hl, Nat.lt_irrefl]
    refine W.cond (t := false) (by simp only [ev_tmp, nth_set, Nat.reduceBEq, cond_true, cond_false, *]) ?_
    refine W.exit ⟨rfl, _, N, rfl, ⟨?_, ?_, g2, b2, ?_, ?_, g6, b6, ?_⟩, hS, fun x => by rw [hN, hpre]; simp⟩ <;> simp only [nth_set, Nat.reduceBEq, cond_false, *]
  | cons r rest ih =>
    intro pre e s N hpre I hS hN h8
    obtain ⟨h1, h2, g2, b2, h5, h6, g6, b6, h7⟩ := I
    have hlt : pre.length < ids.length := by rw [hpre]; simp
    have hat : ids[pre.length]? = some r := by rw [hpre]; simp
    have hia := fun lc => hi.at ia_25_l hat lc .i64
    have hwr : IntKind.i64.wrap ((pre.length : Int) + 1) = ((pre.length + 1 : Nat) : Int) := by rw [wrap64_small (by omega) (by omega)]; omega
    have hup := hS.up r
    refine W.loop1 ?_
    unfold k5_l0
    refine W.seq (W.sreg ?_)
    unfold k5_r9
    simp only [WP_nil, WP_always, stepK_some, nth_set, p_move, p_bin, p_builtin, ev_tmp, evc_eq, evcs_nil, evcs_cons, retV_ok, retVS_some, bi_lss, bl_len, hintOf_some, Option.bind_some, clean_int, cond_true, cond_false, QS_P, QS_hint, ilt_nat, beq_self_eq_true, true_and, Nat.reduceBEq, Nat.reduceLT, nat_beq, decide_true, h8, h1, hcl, hlen, hlt]
    refine W.cond (t := true) (by simp only [ev_tmp, nth_set, Nat.reduceBEq, cond_true, cond_false, *]) (W.skip ?_)
    simp only [next_normal]
    refine W.seq (W.block (W.reg ?_))
    unfold k5_r11
    simp only [WP_nil, WP_always, WP_always0, stepK_some, stepK0_some, nth_set, p_move, p_load, p_indexAddr, p_update, ev_tmp, ev_const, evc_eq, ofValue_bool, load_ro, retV_ok, retS_some, cells_str, Option.bind_some, clean_bool, clean_str, clean_map, cond_true, cond_false, QS_P, List.drop, List.head?_cons, beq_self_eq_true, true_and, Nat.reduceBEq, Nat.reduceLT, rd_9, h7, h1, h8, hia, strV, hup, block_normal, next_normal]
    refine W.reg ?_
    unfold k5_r10
    simp only [WP_nil, WP_always, stepK_some, nth_set, p_move, p_assign, p_bin, ev_tmp, ev_const, evc_eq, ofValue_int, retV_ok, bi_add, Option.bind_some, clean_int, cond_true, cond_false, QS_P, beq_self_eq_true, true_and, Nat.reduceBEq, Nat.reduceLT, h8, hwr, next_normal]
    refine ih (pre ++ [r]) _ _ (addK r N) (by rw [hpre]; simp) ⟨?_, ?_, g2, b2, ?_, ?_, g6, b6, ?_⟩ (hS.add r) ?_ ?_
    · simp only [nth_set, Nat.reduceBEq, cond_false, *]
    · simp only [nth_set, Nat.reduceBEq, cond_false, *]
    · simp only [nth_set, Nat.reduceBEq, cond_false, *]
    · simp only [nth_set, Nat.reduceBEq, cond_false, *]
    · simp only [nth_set, Nat.reduceBEq, cond_false, *]
    · intro x
      rw [mem_addK', hN]; simp [or_comm]
    · simp only [nth_set, Nat.reduceBEq, cond_true, cond_false, List.length_append, List.length_cons, List.length_nil]

theorem law_refs {v u : AVal} {cl : List Obj} {o : Obj} {i : Nat} (hat : cl[i]? = some o) (ho : o.Ok) {lc : Ag.Loc} {ov : AVal} {acc : List Bytes} : ∀ (rest pre : List Bytes) (e : Env) (s : St) (N : List Bytes), o.refs = pre ++ rest → LawI v u (cV cl) e lc → StI s N → OwnI s ov acc → nth e 9 = ov → nth e 10 = .int .i64 (i : Nat) → nth e 11 = .int .i64 (pre.length : Nat) →
    W (QS sp) 5 (.loop k5_l1) ⟨e, 149, lc⟩ s fun x fr s' => x = .exit 4 ∧ ∃ e' N', fr = ⟨e', 149, lc⟩ ∧ LawI v u (cV cl) e' lc ∧ StI s' N' ∧ OwnI s' ov acc ∧ nth e' 9 = ov ∧ nth e' 10 = .int .i64 (i : Nat) ∧ ∀ x, x ∈ N' ↔ x ∈ N ∨ x ∈ rest := by
  intro rest
  have hcv := (cV_isL cl).clean
  have hio := fun lc => (cV_isL cl).at ia_22_l hat lc .i64
  have hcl := ho.refs.clean
  have hlen := fun mk s => ho.refs.len ln_25_n ln_25_l mk s
  have hsm : small = 9223372036854775808 := rfl
  have hrl := ho.reflen
  induction rest with
  | nil =>
    intro pre e s N hpre I hS hO h9 h10 h11
    obtain ⟨h1, h2, g2, b2, h5, h6, g6, b6, h7⟩ := I
    have hl : o.refs.length = pre.length := by rw [hpre]; simp
    refine W.loop1 ?_
    unfold k5_l1
    refine W.seq (W.sreg ?_)
    unfold k5_r18
    simp only [WP_nil, WP_always, stepK_some, nth_set, p_move, p_load, p_bin, p_fieldAddr, p_indexAddr, p_builtin, ev_tmp, evc_eq, evcs_nil, evcs_cons, load_loc, load_ro, retV_ok, retVS_some, bi_lss, bl_len, hintOf_some, cells_agg, Option.bind_some, clean_int, cond_true, cond_false, QS_P, QS_hint, List.drop, List.head?_cons, ilt_nat, beq_self_eq_true, true_and, Nat.add_zero, Nat.reduceBEq, Nat.reduceLT, nat_beq, decide_false, rd_22, rd_25, fa_24_0_l, fa_51_3_r, h11, h10, h6, g6, b6, hio, Obj.val, Obj.cells, hcl, hlen, hl, Nat.lt_irrefl]
    refine W.cond (t := false) (by simp only [ev_tmp, nth_set, Nat.reduceBEq, cond_true, cond_false, *]) ?_
    refine W.exit ⟨rfl, _, N, rfl, ⟨?_, ?_, g2, b2, ?_, ?_, g6, b6, ?_⟩, hS, hO, ?_, ?_, fun x => by simp⟩ <;> simp only [nth_set, Nat.reduceBEq, cond_false, *]
  | cons r rest ih =>
    intro pre e s N hpre I hS hO h9 h10 h11
    obtain ⟨h1, h2, g2, b2, h5, h6, g6, b6, h7⟩ := I
    have hlt : pre.length < o.refs.length := by rw [hpre]; simp
    have har : o.refs[pre.length]? = some r := by rw [hpre]; simp
    have hia := fun lc => ho.refs.at ia_25_l har lc .i64
    have hwr : IntKind.i64.wrap ((pre.length : Int) + 1) = ((pre.length + 1 : Nat) : Int) := by rw [wrap64_small (by omega) (by omega)]; omega
    have hup := hS.up r
    refine W.loop1 ?_
    unfold k5_l1
    refine W.seq (W.sreg ?_)
    unfold k5_r18
    simp only [WP_nil, WP_always, stepK_some, nth_set, p_move, p_load, p_bin, p_fieldAddr, p_indexAddr, p_builtin, ev_tmp, evc_eq, evcs_nil, evcs_cons, load_loc, load_ro, retV_ok, retVS_some, bi_lss, bl_len, hintOf_some, cells_agg, Option.bind_some, clean_int, cond_true, cond_false, QS_P, QS_hint, List.drop, List.head?_cons, ilt_nat, beq_self_eq_true, true_and, Nat.add_zero, Nat.reduceBEq, Nat.reduceLT, nat_beq, decide_true, rd_22, rd_25, fa_24_0_l, fa_51_3_r, h11, h10, h6, g6, b6, hio, Obj.val, Obj.cells, hcl, hlen, hlt]
    refine W.cond (t := true) (by simp only [ev_tmp, nth_set, Nat.reduceBEq, cond_true, cond_false, *]) (W.skip ?_)
    simp only [next_normal]
    refine W.seq (W.block (W.reg ?_))
    unfold k5_r20
    simp only [WP_nil, WP_always, WP_always0, stepK_some, stepK0_some, nth_set, p_move, p_load, p_fieldAddr, p_indexAddr, p_update, ev_tmp, ev_const, evc_eq, ofValue_bool, load_loc, load_ro, retV_ok, retS_some, cells_agg, cells_str, Option.bind_some, clean_bool, clean_str, clean_map, cond_true, cond_false, QS_P, List.drop, List.head?_cons, beq_self_eq_true, true_and, Nat.add_zero, Nat.reduceBEq, Nat.reduceLT, nat_beq, rd_9, rd_22, rd_25, fa_24_0_l, fa_51_3_r, h7, h11, h10, h6, g6, b6, hio, Obj.val, Obj.cells, hia, strV, hup, block_normal, next_normal]
    refine W.reg ?_
    unfold k5_r19
    simp only [WP_nil, WP_always, stepK_some, nth_set, p_move, p_assign, p_bin, ev_tmp, ev_const, evc_eq, ofValue_int, retV_ok, bi_add, Option.bind_some, clean_int, cond_true, cond_false, QS_P, beq_self_eq_true, true_and, Nat.reduceBEq, Nat.reduceLT, h11, hwr, next_normal]
    refine (ih (pre ++ [r]) _ _ (addK r N) (by rw [hpre]; simp) ⟨?_, ?_, g2, b2, ?_, ?_, g6, b6, ?_⟩ (hS.add r) (hO.put N r) ?_ ?_ ?_).mono ?_
    · simp only [nth_set, Nat.reduceBEq, cond_false, *]
    · simp only [nth_set, Nat.reduceBEq, cond_false, *]
    · simp only [nth_set, Nat.reduceBEq, cond_false, *]
    · simp only [nth_set, Nat.reduceBEq, cond_false, *]
    · simp only [nth_set, Nat.reduceBEq, cond_false, *]
    · simp only [nth_set, Nat.reduceBEq, cond_false, *]
    · simp only [nth_set, Nat.reduceBEq, cond_false, *]
    · simp only [nth_set, Nat.reduceBEq, cond_true, cond_false, List.length_append, List.length_cons, List.length_nil]
    · rintro x fr s' ⟨rfl, e', N', rfl, q1, q2, q3, q4, q5, q6⟩
      refine ⟨rfl, e', N', rfl, q1, q2, q3, q4, q5, fun x => ?_⟩
      rw [q6, mem_addK', List.mem_cons]
      constructor
      · rintro ((h | h) | h)
        · exact .inr (.inl h)
        · exact .inl h
        · exact .inr (.inr h)
      · rintro (h | h | h)
        · exact .inl (.inr h)
        · exact .inl (.inl h)
        · exact .inr h

theorem law_objs {v u : AVal} {cl : List Obj} (hg : ∀ o ∈ cl, o.Good) (hsmall : cl.length ≤ 1000) {lc : Ag.Loc} : ∀ (rest pre : List Obj) (e : Env) (s : St) (N : List Bytes) (ov : AVal), cl = pre ++ rest → LawI v u (cV cl) e lc → StI s N → OwnI s ov (pre.map Obj.id) → nth e 9 = ov → nth e 10 = .int .i64 (pre.length : Nat) →
    W (QS sp) 5 (.loop k5_l2) ⟨e, 149, lc⟩ s fun x fr s' => x = .exit 2 ∧ ∃ e' N' ov', fr = ⟨e', 149, lc⟩ ∧ LawI v u (cV cl) e' lc ∧ StI s' N' ∧ OwnI s' ov' (cl.map Obj.id) ∧ nth e' 9 = ov' ∧ ∀ x, x ∈ N' ↔ x ∈ N ∨ ∃ o ∈ rest, x ∈ o.refs := by
  intro rest
  have hcv := (cV_isL cl).clean
  have hlen := fun mk s => (cV_isL cl).len ln_22_n ln_22_l mk s
  induction rest with
  | nil =>
    intro pre e s N ov hpre I hS hO h9 h10
    obtain ⟨h1, h2, g2, b2, h5, h6, g6, b6, h7⟩ := I
    have hl : cl.length = pre.length := by rw [hpre]; simp
    have hp : cl = pre := by rw [hpre]; simp
    refine W.loop1 ?_
    unfold k5_l2
    refine W.seq (W.sreg ?_)
    unfold k5_r14
    simp only [WP_nil, WP_always, stepK_some, nth_set, p_move, p_load, p_bin, p_fieldAddr, p_builtin, ev_tmp, evc_eq, evcs_nil, evcs_cons, load_loc, retV_ok, retVS_some, bi_lss, bl_len, hintOf_some, Option.bind_some, clean_int, cond_true, cond_false, QS_P, QS_hint, List.drop, List.head?_cons, ilt_nat, beq_self_eq_true, true_and, Nat.add_zero, Nat.reduceBEq, Nat.reduceLT, nat_beq, decide_false, rd_22, fa_24_0_l, h10, h6, g6, b6, hcv, hlen, hl, Nat.lt_irrefl]
    refine W.cond (t := false) (by simp only [ev_tmp, nth_set, Nat.reduceBEq, cond_true, cond_false, *]) ?_
    refine W.exit ⟨rfl, _, N, ov, rfl, ⟨?_, ?_, g2, b2, ?_, ?_, g6, b6, ?_⟩, hS, by rw [hp]; exact hO, ?_, fun x => by simp⟩ <;> simp only [nth_set, Nat.reduceBEq, cond_false, *]
  | cons o rest ih =>
    intro pre e s N ov hpre I hS hO h9 h10
    obtain ⟨h1, h2, g2, b2, h5, h6, g6, b6, h7⟩ := I
    have hlt : pre.length < cl.length := by rw [hpre]; simp
    have hat : cl[pre.length]? = some o := by rw [hpre]; simp
    have hio := fun lc => (cV_isL cl).at ia_22_l hat lc .i64
    have ho := (hg o (List.mem_of_getElem? hat)).toOk
    have hwr : IntKind.i64.wrap ((pre.length : Int) + 1) = ((pre.length + 1 : Nat) : Int) := by rw [wrap64_small (by omega) (by omega)]; omega
    obtain ⟨ov', s', happ, hO', hS'⟩ := app_own hO hS (by simp; omega) o.id
    have hco := hO.clean
    have hco' := hO'.clean
    have hbs : ∀ e s, nth e 62 = .str o.id → buildSliceA Tryz.prog 25 1 [(0, .tmp 62)] false e s = some (.list 1 [.str o.id] .full, s) := fun e s h => bs_25 (by rw [ev_tmp, h]) s
    refine W.loop1 ?_
    unfold k5_l2
    refine W.seq (W.sreg ?_)
    unfold k5_r14
    simp only [WP_nil, WP_always, stepK_some, nth_set, p_move, p_load, p_bin, p_fieldAddr, p_builtin, ev_tmp, evc_eq, evcs_nil, evcs_cons, load_loc, retV_ok, retVS_some, bi_lss, bl_len, hintOf_some, Option.bind_some, clean_int, cond_true, cond_false, QS_P, QS_hint, List.drop, List.head?_cons, ilt_nat, beq_self_eq_true, true_and, Nat.add_zero, Nat.reduceBEq, Nat.reduceLT, nat_beq, decide_true, rd_22, fa_24_0_l, h10, h6, g6, b6, hcv, hlen, hlt]
    refine W.cond (t := true) (by simp only [ev_tmp, nth_set, Nat.reduceBEq, cond_true, cond_false, *]) (W.skip ?_)
    simp only [next_normal]
    refine W.seq (W.block (W.sreg ?_))
    unfold k5_r16
    simp only [WP_nil, WP_always, stepK_some, nth_set, p_move, p_assign, p_buildSlice, p_load, p_fieldAddr, p_indexAddr, p_builtin, ev_tmp, evc_eq, evcs_nil, evcs_cons, load_loc, load_ro, retV_ok, retVS_some, bl_append, hintOf_some, cells_agg, Option.bind_some, clean_list, cond_true, cond_false, QS_P, QS_hint, List.drop, List.head?_cons, beq_self_eq_true, true_and, Nat.add_zero, Nat.reduceBEq, Nat.reduceLT, nat_beq, rd_9, rd_22, fa_24_0_l, fa_51_0_r, is_25, hint_5_63, hint_5_64, h9, h10, h6, g6, b6, hio, Obj.val, Obj.cells, hco, hbs, happ]
    refine W.sreg ?_
    unfold k5_r17
    simp only [WP_nil, WP_always, stepK_some, p_assign, ev_const, ofValue_int, retV_ok, true_and, Nat.reduceLT]
    refine W.block ?_
    refine (law_refs (v := v) (u := u) hat ho (ov := ov') (acc := pre.map Obj.id ++ [o.id]) o.refs [] _ s' N rfl ⟨?_, ?_, g2, b2, ?_, ?_, g6, b6, ?_⟩ hS' hO' ?_ ?_ ?_).mono ?_
    · simp only [nth_set, Nat.reduceBEq, cond_false, *]
    · simp only [nth_set, Nat.reduceBEq, cond_false, *]
    · simp only [nth_set, Nat.reduceBEq, cond_false, *]
    · simp only [nth_set, Nat.reduceBEq, cond_false, *]
    · simp only [nth_set, Nat.reduceBEq, cond_false, *]
    · simp only [nth_set, Nat.reduceBEq, cond_true, cond_false, *]
    · simp only [nth_set, Nat.reduceBEq, cond_false, *]
    · simp only [nth_set, Nat.reduceBEq, cond_true, cond_false]; rfl
    rintro x fr s2 ⟨rfl, e2, N2, rfl, I2, hS2, hO2, p9, p10, hN2⟩
    show W (QS sp) 5 _ _ _ _
    obtain ⟨h1, h2, g2, b2, h5, h6, g6, b6, h7⟩ := I2
    refine W.reg ?_
    unfold k5_r15
    simp only [WP_nil, WP_always, stepK_some, nth_set, p_move, p_assign, p_bin, ev_tmp, ev_const, evc_eq, ofValue_int, retV_ok, bi_add, Option.bind_some, clean_int, cond_true, cond_false, QS_P, beq_self_eq_true, true_and, Nat.reduceBEq, Nat.reduceLT, p10, hwr, next_normal]
    refine (ih (pre ++ [o]) _ s2 N2 ov' (by rw [hpre]; simp) ⟨?_, ?_, g2, b2, ?_, ?_, g6, b6, ?_⟩ hS2 (by simpa using hO2) ?_ ?_).mono ?_
    · simp only [nth_set, Nat.reduceBEq, cond_false, *]
    · simp only [nth_set, Nat.reduceBEq, cond_false, *]
    · simp only [nth_set, Nat.reduceBEq, cond_false, *]
    · simp only [nth_set, Nat.reduceBEq, cond_false, *]
    · simp only [nth_set, Nat.reduceBEq, cond_false, *]
    · simp only [nth_set, Nat.reduceBEq, cond_false, *]
    · simp only [nth_set, Nat.reduceBEq, cond_true, cond_false, List.length_append, List.length_cons, List.length_nil]
    · rintro x fr s' ⟨rfl, e', N', ov', rfl, q1, q2, q3, q4, q5⟩
      refine ⟨rfl, e', N', ov', rfl, q1, q2, q3, q4, fun x => ?_⟩
      rw [q5, hN2]
      constructor
      · rintro ((h | h) | ⟨p, hp, h⟩)
        · exact .inl h
        · exact .inr ⟨o, by simp, h⟩
        · exact .inr ⟨p, by simp [hp], h⟩
      · rintro (h | ⟨p, hp, h⟩)
        · exact .inl (.inl h)
        · rcases List.mem_cons.1 hp with rfl | hp
          · exact .inl (.inr h)
          · exact .inr ⟨p, hp, h⟩

theorem law_all (h14 : sp 14 = some same12Sp) {v u : AVal} {l cl : List Obj} (hl : IsL 6 Obj.val v l) (hg : ∀ o ∈ l, o.Good) (hsmall : l.length ≤ 1000) {N : List Bytes} (hcl : cl = l.filter fun o => N.contains o.id) {s : St} (hS : StI s N) {lc : Ag.Loc} {ov : AVal} :
    ∀ (rest pre : List Obj) (e : Env), l = pre ++ rest → LawI v u (cV cl) e lc → nth e 9 = ov → nth e 12 = .int .i64 (((pre.filter fun o => N.contains o.id).length : Nat) : Int) → nth e 13 = .int .i64 (pre.length : Nat) →
    W (QS sp) 5 (.loop k5_l3) ⟨e, 149, lc⟩ s fun x fr s' => s' = s ∧ x = .exit 6 ∧ ∃ e', fr = ⟨e', 149, lc⟩ ∧ LawI v u (cV cl) e' lc ∧ nth e' 9 = ov ∧ nth e' 12 = .int .i64 ((cl.length : Nat) : Int) := by
  intro rest
  have hvc := hl.clean
  have hcv := (cV_isL cl).clean
  have hlen := fun mk s => hl.len ln_22_n ln_22_l mk s
  have clen := fun mk s => (cV_isL cl).len ln_22_n ln_22_l mk s
  induction rest with
  | nil =>
    intro pre e hpre I h9 h12 h13
    obtain ⟨h1, h2, g2, b2, h5, h6, g6, b6, h7⟩ := I
    have hll : l.length = pre.length := by rw [hpre]; simp
    have hp : l = pre := by rw [hpre]; simp
    refine W.loop1 ?_
    unfold k5_l3
    refine W.seq (W.sreg ?_)
    unfold k5_r23
    simp only [WP_nil, WP_always, stepK_some, nth_set, p_move, p_load, p_bin, p_fieldAddr, p_builtin, ev_tmp, evc_eq, evcs_nil, evcs_cons, load_loc, retV_ok, retVS_some, bi_lss, bl_len, hintOf_some, Option.bind_some, clean_int, cond_true, cond_false, QS_P, QS_hint, List.drop, List.head?_cons, ilt_nat, beq_self_eq_true, true_and, Nat.add_zero, Nat.reduceBEq, Nat.reduceLT, nat_beq, decide_false, rd_22, fa_24_0_l, h13, h2, g2, b2, hvc, hlen, hll, Nat.lt_irrefl]
    refine W.cond (t := false) (by simp only [ev_tmp, nth_set, Nat.reduceBEq, cond_true, cond_false, *]) ?_
    refine W.exit ⟨rfl, rfl, _, rfl, ⟨?_, ?_, g2, b2, ?_, ?_, g6, b6, ?_⟩, ?_, ?_⟩
    · simp only [nth_set, Nat.reduceBEq, cond_false, *]
    · simp only [nth_set, Nat.reduceBEq, cond_false, *]
    · simp only [nth_set, Nat.reduceBEq, cond_false, *]
    · simp only [nth_set, Nat.reduceBEq, cond_false, *]
    · simp only [nth_set, Nat.reduceBEq, cond_false, *]
    · simp only [nth_set, Nat.reduceBEq, cond_false, *]
    · simp only [nth_set, Nat.reduceBEq, cond_false, h12, hcl, hp]
  | cons o rest ih =>
    intro pre e hpre I h9 h12 h13
    obtain ⟨h1, h2, g2, b2, h5, h6, g6, b6, h7⟩ := I
    have hlt : pre.length < l.length := by rw [hpre]; simp
    have hat : l[pre.length]? = some o := by rw [hpre]; simp
    have hio := fun lc => hl.at ia_22_l hat lc .i64
    have hwr : IntKind.i64.wrap ((pre.length : Int) + 1) = ((pre.length + 1 : Nat) : Int) := by rw [wrap64_small (by omega) (by omega)]; omega
    have hlk := lookup_ents eq_9 mp_46 zr_4 hS.g o.id
    rw [look_setD] at hlk
    refine W.loop1 ?_
    unfold k5_l3
    refine W.seq (W.sreg ?_)
    unfold k5_r23
    simp only [WP_nil, WP_always, stepK_some, nth_set, p_move, p_load, p_bin, p_fieldAddr, p_builtin, ev_tmp, evc_eq, evcs_nil, evcs_cons, load_loc, retV_ok, retVS_some, bi_lss, bl_len, hintOf_some, Option.bind_some, clean_int, cond_true, cond_false, QS_P, QS_hint, List.drop, List.head?_cons, ilt_nat, beq_self_eq_true, true_and, Nat.add_zero, Nat.reduceBEq, Nat.reduceLT, nat_beq, decide_true, rd_22, fa_24_0_l, h13, h2, g2, b2, hvc, hlen, hlt]
    refine W.cond (t := true) (by simp only [ev_tmp, nth_set, Nat.reduceBEq, cond_true, cond_false, *]) (W.skip ?_)
    simp only [next_normal]
    refine W.seq (W.block (W.seq (W.sreg ?_)))
    unfold k5_r25
    simp only [WP_nil, WP_always, stepK_some, nth_set, p_move, p_load, p_un, p_fieldAddr, p_indexAddr, p_lookup, ev_tmp, evc_eq, load_loc, load_ro, retV_ok, un_not, cells_agg, Option.bind_some, clean_bool, clean_str, clean_map, cond_true, cond_false, QS_P, List.drop, List.head?_cons, beq_self_eq_true, true_and, Nat.add_zero, Nat.reduceBEq, Nat.reduceLT, nat_beq, rd_9, rd_22, fa_24_0_l, fa_51_0_r, h7, h13, h2, g2, b2, hio, Obj.val, Obj.cells, hlk]
    cases hN : N.contains o.id with
    | false =>
      refine W.cond (t := true) (by simp only [ev_tmp, nth_set, Nat.reduceBEq, cond_true, cond_false, Bool.not_false]) (W.exit ?_)
      show W (QS sp) 5 _ _ _ _
      refine W.reg ?_
      unfold k5_r24
      simp only [WP_nil, WP_always, stepK_some, nth_set, p_move, p_assign, p_bin, ev_tmp, ev_const, evc_eq, ofValue_int, retV_ok, bi_add, Option.bind_some, clean_int, cond_true, cond_false, QS_P, Bool.not_false, beq_self_eq_true, true_and, Nat.reduceBEq, Nat.reduceLT, h13, hwr, next_normal]
      refine ih (pre ++ [o]) _ (by rw [hpre]; simp) ⟨?_, ?_, g2, b2, ?_, ?_, g6, b6, ?_⟩ ?_ ?_ ?_
      · simp only [nth_set, Nat.reduceBEq, cond_false, *]
      · simp only [nth_set, Nat.reduceBEq, cond_false, *]
      · simp only [nth_set, Nat.reduceBEq, cond_false, *]
      · simp only [nth_set, Nat.reduceBEq, cond_false, *]
      · simp only [nth_set, Nat.reduceBEq, cond_false, *]
      · simp only [nth_set, Nat.reduceBEq, cond_false, *]
      · have : (pre ++ [o]).filter (fun o => N.contains o.id) = pre.filter fun o => N.contains o.id := by simp only [List.filter_append, List.filter_cons, hN, Bool.false_eq_true, if_false, List.filter_nil, List.append_nil]
        rw [this]
        simp only [nth_set, Nat.reduceBEq, cond_false, *]
      · simp only [nth_set, Nat.reduceBEq, cond_true, cond_false, List.length_append, List.length_cons, List.length_nil]
    | true =>
      refine W.cond (t := false) (by simp only [ev_tmp, nth_set, Nat.reduceBEq, cond_true, cond_false, Bool.not_true]) (W.skip ?_)
      simp only [next_normal]
      have hce : cl = (pre.filter fun o => N.contains o.id) ++ o :: (rest.filter fun o => N.contains o.id) := by
        rw [hcl, hpre, List.filter_append, List.filter_cons, hN, if_pos rfl]
      generalize hk : (pre.filter fun o => N.contains o.id).length = k at h12
      have hcat : cl[k]? = some o := by rw [hce, ← hk]; simp
      have hkl : k < cl.length := by rw [hce, ← hk]; simp
      have hcll : cl.length ≤ l.length := by rw [hcl]; exact List.length_filter_le _ _
      obtain ⟨r1, sl1⟩ := slice_one hl hat
      obtain ⟨r2, sl2⟩ := slice_one (cV_isL cl) hcat
      have sl1 := fun mk e s => sl1 mk 110 112 e s
      have sl2 := fun mk e s => sl2 mk 117 119 e s
      simp only [Obj.val, Obj.cells] at sl1 sl2
      have hwk : IntKind.i64.wrap ((k : Int) + 1) = ((k + 1 : Nat) : Int) := by rw [wrap64_small (by omega) (by omega)]; omega
      have hge : ile (cl.length : Int) (k : Int) = false := by
        rw [ile_nat]; exact decide_eq_false (by omega)
      have hog : ∀ p ∈ [o], p.Good := fun p hp => by rw [List.mem_singleton.1 hp]; exact hg o (List.mem_of_getElem? hat)
      have hsm : ([o] : List Obj).length < small := by show 1 < 9223372036854775808; omega
      have hsame := same12Sp_of (v := .list 6 ([o].map Obj.val) r1) (u := .list 6 ([o].map Obj.val) r2) (l := [o]) (.inr ⟨_, rfl⟩) (.inr ⟨_, rfl⟩) hog hsm
      simp only [List.map_cons, List.map_nil, Obj.val, Obj.cells] at hsame
      refine W.seq (W.seq (W.drawQ hS.hm ?_))
      unfold k5_r26
      simp only [WQ_nil, WQ_always, WQ_when, stepQ_some, whenQ_true, isStore, wantV_ff, nth_set, p_move, p_pick, p_build, p_load, p_bin, p_un, p_fieldAddr, p_slice, p_builtin, p_call, callee_func, ev_tmp, ev_const, evc_eq, evcs_nil, evcs_cons, ofValue_bool, ofValue_int, load_loc, pick_eq, pickV_false, retV_ok, retVS_some, bi_geq, bi_add, un_not, bl_len, hintOf_some, cells_agg, cells_list, Option.bind_some, clean_bool, clean_int, clean_agg, clean_list, cond_true, cond_false, QS_P, QS_hint, QS_spec, List.length_cons, List.length_nil, writeCells, List.take, List.drop, List.head?_cons, List.drop_succ_cons, List.nil_append, List.cons_append, Bool.not_true, beq_self_eq_true, true_and, Nat.zero_add, Nat.add_zero, Nat.reduceBEq, Nat.reduceLT, Nat.reduceLeDiff, nat_beq, nat_ble, decide_true, bd_24, rd_22, zr_24, fa_24_0_l, h12, h13, h6, g6, b6, h2, g2, b2, hcv, clen, hge, hvc, hwr, hwk, sl1, sl2, fillA, List.getElem?_cons_zero, h14, hsame, next_normal]
      refine W.cond (t := false) (by simp only [ev_tmp, nth_set, Nat.reduceBEq, cond_true, cond_false, *]) (W.skip ?_)
      simp only [next_normal]
      refine W.reg ?_
      unfold k5_r28
      simp only [WP_nil, WP_always, stepK_some, nth_set, p_move, p_assign, p_bin, ev_tmp, ev_const, evc_eq, ofValue_int, retV_ok, bi_add, Option.bind_some, clean_int, cond_true, cond_false, QS_P, beq_self_eq_true, true_and, Nat.reduceBEq, Nat.reduceLT, h12, hwk, block_normal, next_normal]
      refine W.reg ?_
      unfold k5_r24
      simp only [WP_nil, WP_always, stepK_some, nth_set, p_move, p_assign, p_bin, ev_tmp, ev_const, evc_eq, ofValue_int, retV_ok, bi_add, Option.bind_some, clean_int, cond_true, cond_false, QS_P, beq_self_eq_true, true_and, Nat.reduceBEq, Nat.reduceLT, h13, hwr, next_normal]
      refine ih (pre ++ [o]) _ (by rw [hpre]; simp) ⟨?_, ?_, g2, b2, ?_, ?_, g6, b6, ?_⟩ ?_ ?_ ?_
      · simp only [nth_set, Nat.reduceBEq, cond_false, *]
      · simp only [nth_set, Nat.reduceBEq, cond_false, *]
      · simp only [nth_set, Nat.reduceBEq, cond_false, *]
      · simp only [nth_set, Nat.reduceBEq, cond_false, *]
      · simp only [nth_set, Nat.reduceBEq, cond_false, *]
      · simp only [nth_set, Nat.reduceBEq, cond_false, *]
      · have : ((pre ++ [o]).filter (fun o => N.contains o.id)).length = k + 1 := by simp only [List.filter_append, List.filter_cons, hN, if_true, List.filter_nil, List.length_append, hk, List.length_cons, List.length_nil]
        rw [this]
        simp only [nth_set, Nat.reduceBEq, cond_true, cond_false, *]
      · simp only [nth_set, Nat.reduceBEq, cond_true, cond_false, List.length_append, List.length_cons, List.length_nil]

theorem law_run (h9 : sp 9 = some headSp) (h22 : sp 22 = some fewSp) (h15 : sp 15 = some closeSp) (h23 : sp 23 = some mapSp) (h14 : sp 14 = some same12Sp) (h5 : sp 5 = none) {v u : AVal} {l : List Obj} {ids : List Bytes} (hl : IsL 6 Obj.val v l) (hg : ∀ o ∈ l, o.Good) (hs : l.length < small) (hi : IsL 1 strV u ids) (his : ids.length < small) :
    ∃ x s', RunC (QS sp) 5 [.agg [v], u] s0 x s' ∧ (x = .bool true ∧ s'.ci = 0) := by
  have hsm : small = 9223372036854775808 := rfl
  have hvc := hl.clean
  have huc := hi.clean
  have hlen := fun mk s => hl.len ln_22_n ln_22_l mk s
  have ilen := fun mk s => hi.len ln_25_n ln_25_l mk s
  have hhd : headSp [] = some (.bool true) := rfl
  have hfw := fewSp_of hl hg hs 40
  have i30 : ilt 30 (ids.length : Nat) = decide (30 < ids.length) := ilt_nat 30 _
  refine RunC.ofEx k5_func k5_code k5_tmps k5_res h5 ?_
  unfold k5
  refine W.sreg ?_
  unfold k5_r0
  simp only [frame0, ofArgs, WP_nil, WP_always, stepK_some, nth_set, gen_nil, p_assign, p_box, ev_tmp, ev_const, evc_eq, ofValue_bool, boxA_loc, retV_ok, hintOf_some, cells_agg, Option.bind_some, clean_agg, cond_true, cond_false, QS_hint, List.length_cons, List.length_nil, beq_self_eq_true, true_and, Nat.zero_add, Nat.reduceBEq, Nat.reduceLT, Nat.reduceAdd, Nat.reduceLeDiff, nat_ble, decide_true, hint_5_2]
  refine W.sreg ?_
  unfold k5_r1
  simp only [WP_nil, WP_always, stepK_some, nth_set, p_assign, p_call, callee_func, ev_tmp, evcs_nil, retV_ok, Option.bind_some, cond_true, cond_false, QS_spec, beq_self_eq_true, true_and, Nat.reduceBEq, Nat.reduceLT, h9, hhd]
  refine W.seq (W.sreg ?_)
  unfold k5_r2
  have fin : ∀ e lc, nth e 22 = .bool true → nth e 5 = .bool true → W (QS sp) 5 (.cond (Operand.tmp 22) (.seq (.region k5_r3) .ret) .skip) ⟨e, 149, lc⟩ s0 fun x fr s' => x = .ret ∧ s' = s0 ∧ nth fr.env 4 = .bool true := by
    intro e lc h q
    refine W.cond (t := true) (by simp only [ev_tmp, h]) (W.sreg ?_)
    unfold k5_r3
    simp only [WP_nil, WP_always, stepK_some, nth_set, p_move, p_assign, ev_tmp, retV_ok, cond_true, beq_self_eq_true, true_and, Nat.reduceLT, q]
    exact W.ret ⟨rfl, rfl, by simp only [nth_set, Nat.reduceBEq, cond_true, cond_false, *]⟩
  cases hf : few l 40 with
  | false =>
    simp only [WP_nil, WP_always, WP_when, stepK_some, whenK_false, wantV_tf, nth_set, loc_set', p_move, p_pick, p_load, p_un, p_call, callee_func, ev_tmp, ev_const, evc_eq, evcs_nil, evcs_cons, ofValue_bool, ofValue_int, load_loc, pick_eq, pickV_true, retV_ok, un_not, Option.bind_some, clean_bool, clean_int, clean_agg, cond_true, cond_false, QS_P, QS_spec, List.length_cons, List.length_nil, cut, List.take, List.drop, Bool.not_false, beq_self_eq_true, true_and, Nat.zero_add, Nat.reduceBEq, Nat.reduceLT, nat_beq, rd_24, h22, hfw, hf]
    refine (fin _ _ ?_ ?_).mono ?_
    · simp only [nth_set, Nat.reduceBEq, cond_true, cond_false, *]
    · simp only [nth_set, Nat.reduceBEq, cond_true, cond_false, *]
    · rintro x fr s' ⟨rfl, rfl, h⟩
      exact ⟨.inr rfl, _, res_tmp h rfl, rfl, rfl⟩
  | true =>
  cases hb : decide (30 < ids.length) with
  | true =>
    simp only [WP_nil, WP_always, WP_when, stepK_some, whenK_true, wantV_ff, nth_set, loc_set', p_move, p_pick, p_load, p_bin, p_un, p_builtin, p_call, callee_func, ev_tmp, ev_const, evc_eq, evcs_nil, evcs_cons, ofValue_bool, ofValue_int, load_loc, pick_eq, pickV_false, retV_ok, retVS_some, bi_gtr, un_not, bl_len, hintOf_some, Option.bind_some, clean_bool, clean_int, clean_agg, cond_true, cond_false, QS_P, QS_hint, QS_spec, List.length_cons, List.length_nil, cut, List.take, List.drop, Bool.not_true, beq_self_eq_true, true_and, Nat.zero_add, Nat.reduceBEq, Nat.reduceLT, nat_beq, rd_24, h22, hfw, hf, huc, ilen, i30, hb]
    refine (fin _ _ ?_ ?_).mono ?_
    · simp only [nth_set, Nat.reduceBEq, cond_true, cond_false, *]
    · simp only [nth_set, Nat.reduceBEq, cond_true, cond_false, *]
    · rintro x fr s' ⟨rfl, rfl, h⟩
      exact ⟨.inr rfl, _, res_tmp h rfl, rfl, rfl⟩
  | false =>
  have hl40 : l.length ≤ 40 := by
    simp only [few] at hf
    cases h : ilt 40 (l.length : Nat) with
    | true => rw [h] at hf; cases hf
    | false =>
      simp only [ilt, decide_eq_false_iff_not] at h; omega
  have hcs := closeSp_of hl hg (by omega) hi his
  rw [mapV_eq] at hcs
  have hms := mapSp_of hl hg hs
  simp only [WP_nil, WP_always, WP_when, stepK_some, whenK_true, wantV_ff, nth_set, loc_set', p_move, p_pick, p_load, p_bin, p_un, p_builtin, p_call, callee_func, ev_tmp, ev_const, evc_eq, evcs_nil, evcs_cons, ofValue_bool, ofValue_int, load_loc, pick_eq, pickV_false, retV_ok, retVS_some, bi_gtr, un_not, bl_len, hintOf_some, Option.bind_some, clean_bool, clean_int, clean_agg, cond_true, cond_false, QS_P, QS_hint, QS_spec, List.length_cons, List.length_nil, cut, List.take, List.drop, Bool.not_true, beq_self_eq_true, true_and, Nat.zero_add, Nat.reduceBEq, Nat.reduceLT, nat_beq, rd_24, h22, hfw, hf, huc, ilen, i30, hb]
  refine W.cond (t := false) (by simp only [ev_tmp, nth_set, Nat.reduceBEq, cond_true, cond_false, *]) (W.skip ?_)
  simp only [next_normal]
  refine W.sreg ?_
  unfold k5_r4
  have hcc := (cV_isL (closeL l ids)).scal
  have hccl := (cV_isL (closeL l ids)).clean
  have clen := fun mk s => (cV_isL (closeL l ids)).len ln_22_n ln_22_l mk s
  simp only [WP_nil, WP_always, WP_always0, stepK_some, stepK0_some, nth_set, gen_nil, gen_set', loc_set', loc_set_set, p_move, p_alloc, p_load, p_store, p_call, callee_func, ev_tmp, evc_eq, evcs_nil, evcs_cons, boxA_loc, load_loc, retV_ok, hintOf_some, cells_agg, store_loc, Option.bind_some, clean_agg, cond_true, cond_false, QS_P, QS_hint, QS_spec, List.length_cons, List.length_nil, cut, writeCells, List.take, List.drop, List.nil_append, List.cons_append, beq_self_eq_true, true_and, Nat.zero_add, Nat.reduceBEq, Nat.reduceLT, Nat.reduceLeDiff, Bool.and_true, nat_beq, nat_blt, nat_ble, decide_true, rd_24, sz_24, zr_24, hint_5_6, huc, h15, hcs]
  refine W.seq (W.sreg ?_)
  unfold k5_r5
  simp only [WP_nil, WP_always, stepK_some, nth_set, loc_set', p_load, p_un, p_call, callee_func, ev_tmp, evc_eq, evcs_nil, evcs_cons, load_loc, retV_ok, un_not, Option.bind_some, clean_bool, clean_agg, cond_true, cond_false, QS_P, QS_spec, List.length_cons, List.length_nil, cut, List.take, List.drop, beq_self_eq_true, true_and, Nat.zero_add, Nat.reduceBEq, Nat.reduceLT, nat_beq, rd_24, h23, hms]
  cases hv : mapValid l with
  | false =>
    refine W.cond (t := true) (by simp only [ev_tmp, nth_set, Nat.reduceBEq, cond_true, cond_false, Bool.not_false]) (W.sreg ?_)
    unfold k5_r6
    have hz : ieq ((closeL l ids).length : Int) 0 = true := by
      have : closeL l ids = [] := by simp only [closeL, hv, Bool.false_eq_true, if_false]
      rw [this]; rfl
    simp only [WP_nil, WP_always, WP_when, stepK_some, whenK_true, wantV_tt, nth_set, gen_nil, gen_set', loc_set', p_move, p_assign, p_pick, p_load, p_bin, p_fieldAddr, p_builtin, ev_tmp, ev_const, evc_eq, evcs_nil, evcs_cons, ofValue_bool, ofValue_int, load_loc, pick_eq, pickV_true, retV_ok, retVS_some, bi_eql, bl_len, hintOf_some, Option.bind_some, clean_int, cond_true, cond_false, QS_P, QS_hint, List.drop, List.head?_cons, Bool.not_false, beq_self_eq_true, true_and, Nat.add_zero, Nat.reduceBEq, Nat.reduceLT, nat_beq, rd_22, fa_24_0_l, hccl, clen, hz]
    refine W.ret ⟨.inr rfl, _, res_tmp (v := .bool true) ?_ rfl, rfl, rfl⟩
    simp only [nth_set, Nat.reduceBEq, cond_true, cond_false, *]
  | true =>
  refine W.cond (t := false) (by simp only [ev_tmp, nth_set, Nat.reduceBEq, cond_true, cond_false, Bool.not_true]) (W.skip ?_)
  simp only [next_normal]
  have hgc : ∀ o ∈ closeL l ids, o.Good := fun o ho => hg o (closeL_mem ho)
  have hcll : (closeL l ids).length ≤ l.length := (closeL_sub hv).length_le
  refine W.sreg ?_
  unfold k5_r7
  have n0 : s0.next = 0 := rfl
  simp only [WP_nil, WP_always, stepK_some, nth_set, p_assign, p_makeMap, ev_tmp, retV_ok, retVS_some, cond_true, cond_false, QS_P, Bool.not_true, beq_self_eq_true, true_and, Nat.reduceBEq, Nat.reduceLT, mm_none, n0]
  have hst : ∃ s1, s0.new (.map [] 0) = s1 ∧ StI s1 [] := ⟨_, rfl, Nat.zero_le _, Nat.le_refl _, rfl, by rw [get_new]; rfl⟩
  obtain ⟨s1, e1, hS1⟩ := hst
  rw [e1]
  refine W.seq (W.sreg ?_)
  unfold k5_r8
  simp only [WP_nil, WP_always, stepK_some, p_assign, ev_const, ofValue_int, retV_ok, true_and, Nat.reduceLT]
  refine W.block ?_
  refine (law_ids (v := v) (cv := cV (closeL l ids)) hi his ids [] _ s1 [] rfl ⟨?_, ?_, ?_, ?_, ?_, ?_, ?_, ?_, ?_⟩ hS1 (fun x => Iff.rfl) ?_).mono ?_
  · simp only [nth_set, Nat.reduceBEq, cond_true, cond_false, *]
  · simp only [nth_set, Nat.reduceBEq, cond_true, cond_false, *]
  · simp only [gen_nil, gen_set', Nat.reduceBEq, cond_true, cond_false]
  · simp only [loc_set', Nat.reduceBEq, cond_true, cond_false]
  · simp only [nth_set, Nat.reduceBEq, cond_true, cond_false, *]
  · simp only [nth_set, Nat.reduceBEq, cond_true, cond_false, *]
  · simp only [gen_nil, gen_set', Nat.reduceBEq, cond_true, cond_false]
  · simp only [loc_set', Nat.reduceBEq, cond_true, cond_false]
  · simp only [nth_set, Nat.reduceBEq, cond_true, cond_false, *]
  · simp only [nth_set, Nat.reduceBEq, cond_true, cond_false]; rfl
  rintro x fr s2 ⟨rfl, e2, N2, rfl, I2, hS2, hN2⟩
  show W (QS sp) 5 _ _ _ _
  refine W.sreg ?_
  unfold k5_r12
  simp only [WP_nil, WP_always, stepK_some, p_assign, ev_const, retV_ok, true_and, Nat.reduceLT, ofValue, ofScal]
  refine W.seq (W.sreg ?_)
  unfold k5_r13
  simp only [WP_nil, WP_always, stepK_some, p_assign, ev_const, ofValue_int, retV_ok, true_and, Nat.reduceLT]
  refine W.block ?_
  obtain ⟨p1, p2, g2, b2, p5, p6, g6, b6, p7⟩ := I2
  refine (law_objs (v := v) (u := u) hgc (by omega) (closeL l ids) [] _ s2 N2 .nils rfl ⟨?_, ?_, g2, b2, ?_, ?_, g6, b6, ?_⟩ hS2 (.inl ⟨rfl, rfl⟩) ?_ ?_).mono ?_
  · simp only [nth_set, Nat.reduceBEq, cond_false, *]
  · simp only [nth_set, Nat.reduceBEq, cond_false, *]
  · simp only [nth_set, Nat.reduceBEq, cond_false, *]
  · simp only [nth_set, Nat.reduceBEq, cond_false, *]
  · simp only [nth_set, Nat.reduceBEq, cond_false, *]
  · simp only [nth_set, Nat.reduceBEq, cond_true, cond_false, *]
  · simp only [nth_set, Nat.reduceBEq, cond_true, cond_false]; rfl
  rintro x fr s3 ⟨rfl, e3, N3, ov, rfl, I3, hS3, hO3, p9, hN3⟩
  show W (QS sp) 5 _ _ _ _
  obtain ⟨p1, p2, g2, b2, p5, p6, g6, b6, p7⟩ := I3
  refine W.sreg ?_
  unfold k5_r21
  simp only [WP_nil, WP_always, stepK_some, p_assign, ev_const, ofValue_int, retV_ok, true_and, Nat.reduceLT]
  refine W.seq (W.sreg ?_)
  unfold k5_r22
  simp only [WP_nil, WP_always, stepK_some, p_assign, ev_const, ofValue_int, retV_ok, true_and, Nat.reduceLT]
  refine W.block ?_
  have hneed := closeL_needed hv (ids := ids) (N := N3) fun x => by rw [hN3, hN2]
  refine (law_all h14 (u := u) hl hg (by omega) hneed hS3 (ov := ov) l [] _ rfl ⟨?_, ?_, g2, b2, ?_, ?_, g6, b6, ?_⟩ ?_ ?_ ?_).mono ?_
  · simp only [nth_set, Nat.reduceBEq, cond_false, *]
  · simp only [nth_set, Nat.reduceBEq, cond_false, *]
  · simp only [nth_set, Nat.reduceBEq, cond_false, *]
  · simp only [nth_set, Nat.reduceBEq, cond_false, *]
  · simp only [nth_set, Nat.reduceBEq, cond_false, *]
  · simp only [nth_set, Nat.reduceBEq, cond_false, *]
  · simp only [nth_set, Nat.reduceBEq, cond_true, cond_false]; rfl
  · simp only [nth_set, Nat.reduceBEq, cond_true, cond_false]; rfl
  rintro x fr s4 ⟨rfl, rfl, e4, rfl, I4, p9, p12⟩
  show W (QS sp) 5 _ _ _ _
  obtain ⟨p1, p2, g2, b2, p5, p6, g6, b6, p7⟩ := I4
  have hoc := hO3.clean
  have ho1 := closeSp_of hl hg (by omega) hO3.isL (by simp; omega)
  rw [closeL_own hv, mapV_eq] at ho1
  have ho2 := closeSp_of (cV_isL (closeL l ids)) hgc (by omega) hi his
  rw [closeL_again hv, mapV_eq] at ho2
  have hsame := same12Sp_of (cV_isL (closeL l ids)) (cV_isL (closeL l ids)) hgc (by omega)
  refine W.sdrawQ hS3.hm ?_
  unfold k5_r29
  simp only [WQ_nil, WQ_always, WQ_when, stepQ_some, whenQ_true, isStore, wantV_tt, nth_set, p_move, p_assign, p_pick, p_load, p_bin, p_fieldAddr, p_builtin, p_call, callee_func, ev_tmp, ev_const, evc_eq, evcs_nil, evcs_cons, ofValue_bool, load_loc, pick_eq, pickV_true, retV_ok, retVS_some, bi_eql, bl_len, hintOf_some, Option.bind_some, clean_int, clean_agg, cond_true, cond_false, QS_P, QS_hint, QS_spec, List.length_cons, List.length_nil, cut, List.take, List.drop, List.head?_cons, beq_self_eq_true, true_and, Nat.zero_add, Nat.add_zero, Nat.reduceBEq, Nat.reduceLT, nat_beq, rd_22, rd_24, fa_24_0_l, p1, p2, b2, p5, p6, g6, b6, p9, p12, hccl, clen, ieq_self, hoc, huc, h15, ho1, ho2, h14, hsame]
  refine W.ret ⟨.inr rfl, _, res_tmp (v := .bool true) ?_ rfl, rfl, hS3.hc⟩
  simp only [nth_set, Nat.reduceBEq, cond_true, cond_false, *]
end
noncomputable def T9 : Tbl := [(9, headSp), (22, fewSp), (15, closeSp), (23, mapSp), (14, same12Sp)]
theorem T9_ok : TblOk T9 := .cons headSp_ok (.cons fewSp_ok (.cons closeSp_ok (.cons mapSp_ok (.cons same12Sp_ok .nil))))
def law5Ok (a b : AVal) : Prop := ∃ v l ids, a = .agg [v] ∧ IsL 6 Obj.val v l ∧ (∀ o ∈ l, o.Good) ∧ l.length < small ∧ IsL 1 strV b ids ∧ ids.length < small
theorem law5 {a b : AVal} (h : law5Ok a b) (G : Gh) (hh : Trie AObj) (w : World) (xs : List Value) (wr : WR G hh w) (hx : VRs G [a, b] xs) :
    CallsTo Tryz.prog 5 ⟨xs⟩ w fun y w' => ∃ G', WR G' hh w' ∧ Ext G hh w G' hh w' 0 0 ∧ VR G' (.bool true) y := by
  obtain ⟨v, l, ids, rfl, hl, hg, hs, hi, his⟩ := h
  obtain ⟨ht, v', hw, hl'⟩ := objs_top hl hg
  obtain ⟨ht2, hi'⟩ := isL_top strV_pure hi
  have hw : weaks [.agg [v], b] = [.agg [v'], weak b] := by simp only [weaks, hw]
  obtain ⟨x, s', hr, rfl, hci⟩ := law_run (sp := fun f => tblGet f T9) rfl rfl rfl rfl rfl rfl hl' hg hs hi' his
  exact spec_of_run (Q := QT T9) (good_of T9_ok) (show 0 < 2 from Nat.zero_lt_succ 1) (args := [.agg [v], b]) (v := .bool true) (s' := s') (by simp only [tops, ht, ht2, Bool.and_self]) (by rw [hw]; exact hr) hci ⟨1, rfl⟩ G hh w xs wr hx
end Go.Proofs.YtnjhbfefpcjjaaaGreat
/- From the data that the arguments read as to the evaluator's values. -/
namespace Go.Proofs.YtnjhbfefpcjjaaaGreat
open Go.Ag

def scalOf : Value → Option AVal
  | .bool b => some (.bool b)
  | .int k n => some (.int k n)
  | .string s => some (.str s.data.toList)
  | .slice none 0 0 => some .nils
  | _ => none
theorem str_eta (s : ByteArray) : (⟨⟨s.data.toList⟩⟩ : ByteArray) = s := rfl
theorem scalOf_VR {G : Gh} {x : Value} {v : AVal} (h : scalOf x = some v) : v.scal = true ∧ VR G v x := by
  unfold scalOf at h
  split at h
  · injection h with h; subst h; exact ⟨rfl, .bool _⟩
  · injection h with h; subst h; exact ⟨rfl, .int _ _⟩
  · injection h with h; subst h; exact ⟨rfl, .str _⟩
  · injection h with h; subst h; exact ⟨rfl, .nils⟩
  · cases h
def cellS (W : World) (b o : Nat) : Option AVal := (W.cell? ⟨b, o, none⟩).bind scalOf

open Classical in
noncomputable def pick (P : AVal → Prop) : Option AVal := if h : ∃ v, P v then some (Classical.choose h) else none
theorem pick_spec {P : AVal → Prop} {v : AVal} (h : pick P = some v) : P v := by
  unfold pick at h
  split at h
  · rename_i e
    injection h with h; subst h
    exact Classical.choose_spec e
  · cases h
theorem pick_of {P : AVal → Prop} {v : AVal} (h : P v) : ∃ u, pick P = some u ∧ P u := by
  have e : ∃ v, P v := ⟨v, h⟩
  exact ⟨Classical.choose e, by unfold pick; rw [dif_pos e], Classical.choose_spec e⟩

def RefsAt (W : World) (x : Value) (v : AVal) : Prop := ∃ (a : Addr) (len cap : Nat) (strs : List Bytes), x = .slice (some a) len cap ∧ v = .list 1 (strs.map strV) .no ∧ (cap = 0 ∨ a.spot = none) ∧ strs.length = len ∧ len ≤ cap ∧ len < small ∧ (∀ s ∈ strs, s.length < small) ∧
  ∀ (i : Nat) (s : Bytes), strs[i]? = some s → W.cell? ⟨a.block, a.off + i, none⟩ = some (.string ⟨⟨s⟩⟩)
def TagsAt (W : World) (x : Value) (v : AVal) : Prop := ∃ (a : Addr) (len cap : Nat) (tags : List Tag), x = .slice (some a) len cap ∧ v = .list 2 (tags.map tagV) .no ∧ (cap = 0 ∨ a.spot = none) ∧ tags.length = len ∧ len ≤ cap ∧ len < small ∧ (∀ t ∈ tags, t.1.length < small) ∧
  ∀ (i : Nat) (t : Tag), tags[i]? = some t → W.cell? ⟨a.block, a.off + (i * 2 + 0), none⟩ = some (.string ⟨⟨t.1⟩⟩) ∧ W.cell? ⟨a.block, a.off + (i * 2 + 1), none⟩ = some (.string ⟨⟨t.2⟩⟩)

open Classical in
noncomputable def slicesAt (W : World) (a : Addr) (n b o : Nat) : Option AVal :=
  if b = a.block ∧ a.off ≤ o ∧ o < a.off + n * 6 then
    if (o - a.off) % 6 = 4 then (W.cell? ⟨b, o, none⟩).bind fun x => pick (RefsAt W x)
    else if (o - a.off) % 6 = 5 then (W.cell? ⟨b, o, none⟩).bind fun x => pick (TagsAt W x) else none
  else none
noncomputable def ghost (W : World) (a : Addr) (n : Nat) : Gh where
  at_ _ := none
  dim _ := none
  ro b o := (cellS W b o).or (slicesAt W a n b o)

theorem ghost_str {W : World} {a : Addr} {n b o : Nat} {s : Bytes} (h : W.cell? ⟨b, o, none⟩ = some (.string ⟨⟨s⟩⟩)) : (ghost W a n).ro b o = some (.str s) := by
  show (cellS W b o).or _ = _
  have : cellS W b o = some (.str s) := by
    simp only [cellS, h, Option.bind_some]; rfl
  rw [this]; rfl
theorem flat_strV : ∀ l : List Bytes, flat (l.map strV) = l.map strV
  | [] => rfl
  | a :: l => by simp only [List.map_cons, flat, flat_strV l]; rfl
theorem refs_VR {W : World} {a : Addr} {n : Nat} {x : Value} {v : AVal} (h : RefsAt W x v) : VR (ghost W a n) v x := by
  obtain ⟨d, len, cap, strs, rfl, rfl, hsp, hl, hc, _, _, hcell⟩ := h
  rw [← hl] at hc ⊢
  have hm : (strs.map strV).length = strs.length := by simp
  rw [← hm]
  refine .list hsp Nat.one_pos ?_ (by rw [hm]; exact hc) ?_ trivial
  · intro y hy
    obtain ⟨s, _, rfl⟩ := List.mem_map.1 hy
    rfl
  · intro i y hy
    rw [flat_strV, List.getElem?_map] at hy
    cases e : strs[i]? with
    | none => rw [e] at hy; cases hy
    | some s =>
      rw [e] at hy
      simp only [Option.map_some, Option.some.injEq] at hy
      subst hy
      exact ghost_str (hcell i s e)
theorem nthL_get : ∀ {l : List AVal} {i : Nat} {v : AVal}, l[i]? = some v → nthL l i = v
  | [], _, _, h => by simp at h
  | _ :: _, 0, _, h => by simpa [nthL] using h
  | _ :: l, i + 1, v, h => nthL_get (l := l) (i := i) (by simpa using h)
/-- an element's cell in a row -/
theorem flat_at {sz : Nat} {xs : List AVal} (hsz : ∀ x ∈ xs, x.cells.length = sz) {i : Nat} {y : AVal} (h : (flat xs)[i]? = some y) : ∃ v, xs[i / sz]? = some v ∧ v.cells[i % sz]? = some y ∧ i = i / sz * sz + i % sz := by
  have hlt : i < (flat xs).length := by
    rcases Nat.lt_or_ge i (flat xs).length with h1 | h1
    · exact h1
    · rw [List.getElem?_eq_none h1] at h; cases h
  rw [flat_length hsz] at hlt
  have hpos : 0 < sz := by
    rcases Nat.eq_zero_or_pos sz with h0 | h0
    · subst h0; omega
    · exact h0
  have hj : i / sz < xs.length := (Nat.div_lt_iff_lt_mul hpos).2 hlt
  have hi : i % sz < sz := Nat.mod_lt _ hpos
  have e : i = i / sz * sz + i % sz := by rw [Nat.mul_comm]; exact (Nat.div_add_mod i sz).symm
  have hg := flat_get hsz hj hi
  rw [← e, h] at hg
  refine ⟨xs[i / sz], List.getElem?_eq_getElem hj, ?_, e⟩
  rw [nthL_get (List.getElem?_eq_getElem hj)] at hg
  exact hg.symm
theorem tags_VR {W : World} {a : Addr} {n : Nat} {x : Value} {v : AVal} (h : TagsAt W x v) : VR (ghost W a n) v x := by
  obtain ⟨d, len, cap, tags, rfl, rfl, hsp, hl, hc, _, _, hcell⟩ := h
  rw [← hl] at hc ⊢
  have hm : (tags.map tagV).length = tags.length := by simp
  have hsz : ∀ y ∈ tags.map tagV, y.cells.length = 2 := by
    intro y hy
    obtain ⟨s, _, rfl⟩ := List.mem_map.1 hy
    rfl
  rw [← hm]
  refine .list hsp (Nat.succ_pos 1) hsz (by rw [hm]; exact hc) ?_ trivial
  intro i y hy
  obtain ⟨u, h1, h2, h3⟩ := flat_at hsz hy
  rw [List.getElem?_map] at h1
  cases e : tags[i / 2]? with
  | none => rw [e] at h1; cases h1
  | some t =>
    rw [e] at h1
    simp only [Option.map_some, Option.some.injEq] at h1
    subst h1
    obtain ⟨c0, c1⟩ := hcell _ t e
    have hm2 : i % 2 = 0 ∨ i % 2 = 1 := by omega
    rcases hm2 with hm2 | hm2
    · rw [hm2] at h2 h3
      simp only [tagV, AVal.cells, List.getElem?_cons_zero, Option.some.injEq] at h2
      subst h2
      rw [h3]
      exact ghost_str c0
    · rw [hm2] at h2 h3
      simp only [tagV, AVal.cells, List.getElem?_cons_succ, List.getElem?_cons_zero, Option.some.injEq] at h2
      subst h2
      rw [h3]
      exact ghost_str c1
theorem ghost_wr (W : World) (a : Addr) (n : Nat) : WR (ghost W a n) .nil W where
  obj m o h := by cases h
  sep m k x y h := absurd rfl h
  ro b o v h := by
    have h : (cellS W b o).or (slicesAt W a n b o) = some v := h
    cases e : cellS W b o with
    | some u =>
      rw [e] at h
      simp only [Option.some_or, Option.some.injEq] at h
      subst h
      unfold cellS at e
      rw [Option.bind_eq_some_iff] at e
      obtain ⟨x, h1, h2⟩ := e
      obtain ⟨h3, h4⟩ := scalOf_VR (G := ghost W a n) h2
      exact ⟨h3, x, h1, h4⟩
    | none =>
      rw [e] at h
      simp only [Option.none_or] at h
      unfold slicesAt at h
      split at h
      · split at h
        · rw [Option.bind_eq_some_iff] at h
          obtain ⟨x, h1, h2⟩ := h
          have h2 := pick_spec h2
          have hs : v.scal = true := by obtain ⟨_, _, _, _, _, rfl, _⟩ := h2; rfl
          exact ⟨hs, x, h1, refs_VR h2⟩
        · split at h
          · rw [Option.bind_eq_some_iff] at h
            obtain ⟨x, h1, h2⟩ := h
            have h2 := pick_spec h2
            have hs : v.scal = true := by obtain ⟨_, _, _, _, _, rfl, _⟩ := h2; rfl
            exact ⟨hs, x, h1, tags_VR h2⟩
          · cases h
      · cases h
  apart m ob x i v h := by cases h
  dim b d h := by cases h
  below m x h := by cases h

/- opening -/
section
variable {H : Type} {enc : TypeId × Value → H} {W : World} {held : Bool}
theorem u_9 : Tryz.prog.underlying 9 = some .string := by kernel_rfl
theorem u_3 : Tryz.prog.underlying 3 = some (.int .i64) := by kernel_rfl
theorem c_9 : Tryz.prog.cellsOf 9 = 1 := by kernel_rfl
theorem c_3 : Tryz.prog.cellsOf 3 = 1 := by kernel_rfl
theorem c_25 : Tryz.prog.cellsOf 25 = 1 := by kernel_rfl
theorem c_49 : Tryz.prog.cellsOf 49 = 1 := by kernel_rfl
theorem c_48 : Tryz.prog.cellsOf 48 = 2 := by kernel_rfl
theorem c_64 : Tryz.prog.cellsOf 64 = 2 := by kernel_rfl
theorem c_51 : Tryz.prog.cellsOf 51 = 6 := by kernel_rfl
theorem c_24 : Tryz.prog.cellsOf 24 = 1 := by kernel_rfl
theorem c_22 : Tryz.prog.cellsOf 22 = 1 := by kernel_rfl
theorem u_25 : Tryz.prog.underlying 25 = some (.slice 9) := by kernel_rfl
theorem u_49 : Tryz.prog.underlying 49 = some (.slice 64) := by kernel_rfl
theorem u_22 : Tryz.prog.underlying 22 = some (.slice 51) := by kernel_rfl

theorem spot_of_cell {a : Addr} {v : Value} (h : W.cell? a = some v) : a.spot = none := by
  unfold World.cell? at h
  split at h
  · split at h
    · cases h
    · rename_i hs
      cases e : a.spot with
      | none => rfl
      | some _ => rw [e] at hs; simp at hs
  · cases h
theorem add_none {a : Addr} (h : a.spot = none) (i : Nat) : a.add i = ⟨a.block, a.off + i, none⟩ := by
  obtain ⟨b, o, sp⟩ := a
  simp only at h; subst h
  exact add_mk b o i
theorem maxLen_small {n : Nat} (h : n ≤ maxLen) : n < small := by
  have h1 : maxLen = 9223372036854775807 := by decide
  have h2 : small = 9223372036854775808 := rfl
  omega

theorem str_small {s : ByteArray} (h : s.size ≤ maxLen) : s.data.toList.length < small := by
  have e : s.data.toList.length = s.size := Array.length_toList
  rw [e]; exact maxLen_small h
theorem len1 {α : Type} {l : List α} (h : l.length = 1) : ∃ a, l = [a] := by
  match l, h with
  | [a], _ => exact ⟨a, rfl⟩
theorem len2 {α : Type} {l : List α} (h : l.length = 2) : ∃ a b, l = [a, b] := by
  match l, h with
  | [a, b], _ => exact ⟨a, b, rfl⟩
theorem len5 {α : Type} {l : List α} (h : l.length = 5) : ∃ a b c d e, l = [a, b, c, d, e] := by
  match l, h with
  | [a, b, c, d, e], _ => exact ⟨a, b, c, d, e, rfl⟩
theorem len6 {α : Type} {l : List α} (h : l.length = 6) : ∃ a b c d e f, l = [a, b, c, d, e, f] := by
  match l, h with
  | [a, b, c, d, e, f], _ => exact ⟨a, b, c, d, e, f, rfl⟩
theorem open_refs {fuel : Nat} {cs : List Value} {x : DataW H × List MemPlace} (h : DataW.trod enc Tryz.prog W 0 (fun _ => true) held fuel 25 cs = some x) : ∃ v, cs = [v] ∧ (v = .slice none 0 0 ∨ ∃ u, RefsAt W v u) := by
  rcases Go.ChangeShapes.open_strings u_25 u_9 c_9 h with ⟨rfl, _⟩ | ⟨a, len, cap, ss, rfl, _, hl, hm, hss, _, hcell, hsz⟩
  · exact ⟨_, rfl, .inl rfl⟩
  · simp only [if_true] at hss
    refine ⟨_, rfl, .inr ⟨_, a, len, cap, (ss.take len).map (fun s => s.data.toList), rfl, rfl, ?_, ?_, hl, maxLen_small (Nat.le_trans hl hm), ?_, ?_⟩⟩
    · rcases Nat.eq_zero_or_pos cap with h0 | h0
      · exact .inl h0
      · refine .inr (spot_of_cell (W := W) (v := .string (ss.getD 0 ByteArray.empty)) ?_)
        have := hcell 0 (by omega)
        exact this
    · rw [List.length_map, List.length_take, hss]; omega
    · intro s hs
      obtain ⟨b, hb, rfl⟩ := List.mem_map.1 hs
      have := hsz b (List.mem_of_mem_take hb)
      exact str_small this
    · intro i s hi
      rw [List.getElem?_map] at hi
      cases e : (ss.take len)[i]? with
      | none => rw [e] at hi; cases hi
      | some b =>
        rw [e] at hi
        simp only [Option.map_some, Option.some.injEq] at hi
        subst hi
        rw [List.getElem?_take] at e
        split at e
        · have hlt := (List.getElem?_eq_some_iff.1 e).1
          have hc := hcell i hlt
          have hsp : a.spot = none := spot_of_cell (W := W) (v := .string (ss.getD 0 ByteArray.empty)) (hcell 0 (by omega))
          rw [add_none hsp, List.getD_eq_getElem?_getD, e] at hc
          exact hc
        · cases e

theorem two_strings {fuel : Nat} {cs : List Value} {x : DataW H × List MemPlace} (h : DataW.trod enc Tryz.prog W 0 (fun _ => true) held fuel 64 cs = some x) : ∃ k v : Bytes, cs = [.string ⟨⟨k⟩⟩, .string ⟨⟨v⟩⟩] ∧ k.length < small := by
  obtain ⟨y0, y1, n, _, hl, h0, h1⟩ := Go.ChangeShapes.trod_struct2 Tryz.underlying64 h
  rw [c_64] at hl
  obtain ⟨a, b, rfl⟩ := len2 hl
  rw [c_9] at h0 h1
  obtain ⟨s, e0, _, hs⟩ := DataW.trod_string u_9 h0
  obtain ⟨r, e1, _, hr⟩ := DataW.trod_string u_9 h1
  simp only [List.drop_zero, List.take_succ_cons, List.take_zero, List.cons.injEq, and_true] at e0
  simp only [List.drop_succ_cons, List.drop_zero, List.take_succ_cons, List.take_zero, List.cons.injEq, and_true] at e1
  subst e0; subst e1
  exact ⟨s.data.toList, r.data.toList, rfl, str_small hs⟩
theorem two_ints {fuel : Nat} {cs : List Value} {x : DataW H × List MemPlace} (h : DataW.trod enc Tryz.prog W 0 (fun _ => true) held fuel 48 cs = some x) : ∃ k v : Int, cs = [.int .i64 k, .int .i64 v] := by
  obtain ⟨y0, y1, n, _, hl, h0, h1⟩ := Go.ChangeShapes.trod_struct2 Tryz.underlying48 h
  rw [c_48] at hl
  obtain ⟨a, b, rfl⟩ := len2 hl
  rw [c_3] at h0 h1
  obtain ⟨s, e0, _, _⟩ := DataW.trod_int u_3 h0
  obtain ⟨r, e1, _, _⟩ := DataW.trod_int u_3 h1
  simp only [List.drop_zero, List.take_succ_cons, List.take_zero, List.cons.injEq, and_true] at e0
  simp only [List.drop_succ_cons, List.drop_zero, List.take_succ_cons, List.take_zero, List.cons.injEq, and_true] at e1
  subst e0; subst e1
  exact ⟨s, r, rfl⟩

theorem list_of {α : Type} {P : Nat → α → Prop} : ∀ (n : Nat), (∀ i, i < n → ∃ o, P i o) → ∃ l : List α, l.length = n ∧ ∀ (i : Nat) o, l[i]? = some o → P i o
  | 0, _ => ⟨[], rfl, fun i o h => by simp at h⟩
  | n + 1, h => by
    obtain ⟨l, h1, h2⟩ := list_of n fun i hi => h i (by omega)
    obtain ⟨o, ho⟩ := h n (by omega)
    refine ⟨l ++ [o], by simp [h1], fun i p hp => ?_⟩
    rcases Nat.lt_or_ge i l.length with hi | hi
    · rw [List.getElem?_append_left hi] at hp
      exact h2 i p hp
    · rw [List.getElem?_append_right hi] at hp
      have : i - l.length = 0 := by
        rcases Nat.eq_zero_or_pos (i - l.length) with h | h
        · exact h
        · rw [List.getElem?_eq_none (by simp; omega)] at hp; cases hp
      rw [this] at hp
      simp only [List.getElem?_cons_zero, Option.some.injEq] at hp
      subst hp
      have : i = n := by omega
      subst this; exact ho

/-- an element of a slice: its cells, its reading -/
theorem elem_at {e : TypeId} {c n i : Nat} {a : Addr} {elems : List (DataW H × List MemPlace)} (hc : Tryz.prog.cellsOf e = c) (hi : i < elems.length) (hsp : a.spot = none)
    (h : (W.cells? 0 (a.add (i * Tryz.prog.cellsOf e)) (Tryz.prog.cellsOf e)).bind (DataW.trod enc Tryz.prog W 0 (fun _ => true) held n e) = elems[i]?) :
    ∃ cs y, DataW.trod enc Tryz.prog W 0 (fun _ => true) held n e cs = some y ∧ cs.length = c ∧ ∀ j, j < c → W.cell? ⟨a.block, a.off + (i * c + j), none⟩ = cs[j]? := by
  rw [hc, List.getElem?_eq_getElem hi, Option.bind_eq_some_iff] at h
  obtain ⟨cs, h1, h2⟩ := h
  obtain ⟨_, hl, hcell⟩ := World.cells?_some h1
  refine ⟨cs, _, h2, hl, fun j hj => ?_⟩
  rw [← hcell j hj, add_none hsp, add_mk, Nat.add_assoc]
/-- a slice with places is not a part of a map's entry -/
theorem slice_spot {e : TypeId} {n len cap : Nat} {a : Addr} {elems rest : List (DataW H × List MemPlace)} (hpos : 0 < Tryz.prog.cellsOf e) (hlen : elems.length = len) (_hle : len ≤ cap)
    (hel : ∀ i, i < len → (W.cells? 0 (a.add (i * Tryz.prog.cellsOf e)) (Tryz.prog.cellsOf e)).bind (DataW.trod enc Tryz.prog W 0 (fun _ => true) held n e) = elems[i]?)
    (hsp : rest.length = cap - len ∧ ∀ j, j < cap - len → (W.cells? 0 (a.add ((len + j) * Tryz.prog.cellsOf e)) (Tryz.prog.cellsOf e)).bind (DataW.trod enc Tryz.prog W 0 (fun _ => true) held n e) = rest[j]?) : cap = 0 ∨ a.spot = none := by
  rcases Nat.eq_zero_or_pos cap with h0 | h0
  · exact .inl h0
  · refine .inr ?_
    have key : ∀ o : Option (DataW H × List MemPlace), o.isSome = true → (W.cells? 0 (a.add (0 * Tryz.prog.cellsOf e)) (Tryz.prog.cellsOf e)).bind (DataW.trod enc Tryz.prog W 0 (fun _ => true) held n e) = o → a.spot = none := by
      intro o ho h
      cases o with
      | none => cases ho
      | some y =>
        rw [Option.bind_eq_some_iff] at h
        obtain ⟨cs, h1, _⟩ := h
        obtain ⟨_, hl, hcell⟩ := World.cells?_some h1
        have := hcell 0 hpos
        rw [Nat.zero_mul] at this
        have hx : (a.add 0).add 0 = a := rfl
        rw [hx, List.getElem?_eq_getElem (by omega)] at this
        exact spot_of_cell this
    rcases Nat.eq_zero_or_pos len with h1 | h1
    · have := hsp.2 0 (by omega)
      rw [h1] at this
      refine key _ ?_ this
      rw [List.getElem?_eq_getElem (by omega)]; rfl
    · refine key _ ?_ (hel 0 h1)
      rw [List.getElem?_eq_getElem (by omega)]; rfl

theorem open_tags {fuel : Nat} {cs : List Value} {x : DataW H × List MemPlace} (h : DataW.trod enc Tryz.prog W 0 (fun _ => true) held fuel 49 cs = some x) : ∃ v, cs = [v] ∧ (v = .slice none 0 0 ∨ ∃ u, TagsAt W v u) := by
  rcases DataW.trod_slice u_49 h with ⟨rfl, _⟩ | ⟨a, len, cap, elems, rest, n, _, rfl, _, _, hl, hm, hlen, hel, hsp, _⟩
  · exact ⟨_, rfl, .inl rfl⟩
  · have hspot := slice_spot (by rw [c_64]; omega) hlen hl hel (hsp rfl)
    obtain ⟨tags, t1, t2⟩ := list_of (P := fun i (t : Tag) => t.1.length < small ∧ W.cell? ⟨a.block, a.off + (i * 2 + 0), none⟩ = some (.string ⟨⟨t.1⟩⟩) ∧ W.cell? ⟨a.block, a.off + (i * 2 + 1), none⟩ = some (.string ⟨⟨t.2⟩⟩)) len fun i hi => by
      have hs : a.spot = none := by
        rcases hspot with h0 | h0
        · omega
        · exact h0
      obtain ⟨cs, y, q1, q2, q3⟩ := elem_at c_64 (by omega) hs (hel i hi)
      obtain ⟨k, v, rfl, hk⟩ := two_strings q1
      exact ⟨(k, v), hk, q3 0 (by omega), q3 1 (by omega)⟩
    refine ⟨_, rfl, .inr ⟨_, a, len, cap, tags, rfl, rfl, hspot, t1, hl, maxLen_small (Nat.le_trans hl hm), ?_, fun i t hi => (t2 i t hi).2⟩⟩
    intro t ht
    obtain ⟨i, hi⟩ := List.getElem?_of_mem ht
    exact (t2 i t hi).1

/-- an object in a row of them -/
theorem open_obj {fuel : Nat} {cs : List Value} {x : DataW H × List MemPlace} (h : DataW.trod enc Tryz.prog W 0 (fun _ => true) held fuel 51 cs = some x) :
    ∃ (id : Bytes) (k px py : Int) (rv tv : Value), cs = [.string ⟨⟨id⟩⟩, .int .i64 k, .int .i64 px, .int .i64 py, rv, tv] ∧ id.length < small ∧ (rv = .slice none 0 0 ∨ ∃ u, RefsAt W rv u) ∧ (tv = .slice none 0 0 ∨ ∃ u, TagsAt W tv u) := by
  obtain ⟨xs, n, _, _, hl, hlen, hf⟩ := DataW.trod_struct Tryz.underlying51 h
  rw [c_51] at hl
  obtain ⟨a, b, c, d, e, f, rfl⟩ := len6 hl
  obtain ⟨y0, y1, y2, y3, y4, rfl⟩ := len5 (l := xs) hlen
  have h0 : DataW.trod enc Tryz.prog W 0 (fun _ => true) held n 9 (([a, b, c, d, e, f].drop 0).take (Tryz.prog.cellsOf 9)) = some y0 := hf 0 _ rfl
  have h1 : DataW.trod enc Tryz.prog W 0 (fun _ => true) held n 3 (([a, b, c, d, e, f].drop 1).take (Tryz.prog.cellsOf 3)) = some y1 := hf 1 _ rfl
  have h2 : DataW.trod enc Tryz.prog W 0 (fun _ => true) held n 48 (([a, b, c, d, e, f].drop 2).take (Tryz.prog.cellsOf 48)) = some y2 := hf 2 _ rfl
  have h3 : DataW.trod enc Tryz.prog W 0 (fun _ => true) held n 25 (([a, b, c, d, e, f].drop 4).take (Tryz.prog.cellsOf 25)) = some y3 := hf 3 _ rfl
  have h4 : DataW.trod enc Tryz.prog W 0 (fun _ => true) held n 49 (([a, b, c, d, e, f].drop 5).take (Tryz.prog.cellsOf 49)) = some y4 := hf 4 _ rfl
  rw [c_9] at h0
  rw [c_3] at h1
  rw [c_48] at h2
  rw [c_25] at h3
  rw [c_49] at h4
  obtain ⟨s, e0, _, hs⟩ := DataW.trod_string u_9 h0
  obtain ⟨k, e1, _, _⟩ := DataW.trod_int u_3 h1
  obtain ⟨px, py, e2⟩ := two_ints h2
  obtain ⟨rv, e3, hr⟩ := open_refs h3
  obtain ⟨tv, e4, ht⟩ := open_tags h4
  simp only [List.drop_zero, List.drop_succ_cons, List.take_succ_cons, List.take_zero, List.cons.injEq, and_true] at e0 e1 e2 e3 e4
  obtain ⟨rfl, rfl⟩ := e2
  subst e0; subst e1; subst e3; subst e4
  exact ⟨s.data.toList, k, px, py, _, _, rfl, str_small hs, hr, ht⟩

theorem refs_is {x : Value} {v : AVal} (h : RefsAt W x v) : ∃ strs : List Bytes, IsL 1 strV v strs ∧ strs.length < small ∧ (∀ s ∈ strs, s.length < small) ∧ pureV v = true := by
  obtain ⟨_, _, _, strs, _, rfl, _, hl, _, h1, h2, _⟩ := h
  refine ⟨strs, .inr ⟨_, rfl⟩, by omega, h2, ?_⟩
  simp only [pureV, pures_map strV_pure strs, Bool.and_self]
theorem tags_is {x : Value} {v : AVal} (h : TagsAt W x v) : ∃ tags : List Tag, IsL 2 tagV v tags ∧ tags.length < small ∧ (∀ t ∈ tags, t.1.length < small) ∧ pureV v = true := by
  obtain ⟨_, _, _, tags, _, rfl, _, hl, _, h1, h2, _⟩ := h
  refine ⟨tags, .inr ⟨_, rfl⟩, by omega, h2, ?_⟩
  simp only [pureV, pures_map tagV_pure tags, Bool.and_self]

theorem ghost_scal {a : Addr} {n b o : Nat} {x : Value} {v : AVal} (h : W.cell? ⟨b, o, none⟩ = some x) (hs : scalOf x = some v) : (ghost W a n).ro b o = some v := by
  show (cellS W b o).or _ = _
  have : cellS W b o = some v := by simp only [cellS, h, Option.bind_some, hs]
  rw [this]; rfl
theorem ghost_refs {a : Addr} {n i : Nat} (hi : i < n) {x : Value} {u : AVal} (h : W.cell? ⟨a.block, a.off + (i * 6 + 4), none⟩ = some x) (hu : RefsAt W x u) : ∃ v, (ghost W a n).ro a.block (a.off + (i * 6 + 4)) = some v ∧ RefsAt W x v := by
  obtain ⟨v, h1, h2⟩ := pick_of hu
  refine ⟨v, ?_, h2⟩
  show (cellS W _ _).or _ = _
  have e : cellS W a.block (a.off + (i * 6 + 4)) = none := by
    obtain ⟨d, len, cap, _, rfl, _⟩ := hu
    simp only [cellS, h, Option.bind_some]; rfl
  rw [e, Option.none_or, slicesAt, if_pos ⟨rfl, by omega, by omega⟩, if_pos (by omega), h]
  exact h1
theorem ghost_tags {a : Addr} {n i : Nat} (hi : i < n) {x : Value} {u : AVal} (h : W.cell? ⟨a.block, a.off + (i * 6 + 5), none⟩ = some x) (hu : TagsAt W x u) : ∃ v, (ghost W a n).ro a.block (a.off + (i * 6 + 5)) = some v ∧ TagsAt W x v := by
  obtain ⟨v, h1, h2⟩ := pick_of hu
  refine ⟨v, ?_, h2⟩
  show (cellS W _ _).or _ = _
  have e : cellS W a.block (a.off + (i * 6 + 5)) = none := by
    obtain ⟨d, len, cap, _, rfl, _⟩ := hu
    simp only [cellS, h, Option.bind_some]; rfl
  rw [e, Option.none_or, slicesAt, if_pos ⟨rfl, by omega, by omega⟩, if_neg (by omega), if_pos (by omega), h]
  exact h1

/-- a slice of objects -/
theorem open_objs {fuel : Nat} {cs : List Value} {x : DataW H × List MemPlace} (h : DataW.trod enc Tryz.prog W 0 (fun _ => true) held fuel 22 cs = some x) :
    ∃ (val : Value) (a : Addr) (n : Nat) (v : AVal) (l : List Obj), cs = [val] ∧ VR (ghost W a n) v val ∧ v.scal = true ∧ IsL 6 Obj.val v l ∧ (∀ o ∈ l, o.Good) ∧ l.length < small := by
  rcases DataW.trod_slice u_22 h with ⟨rfl, _⟩ | ⟨a, len, cap, elems, rest, n, _, rfl, _, _, hl, hm, hlen, hel, hsp, _⟩
  · refine ⟨_, ⟨0, 0, none⟩, 0, .nils, [], rfl, .nils, rfl, .inl ⟨rfl, rfl⟩, (fun o ho => by cases ho), by decide⟩
  · have hspot := slice_spot (by rw [c_51]; omega) hlen hl hel (hsp rfl)
    obtain ⟨l, t1, t2⟩ := list_of (P := fun i (o : Obj) => o.Good ∧ ∀ (j : Nat) v, o.cells[j]? = some v → (ghost W a len).ro a.block (a.off + (i * 6 + j)) = some v) len fun i hi => by
      have hs : a.spot = none := by
        rcases hspot with h0 | h0
        · omega
        · exact h0
      obtain ⟨cs, y, q1, q2, q3⟩ := elem_at c_51 (by omega) hs (hel i hi)
      obtain ⟨id, k, px, py, rv, tv, rfl, hid, hr, ht⟩ := open_obj q1
      have p0 := q3 0 (by omega)
      have p1 := q3 1 (by omega)
      have p2 := q3 2 (by omega)
      have p3 := q3 3 (by omega)
      have p4 := q3 4 (by omega)
      have p5 := q3 5 (by omega)
      simp only [List.getElem?_cons_zero, List.getElem?_cons_succ] at p0 p1 p2 p3 p4 p5
      have R : ∃ (v : AVal) (strs : List Bytes), (ghost W a len).ro a.block (a.off + (i * 6 + 4)) = some v ∧ IsL 1 strV v strs ∧ strs.length < small ∧ (∀ s ∈ strs, s.length < small) ∧ pureV v = true := by
        rcases hr with rfl | ⟨u, hu⟩
        · exact ⟨.nils, [], ghost_scal p4 rfl, .inl ⟨rfl, rfl⟩, by decide, (fun s hs => by cases hs), rfl⟩
        · obtain ⟨v, g1, g2⟩ := ghost_refs hi p4 hu
          obtain ⟨strs, g3⟩ := refs_is g2
          exact ⟨v, strs, g1, g3⟩
      have T : ∃ (v : AVal) (tags : List Tag), (ghost W a len).ro a.block (a.off + (i * 6 + 5)) = some v ∧ IsL 2 tagV v tags ∧ tags.length < small ∧ (∀ s ∈ tags, s.1.length < small) ∧ pureV v = true := by
        rcases ht with rfl | ⟨u, hu⟩
        · exact ⟨.nils, [], ghost_scal p5 rfl, .inl ⟨rfl, rfl⟩, by decide, (fun s hs => by cases hs), rfl⟩
        · obtain ⟨v, g1, g2⟩ := ghost_tags hi p5 hu
          obtain ⟨tags, g3⟩ := tags_is g2
          exact ⟨v, tags, g1, g3⟩
      obtain ⟨rV, strs, r1, r2, r3, r4, r5⟩ := R
      obtain ⟨tV, tags, s1, s2, s3, s4, s5⟩ := T
      refine ⟨⟨id, k, px, py, rV, tV, strs, tags⟩, ⟨⟨r2, s2, hid, r3, r4, s3, s4⟩, r5, s5⟩, ?_⟩
      intro j v hv
      match j, hv with
      | 0, hv => simp only [Obj.cells, List.getElem?_cons_zero, Option.some.injEq] at hv; subst hv; exact ghost_str p0
      | 1, hv => simp only [Obj.cells, List.getElem?_cons_succ, List.getElem?_cons_zero, Option.some.injEq] at hv; subst hv; exact ghost_scal p1 rfl
      | 2, hv => simp only [Obj.cells, List.getElem?_cons_succ, List.getElem?_cons_zero, Option.some.injEq] at hv; subst hv; exact ghost_scal p2 rfl
      | 3, hv => simp only [Obj.cells, List.getElem?_cons_succ, List.getElem?_cons_zero, Option.some.injEq] at hv; subst hv; exact ghost_scal p3 rfl
      | 4, hv => simp only [Obj.cells, List.getElem?_cons_succ, List.getElem?_cons_zero, Option.some.injEq] at hv; subst hv; exact r1
      | 5, hv => simp only [Obj.cells, List.getElem?_cons_succ, List.getElem?_cons_zero, Option.some.injEq] at hv; subst hv; exact s1
      | j + 6, hv => simp [Obj.cells] at hv
    have hg : ∀ o ∈ l, o.Good := fun o ho => by
      obtain ⟨i, hi⟩ := List.getElem?_of_mem ho
      exact (t2 i o hi).1
    refine ⟨_, a, len, .list 6 (l.map Obj.val) .no, l, rfl, ?_, rfl, .inr ⟨_, rfl⟩, hg, by rw [t1]; exact maxLen_small (Nat.le_trans hl hm)⟩
    have hm2 : (l.map Obj.val).length = len := by simp [t1]
    have hsz : ∀ y ∈ l.map Obj.val, y.cells.length = 6 := by
      intro y hy
      obtain ⟨o, _, rfl⟩ := List.mem_map.1 hy
      rfl
    have : VR (ghost W a len) (.list 6 (l.map Obj.val) .no) (.slice (some a) (l.map Obj.val).length cap) := by
      refine .list hspot (by omega) hsz (by rw [hm2]; exact hl) ?_ trivial
      intro i y hy
      obtain ⟨u, h1, h2, h3⟩ := flat_at hsz hy
      rw [List.getElem?_map] at h1
      cases e : l[i / 6]? with
      | none => rw [e] at h1; cases h1
      | some o =>
        rw [e] at h1
        simp only [Option.map_some, Option.some.injEq] at h1
        subst h1
        rw [h3]
        exact (t2 _ o e).2 _ _ h2
    rw [hm2] at this
    exact this

theorem open_map {v : Value} {d : DataW H} {ps : List MemPlace} (hv : ∃ cs, v = .agg cs) (h : DataW.Trod enc Tryz.prog W 0 (fun _ => true) held 24 v d ps) :
    ∃ (a : Addr) (n : Nat) (x : AVal) (l : List Obj), VR (ghost W a n) (.agg [x]) v ∧ IsL 6 Obj.val x l ∧ (∀ o ∈ l, o.Good) ∧ l.length < small := by
  obtain ⟨fuel, h⟩ := h
  obtain ⟨cs, rfl⟩ := hv
  obtain ⟨y0, n, _, hl, h0⟩ := Go.ChangeShapes.trod_struct1 Tryz.underlying24 h
  rw [c_22] at h0
  have hcs : (Value.agg cs).cells.toList = cs.toList := rfl
  rw [hcs] at h0 hl
  rw [c_24] at hl
  obtain ⟨val, a, n, x, l, e, h1, hsc, h2, h3, h4⟩ := open_objs h0
  have hc : cs = #[val] := by
    obtain ⟨cl⟩ := cs
    obtain ⟨c, rfl⟩ := len1 (l := cl) hl
    simp only [List.drop_zero, List.take_succ_cons, List.take_zero, List.cons.injEq, and_true] at e
    subst e; rfl
  subst hc
  refine ⟨a, n, x, l, .agg ?_ (.cons h1 .nil), h2, h3, h4⟩
  simp only [scals, List.all_cons, hsc, List.all_nil, Bool.and_self]
theorem open_ids {a : Addr} {n : Nat} {v : Value} {d : DataW H} {ps : List MemPlace} (hv : v.cells.toList = [v]) (h : DataW.Trod enc Tryz.prog W 0 (fun _ => true) held 25 v d ps) :
    ∃ (x : AVal) (ids : List Bytes), VR (ghost W a n) x v ∧ IsL 1 strV x ids ∧ ids.length < small := by
  obtain ⟨fuel, h⟩ := h
  rw [hv] at h
  obtain ⟨u, e, hu⟩ := open_refs h
  simp only [List.cons.injEq, and_true] at e
  subst e
  rcases hu with rfl | ⟨x, hx⟩
  · exact ⟨.nils, [], .nils, .inl ⟨rfl, rfl⟩, by decide⟩
  · obtain ⟨strs, h1, h2, _⟩ := refs_is hx
    exact ⟨x, strs, refs_VR hx, h1, h2⟩
end
end Go.Proofs.YtnjhbfefpcjjaaaGreat
