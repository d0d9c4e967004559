/- Contracts of planisphereref13.Few, planisphereref12.Same at equal maps; the closure of valid.Close. -/
import Derived.Test.YtnjhbfefpcjjaaaGreatY4
/- planisphereref13.Few -/
namespace Go.Proofs.YtnjhbfefpcjjaaaGreat
open Go.Ag

def refsFew : List Bytes → Bool
  | [] => true
  | r :: l => bif decide (60 < r.length) then false else refsFew l
def tagLong (t : Tag) : Bool := ilt 300 (IntKind.i64.wrap ((t.1.length : Int) + (t.2.length : Int)))
def tagsFew : List Tag → Bool
  | [] => true
  | t :: l => bif tagLong t then false else tagsFew l
def objMany (o : Obj) : Bool := decide (12 < o.refs.length) || decide (20 < o.tags.length) || decide (60 < o.id.length)
def objsFew : List Obj → Bool
  | [] => true
  | o :: l => bif objMany o then false else bif refsFew o.refs then bif tagsFew o.tags then objsFew l else false else false
def few (l : List Obj) (n : Int) : Bool := bif ilt n (l.length : Nat) then false else objsFew l

structure FewI (v : AVal) (o : Obj) (i g : Nat) (e : Env) (lc : Ag.Loc) : Prop where
  h2 : nth e 2 = .lref 2 1 0
  g2 : lc.gen 2 = 1
  b2 : lc.get 2 1 = some [v]
  h6 : nth e 6 = .lref 6 g 0
  g6 : lc.gen 6 = g
  b6 : lc.get 6 g = some o.cells
  h5 : nth e 5 = .int .i64 (i : Nat)

section
variable {sp : FuncId → Option (List AVal → Option AVal)}

theorem few_refs {v : AVal} {o : Obj} (ho : o.Ok) {i g : Nat} {s : St} {lc : Ag.Loc} : ∀ (rest pre : List Bytes) (e : Env), o.refs = pre ++ rest → FewI v o i g e lc → nth e 7 = .int .i64 (pre.length : Nat) →
    W (QS sp) 22 (.loop k22_l0) ⟨e, 79, lc⟩ s fun x fr s' => s' = s ∧ ∃ e', fr = ⟨e', 79, lc⟩ ∧ ((x = .exit 2 ∧ FewI v o i g e' lc ∧ refsFew rest = true) ∨ (x = .ret ∧ nth e' 4 = .bool false ∧ refsFew rest = false)) := by
  intro rest
  have hlen := fun mk s => ho.refs.len ln_25_n ln_25_l mk s
  have hcl := ho.refs.clean
  have hsm : small = 9223372036854775808 := rfl
  induction rest with
  | nil =>
    intro pre e hpre F h7
    obtain ⟨h2, g2, b2, h6, g6, b6, h5⟩ := F
    have hl : o.refs.length = pre.length := by rw [hpre]; simp
    refine W.loop1 ?_
    unfold k22_l0
    refine W.seq (W.sreg ?_)
    unfold k22_r10
    simp only [WP_nil, WP_always, stepK_some, nth_set, p_move, p_load, p_bin, p_fieldAddr, p_builtin, ev_tmp, evc_eq, evcs_nil, evcs_cons, load_loc, retV_ok, retVS_some, bi_lss, bl_len, hintOf_some, Option.bind_some, clean_int, cond_true, cond_false, QS_P, QS_hint, List.drop, List.head?_cons, ilt_nat, beq_self_eq_true, true_and, Nat.zero_add, Nat.reduceBEq, Nat.reduceLT, nat_beq, decide_false, rd_25, fa_51_3_l, h7, h6, g6, b6, Obj.cells, hcl, hlen, hl, Nat.lt_irrefl]
    refine W.cond (t := false) (by simp only [ev_tmp, nth_set, Nat.reduceBEq, cond_true, cond_false, *]) ?_
    refine W.exit ⟨rfl, _, rfl, .inl ⟨rfl, ⟨?_, g2, b2, ?_, g6, b6, ?_⟩, rfl⟩⟩ <;> simp only [nth_set, Nat.reduceBEq, cond_false, *]
  | cons r rest ih =>
    intro pre e hpre F h7
    have F0 := F
    obtain ⟨h2, g2, b2, h6, g6, b6, h5⟩ := F
    have hlt : pre.length < o.refs.length := by rw [hpre]; simp
    have hat : o.refs[pre.length]? = some r := by rw [hpre]; simp
    have hia := fun lc => ho.refs.at ia_25_l hat lc .i64
    have hrl := ho.reflen
    have hwr : IntKind.i64.wrap ((pre.length : Int) + 1) = ((pre.length + 1 : Nat) : Int) := by rw [wrap64_small (by omega) (by omega)]; omega
    have hil : ilt 60 (r.length : Nat) = decide (60 < r.length) := ilt_nat 60 _
    refine W.loop1 ?_
    unfold k22_l0
    refine W.seq (W.sreg ?_)
    unfold k22_r10
    simp only [WP_nil, WP_always, stepK_some, nth_set, p_move, p_load, p_bin, p_fieldAddr, p_builtin, ev_tmp, evc_eq, evcs_nil, evcs_cons, load_loc, retV_ok, retVS_some, bi_lss, bl_len, hintOf_some, Option.bind_some, clean_int, cond_true, cond_false, QS_P, QS_hint, List.drop, List.head?_cons, ilt_nat, beq_self_eq_true, true_and, Nat.zero_add, Nat.reduceBEq, Nat.reduceLT, nat_beq, decide_true, rd_25, fa_51_3_l, h7, h6, g6, b6, Obj.cells, hcl, hlen, hlt]
    refine W.cond (t := true) (by simp only [ev_tmp, nth_set, Nat.reduceBEq, cond_true, cond_false, *]) (W.skip ?_)
    simp only [next_normal]
    refine W.seq (W.block (W.sreg ?_))
    unfold k22_r12
    simp only [WP_nil, WP_always, stepK_some, nth_set, p_move, p_load, p_bin, p_fieldAddr, p_indexAddr, p_builtin, ev_tmp, ev_const, evc_eq, evcs_nil, evcs_cons, ofValue_int, load_loc, load_ro, retV_ok, retVS_some, bi_gtr, bl_len, hintOf_some, cells_str, Option.bind_some, clean_int, clean_str, cond_true, cond_false, QS_P, QS_hint, List.drop, List.head?_cons, beq_self_eq_true, true_and, Nat.zero_add, Nat.reduceBEq, Nat.reduceLT, nat_beq, rd_9, rd_25, fa_51_3_l, ln_9, h7, h6, g6, b6, Obj.cells, hia, strV, hil]
    cases hb : decide (60 < r.length) with
    | true =>
      refine W.cond (t := true) (by simp only [ev_tmp, nth_set, Nat.reduceBEq, cond_true, cond_false]) (W.sreg ?_)
      unfold k22_r13
      simp only [WP_nil, WP_always, stepK_some, p_assign, ev_const, ofValue_bool, retV_ok, true_and, Nat.reduceLT]
      refine W.ret ⟨rfl, _, rfl, .inr ⟨rfl, ?_, by simp only [refsFew, hb, cond_true]⟩⟩
      simp only [nth_set, Nat.reduceBEq, cond_true, cond_false, *]
    | false =>
      refine W.cond (t := false) (by simp only [ev_tmp, nth_set, Nat.reduceBEq, cond_true, cond_false]) (W.skip ?_)
      simp only [block_normal, next_normal]
      refine W.reg ?_
      unfold k22_r11
      simp only [WP_nil, WP_always, stepK_some, nth_set, p_move, p_assign, p_bin, ev_tmp, ev_const, evc_eq, ofValue_int, retV_ok, bi_add, Option.bind_some, clean_int, cond_true, cond_false, QS_P, beq_self_eq_true, true_and, Nat.reduceBEq, Nat.reduceLT, h7, hwr, next_normal]
      have hr : refsFew (r :: rest) = refsFew rest := by simp only [refsFew, hb, cond_false]
      rw [hr]
      refine ih (pre ++ [r]) _ (by rw [hpre]; simp) ⟨?_, g2, b2, ?_, g6, b6, ?_⟩ ?_
      · simp only [nth_set, Nat.reduceBEq, cond_false, *]
      · simp only [nth_set, Nat.reduceBEq, cond_false, *]
      · simp only [nth_set, Nat.reduceBEq, cond_false, *]
      · simp only [nth_set, Nat.reduceBEq, cond_true, cond_false, List.length_append, List.length_cons, List.length_nil]

theorem few_tags {v : AVal} {o : Obj} (ho : o.Ok) {i g : Nat} {s : St} (hm : s.minw ≤ s.next) {lc : Ag.Loc} : ∀ (rest pre : List Tag) (e : Env), o.tags = pre ++ rest → FewI v o i g e lc → nth e 8 = .int .i64 (pre.length : Nat) →
    W (QS sp) 22 (.loop k22_l1) ⟨e, 79, lc⟩ s fun x fr s' => s' = s ∧ ∃ e', fr = ⟨e', 79, lc⟩ ∧ ((x = .exit 4 ∧ FewI v o i g e' lc ∧ tagsFew rest = true) ∨ (x = .ret ∧ nth e' 4 = .bool false ∧ tagsFew rest = false)) := by
  intro rest
  have hlen := fun mk s => ho.tags.len ln_49_n ln_49_l mk s
  have hcl := ho.tags.clean
  have hsm : small = 9223372036854775808 := rfl
  induction rest with
  | nil =>
    intro pre e hpre F h8
    obtain ⟨h2, g2, b2, h6, g6, b6, h5⟩ := F
    have hl : o.tags.length = pre.length := by rw [hpre]; simp
    refine W.loop1 ?_
    unfold k22_l1
    refine W.seq (W.sreg ?_)
    unfold k22_r15
    simp only [WP_nil, WP_always, stepK_some, nth_set, p_move, p_load, p_bin, p_fieldAddr, p_builtin, ev_tmp, evc_eq, evcs_nil, evcs_cons, load_loc, retV_ok, retVS_some, bi_lss, bl_len, hintOf_some, Option.bind_some, clean_int, cond_true, cond_false, QS_P, QS_hint, List.drop, List.head?_cons, ilt_nat, beq_self_eq_true, true_and, Nat.zero_add, Nat.reduceBEq, Nat.reduceLT, nat_beq, decide_false, rd_49, fa_51_4_l, h8, h6, g6, b6, Obj.cells, hcl, hlen, hl, Nat.lt_irrefl]
    refine W.cond (t := false) (by simp only [ev_tmp, nth_set, Nat.reduceBEq, cond_true, cond_false, *]) ?_
    refine W.exit ⟨rfl, _, rfl, .inl ⟨rfl, ⟨?_, g2, b2, ?_, g6, b6, ?_⟩, rfl⟩⟩ <;> simp only [nth_set, Nat.reduceBEq, cond_false, *]
  | cons r rest ih =>
    intro pre e hpre F h8
    obtain ⟨h2, g2, b2, h6, g6, b6, h5⟩ := F
    have hlt : pre.length < o.tags.length := by rw [hpre]; simp
    have hat : o.tags[pre.length]? = some r := by rw [hpre]; simp
    have hia := fun lc => ho.tags.at ia_49_l hat lc .i64
    have hrl := ho.taglen
    have hwr : IntKind.i64.wrap ((pre.length : Int) + 1) = ((pre.length + 1 : Nat) : Int) := by rw [wrap64_small (by omega) (by omega)]; omega
    refine W.loop1 ?_
    unfold k22_l1
    refine W.seq (W.sreg ?_)
    unfold k22_r15
    simp only [WP_nil, WP_always, stepK_some, nth_set, p_move, p_load, p_bin, p_fieldAddr, p_builtin, ev_tmp, evc_eq, evcs_nil, evcs_cons, load_loc, retV_ok, retVS_some, bi_lss, bl_len, hintOf_some, Option.bind_some, clean_int, cond_true, cond_false, QS_P, QS_hint, List.drop, List.head?_cons, ilt_nat, beq_self_eq_true, true_and, Nat.zero_add, Nat.reduceBEq, Nat.reduceLT, nat_beq, decide_true, rd_49, fa_51_4_l, h8, h6, g6, b6, Obj.cells, hcl, hlen, hlt]
    refine W.cond (t := true) (by simp only [ev_tmp, nth_set, Nat.reduceBEq, cond_true, cond_false, *]) (W.skip ?_)
    simp only [next_normal]
    refine W.seq (W.block (W.sdrawQ hm ?_))
    unfold k22_r17
    simp only [WQ_nil, WQ_always, stepQ_some, isStore, nth_set, p_move, p_load, p_bin, p_fieldAddr, p_indexAddr, p_builtin, ev_tmp, ev_const, evc_eq, evcs_nil, evcs_cons, ofValue_int, load_loc, load_ro, retV_ok, retVS_some, bi_gtr, bi_add, bl_len, hintOf_some, cells_agg, Option.bind_some, clean_int, clean_str, cond_true, cond_false, QS_P, QS_hint, List.drop, List.head?_cons, beq_self_eq_true, true_and, Nat.zero_add, Nat.reduceBEq, Nat.reduceLT, nat_beq, rd_9, rd_49, fa_51_4_l, fa_64_0_r, fa_64_1_r, ln_9, h8, h6, g6, b6, Obj.cells, hia, tagV]
    cases hb : tagLong r with
    | true =>
      have hb' : ilt 300 (IntKind.i64.wrap ((r.1.length : Int) + (r.2.length : Int))) = true := hb
      refine W.cond (t := true) (by simp only [ev_tmp, nth_set, Nat.reduceBEq, cond_true, cond_false, hb']) (W.sreg ?_)
      unfold k22_r18
      simp only [WP_nil, WP_always, stepK_some, p_assign, ev_const, ofValue_bool, retV_ok, true_and, Nat.reduceLT]
      refine W.ret ⟨rfl, _, rfl, .inr ⟨rfl, ?_, by simp only [tagsFew, hb, cond_true]⟩⟩
      simp only [nth_set, Nat.reduceBEq, cond_true, cond_false, *]
    | false =>
      have hb' : ilt 300 (IntKind.i64.wrap ((r.1.length : Int) + (r.2.length : Int))) = false := hb
      refine W.cond (t := false) (by simp only [ev_tmp, nth_set, Nat.reduceBEq, cond_true, cond_false, hb']) (W.skip ?_)
      simp only [block_normal, next_normal]
      refine W.reg ?_
      unfold k22_r16
      simp only [WP_nil, WP_always, stepK_some, nth_set, p_move, p_assign, p_bin, ev_tmp, ev_const, evc_eq, ofValue_int, retV_ok, bi_add, Option.bind_some, clean_int, cond_true, cond_false, QS_P, beq_self_eq_true, true_and, Nat.reduceBEq, Nat.reduceLT, h8, hwr, next_normal]
      have hr : tagsFew (r :: rest) = tagsFew rest := by simp only [tagsFew, hb, cond_false]
      rw [hr]
      refine ih (pre ++ [r]) _ (by rw [hpre]; simp) ⟨?_, g2, b2, ?_, g6, b6, ?_⟩ ?_
      · simp only [nth_set, Nat.reduceBEq, cond_false, *]
      · simp only [nth_set, Nat.reduceBEq, cond_false, *]
      · simp only [nth_set, Nat.reduceBEq, cond_false, *]
      · simp only [nth_set, Nat.reduceBEq, cond_true, cond_false, List.length_append, List.length_cons, List.length_nil]

theorem few_objs {v : AVal} {l : List Obj} (hl : IsL 6 Obj.val v l) (hk : ∀ o ∈ l, o.Good) (hsmall : l.length < small) {s : St} (hm : s.minw ≤ s.next) : ∀ (rest pre : List Obj) (e : Env) (lc : Ag.Loc), l = pre ++ rest →
    nth e 2 = .lref 2 1 0 → lc.gen 2 = 1 → lc.get 2 1 = some [v] → nth e 5 = .int .i64 (pre.length : Nat) →
    W (QS sp) 22 (.loop k22_l2) ⟨e, 79, lc⟩ s fun x fr s' => s' = s ∧ fr.size = 79 ∧ ((x = .exit 0 ∧ objsFew rest = true) ∨ (x = .ret ∧ nth fr.env 4 = .bool false ∧ objsFew rest = false)) := by
  intro rest
  have hlen := fun mk s => hl.len ln_22_n ln_22_l mk s
  have hcl := hl.clean
  have hsm : small = 9223372036854775808 := rfl
  induction rest with
  | nil =>
    intro pre e lc hpre h2 g2 b2 h5
    have hl : l.length = pre.length := by rw [hpre]; simp
    refine W.loop1 ?_
    unfold k22_l2
    refine W.seq (W.sreg ?_)
    unfold k22_r4
    simp only [WP_nil, WP_always, stepK_some, nth_set, p_move, p_load, p_bin, p_fieldAddr, p_builtin, ev_tmp, evc_eq, evcs_nil, evcs_cons, load_loc, retV_ok, retVS_some, bi_lss, bl_len, hintOf_some, Option.bind_some, clean_int, cond_true, cond_false, QS_P, QS_hint, List.drop, List.head?_cons, ilt_nat, beq_self_eq_true, true_and, Nat.add_zero, Nat.reduceBEq, Nat.reduceLT, nat_beq, decide_false, rd_22, fa_24_0_l, h2, g2, b2, h5, hcl, hlen, hl, Nat.lt_irrefl]
    refine W.cond (t := false) (by simp only [ev_tmp, nth_set, Nat.reduceBEq, cond_true, cond_false, *]) ?_
    exact W.exit ⟨rfl, rfl, .inl ⟨rfl, rfl⟩⟩
  | cons o rest ih =>
    intro pre e lc hpre h2 g2 b2 h5
    have hlt : pre.length < l.length := by rw [hpre]; simp
    have hat : l[pre.length]? = some o := by rw [hpre]; simp
    have hia := fun lc => hl.at ia_22_l hat lc .i64
    have ho := (hk o (List.mem_of_getElem? hat)).toOk
    have hwr : IntKind.i64.wrap ((pre.length : Int) + 1) = ((pre.length + 1 : Nat) : Int) := by rw [wrap64_small (by omega) (by omega)]; omega
    have rlen := fun mk s => ho.refs.len ln_25_n ln_25_l mk s
    have rcl := ho.refs.clean
    have tlen := fun mk s => ho.tags.len ln_49_n ln_49_l mk s
    have tcl := ho.tags.clean
    have i1 : ilt 12 (o.refs.length : Nat) = decide (12 < o.refs.length) := ilt_nat 12 _
    have i2 : ilt 20 (o.tags.length : Nat) = decide (20 < o.tags.length) := ilt_nat 20 _
    have i3 : ilt 60 (o.id.length : Nat) = decide (60 < o.id.length) := ilt_nat 60 _
    refine W.loop1 ?_
    unfold k22_l2
    refine W.seq (W.sreg ?_)
    unfold k22_r4
    simp only [WP_nil, WP_always, stepK_some, nth_set, p_move, p_load, p_bin, p_fieldAddr, p_builtin, ev_tmp, evc_eq, evcs_nil, evcs_cons, load_loc, retV_ok, retVS_some, bi_lss, bl_len, hintOf_some, Option.bind_some, clean_int, cond_true, cond_false, QS_P, QS_hint, List.drop, List.head?_cons, ilt_nat, beq_self_eq_true, true_and, Nat.add_zero, Nat.reduceBEq, Nat.reduceLT, nat_beq, decide_true, rd_22, fa_24_0_l, h2, g2, b2, h5, hcl, hlen, hlt]
    refine W.cond (t := true) (by simp only [ev_tmp, nth_set, Nat.reduceBEq, cond_true, cond_false, *]) (W.skip ?_)
    simp only [next_normal]
    refine W.seq (W.block (W.sreg ?_))
    unfold k22_r6
    simp only [WP_nil, WP_always, WP_always0, stepK_some, stepK0_some, nth_set, loc_set', loc_set_set, p_move, p_alloc, p_load, p_store, p_fieldAddr, p_indexAddr, ev_tmp, evc_eq, boxA_loc, load_loc, load_ro, retV_ok, hintOf_some, cells_agg, store_loc, Option.bind_some, clean_agg, cond_true, cond_false, QS_P, QS_hint, List.length_cons, List.length_nil, cut, writeCells, List.take, List.drop, List.head?_cons, List.take_succ_cons, List.nil_append, List.cons_append, beq_self_eq_true, true_and, Nat.zero_add, Nat.add_zero, Nat.reduceBEq, Nat.reduceLT, Nat.reduceAdd, Nat.reduceLeDiff, Bool.and_true, nat_beq, nat_blt, nat_ble, decide_true, rd_22, rd_51, sz_51, zr_51, fa_24_0_l, hint_22_6, h2, g2, b2, h5, hia, Obj.val, Obj.cells]
    refine W.seq (W.sreg ?_)
    unfold k22_r7
    have fin : ∀ e' lc', nth e' 41 = .bool true → W (QS sp) 22 (.cond (Operand.tmp 41) (.seq (.region k22_r8) .ret) .skip) ⟨e', 79, lc'⟩ s fun x fr s' => x = .ret ∧ s' = s ∧ fr.size = 79 ∧ nth fr.env 4 = .bool false := by
      intro e' lc' h
      refine W.cond (t := true) (by simp only [ev_tmp, h]) (W.sreg ?_)
      unfold k22_r8
      simp only [WP_nil, WP_always, stepK_some, p_assign, ev_const, ofValue_bool, retV_ok, true_and, Nat.reduceLT]
      exact W.ret ⟨rfl, rfl, rfl, by simp only [nth_set, Nat.reduceBEq, cond_true, *]⟩
    cases q1 : decide (12 < o.refs.length) with
    | true =>
      simp only [WP_nil, WP_always, WP_when, stepK_some, whenK_false, wantV_tf, nth_set, gen_set', loc_set', p_move, p_pick, p_load, p_bin, p_fieldAddr, p_builtin, ev_tmp, ev_const, evc_eq, evcs_nil, evcs_cons, ofValue_bool, ofValue_int, load_loc, pick_eq, pickV_true, retV_ok, retVS_some, bi_gtr, bl_len, hintOf_some, Option.bind_some, clean_int, cond_true, cond_false, QS_P, QS_hint, List.drop, List.head?_cons, beq_self_eq_true, true_and, Nat.zero_add, Nat.reduceBEq, Nat.reduceLT, nat_beq, rd_25, fa_51_3_l, rcl, rlen, i1, q1]
      refine (fin _ _ ?_).mono ?_
      · simp only [nth_set, Nat.reduceBEq, cond_true, cond_false, *]
      · rintro x fr s' ⟨rfl, rfl, hs, h⟩
        exact ⟨rfl, hs, .inr ⟨rfl, h, by simp only [objsFew, objMany, q1, Bool.true_or, cond_true]⟩⟩
    | false =>
    cases q2 : decide (20 < o.tags.length) with
    | true =>
      simp only [WP_nil, WP_always, WP_when, stepK_some, whenK_true, whenK_false, wantV_tf, wantV_ff, nth_set, gen_set', loc_set', p_move, p_pick, p_load, p_bin, p_fieldAddr, p_builtin, ev_tmp, ev_const, evc_eq, evcs_nil, evcs_cons, ofValue_bool, ofValue_int, load_loc, pick_eq, pickV_true, pickV_false, retV_ok, retVS_some, bi_gtr, bl_len, hintOf_some, Option.bind_some, clean_int, cond_true, cond_false, QS_P, QS_hint, List.drop, List.head?_cons, beq_self_eq_true, true_and, Nat.zero_add, Nat.reduceBEq, Nat.reduceLT, nat_beq, rd_25, rd_49, fa_51_3_l, fa_51_4_l, rcl, rlen, i1, q1, tcl, tlen, i2, q2]
      refine (fin _ _ ?_).mono ?_
      · simp only [nth_set, Nat.reduceBEq, cond_true, cond_false, *]
      · rintro x fr s' ⟨rfl, rfl, hs, h⟩
        exact ⟨rfl, hs, .inr ⟨rfl, h, by simp only [objsFew, objMany, q1, q2, Bool.true_or, Bool.or_true, cond_true]⟩⟩
    | false =>
    cases q3 : decide (60 < o.id.length) with
    | true =>
      simp only [WP_nil, WP_always, WP_when, stepK_some, whenK_true, wantV_ff, nth_set, gen_set', loc_set', p_move, p_pick, p_load, p_bin, p_fieldAddr, p_builtin, ev_tmp, ev_const, evc_eq, evcs_nil, evcs_cons, ofValue_bool, ofValue_int, load_loc, pick_eq, pickV_false, retV_ok, retVS_some, bi_gtr, bl_len, hintOf_some, Option.bind_some, clean_int, clean_str, cond_true, cond_false, QS_P, QS_hint, List.drop, List.head?_cons, beq_self_eq_true, true_and, Nat.zero_add, Nat.add_zero, Nat.reduceBEq, Nat.reduceLT, nat_beq, rd_9, rd_25, rd_49, fa_51_0_l, fa_51_3_l, fa_51_4_l, ln_9, rcl, rlen, i1, q1, tcl, tlen, i2, q2, i3, q3]
      refine (fin _ _ ?_).mono ?_
      · simp only [nth_set, Nat.reduceBEq, cond_true, cond_false, *]
      · rintro x fr s' ⟨rfl, rfl, hs, h⟩
        exact ⟨rfl, hs, .inr ⟨rfl, h, by simp only [objsFew, objMany, q1, q2, q3, Bool.or_true, cond_true]⟩⟩
    | false =>
    have hmany : objMany o = false := by simp only [objMany, q1, q2, q3, Bool.or_false]
    simp only [WP_nil, WP_always, WP_when, stepK_some, whenK_true, wantV_ff, nth_set, gen_set', loc_set', p_move, p_pick, p_load, p_bin, p_fieldAddr, p_builtin, ev_tmp, ev_const, evc_eq, evcs_nil, evcs_cons, ofValue_bool, ofValue_int, load_loc, pick_eq, pickV_false, retV_ok, retVS_some, bi_gtr, bl_len, hintOf_some, Option.bind_some, clean_int, clean_str, cond_true, cond_false, QS_P, QS_hint, List.drop, List.head?_cons, beq_self_eq_true, true_and, Nat.zero_add, Nat.add_zero, Nat.reduceBEq, Nat.reduceLT, nat_beq, rd_9, rd_25, rd_49, fa_51_0_l, fa_51_3_l, fa_51_4_l, ln_9, rcl, rlen, i1, q1, tcl, tlen, i2, q2, i3, q3]
    refine W.cond (t := false) (by simp only [ev_tmp, nth_set, Nat.reduceBEq, cond_true, cond_false, *]) (W.skip ?_)
    simp only [next_normal]
    refine W.seq (W.sreg ?_)
    unfold k22_r9
    simp only [WP_nil, WP_always, stepK_some, p_assign, ev_const, ofValue_int, retV_ok, true_and, Nat.reduceLT]
    refine W.block ?_
    refine (few_refs (v := v) ho (i := pre.length) (g := lc.gen 6 + 1) o.refs [] _ rfl ⟨?_, ?_, ?_, ?_, ?_, ?_, ?_⟩ ?_).mono ?_
    · simp only [nth_set, Nat.reduceBEq, cond_false, *]
    · simp only [gen_set', Nat.reduceBEq, cond_false, g2]
    · simp only [loc_set', Nat.reduceBEq, cond_false, b2]
    · simp only [nth_set, Nat.reduceBEq, cond_true, cond_false, *]
    · simp only [gen_set', Nat.reduceBEq, cond_true]
    · simp only [loc_set', beq_self_eq_true, cond_true, Obj.cells]
    · simp only [nth_set, Nat.reduceBEq, cond_false, *]
    · simp only [nth_set, Nat.reduceBEq, cond_true, cond_false]; rfl
    rintro x fr s' ⟨rfl, e', rfl, ⟨rfl, F, hok⟩ | ⟨rfl, h4, hok⟩⟩
    · show W (QS sp) 22 _ _ _ _
      refine W.sreg ?_
      unfold k22_r14
      obtain ⟨f2, fg2, fb2, f6, fg6, fb6, f5⟩ := F
      simp only [WP_nil, WP_always, stepK_some, p_assign, ev_const, ofValue_int, retV_ok, true_and, Nat.reduceLT]
      refine W.block ?_
      refine (few_tags (v := v) ho hm (i := pre.length) (g := lc.gen 6 + 1) o.tags [] _ rfl ⟨?_, fg2, fb2, ?_, fg6, fb6, ?_⟩ ?_).mono ?_
      · simp only [nth_set, Nat.reduceBEq, cond_false, *]
      · simp only [nth_set, Nat.reduceBEq, cond_false, *]
      · simp only [nth_set, Nat.reduceBEq, cond_false, *]
      · simp only [nth_set, Nat.reduceBEq, cond_true]; rfl
      rintro x fr s' ⟨rfl, e'', rfl, ⟨rfl, F, hok2⟩ | ⟨rfl, h4, hok2⟩⟩
      · show W (QS sp) 22 _ _ _ _
        refine W.reg ?_
        unfold k22_r5
        obtain ⟨f2, fg2, fb2, f6, fg6, fb6, f5⟩ := F
        simp only [WP_nil, WP_always, stepK_some, nth_set, p_move, p_assign, p_bin, ev_tmp, ev_const, evc_eq, ofValue_int, retV_ok, bi_add, Option.bind_some, clean_int, cond_true, cond_false, QS_P, beq_self_eq_true, true_and, Nat.reduceBEq, Nat.reduceLT, f5, hwr, next_normal]
        have hr : objsFew (o :: rest) = objsFew rest := by simp only [objsFew, hmany, hok, hok2, cond_true, cond_false]
        rw [hr]
        refine ih (pre ++ [o]) _ _ (by rw [hpre]; simp) ?_ fg2 fb2 ?_
        · simp only [nth_set, Nat.reduceBEq, cond_false, *]
        · simp only [nth_set, Nat.reduceBEq, cond_true, cond_false, List.length_append, List.length_cons, List.length_nil]
      · exact ⟨rfl, rfl, .inr ⟨rfl, h4, by simp only [objsFew, hmany, hok, hok2, cond_true, cond_false]⟩⟩
    · exact ⟨rfl, rfl, .inr ⟨rfl, h4, by simp only [objsFew, hmany, hok, cond_false]⟩⟩

theorem few_run (h22 : sp 22 = none) {v : AVal} {l : List Obj} (hl : IsL 6 Obj.val v l) (hk : ∀ o ∈ l, o.Good) (hsmall : l.length < small) (n : Int) {s : St} (hm : s.minw ≤ s.next) : RunC (QS sp) 22 [.agg [v], .int .i64 n] s (.bool (few l n)) s := by
  have hlen := fun mk s => hl.len ln_22_n ln_22_l mk s
  have hcl := hl.clean
  refine RunC.of2 k22_func k22_code k22_tmps k22_res h22 ?_
  unfold k22
  refine W.sreg ?_
  unfold k22_r0
  simp only [frame0, ofArgs, WP_nil, WP_always, stepK_some, nth_set, gen_nil, p_assign, p_box, ev_tmp, ev_const, evc_eq, ofValue_bool, boxA_loc, retV_ok, hintOf_some, cells_agg, Option.bind_some, clean_agg, cond_true, cond_false, QS_hint, List.length_cons, List.length_nil, beq_self_eq_true, true_and, Nat.zero_add, Nat.reduceBEq, Nat.reduceLT, Nat.reduceAdd, Nat.reduceLeDiff, nat_ble, decide_true, hint_22_2]
  refine W.seq (W.sreg ?_)
  unfold k22_r1
  simp only [WP_nil, WP_always, stepK_some, nth_set, gen_nil, gen_set', loc_set', p_move, p_load, p_bin, p_fieldAddr, p_builtin, ev_tmp, evc_eq, evcs_nil, evcs_cons, load_loc, retV_ok, retVS_some, bi_gtr, bl_len, hintOf_some, Option.bind_some, clean_int, cond_true, cond_false, QS_P, QS_hint, List.drop, List.head?_cons, beq_self_eq_true, true_and, Nat.add_zero, Nat.reduceBEq, Nat.reduceLT, nat_beq, rd_22, fa_24_0_l, hcl, hlen]
  cases hb : ilt n (l.length : Nat) with
  | true =>
    refine W.cond (t := true) (by simp only [ev_tmp, nth_set, Nat.reduceBEq, cond_true, cond_false]) (W.sreg ?_)
    unfold k22_r2
    simp only [WP_nil, WP_always, stepK_some, p_assign, ev_const, ofValue_bool, retV_ok, true_and, Nat.reduceLT]
    refine W.ret ⟨rfl, .inr rfl, res_tmp ?_ rfl⟩
    simp only [nth_set, Nat.reduceBEq, cond_true, few, hb]
  | false =>
    refine W.cond (t := false) (by simp only [ev_tmp, nth_set, Nat.reduceBEq, cond_true, cond_false]) (W.skip ?_)
    simp only [next_normal]
    refine W.seq (W.sreg ?_)
    unfold k22_r3
    simp only [WP_nil, WP_always, stepK_some, p_assign, ev_const, ofValue_int, retV_ok, true_and, Nat.reduceLT]
    refine W.block ?_
    refine (few_objs hl hk hsmall hm l [] _ _ rfl (by simp only [nth_set, Nat.reduceBEq, cond_true, cond_false, *]) (by simp only [gen_nil, gen_set', Nat.reduceBEq, cond_true]) (by simp only [loc_set', Nat.reduceBEq, cond_true]) (by simp only [nth_set, Nat.reduceBEq, cond_true, cond_false]; rfl)).mono ?_
    rintro x ⟨e, sz, lc⟩ s' ⟨rfl, hs, ⟨rfl, hok⟩ | ⟨rfl, h4, hok⟩⟩
    · have hs : sz = 79 := hs
      subst hs
      show W (QS sp) 22 _ _ _ _
      refine W.sreg ?_
      unfold k22_r19
      simp only [WP_nil, WP_always, stepK_some, p_assign, ev_const, ofValue_bool, retV_ok, true_and, Nat.reduceLT]
      refine W.ret ⟨rfl, .inr rfl, res_tmp ?_ rfl⟩
      simp only [nth_set, Nat.reduceBEq, cond_true, few, hb, cond_false, hok]
    · exact ⟨rfl, .inr rfl, res_tmp (by rw [h4]; simp only [few, hb, cond_false, hok]) rfl⟩
end

def fewSp : Sp
  | [v, .int .i64 n] => (asMap v).bind fun l => some (.bool (few l n))
  | _ => none
theorem fewSp_of {v : AVal} {l : List Obj} (h : IsL 6 Obj.val v l) (hg : ∀ o ∈ l, o.Good) (hs : l.length < small) (n : Int) : fewSp [.agg [v], .int .i64 n] = some (.bool (few l n)) := by
  simp only [fewSp, asMap_of h hg hs, Option.bind_some]
theorem fewSp_ok : SpecOk Tryz.prog 22 fewSp := by
  intro args u hv G h w xs wr hx
  unfold fewSp at hv
  split at hv
  · rename_i v n
    simp only [Option.bind_eq_some_iff, Option.some.injEq] at hv
    obtain ⟨l, hl, rfl⟩ := hv
    obtain ⟨v, rfl, hl, hg, hs⟩ := asMap_inv hl
    obtain ⟨ht, v', hw, hl'⟩ := objs_top hl hg
    have hw : weaks [.agg [v], .int .i64 n] = [.agg [v'], .int .i64 n] := by simp only [weaks, hw]; rfl
    exact spec_of_run (Q := QT []) (good_of .nil) (show 0 < 2 from Nat.zero_lt_succ 1) (args := [.agg [v], .int .i64 n]) (v := .bool (few l n)) (s' := s0) (by simp only [tops, ht]; rfl) (by rw [hw]; exact few_run (sp := fun f => tblGet f []) rfl hl' hg hs n (Nat.le_refl _)) rfl ⟨1, rfl⟩ G h w xs wr hx
  · cases hv
end Go.Proofs.YtnjhbfefpcjjaaaGreat
/- planisphereref11.Same, planisphereref12.Same: of equal objects -/
namespace Go.Proofs.YtnjhbfefpcjjaaaGreat
open Go.Ag

theorem pt_neq (a b c d : Int) : binA Tryz.prog .neq 48 (.agg [.int .i64 a, .int .i64 b]) (.agg [.int .i64 c, .int .i64 d]) = some (.bool !(bif ieq a c then bif ieq b d then true else false else false)) := by
  have h : eqA Tryz.prog 48 (.agg [.int .i64 a, .int .i64 b]) (.agg [.int .i64 c, .int .i64 d]) = (some (ieq a c)).bind fun r => bif r then (some (ieq b d)).bind fun r => bif r then some true else some false else some false := by kernel_rfl
  rw [agg_neq, h]
  cases ieq a c <;> cases ieq b d <;> rfl
theorem tg_neq (a b c d : Bytes) : binA Tryz.prog .neq 64 (.agg [.str a, .str b]) (.agg [.str c, .str d]) = some (.bool !(bif a == c then bif b == d then true else false else false)) := by
  have h : eqA Tryz.prog 64 (.agg [.str a, .str b]) (.agg [.str c, .str d]) = (some (a == c)).bind fun r => bif r then (some (b == d)).bind fun r => bif r then some true else some false else some false := by kernel_rfl
  rw [agg_neq, h]
  cases a == c <;> cases b == d <;> rfl
theorem ieq_self (a : Int) : ieq a a = true := beq_self_eq_true a

structure SameI (o : Obj) (e : Env) (lc : Ag.Loc) : Prop where
  h2 : nth e 2 = .lref 2 1 0
  g2 : lc.gen 2 = 1
  b2 : lc.get 2 1 = some o.cells
  h3 : nth e 3 = .lref 3 1 0
  g3 : lc.gen 3 = 1
  b3 : lc.get 3 1 = some o.cells

section
variable {sp : FuncId → Option (List AVal → Option AVal)}

theorem same_refs {o : Obj} (ho : o.Ok) {s : St} (hm : s.minw ≤ s.next) {lc : Ag.Loc} : ∀ (rest pre : List Bytes) (e : Env), o.refs = pre ++ rest → SameI o e lc → nth e 5 = .int .i64 (pre.length : Nat) →
    W (QS sp) 40 (.loop k40_l0) ⟨e, 80, lc⟩ s fun x fr s' => s' = s ∧ ∃ e', fr = ⟨e', 80, lc⟩ ∧ x = .exit 0 ∧ SameI o e' lc := by
  intro rest
  have hlen := fun mk s => ho.refs.len ln_25_n ln_25_l mk s
  have hcl := ho.refs.clean
  have hsm : small = 9223372036854775808 := rfl
  induction rest with
  | nil =>
    intro pre e hpre F h5
    obtain ⟨h2, g2, b2, h3, g3, b3⟩ := F
    have hl : o.refs.length = pre.length := by rw [hpre]; simp
    refine W.loop1 ?_
    unfold k40_l0
    refine W.seq (W.sreg ?_)
    unfold k40_r4
    simp only [WP_nil, WP_always, stepK_some, nth_set, p_move, p_load, p_bin, p_fieldAddr, p_builtin, ev_tmp, evc_eq, evcs_nil, evcs_cons, load_loc, retV_ok, retVS_some, bi_lss, bl_len, hintOf_some, Option.bind_some, clean_int, cond_true, cond_false, QS_P, QS_hint, List.drop, List.head?_cons, ilt_nat, beq_self_eq_true, true_and, Nat.zero_add, Nat.reduceBEq, Nat.reduceLT, nat_beq, decide_false, rd_25, fa_51_3_l, h5, h2, g2, b2, Obj.cells, hcl, hlen, hl, Nat.lt_irrefl]
    refine W.cond (t := false) (by simp only [ev_tmp, nth_set, Nat.reduceBEq, cond_true, cond_false, *]) ?_
    refine W.exit ⟨rfl, _, rfl, rfl, ⟨?_, g2, b2, ?_, g3, b3⟩⟩ <;> simp only [nth_set, Nat.reduceBEq, cond_false, *]
  | cons r rest ih =>
    intro pre e hpre F h5
    obtain ⟨h2, g2, b2, h3, g3, b3⟩ := F
    have hlt : pre.length < o.refs.length := by rw [hpre]; simp
    have hat : o.refs[pre.length]? = some r := by rw [hpre]; simp
    have hia := fun lc => ho.refs.at ia_25_l hat lc .i64
    have hrl := ho.reflen
    have hwr : IntKind.i64.wrap ((pre.length : Int) + 1) = ((pre.length + 1 : Nat) : Int) := by rw [wrap64_small (by omega) (by omega)]; omega
    refine W.loop1 ?_
    unfold k40_l0
    refine W.seq (W.sreg ?_)
    unfold k40_r4
    simp only [WP_nil, WP_always, stepK_some, nth_set, p_move, p_load, p_bin, p_fieldAddr, p_builtin, ev_tmp, evc_eq, evcs_nil, evcs_cons, load_loc, retV_ok, retVS_some, bi_lss, bl_len, hintOf_some, Option.bind_some, clean_int, cond_true, cond_false, QS_P, QS_hint, List.drop, List.head?_cons, ilt_nat, beq_self_eq_true, true_and, Nat.zero_add, Nat.reduceBEq, Nat.reduceLT, nat_beq, decide_true, rd_25, fa_51_3_l, h5, h2, g2, b2, Obj.cells, hcl, hlen, hlt]
    refine W.cond (t := true) (by simp only [ev_tmp, nth_set, Nat.reduceBEq, cond_true, cond_false, *]) (W.skip ?_)
    simp only [next_normal]
    refine W.seq (W.block (W.sdrawQ hm ?_))
    unfold k40_r6
    simp only [WQ_nil, WQ_always, stepQ_some, isStore, nth_set, p_move, p_load, p_bin, p_fieldAddr, p_indexAddr, ev_tmp, evc_eq, load_loc, load_ro, retV_ok, bs_neq, cells_str, Option.bind_some, clean_str, cond_true, cond_false, QS_P, List.drop, List.head?_cons, Bool.not_true, beq_self_eq_true, true_and, Nat.zero_add, Nat.reduceBEq, Nat.reduceLT, nat_beq, rd_9, rd_25, fa_51_3_l, h5, h2, g2, b2, h3, g3, b3, Obj.cells, hia, strV]
    refine W.cond (t := false) (by simp only [ev_tmp, nth_set, Nat.reduceBEq, cond_true, cond_false, *]) (W.skip ?_)
    simp only [block_normal, next_normal]
    refine W.reg ?_
    unfold k40_r5
    simp only [WP_nil, WP_always, stepK_some, nth_set, p_move, p_assign, p_bin, ev_tmp, ev_const, evc_eq, ofValue_int, retV_ok, bi_add, Option.bind_some, clean_int, cond_true, cond_false, QS_P, beq_self_eq_true, true_and, Nat.reduceBEq, Nat.reduceLT, h5, hwr, next_normal]
    refine ih (pre ++ [r]) _ (by rw [hpre]; simp) ⟨?_, g2, b2, ?_, g3, b3⟩ ?_
    · simp only [nth_set, Nat.reduceBEq, cond_false, *]
    · simp only [nth_set, Nat.reduceBEq, cond_false, *]
    · simp only [nth_set, Nat.reduceBEq, cond_true, cond_false, List.length_append, List.length_cons, List.length_nil]

theorem same_tags {o : Obj} (ho : o.Ok) {s : St} (hm : s.minw ≤ s.next) {lc : Ag.Loc} : ∀ (rest pre : List Tag) (e : Env), o.tags = pre ++ rest → SameI o e lc → nth e 6 = .int .i64 (pre.length : Nat) →
    W (QS sp) 40 (.loop k40_l1) ⟨e, 80, lc⟩ s fun x fr s' => s' = s ∧ ∃ e', fr = ⟨e', 80, lc⟩ ∧ x = .exit 2 ∧ SameI o e' lc := by
  intro rest
  have hlen := fun mk s => ho.tags.len ln_49_n ln_49_l mk s
  have hcl := ho.tags.clean
  have hsm : small = 9223372036854775808 := rfl
  induction rest with
  | nil =>
    intro pre e hpre F h6
    obtain ⟨h2, g2, b2, h3, g3, b3⟩ := F
    have hl : o.tags.length = pre.length := by rw [hpre]; simp
    refine W.loop1 ?_
    unfold k40_l1
    refine W.seq (W.sreg ?_)
    unfold k40_r9
    simp only [WP_nil, WP_always, stepK_some, nth_set, p_move, p_load, p_bin, p_fieldAddr, p_builtin, ev_tmp, evc_eq, evcs_nil, evcs_cons, load_loc, retV_ok, retVS_some, bi_lss, bl_len, hintOf_some, Option.bind_some, clean_int, cond_true, cond_false, QS_P, QS_hint, List.drop, List.head?_cons, ilt_nat, beq_self_eq_true, true_and, Nat.zero_add, Nat.reduceBEq, Nat.reduceLT, nat_beq, decide_false, rd_49, fa_51_4_l, h6, h2, g2, b2, Obj.cells, hcl, hlen, hl, Nat.lt_irrefl]
    refine W.cond (t := false) (by simp only [ev_tmp, nth_set, Nat.reduceBEq, cond_true, cond_false, *]) ?_
    refine W.exit ⟨rfl, _, rfl, rfl, ⟨?_, g2, b2, ?_, g3, b3⟩⟩ <;> simp only [nth_set, Nat.reduceBEq, cond_false, *]
  | cons r rest ih =>
    intro pre e hpre F h6
    obtain ⟨h2, g2, b2, h3, g3, b3⟩ := F
    have hlt : pre.length < o.tags.length := by rw [hpre]; simp
    have hat : o.tags[pre.length]? = some r := by rw [hpre]; simp
    have hia := fun lc => ho.tags.at ia_49_l hat lc .i64
    have hrl := ho.taglen
    have hwr : IntKind.i64.wrap ((pre.length : Int) + 1) = ((pre.length + 1 : Nat) : Int) := by rw [wrap64_small (by omega) (by omega)]; omega
    refine W.loop1 ?_
    unfold k40_l1
    refine W.seq (W.sreg ?_)
    unfold k40_r9
    simp only [WP_nil, WP_always, stepK_some, nth_set, p_move, p_load, p_bin, p_fieldAddr, p_builtin, ev_tmp, evc_eq, evcs_nil, evcs_cons, load_loc, retV_ok, retVS_some, bi_lss, bl_len, hintOf_some, Option.bind_some, clean_int, cond_true, cond_false, QS_P, QS_hint, List.drop, List.head?_cons, ilt_nat, beq_self_eq_true, true_and, Nat.zero_add, Nat.reduceBEq, Nat.reduceLT, nat_beq, decide_true, rd_49, fa_51_4_l, h6, h2, g2, b2, Obj.cells, hcl, hlen, hlt]
    refine W.cond (t := true) (by simp only [ev_tmp, nth_set, Nat.reduceBEq, cond_true, cond_false, *]) (W.skip ?_)
    simp only [next_normal]
    refine W.seq (W.block (W.sdrawQ hm ?_))
    unfold k40_r11
    simp only [WQ_nil, WQ_always, stepQ_some, isStore, nth_set, p_move, p_load, p_bin, p_fieldAddr, p_indexAddr, ev_tmp, evc_eq, load_loc, load_ro, retV_ok, cells_agg, Option.bind_some, clean_agg, cond_true, cond_false, QS_P, List.length_cons, List.length_nil, cut, List.take, List.drop, List.head?_cons, List.take_succ_cons, Bool.not_true, beq_self_eq_true, true_and, Nat.zero_add, Nat.reduceBEq, Nat.reduceLT, Nat.reduceAdd, nat_beq, rd_49, rd_64, fa_51_4_l, h6, h2, g2, b2, h3, g3, b3, Obj.cells, hia, tagV, tg_neq]
    refine W.cond (t := false) (by simp only [ev_tmp, nth_set, Nat.reduceBEq, cond_true, cond_false, *]) (W.skip ?_)
    simp only [block_normal, next_normal]
    refine W.reg ?_
    unfold k40_r10
    simp only [WP_nil, WP_always, stepK_some, nth_set, p_move, p_assign, p_bin, ev_tmp, ev_const, evc_eq, ofValue_int, retV_ok, bi_add, Option.bind_some, clean_int, cond_true, cond_false, QS_P, beq_self_eq_true, true_and, Nat.reduceBEq, Nat.reduceLT, h6, hwr, next_normal]
    refine ih (pre ++ [r]) _ (by rw [hpre]; simp) ⟨?_, g2, b2, ?_, g3, b3⟩ ?_
    · simp only [nth_set, Nat.reduceBEq, cond_false, *]
    · simp only [nth_set, Nat.reduceBEq, cond_false, *]
    · simp only [nth_set, Nat.reduceBEq, cond_true, cond_false, List.length_append, List.length_cons, List.length_nil]

theorem same_run (h40 : sp 40 = none) {o : Obj} (ho : o.Ok) {s : St} (hm : s.minw ≤ s.next) : RunC (QS sp) 40 [o.val, o.val] s (.bool true) s := by
  have rlen := fun mk s => ho.refs.len ln_25_n ln_25_l mk s
  have rcl := ho.refs.clean
  have tlen := fun mk s => ho.tags.len ln_49_n ln_49_l mk s
  have tcl := ho.tags.clean
  refine RunC.of2 k40_func k40_code k40_tmps k40_res h40 ?_
  unfold k40
  refine W.sreg ?_
  unfold k40_r0
  simp only [frame0, ofArgs, WP_nil, WP_always, stepK_some, nth_set, gen_nil, gen_set', p_assign, p_box, ev_tmp, ev_const, evc_eq, ofValue_bool, boxA_loc, retV_ok, hintOf_some, cells_agg, Option.bind_some, clean_agg, cond_true, cond_false, QS_hint, List.length_cons, List.length_nil, beq_self_eq_true, true_and, Nat.zero_add, Nat.reduceBEq, Nat.reduceLT, Nat.reduceAdd, Nat.reduceLeDiff, nat_ble, decide_true, hint_40_2, hint_40_3, Obj.val]
  refine W.seq (W.sreg ?_)
  unfold k40_r1
  simp only [WP_nil, WP_always, WP_when, stepK_some, whenK_true, wantV_ff, nth_set, gen_nil, gen_set', loc_set', p_move, p_pick, p_load, p_bin, p_fieldAddr, p_builtin, ev_tmp, ev_const, evc_eq, evcs_nil, evcs_cons, ofValue_bool, load_loc, pick_eq, pickV_false, retV_ok, retVS_some, bi_neq, bs_neq, bl_len, hintOf_some, Option.bind_some, clean_int, clean_str, clean_agg, cond_true, cond_false, QS_P, QS_hint, List.length_cons, List.length_nil, cut, List.take, List.drop, List.head?_cons, List.take_succ_cons, Bool.not_true, beq_self_eq_true, true_and, Nat.zero_add, Nat.add_zero, Nat.reduceBEq, Nat.reduceLT, Nat.reduceAdd, nat_beq, rd_3, rd_9, rd_25, rd_48, rd_49, fa_51_0_l, fa_51_1_l, fa_51_2_l, fa_51_3_l, fa_51_4_l, Obj.cells, rcl, rlen, tcl, tlen, pt_neq, ieq_self]
  refine W.cond (t := false) (by simp only [ev_tmp, nth_set, Nat.reduceBEq, cond_true, cond_false, *]) (W.skip ?_)
  simp only [next_normal]
  refine W.seq (W.sreg ?_)
  unfold k40_r3
  simp only [WP_nil, WP_always, stepK_some, p_assign, ev_const, ofValue_int, retV_ok, true_and, Nat.reduceLT]
  refine W.block ?_
  refine (same_refs ho hm o.refs [] _ rfl ⟨?_, ?_, ?_, ?_, ?_, ?_⟩ ?_).mono ?_
  · simp only [nth_set, Nat.reduceBEq, cond_true, cond_false, *]
  · simp only [gen_nil, gen_set', Nat.reduceBEq, cond_true, cond_false]
  · simp only [loc_set', Nat.reduceBEq, cond_true, cond_false, Obj.cells]
  · simp only [nth_set, Nat.reduceBEq, cond_true, cond_false, *]
  · simp only [gen_nil, gen_set', Nat.reduceBEq, cond_true, cond_false]
  · simp only [loc_set', Nat.reduceBEq, cond_true, cond_false, Obj.cells]
  · simp only [nth_set, Nat.reduceBEq, cond_true, cond_false]; rfl
  rintro x fr s' ⟨rfl, e', rfl, rfl, F⟩
  show W (QS sp) 40 _ _ _ _
  obtain ⟨h2, g2, b2, h3, g3, b3⟩ := F
  refine W.seq (W.sreg ?_)
  unfold k40_r8
  simp only [WP_nil, WP_always, stepK_some, p_assign, ev_const, ofValue_int, retV_ok, true_and, Nat.reduceLT]
  refine W.block ?_
  refine (same_tags ho hm o.tags [] _ rfl ⟨?_, g2, b2, ?_, g3, b3⟩ ?_).mono ?_
  · simp only [nth_set, Nat.reduceBEq, cond_false, *]
  · simp only [nth_set, Nat.reduceBEq, cond_false, *]
  · simp only [nth_set, Nat.reduceBEq, cond_true]; rfl
  rintro x fr s' ⟨rfl, e', rfl, rfl, F⟩
  show W (QS sp) 40 _ _ _ _
  refine W.sreg ?_
  unfold k40_r13
  simp only [WP_nil, WP_always, stepK_some, p_assign, ev_const, ofValue_bool, retV_ok, true_and, Nat.reduceLT]
  refine W.ret ⟨rfl, .inr rfl, res_tmp ?_ rfl⟩
  simp only [nth_set, Nat.reduceBEq, cond_true, *]
end

open Classical in
noncomputable def same11Sp : Sp
  | [a, b] => if a = b then (asObj a).bind fun _ => some (.bool true) else none
  | _ => none
theorem same11Sp_of {o : Obj} (h : o.Good) : same11Sp [o.val, o.val] = some (.bool true) := by
  simp only [same11Sp, if_true, asObj_val h, Option.bind_some]
theorem same11Sp_ok : SpecOk Tryz.prog 40 same11Sp := by
  intro args u hv G h w xs wr hx
  unfold same11Sp at hv
  split at hv
  · rename_i a b
    split at hv
    · rename_i e
      subst e
      simp only [Option.bind_eq_some_iff, Option.some.injEq] at hv
      obtain ⟨o, ho, rfl⟩ := hv
      obtain ⟨rfl, hg⟩ := asObj_inv ho
      have hp : pures [o.val, o.val] = true := by simp only [pures, hg.pure, Bool.and_self]
      exact spec_of_run (Q := QT []) (good_of .nil) (show 0 < 2 from Nat.zero_lt_succ 1) (args := [o.val, o.val]) (v := .bool true) (s' := s0) (tops_pure hp) (by rw [weaks_pure hp]; exact same_run (sp := fun f => tblGet f []) rfl hg.toOk (Nat.le_refl _)) rfl ⟨1, rfl⟩ G h w xs wr hx
    · cases hv
  · cases hv

structure SameM (v u : AVal) (e : Env) (lc : Ag.Loc) : Prop where
  h2 : nth e 2 = .lref 2 1 0
  g2 : lc.gen 2 = 1
  b2 : lc.get 2 1 = some [v]
  h3 : nth e 3 = .lref 3 1 0
  g3 : lc.gen 3 = 1
  b3 : lc.get 3 1 = some [u]

section
variable {sp : FuncId → Option (List AVal → Option AVal)} (h40 : sp 40 = some same11Sp)
include h40
theorem same_objs {v u : AVal} {l : List Obj} (hl : IsL 6 Obj.val v l) (hu : IsL 6 Obj.val u l) (hk : ∀ o ∈ l, o.Good) (hsmall : l.length < small) {s : St} (hm : s.minw ≤ s.next) {lc : Ag.Loc} : ∀ (rest pre : List Obj) (e : Env), l = pre ++ rest → SameM v u e lc → nth e 5 = .int .i64 (pre.length : Nat) →
    W (QS sp) 14 (.loop k14_l0) ⟨e, 32, lc⟩ s fun x fr s' => s' = s ∧ ∃ e', fr = ⟨e', 32, lc⟩ ∧ x = .exit 0 := by
  intro rest
  have hlen := fun mk s => hl.len ln_22_n ln_22_l mk s
  have hcl := hl.clean
  have hcu := hu.clean
  have hsm : small = 9223372036854775808 := rfl
  induction rest with
  | nil =>
    intro pre e hpre F h5
    obtain ⟨h2, g2, b2, h3, g3, b3⟩ := F
    have hl : l.length = pre.length := by rw [hpre]; simp
    refine W.loop1 ?_
    unfold k14_l0
    refine W.seq (W.sreg ?_)
    unfold k14_r4
    simp only [WP_nil, WP_always, stepK_some, nth_set, p_move, p_load, p_bin, p_fieldAddr, p_builtin, ev_tmp, evc_eq, evcs_nil, evcs_cons, load_loc, retV_ok, retVS_some, bi_lss, bl_len, hintOf_some, Option.bind_some, clean_int, cond_true, cond_false, QS_P, QS_hint, List.drop, List.head?_cons, ilt_nat, beq_self_eq_true, true_and, Nat.add_zero, Nat.reduceBEq, Nat.reduceLT, nat_beq, decide_false, rd_22, fa_24_0_l, h5, h2, g2, b2, hcl, hlen, hl, Nat.lt_irrefl]
    refine W.cond (t := false) (by simp only [ev_tmp, nth_set, Nat.reduceBEq, cond_true, cond_false, *]) ?_
    exact W.exit ⟨rfl, _, rfl, rfl⟩
  | cons o rest ih =>
    intro pre e hpre F h5
    obtain ⟨h2, g2, b2, h3, g3, b3⟩ := F
    have hlt : pre.length < l.length := by rw [hpre]; simp
    have hat : l[pre.length]? = some o := by rw [hpre]; simp
    have hia := fun lc => hl.at ia_22_l hat lc .i64
    have hiu := fun lc => hu.at ia_22_l hat lc .i64
    have hos := same11Sp_of (hk o (List.mem_of_getElem? hat))
    simp only [Obj.val, Obj.cells] at hos
    have hwr : IntKind.i64.wrap ((pre.length : Int) + 1) = ((pre.length + 1 : Nat) : Int) := by rw [wrap64_small (by omega) (by omega)]; omega
    refine W.loop1 ?_
    unfold k14_l0
    refine W.seq (W.sreg ?_)
    unfold k14_r4
    simp only [WP_nil, WP_always, stepK_some, nth_set, p_move, p_load, p_bin, p_fieldAddr, p_builtin, ev_tmp, evc_eq, evcs_nil, evcs_cons, load_loc, retV_ok, retVS_some, bi_lss, bl_len, hintOf_some, Option.bind_some, clean_int, cond_true, cond_false, QS_P, QS_hint, List.drop, List.head?_cons, ilt_nat, beq_self_eq_true, true_and, Nat.add_zero, Nat.reduceBEq, Nat.reduceLT, nat_beq, decide_true, rd_22, fa_24_0_l, h5, h2, g2, b2, hcl, hlen, hlt]
    refine W.cond (t := true) (by simp only [ev_tmp, nth_set, Nat.reduceBEq, cond_true, cond_false, *]) (W.skip ?_)
    simp only [next_normal]
    refine W.seq (W.block (W.sdrawQ hm ?_))
    unfold k14_r6
    simp only [WQ_nil, WQ_always, stepQ_some, isStore, nth_set, p_move, p_load, p_un, p_fieldAddr, p_indexAddr, p_call, callee_func, ev_tmp, evc_eq, evcs_nil, evcs_cons, load_loc, load_ro, retV_ok, un_not, cells_agg, Option.bind_some, clean_bool, clean_agg, cond_true, cond_false, QS_P, QS_spec, List.length_cons, List.length_nil, cut, List.take, List.drop, List.head?_cons, List.take_succ_cons, Bool.not_true, beq_self_eq_true, true_and, Nat.zero_add, Nat.add_zero, Nat.reduceBEq, Nat.reduceLT, Nat.reduceAdd, nat_beq, rd_22, rd_51, fa_24_0_l, h5, h2, g2, b2, h3, g3, b3, hia, hiu, Obj.val, Obj.cells, h40, hos]
    refine W.cond (t := false) (by simp only [ev_tmp, nth_set, Nat.reduceBEq, cond_true, cond_false, *]) (W.skip ?_)
    simp only [block_normal, next_normal]
    refine W.reg ?_
    unfold k14_r5
    simp only [WP_nil, WP_always, stepK_some, nth_set, p_move, p_assign, p_bin, ev_tmp, ev_const, evc_eq, ofValue_int, retV_ok, bi_add, Option.bind_some, clean_int, cond_true, cond_false, QS_P, beq_self_eq_true, true_and, Nat.reduceBEq, Nat.reduceLT, h5, hwr, next_normal]
    refine ih (pre ++ [o]) _ (by rw [hpre]; simp) ⟨?_, g2, b2, ?_, g3, b3⟩ ?_
    · simp only [nth_set, Nat.reduceBEq, cond_false, *]
    · simp only [nth_set, Nat.reduceBEq, cond_false, *]
    · simp only [nth_set, Nat.reduceBEq, cond_true, cond_false, List.length_append, List.length_cons, List.length_nil]

theorem same14_run (h14 : sp 14 = none) {v u : AVal} {l : List Obj} (hl : IsL 6 Obj.val v l) (hu : IsL 6 Obj.val u l) (hk : ∀ o ∈ l, o.Good) (hsmall : l.length < small) {s : St} (hm : s.minw ≤ s.next) : RunC (QS sp) 14 [.agg [v], .agg [u]] s (.bool true) s := by
  have hlen := fun mk s => hl.len ln_22_n ln_22_l mk s
  have hlen2 := fun mk s => hu.len ln_22_n ln_22_l mk s
  have hcl := hl.clean
  have hcu := hu.clean
  refine RunC.of2 k14_func k14_code k14_tmps k14_res h14 ?_
  unfold k14
  refine W.sreg ?_
  unfold k14_r0
  simp only [frame0, ofArgs, WP_nil, WP_always, stepK_some, nth_set, gen_nil, gen_set', p_assign, p_box, ev_tmp, ev_const, evc_eq, ofValue_bool, boxA_loc, retV_ok, hintOf_some, cells_agg, Option.bind_some, clean_agg, cond_true, cond_false, QS_hint, List.length_cons, List.length_nil, beq_self_eq_true, true_and, Nat.zero_add, Nat.reduceBEq, Nat.reduceLT, Nat.reduceAdd, Nat.reduceLeDiff, nat_ble, decide_true, hint_14_2, hint_14_3]
  refine W.seq (W.sreg ?_)
  unfold k14_r1
  simp only [WP_nil, WP_always, stepK_some, nth_set, gen_nil, gen_set', loc_set', p_load, p_bin, p_fieldAddr, p_builtin, ev_tmp, evc_eq, evcs_nil, evcs_cons, load_loc, retV_ok, retVS_some, bi_neq, bl_len, hintOf_some, Option.bind_some, clean_int, cond_true, cond_false, QS_P, QS_hint, List.drop, List.head?_cons, Bool.not_true, beq_self_eq_true, true_and, Nat.add_zero, Nat.reduceBEq, Nat.reduceLT, nat_beq, rd_22, fa_24_0_l, hcl, hlen, hcu, hlen2, ieq_self]
  refine W.cond (t := false) (by simp only [ev_tmp, nth_set, Nat.reduceBEq, cond_true, cond_false, *]) (W.skip ?_)
  simp only [next_normal]
  refine W.seq (W.sreg ?_)
  unfold k14_r3
  simp only [WP_nil, WP_always, stepK_some, p_assign, ev_const, ofValue_int, retV_ok, true_and, Nat.reduceLT]
  refine W.block ?_
  refine (same_objs h40 hl hu hk hsmall hm l [] _ rfl ⟨?_, ?_, ?_, ?_, ?_, ?_⟩ ?_).mono ?_
  · simp only [nth_set, Nat.reduceBEq, cond_true, cond_false, *]
  · simp only [gen_nil, gen_set', Nat.reduceBEq, cond_true, cond_false]
  · simp only [loc_set', Nat.reduceBEq, cond_true, cond_false]
  · simp only [nth_set, Nat.reduceBEq, cond_true, cond_false, *]
  · simp only [gen_nil, gen_set', Nat.reduceBEq, cond_true, cond_false]
  · simp only [loc_set', Nat.reduceBEq, cond_true, cond_false]
  · simp only [nth_set, Nat.reduceBEq, cond_true, cond_false]; rfl
  rintro x fr s' ⟨rfl, e', rfl, rfl⟩
  show W (QS sp) 14 _ _ _ _
  refine W.sreg ?_
  unfold k14_r8
  simp only [WP_nil, WP_always, stepK_some, p_assign, ev_const, ofValue_bool, retV_ok, true_and, Nat.reduceLT]
  refine W.ret ⟨rfl, .inr rfl, res_tmp ?_ rfl⟩
  simp only [nth_set, Nat.reduceBEq, cond_true, *]
end

open Classical in
noncomputable def same12Sp : Sp
  | [a, b] => (asMap a).bind fun l => (asMap b).bind fun r => if l = r then some (.bool true) else none
  | _ => none
theorem same12Sp_of {v u : AVal} {l : List Obj} (h : IsL 6 Obj.val v l) (h2 : IsL 6 Obj.val u l) (hg : ∀ o ∈ l, o.Good) (hs : l.length < small) : same12Sp [.agg [v], .agg [u]] = some (.bool true) := by
  simp only [same12Sp, asMap_of h hg hs, asMap_of h2 hg hs, Option.bind_some, if_true]
noncomputable def T6 : Tbl := [(40, same11Sp)]
theorem T6_ok : TblOk T6 := .cons same11Sp_ok .nil
theorem same12Sp_ok : SpecOk Tryz.prog 14 same12Sp := by
  intro args x hv G h w xs wr hx
  unfold same12Sp at hv
  split at hv
  · rename_i a b
    simp only [Option.bind_eq_some_iff] at hv
    obtain ⟨l, h1, r, h2, hv⟩ := hv
    split at hv
    · rename_i e
      subst e
      injection hv with hv; subst hv
      obtain ⟨v, rfl, hl, hg, hs⟩ := asMap_inv h1
      obtain ⟨u, rfl, hu, _, _⟩ := asMap_inv h2
      obtain ⟨ht, v', hw, hl'⟩ := objs_top hl hg
      obtain ⟨ht2, u', hw2, hu'⟩ := objs_top hu hg
      have hw : weaks [.agg [v], .agg [u]] = [.agg [v'], .agg [u']] := by simp only [weaks, hw, hw2]
      exact spec_of_run (Q := QT T6) (good_of T6_ok) (show 0 < 2 from Nat.zero_lt_succ 1) (args := [.agg [v], .agg [u]]) (v := .bool true) (s' := s0) (by simp only [tops, ht, ht2, Bool.and_self]) (by rw [hw]; exact same14_run (sp := fun f => tblGet f T6) rfl rfl hl' hu' hg hs (Nat.le_refl _)) rfl ⟨1, rfl⟩ G h w xs wr hx
    · cases hv
  · cases hv
end Go.Proofs.YtnjhbfefpcjjaaaGreat
/- valid.objects; valid.Close's closure -/
namespace Go.Proofs.YtnjhbfefpcjjaaaGreat
open Go.Ag

noncomputable def mmK (s : St) : AVal → Option (AVal × St)
  | .int _ _ => some (.map s.next, s.new (.map [] 0))
  | _ => none
theorem mmK_int (s : St) (k : IntKind) (n : Int) : mmK s (.int k n) = some (.map s.next, s.new (.map [] 0)) := rfl
theorem mm_72 (e : Env) (x : Operand) (s : St) : makeMapA Tryz.prog 72 e (some x) s = (ev e x).bind (mmK s) := by
  have h : Tryz.prog.underlying 72 = some (.map 9 51) := by kernel_rfl
  simp only [makeMapA, h, Option.bind_some]
  rfl
theorem mm_none (t : TypeId) (e : Env) (s : St) : makeMapA Tryz.prog t e none s = some (.map s.next, s.new (.map [] 0)) := rfl

def zeroObj : Obj := ⟨[], 0, 0, 0, .nils, .nils, [], []⟩
theorem zeroObj_good : zeroObj.Good := ⟨⟨.inl ⟨rfl, rfl⟩, .inl ⟨rfl, rfl⟩, by decide, by decide, (by intro r h; cases h), by decide, (by intro r h; cases h)⟩, rfl, rfl⟩
def addAll : List (Bytes × AVal) → List Obj → List (Bytes × AVal)
  | L, [] => L
  | L, o :: r => addAll (insM o.id o.val L) r
def lastOf : List Obj → Bytes → Obj → Obj
  | [], _, d => d
  | o :: r, id, d => lastOf r id (bif id == o.id then o else d)
theorem look_addAll (id : Bytes) : ∀ (l : List Obj) (L : List (Bytes × AVal)) (d : Obj), (look id L).getD zeroObj.val = d.val → (look id (addAll L l)).getD zeroObj.val = (lastOf l id d).val
  | [], L, d, h => h
  | o :: r, L, d, h => by
    refine look_addAll id r _ _ ?_
    rw [look_ins]
    cases id == o.id with
    | true => rfl
    | false => exact h
theorem lastOf_mem (id : Bytes) : ∀ (l : List Obj) (d : Obj), lastOf l id d = d ∨ (lastOf l id d ∈ l ∧ (lastOf l id d).id = id)
  | [], d => .inl rfl
  | o :: r, d => by
    simp only [lastOf]
    rcases lastOf_mem id r (bif id == o.id then o else d) with h | ⟨h, h2⟩
    · rw [h]
      cases e : id == o.id with
      | true => exact .inr ⟨by simp, by simpa using (by simpa using e : id = o.id).symm⟩
      | false => exact .inl rfl
    · exact .inr ⟨by simp [h], h2⟩
def objOf (l : List Obj) (id : Bytes) : Obj := lastOf l id zeroObj
def refsOf (l : List Obj) (id : Bytes) : List Bytes := (objOf l id).refs

section
variable {sp : FuncId → Option (List AVal → Option AVal)}

/-- but for one name a state is another -/
structure But (m : Nat) (s s' : St) : Prop where
  get : ∀ n, n ≠ m → s'.get [] n = s.get [] n
  next : s'.next = s.next
  ci : s'.ci = s.ci
theorem But.refl {m : Nat} {s : St} : But m s s := ⟨fun _ _ => rfl, rfl, rfl⟩
theorem But.trans {m : Nat} {s s' s'' : St} (a : But m s s') (b : But m s' s'') : But m s s'' := ⟨fun n h => (b.get n h).trans (a.get n h), b.next.trans a.next, b.ci.trans a.ci⟩
theorem But.put {m : Nat} {s : St} {o : Option AObj} : But m s (s.put m o) := ⟨fun n h => by rw [get_put, beq_eq_false_iff_ne.2 h]; rfl, rfl, rfl⟩

theorem objects_loop {v : AVal} {l : List Obj} (hl : IsL 6 Obj.val v l) (hsmall : l.length < small) {m : Nat} : ∀ (rest pre : List Obj) (e : Env) (lc : Ag.Loc) (s : St) (L : List (Bytes × AVal)), l = pre ++ rest →
    s.get [] m = some (.map (ents 0 L) L.length) → nth e 3 = .map m → nth e 11 = v → nth e 12 = .int .i64 (l.length : Nat) → nth e 13 = .int .i64 (pre.length : Nat) →
    W (QS sp) 41 (.loop k41_l0) ⟨e, 23, lc⟩ s fun x fr s' => x = .exit 0 ∧ fr.size = 23 ∧ nth fr.env 3 = .map m ∧ But m s s' ∧ s'.get [] m = some (.map (ents 0 (addAll L rest)) (addAll L rest).length) := by
  intro rest
  have hcl := hl.clean
  have hsm : small = 9223372036854775808 := rfl
  induction rest with
  | nil =>
    intro pre e lc s L hpre hs h3 h11 h12 h13
    have hl : l.length = pre.length := by rw [hpre]; simp
    refine W.loop1 ?_
    unfold k41_l0
    refine W.sreg ?_
    unfold k41_r3
    simp only [WP_nil, WP_always, stepK_some, p_bin, ev_tmp, evc_eq, retV_ok, bi_lss, Option.bind_some, clean_int, cond_true, QS_P, ilt_nat, true_and, Nat.reduceLT, decide_false, h12, h13, hl, Nat.lt_irrefl]
    refine W.seq (W.cond (t := false) (by simp only [ev_tmp, nth_set, Nat.reduceBEq, cond_true, *]) ?_)
    refine W.exit ⟨rfl, rfl, ?_, .refl, hs⟩
    simp only [nth_set, Nat.reduceBEq, cond_false, *]
  | cons o rest ih =>
    intro pre e lc s L hpre hs h3 h11 h12 h13
    have hlt : pre.length < l.length := by rw [hpre]; simp
    have hat : l[pre.length]? = some o := by rw [hpre]; simp
    have hia := fun lc => hl.at ia_22_l hat lc .i64
    have hwr : IntKind.i64.wrap ((pre.length : Int) + 1) = ((pre.length + 1 : Nat) : Int) := by rw [wrap64_small (by omega) (by omega)]; omega
    have hup := update_ents eq_9 mp_72 hs o.id o.val
    simp only [Obj.val, Obj.cells] at hup
    refine W.loop1 ?_
    unfold k41_l0
    refine W.sreg ?_
    unfold k41_r3
    simp only [WP_nil, WP_always, stepK_some, p_bin, ev_tmp, evc_eq, retV_ok, bi_lss, Option.bind_some, clean_int, cond_true, QS_P, ilt_nat, true_and, Nat.reduceLT, decide_true, h12, h13, hlt]
    refine W.seq (W.cond (t := true) (by simp only [ev_tmp, nth_set, Nat.reduceBEq, cond_true, *]) (W.skip ?_))
    simp only [next_normal]
    refine W.seq (W.block (W.sreg ?_))
    unfold k41_r4
    simp only [WP_nil, WP_always, WP_always0, stepK_some, stepK0_some, nth_set, loc_set', loc_set_set, p_alloc, p_load, p_store, p_indexAddr, ev_tmp, evc_eq, boxA_loc, load_ro, retV_ok, hintOf_some, cells_agg, store_loc, Option.bind_some, clean_agg, cond_true, cond_false, QS_P, QS_hint, List.length_cons, List.length_nil, cut, writeCells, List.take, List.drop, List.take_succ_cons, List.nil_append, List.cons_append, beq_self_eq_true, true_and, Nat.zero_add, Nat.reduceBEq, Nat.reduceLT, Nat.reduceAdd, Nat.reduceLeDiff, Bool.and_true, nat_beq, nat_blt, nat_ble, decide_true, rd_51, sz_51, zr_51, hint_41_5, h11, h13, hia, Obj.val, Obj.cells]
    refine W.reg ?_
    unfold k41_r5
    simp only [WP_nil, WP_always, WP_always0, stepK_some, stepK0_some, nth_set, gen_set', loc_set', p_move, p_load, p_fieldAddr, p_update, ev_tmp, evc_eq, load_loc, retV_ok, retS_some, Option.bind_some, clean_str, clean_agg, clean_map, cond_true, cond_false, QS_P, List.length_cons, List.length_nil, cut, List.take, List.drop, List.head?_cons, beq_self_eq_true, true_and, Nat.zero_add, Nat.add_zero, Nat.reduceBEq, Nat.reduceLT, Nat.reduceAdd, nat_beq, rd_9, rd_51, fa_51_0_l, h3, hup, block_normal, next_normal]
    refine W.reg ?_
    unfold k41_r6
    simp only [WP_nil, WP_always, stepK_some, nth_set, p_move, p_bin, ev_tmp, ev_const, evc_eq, ofValue_int, retV_ok, bi_add, Option.bind_some, clean_int, cond_true, cond_false, QS_P, beq_self_eq_true, true_and, Nat.reduceBEq, Nat.reduceLT, h13, hwr, next_normal]
    refine (ih (pre ++ [o]) _ _ _ (insM o.id o.val L) (by rw [hpre]; simp) ?_ (by simp only [nth_set, Nat.reduceBEq, cond_false, *]) (by simp only [nth_set, Nat.reduceBEq, cond_false, *]) (by simp only [nth_set, Nat.reduceBEq, cond_false, *]) (by simp only [nth_set, Nat.reduceBEq, cond_true, cond_false, List.length_append, List.length_cons, List.length_nil])).mono ?_
    · simp only [get_put, beq_self_eq_true, cond_true, Obj.val, Obj.cells]
    · rintro x fr s' ⟨rfl, h1, h2, h3, h4⟩
      exact ⟨rfl, h1, h2, But.put.trans h3, h4⟩

theorem objects_run (h41 : sp 41 = none) {v : AVal} {l : List Obj} (hl : IsL 6 Obj.val v l) (hsmall : l.length < small) (s : St) : ∃ u s', RunC (QS sp) 41 [.agg [v]] s u s' ∧ (u = .map s.next ∧ s'.next = s.next + 1 ∧ s'.ci = s.ci ∧ (∀ n, n ≠ s.next → s'.get [] n = s.get [] n) ∧ s'.get [] s.next = some (.map (ents 0 (addAll [] l)) (addAll [] l).length)) := by
  have hlen := fun mk s => hl.len ln_22_n ln_22_l mk s
  have hcl := hl.clean
  refine RunC.ofEx k41_func k41_code k41_tmps k41_res h41 ?_
  unfold k41
  refine W.sreg ?_
  unfold k41_r0
  simp only [frame0, ofArgs, WP_nil, WP_always, stepK_some, nth_set, gen_nil, p_assign, p_box, ev_tmp, ev_const, evc_eq, boxA_loc, retV_ok, hintOf_some, cells_agg, Option.bind_some, clean_agg, cond_true, QS_hint, List.length_cons, List.length_nil, beq_self_eq_true, true_and, Nat.zero_add, Nat.reduceLT, Nat.reduceLeDiff, nat_ble, decide_true, hint_41_1, ofValue, ofScal]
  refine W.sreg ?_
  unfold k41_r1
  simp only [WP_nil, WP_always, stepK_some, nth_set, gen_nil, gen_set', loc_set', p_assign, p_load, p_fieldAddr, p_makeMap, p_builtin, ev_tmp, evc_eq, evcs_nil, evcs_cons, load_loc, retV_ok, retVS_some, bl_len, hintOf_some, Option.bind_some, cond_true, cond_false, QS_P, QS_hint, List.drop, List.head?_cons, beq_self_eq_true, true_and, Nat.add_zero, Nat.reduceBEq, Nat.reduceLT, nat_beq, rd_22, fa_24_0_l, hcl, hlen, mm_72, mmK_int]
  refine W.seq (W.sreg ?_)
  unfold k41_r2
  simp only [WP_nil, WP_always, stepK_some, nth_set, gen_nil, gen_set', loc_set', p_move, p_load, p_fieldAddr, p_builtin, ev_tmp, ev_const, evc_eq, evcs_nil, evcs_cons, ofValue_int, load_loc, retV_ok, retVS_some, bl_len, hintOf_some, Option.bind_some, cond_true, cond_false, QS_P, QS_hint, List.drop, List.head?_cons, beq_self_eq_true, true_and, Nat.add_zero, Nat.reduceBEq, Nat.reduceLT, nat_beq, rd_22, fa_24_0_l, hcl, hlen]
  refine W.block ?_
  refine (objects_loop hl hsmall (m := s.next) l [] _ _ _ [] rfl ?_ (by simp only [nth_set, Nat.reduceBEq, cond_true, cond_false, *]) (by simp only [nth_set, Nat.reduceBEq, cond_true, cond_false, *]) (by simp only [nth_set, Nat.reduceBEq, cond_true, cond_false, *]) (by simp only [nth_set, Nat.reduceBEq, cond_true, cond_false]; rfl)).mono ?_
  · rw [get_new, beq_self_eq_true]; rfl
  rintro x ⟨e, sz, lc⟩ s' ⟨rfl, hs, h3, hb, hm⟩
  have hs : sz = 23 := hs
  subst hs
  have h3 : nth e 3 = .map s.next := h3
  show W (QS sp) 41 _ _ _ _
  refine W.sreg ?_
  unfold k41_r7
  simp only [WP_nil, WP_always, stepK_some, nth_set, p_move, p_assign, ev_tmp, retV_ok, cond_true, beq_self_eq_true, true_and, Nat.reduceLT, h3]
  refine W.ret ⟨.inr rfl, .map s.next, res_tmp ?_ rfl, rfl, hb.next, hb.ci, ?_, hm⟩
  · simp only [nth_set, Nat.reduceBEq, cond_true, cond_false, *]
  · intro n hn
    rw [hb.get n hn, get_new, beq_eq_false_iff_ne.2 hn]; rfl
end

inductive Reach (rf : Bytes → List Bytes) (ids : List Bytes) : Bytes → Prop
  | base {x : Bytes} : x ∈ ids → Reach rf ids x
  | step {x r : Bytes} : Reach rf ids x → r ∈ rf x → Reach rf ids r
theorem Reach.sub {rf : Bytes → List Bytes} {ids ids' : List Bytes} (h : ∀ x ∈ ids, Reach rf ids' x) {x : Bytes} (hx : Reach rf ids x) : Reach rf ids' x := by
  induction hx with
  | base h1 => exact h _ h1
  | step _ h2 ih => exact .step ih h2

def addV (pin pof pad : Nat) : AVal := .func (.func 42) [] [.ptr pin 0, .ptr pof 0, .ptr pad 0]
structure Add (s : St) (pin pof pad min mof : Nat) (L : List (Bytes × AVal)) (seen : List Bytes) : Prop where
  hin : s.get [] pin = some (.cells [.map min])
  hof : s.get [] pof = some (.cells [.map mof])
  had : s.get [] pad = some (.cells [addV pin pof pad])
  hmi : s.get [] min = some (.map (ents 0 (setM seen)) (setM seen).length)
  hmo : s.get [] mof = some (.map (ents 0 L) L.length)
  d1 : (pin == min) = false
  d2 : (pof == min) = false
  d3 : (pad == min) = false
  d4 : (mof == min) = false
noncomputable def Add.next (s : St) (min : Nat) (seen : List Bytes) (r : Bytes) : St := s.put min (some (.map (ents 0 (setM (addK r seen))) (setM (addK r seen)).length))
theorem Add.after {s : St} {pin pof pad min mof : Nat} {L : List (Bytes × AVal)} {seen : List Bytes} (c : Add s pin pof pad min mof L seen) (r : Bytes) : Add (Add.next s min seen r) pin pof pad min mof L (addK r seen) := by
  refine ⟨?_, ?_, ?_, ?_, ?_, c.d1, c.d2, c.d3, c.d4⟩ <;> simp only [Add.next, get_put, c.d1, c.d2, c.d3, c.d4, beq_self_eq_true, cond_true, cond_false, c.hin, c.hof, c.had, c.hmo]

theorem mem_addK' {k j : Bytes} {ks : List Bytes} : j ∈ addK k ks ↔ j = k ∨ j ∈ ks := by
  rw [← List.contains_iff_mem, mem_addK, Bool.or_eq_true, beq_iff_eq, List.contains_iff_mem]

/-- how much is not seen -/
def left (U seen : List Bytes) : Nat := (U.filter fun x => !seen.contains x).length
theorem left_mono (U : List Bytes) {a b : List Bytes} (h : ∀ x ∈ a, x ∈ b) : left U b ≤ left U a := by
  induction U with
  | nil => exact Nat.le_refl _
  | cons u U ih =>
    unfold left at ih ⊢
    simp only [List.filter_cons]
    cases h1 : a.contains u with
    | true =>
      have : b.contains u = true := by rw [List.contains_iff_mem] at h1 ⊢; exact h u h1
      simp only [this, Bool.not_true, Bool.false_eq_true, if_false]; exact ih
    | false =>
      cases b.contains u with
      | true => simp only [Bool.not_true, Bool.false_eq_true, if_false, Bool.not_false, if_true, List.length_cons]; omega
      | false => simp only [Bool.not_false, if_true, List.length_cons]; omega
theorem left_add (U : List Bytes) {seen : List Bytes} {k : Bytes} (hk : k ∈ U) (hn : seen.contains k = false) : left U (addK k seen) < left U seen := by
  induction U with
  | nil => cases hk
  | cons u U ih =>
    have hm := left_mono U (a := seen) (b := addK k seen) fun x hx => mem_addK'.2 (.inr hx)
    unfold left at ih hm ⊢
    simp only [List.filter_cons]
    by_cases hu : u = k
    · subst hu
      have h1 : (addK u seen).contains u = true := by rw [List.contains_iff_mem]; exact mem_addK'.2 (.inl rfl)
      simp only [h1, hn, Bool.not_true, Bool.false_eq_true, if_false, Bool.not_false, if_true, List.length_cons]; omega
    · have h1 : (addK k seen).contains u = seen.contains u := by
        rw [mem_addK]
        have : (u == k) = false := beq_eq_false_iff_ne.2 hu
        rw [this, Bool.false_or]
      have hk' : k ∈ U := by
        rcases List.mem_cons.1 hk with h | h
        · exact absurd h.symm hu
        · exact h
      have := ih hk'
      rw [h1]
      cases seen.contains u with
      | true => simp only [Bool.not_true, Bool.false_eq_true, if_false]; exact this
      | false => simp only [Bool.not_false, if_true, List.length_cons]; omega

structure AddR (rf : Bytes → List Bytes) (seen : List Bytes) (id : Bytes) (seen' : List Bytes) : Prop where
  sub : ∀ x ∈ seen, x ∈ seen'
  self : id ∈ seen'
  reach : ∀ x ∈ seen', x ∈ seen ∨ Reach rf [id] x
  closed : ∀ x ∈ seen', x ∈ seen ∨ ∀ r ∈ rf x, r ∈ seen'

section
variable {sp : FuncId → Option (List AVal → Option AVal)} (h42 : sp 42 = none)
include h42
variable {pin pof pad min mof : Nat} {L : List (Bytes × AVal)} {U : List Bytes} {oo : Bytes → Obj} (hL : ∀ id, (look id L).getD zeroObj.val = (oo id).val) (hg : ∀ id, (oo id).Good) (hU : ∀ x, ∀ r ∈ (oo x).refs, r ∈ U)
include hL hg hU

theorem add_run : ∀ (n : Nat) (s : St) (seen : List Bytes) (id : Bytes), Add s pin pof pad min mof L seen → id ∈ U → left U seen < n →
    ∃ v s', RunC (QS sp) 42 [.str id, .ptr pin 0, .ptr pof 0, .ptr pad 0] s v s' ∧ (v = .tup [] ∧ s'.ci = s.ci ∧ s'.next = s.next ∧ ∃ seen', Add s' pin pof pad min mof L seen' ∧ AddR (fun x => (oo x).refs) seen id seen') := by
  intro n
  induction n with
  | zero => intro s seen id _ _ h; omega
  | succ n ihn =>
    intro s seen id c hid hlt
    have hlk := lookup_ents eq_9 mp_46 zr_4 c.hmi id
    rw [look_setD] at hlk
    have hin := c.hin
    refine RunC.ofEx k42_func k42_code k42_tmps k42_res h42 ?_
    unfold k42
    refine W.seq (W.sreg ?_)
    unfold k42_r0
    simp only [frame0, ofArgs, WP_nil, WP_always, stepK_some, nth_set, p_move, p_load, p_lookup, ev_tmp, evc_eq, retV_ok, Option.bind_some, clean_str, clean_map, cond_true, cond_false, QS_P, List.length_cons, List.length_nil, List.drop, List.head?_cons, beq_self_eq_true, true_and, Nat.zero_add, Nat.reduceBEq, Nat.reduceLT, Nat.reduceAdd, Nat.reduceLeDiff, nat_ble, decide_true, rd_46, load_ptr, loadO_cells, hin, hlk]
    cases hs : seen.contains id with
    | true =>
      refine W.cond (t := true) (by simp only [ev_tmp, nth_set, Nat.reduceBEq, cond_true, cond_false]) (W.ret ?_)
      have hs : id ∈ seen := by rwa [List.contains_iff_mem] at hs
      exact ⟨.inr rfl, .tup [], ⟨[], rfl, rfl⟩, rfl, rfl, rfl, seen, c, ⟨fun _ h => h, hs, fun _ h => .inl h, fun _ h => .inl h⟩⟩
    | false =>
    refine W.cond (t := false) (by simp only [ev_tmp, nth_set, Nat.reduceBEq, cond_true, cond_false]) (W.skip ?_)
    simp only [next_normal]
    have hup := update_ents eq_9 mp_46 c.hmi id (.bool true)
    rw [ins_set] at hup
    refine W.sreg ?_
    unfold k42_r1
    simp only [WP_nil, WP_always, WP_always0, stepK_some, stepK0_some, nth_set, p_move, p_load, p_update, ev_tmp, ev_const, evc_eq, ofValue_bool, retV_ok, retS_some, Option.bind_some, clean_bool, clean_str, clean_map, cond_true, cond_false, QS_P, List.drop, List.head?_cons, beq_self_eq_true, true_and, Nat.reduceBEq, Nat.reduceLT, rd_46, load_ptr, loadO_cells, hin, hup]
    have c1 := c.after id
    have hnx : s.put min (some (.map (ents 0 (setM (addK id seen))) (setM (addK id seen)).length)) = Add.next s min seen id := rfl
    rw [hnx]
    have ho := hg id
    have hcl := ho.refs.clean
    have hlen := fun mk s => ho.refs.len ln_25_n ln_25_l mk s
    have hof := c1.hof
    have hlo := lookup_ents eq_9 mp_72 zr_51 c1.hmo id
    have hz : (look id L).getD (.agg [(.str []), (.int .i64 0), (.int .i64 0), (.int .i64 0), .nils, .nils]) = (oo id).val := hL id
    rw [hz] at hlo
    refine W.sreg ?_
    unfold k42_r2
    simp only [WP_nil, WP_always, stepK_some, nth_set, p_move, p_load, p_field, p_lookup, p_builtin, ev_tmp, ev_const, evc_eq, evcs_nil, evcs_cons, ofValue_int, retV_ok, retVS_some, bl_len, hintOf_some, Option.bind_some, clean_str, clean_agg, clean_map, cond_true, cond_false, QS_P, QS_hint, List.drop, List.head?_cons, beq_self_eq_true, true_and, Nat.reduceBEq, Nat.reduceLT, nat_beq, rd_25, rd_72, fd_51_3, load_ptr, loadO_cells, hof, hlo, Obj.val, Obj.cells, hcl, hlen]
    refine W.block ?_
    have hl1 : left U (addK id seen) < n := by have := left_add U hid hs; omega
    have loop : ∀ (rest pre : List Bytes) (e : Env) (lc : Ag.Loc) (s1 : St) (seen1 : List Bytes), (oo id).refs = pre ++ rest → Add s1 pin pof pad min mof L seen1 → s1.ci = s.ci → s1.next = s.next →
        (∀ x ∈ addK id seen, x ∈ seen1) → (∀ x ∈ seen1, x ∈ seen ∨ Reach (fun x => (oo x).refs) [id] x) → (∀ x ∈ seen1, x ∈ seen ∨ x = id ∨ ∀ r ∈ (oo x).refs, r ∈ seen1) → (∀ r ∈ pre, r ∈ seen1) →
        nth e 3 = .ptr pad 0 → nth e 15 = (oo id).refsV → nth e 16 = .int .i64 ((oo id).refs.length : Nat) → nth e 17 = .int .i64 (pre.length : Nat) →
        W (QS sp) 42 (.loop k42_l0) ⟨e, 25, lc⟩ s1 fun x fr s' => x = .exit 0 ∧ s'.ci = s.ci ∧ s'.next = s.next ∧ ∃ seen', Add s' pin pof pad min mof L seen' ∧ AddR (fun x => (oo x).refs) seen id seen' := by
      intro rest
      have hsm : small = 9223372036854775808 := rfl
      have hrl := ho.reflen
      induction rest with
      | nil =>
        intro pre e lc s1 seen1 hpre a1 q1 q2 sub1 rc1 cl1 pr1 h3 h15 h16 h17
        have hl : (oo id).refs.length = pre.length := by rw [hpre]; simp
        refine W.loop1 ?_
        unfold k42_l0
        refine W.sreg ?_
        unfold k42_r3
        simp only [WP_nil, WP_always, stepK_some, p_bin, ev_tmp, evc_eq, retV_ok, bi_lss, Option.bind_some, clean_int, cond_true, QS_P, ilt_nat, true_and, Nat.reduceLT, decide_false, h16, h17, hl, Nat.lt_irrefl]
        refine W.seq (W.cond (t := false) (by simp only [ev_tmp, nth_set, Nat.reduceBEq, cond_true, *]) ?_)
        refine W.exit ⟨rfl, q1, q2, seen1, a1, ⟨fun x hx => sub1 x (mem_addK'.2 (.inr hx)), sub1 id (mem_addK'.2 (.inl rfl)), rc1, ?_⟩⟩
        intro x hx
        rcases cl1 x hx with h | rfl | h
        · exact .inl h
        · refine .inr fun r hr => pr1 r ?_
          have hr : r ∈ (oo x).refs := hr
          rw [hpre] at hr; simpa using hr
        · exact .inr h
      | cons r rest ih =>
        intro pre e lc s1 seen1 hpre a1 q1 q2 sub1 rc1 cl1 pr1 h3 h15 h16 h17
        have hlt : pre.length < (oo id).refs.length := by rw [hpre]; simp
        have hat : (oo id).refs[pre.length]? = some r := by rw [hpre]; simp
        have hmem : r ∈ (oo id).refs := by rw [hpre]; simp
        have hia := fun lc => ho.refs.at ia_25_l hat lc .i64
        have hwr : IntKind.i64.wrap ((pre.length : Int) + 1) = ((pre.length + 1 : Nat) : Int) := by rw [wrap64_small (by omega) (by omega)]; omega
        have had := a1.had
        obtain ⟨v, s2, hr, rfl, e1, e2, seen2, a2, r2⟩ := ihn s1 seen1 r a1 (hU id r hmem) (Nat.lt_of_le_of_lt (left_mono U sub1) hl1)
        refine W.loop1 ?_
        unfold k42_l0
        refine W.sreg ?_
        unfold k42_r3
        simp only [WP_nil, WP_always, stepK_some, p_bin, ev_tmp, evc_eq, retV_ok, bi_lss, Option.bind_some, clean_int, cond_true, QS_P, ilt_nat, true_and, Nat.reduceLT, decide_true, h16, h17, hlt]
        refine W.seq (W.cond (t := true) (by simp only [ev_tmp, nth_set, Nat.reduceBEq, cond_true, *]) (W.skip ?_))
        simp only [next_normal]
        refine W.seq (W.block (W.sreg ?_))
        unfold k42_r4
        simp only [WP_nil, WP_always, stepK_some, nth_set, p_assign, p_load, p_indexAddr, ev_tmp, load_ro, retV_ok, cells_str, Option.bind_some, cond_true, cond_false, QS_P, List.drop, List.head?_cons, beq_self_eq_true, true_and, Nat.reduceBEq, Nat.reduceLT, rd_9, h15, h17, hia, strV]
        refine W.region (WL_split 2 ?_)
        unfold k42_r5
        simp only [WP_nil, WP_always, stepK_some, nth_set, p_move, p_load, ev_tmp, retV_ok, Option.bind_some, cond_true, cond_false, QS_P, List.take, List.drop, List.head?_cons, beq_self_eq_true, true_and, Nat.reduceBEq, Nat.reduceLT, rd_74, h3, load_ptr, loadO_cells, had, addV]
        refine WL_call (g := 42) (args := [.str r, .ptr pin 0, .ptr pof 0, .ptr pad 0]) ?_ hr (by decide) ?_
        · simp only [callee, nth_set, ev_tmp, evc_eq, evcs_nil, evcs_cons, Option.bind_some, clean_str, cond_true, cond_false, List.nil_append, List.cons_append, beq_self_eq_true, Nat.reduceBEq]
        refine WL_WP ?_
        simp only [WP_nil, block_normal, next_normal]
        refine W.reg ?_
        unfold k42_r6
        simp only [WP_nil, WP_always, stepK_some, nth_set, p_move, p_bin, ev_tmp, ev_const, evc_eq, ofValue_int, retV_ok, bi_add, Option.bind_some, clean_int, cond_true, cond_false, QS_P, beq_self_eq_true, true_and, Nat.reduceBEq, Nat.reduceLT, h17, hwr, next_normal]
        refine ih (pre ++ [r]) _ _ s2 seen2 (by rw [hpre]; simp) a2 (e1.trans q1) (e2.trans q2) (fun x hx => r2.sub x (sub1 x hx)) ?_ ?_ ?_ (by simp only [nth_set, Nat.reduceBEq, cond_false, *]) (by simp only [nth_set, Nat.reduceBEq, cond_false, *]) (by simp only [nth_set, Nat.reduceBEq, cond_false, *]) (by simp only [nth_set, Nat.reduceBEq, cond_true, cond_false, List.length_append, List.length_cons, List.length_nil])
        · intro x hx
          rcases r2.reach x hx with h | h
          · exact rc1 x h
          · refine .inr (h.sub ?_)
            intro y hy
            rw [List.mem_singleton.1 hy]
            exact .step (.base (List.mem_singleton.2 rfl)) hmem
        · intro x hx
          rcases r2.closed x hx with h | h
          · rcases cl1 x h with h | h | h
            · exact .inl h
            · exact .inr (.inl h)
            · exact .inr (.inr fun r hr => r2.sub r (h r hr))
          · exact .inr (.inr h)
        · intro x hx
          rcases List.mem_append.1 hx with h | h
          · exact r2.sub x (pr1 x h)
          · rw [List.mem_singleton.1 h]; exact r2.self
    refine (loop (oo id).refs [] _ _ (Add.next s min seen id) (addK id seen) rfl c1 rfl rfl (fun _ h => h) ?_ ?_ (fun _ h => by cases h) (by simp only [nth_set, Nat.reduceBEq, cond_true, cond_false, *]) (by simp only [nth_set, Nat.reduceBEq, cond_true, cond_false, *]) (by simp only [nth_set, Nat.reduceBEq, cond_true, cond_false, *]) (by simp only [nth_set, Nat.reduceBEq, cond_true, cond_false]; rfl)).mono ?_
    · intro x hx
      rcases mem_addK'.1 hx with rfl | h
      · exact .inr (.base (List.mem_singleton.2 rfl))
      · exact .inl h
    · intro x hx
      rcases mem_addK'.1 hx with rfl | h
      · exact .inr (.inl rfl)
      · exact .inl h
    · rintro x fr s' ⟨rfl, q1, q2, h⟩
      exact ⟨.inl rfl, .tup [], ⟨[], rfl, rfl⟩, rfl, q1, q2, h⟩
end
end Go.Proofs.YtnjhbfefpcjjaaaGreat
