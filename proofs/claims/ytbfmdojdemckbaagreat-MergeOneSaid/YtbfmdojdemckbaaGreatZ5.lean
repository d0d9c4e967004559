/- Contracts of planisphereref13.Few, planisphereref12.Same, of names and tags of planisphereref11. -/
import Derived.Test.YtbfmdojdemckbaaGreatZ4
/- planisphereref13.Few -/
namespace Go.Proofs.YtbfmdojdemckbaaGreat
open Go.Ag

def refsFew : List Bytes → Bool
  | [] => true
  | r :: l => bif decide (60 < r.length) then false else refsFew l
def tagLong (t : Tag) : Bool := ilt 300 (IntKind.i64.wrap ((t.1.length : Int) + (t.2.length : Int)))
def tagsFew : List Tag → Bool
  | [] => true
  | t :: l => bif tagLong t then false else tagsFew l
def objMany (o : Obj) : Bool := decide (12 < o.refs.length) || decide (20 < o.tags.length) || decide (60 < o.id.length)
def objsFew : List Obj → Bool
  | [] => true
  | o :: l => bif objMany o then false else bif refsFew o.refs then bif tagsFew o.tags then objsFew l else false else false
def few (l : List Obj) (n : Int) : Bool := bif ilt n (l.length : Nat) then false else objsFew l

structure FewI (v : AVal) (o : Obj) (i g : Nat) (e : Env) (lc : Ag.Loc) : Prop where
  h2 : nth e 2 = .lref 2 1 0
  g2 : lc.gen 2 = 1
  b2 : lc.get 2 1 = some [v]
  h6 : nth e 6 = .lref 6 g 0
  g6 : lc.gen 6 = g
  b6 : lc.get 6 g = some o.cells
  h5 : nth e 5 = .int .i64 (i : Nat)

section
variable {sp : FuncId → Option (List AVal → Option AVal)}

theorem few_refs {v : AVal} {o : Obj} (ho : o.Ok) {i g : Nat} {s : St} {lc : Ag.Loc} : ∀ (rest pre : List Bytes) (e : Env), o.refs = pre ++ rest → FewI v o i g e lc → nth e 7 = .int .i64 (pre.length : Nat) →
    W (QS sp) 22 (.loop k22_l0) ⟨e, 79, lc⟩ s fun x fr s' => s' = s ∧ ∃ e', fr = ⟨e', 79, lc⟩ ∧ ((x = .exit 2 ∧ FewI v o i g e' lc ∧ refsFew rest = true) ∨ (x = .ret ∧ nth e' 4 = .bool false ∧ refsFew rest = false)) := by
  intro rest
  have hlen := fun mk s => ho.refs.len ln_37_n ln_37_l mk s
  have hcl := ho.refs.clean
  have hsm : small = 9223372036854775808 := rfl
  induction rest with
  | nil =>
    intro pre e hpre F h7
    obtain ⟨h2, g2, b2, h6, g6, b6, h5⟩ := F
    have hl : o.refs.length = pre.length := by rw [hpre]; simp
    refine W.loop1 ?_
    unfold k22_l0
    refine W.seq (W.sreg ?_)
    unfold k22_r10
    simp only [WP_nil, WP_always, stepK_some, nth_set, p_move, p_load, p_bin, p_fieldAddr, p_builtin, ev_tmp, evc_eq, evcs_nil, evcs_cons, load_loc, retV_ok, retVS_some, bi_lss, bl_len, hintOf_some, Option.bind_some, clean_int, cond_true, cond_false, QS_P, QS_hint, List.drop, List.head?_cons, ilt_nat, beq_self_eq_true, true_and, Nat.zero_add, Nat.reduceBEq, Nat.reduceLT, nat_beq, decide_false, rd_37, fa_40_3_l, h7, h6, g6, b6, Obj.cells, hcl, hlen, hl, Nat.lt_irrefl]
    refine W.cond (t := false) (by simp only [ev_tmp, nth_set, Nat.reduceBEq, cond_true, cond_false, *]) ?_
    refine W.exit ⟨rfl, _, rfl, .inl ⟨rfl, ⟨?_, g2, b2, ?_, g6, b6, ?_⟩, rfl⟩⟩ <;> simp only [nth_set, Nat.reduceBEq, cond_false, *]
  | cons r rest ih =>
    intro pre e hpre F h7
    have F0 := F
    obtain ⟨h2, g2, b2, h6, g6, b6, h5⟩ := F
    have hlt : pre.length < o.refs.length := by rw [hpre]; simp
    have hat : o.refs[pre.length]? = some r := by rw [hpre]; simp
    have hia := fun lc => ho.refs.at ia_37_l hat lc .i64
    have hrl := ho.reflen
    have hwr : IntKind.i64.wrap ((pre.length : Int) + 1) = ((pre.length + 1 : Nat) : Int) := by rw [wrap64_small (by omega) (by omega)]; omega
    have hil : ilt 60 (r.length : Nat) = decide (60 < r.length) := ilt_nat 60 _
    refine W.loop1 ?_
    unfold k22_l0
    refine W.seq (W.sreg ?_)
    unfold k22_r10
    simp only [WP_nil, WP_always, stepK_some, nth_set, p_move, p_load, p_bin, p_fieldAddr, p_builtin, ev_tmp, evc_eq, evcs_nil, evcs_cons, load_loc, retV_ok, retVS_some, bi_lss, bl_len, hintOf_some, Option.bind_some, clean_int, cond_true, cond_false, QS_P, QS_hint, List.drop, List.head?_cons, ilt_nat, beq_self_eq_true, true_and, Nat.zero_add, Nat.reduceBEq, Nat.reduceLT, nat_beq, decide_true, rd_37, fa_40_3_l, h7, h6, g6, b6, Obj.cells, hcl, hlen, hlt]
    refine W.cond (t := true) (by simp only [ev_tmp, nth_set, Nat.reduceBEq, cond_true, cond_false, *]) (W.skip ?_)
    simp only [next_normal]
    refine W.seq (W.block (W.sreg ?_))
    unfold k22_r12
    simp only [WP_nil, WP_always, stepK_some, nth_set, p_move, p_load, p_bin, p_fieldAddr, p_indexAddr, p_builtin, ev_tmp, ev_const, evc_eq, evcs_nil, evcs_cons, ofValue_int, load_loc, load_ro, retV_ok, retVS_some, bi_gtr, bl_len, hintOf_some, cells_str, Option.bind_some, clean_int, clean_str, cond_true, cond_false, QS_P, QS_hint, List.drop, List.head?_cons, beq_self_eq_true, true_and, Nat.zero_add, Nat.reduceBEq, Nat.reduceLT, nat_beq, rd_9, rd_37, fa_40_3_l, ln_9, h7, h6, g6, b6, Obj.cells, hia, strV, hil]
    cases hb : decide (60 < r.length) with
    | true =>
      refine W.cond (t := true) (by simp only [ev_tmp, nth_set, Nat.reduceBEq, cond_true, cond_false]) (W.sreg ?_)
      unfold k22_r13
      simp only [WP_nil, WP_always, stepK_some, p_assign, ev_const, ofValue_bool, retV_ok, true_and, Nat.reduceLT]
      refine W.ret ⟨rfl, _, rfl, .inr ⟨rfl, ?_, by simp only [refsFew, hb, cond_true]⟩⟩
      simp only [nth_set, Nat.reduceBEq, cond_true, cond_false, *]
    | false =>
      refine W.cond (t := false) (by simp only [ev_tmp, nth_set, Nat.reduceBEq, cond_true, cond_false]) (W.skip ?_)
      simp only [block_normal, next_normal]
      refine W.reg ?_
      unfold k22_r11
      simp only [WP_nil, WP_always, stepK_some, nth_set, p_move, p_assign, p_bin, ev_tmp, ev_const, evc_eq, ofValue_int, retV_ok, bi_add, Option.bind_some, clean_int, cond_true, cond_false, QS_P, beq_self_eq_true, true_and, Nat.reduceBEq, Nat.reduceLT, h7, hwr, next_normal]
      have hr : refsFew (r :: rest) = refsFew rest := by simp only [refsFew, hb, cond_false]
      rw [hr]
      refine ih (pre ++ [r]) _ (by rw [hpre]; simp) ⟨?_, g2, b2, ?_, g6, b6, ?_⟩ ?_
      · simp only [nth_set, Nat.reduceBEq, cond_false, *]
      · simp only [nth_set, Nat.reduceBEq, cond_false, *]
      · simp only [nth_set, Nat.reduceBEq, cond_false, *]
      · simp only [nth_set, Nat.reduceBEq, cond_true, cond_false, List.length_append, List.length_cons, List.length_nil]

theorem few_tags {v : AVal} {o : Obj} (ho : o.Ok) {i g : Nat} {s : St} (hm : s.minw ≤ s.next) {lc : Ag.Loc} : ∀ (rest pre : List Tag) (e : Env), o.tags = pre ++ rest → FewI v o i g e lc → nth e 8 = .int .i64 (pre.length : Nat) →
    W (QS sp) 22 (.loop k22_l1) ⟨e, 79, lc⟩ s fun x fr s' => s' = s ∧ ∃ e', fr = ⟨e', 79, lc⟩ ∧ ((x = .exit 4 ∧ FewI v o i g e' lc ∧ tagsFew rest = true) ∨ (x = .ret ∧ nth e' 4 = .bool false ∧ tagsFew rest = false)) := by
  intro rest
  have hlen := fun mk s => ho.tags.len ln_38_n ln_38_l mk s
  have hcl := ho.tags.clean
  have hsm : small = 9223372036854775808 := rfl
  induction rest with
  | nil =>
    intro pre e hpre F h8
    obtain ⟨h2, g2, b2, h6, g6, b6, h5⟩ := F
    have hl : o.tags.length = pre.length := by rw [hpre]; simp
    refine W.loop1 ?_
    unfold k22_l1
    refine W.seq (W.sreg ?_)
    unfold k22_r15
    simp only [WP_nil, WP_always, stepK_some, nth_set, p_move, p_load, p_bin, p_fieldAddr, p_builtin, ev_tmp, evc_eq, evcs_nil, evcs_cons, load_loc, retV_ok, retVS_some, bi_lss, bl_len, hintOf_some, Option.bind_some, clean_int, cond_true, cond_false, QS_P, QS_hint, List.drop, List.head?_cons, ilt_nat, beq_self_eq_true, true_and, Nat.zero_add, Nat.reduceBEq, Nat.reduceLT, nat_beq, decide_false, rd_38, fa_40_4_l, h8, h6, g6, b6, Obj.cells, hcl, hlen, hl, Nat.lt_irrefl]
    refine W.cond (t := false) (by simp only [ev_tmp, nth_set, Nat.reduceBEq, cond_true, cond_false, *]) ?_
    refine W.exit ⟨rfl, _, rfl, .inl ⟨rfl, ⟨?_, g2, b2, ?_, g6, b6, ?_⟩, rfl⟩⟩ <;> simp only [nth_set, Nat.reduceBEq, cond_false, *]
  | cons r rest ih =>
    intro pre e hpre F h8
    obtain ⟨h2, g2, b2, h6, g6, b6, h5⟩ := F
    have hlt : pre.length < o.tags.length := by rw [hpre]; simp
    have hat : o.tags[pre.length]? = some r := by rw [hpre]; simp
    have hia := fun lc => ho.tags.at ia_38_l hat lc .i64
    have hrl := ho.taglen
    have hwr : IntKind.i64.wrap ((pre.length : Int) + 1) = ((pre.length + 1 : Nat) : Int) := by rw [wrap64_small (by omega) (by omega)]; omega
    refine W.loop1 ?_
    unfold k22_l1
    refine W.seq (W.sreg ?_)
    unfold k22_r15
    simp only [WP_nil, WP_always, stepK_some, nth_set, p_move, p_load, p_bin, p_fieldAddr, p_builtin, ev_tmp, evc_eq, evcs_nil, evcs_cons, load_loc, retV_ok, retVS_some, bi_lss, bl_len, hintOf_some, Option.bind_some, clean_int, cond_true, cond_false, QS_P, QS_hint, List.drop, List.head?_cons, ilt_nat, beq_self_eq_true, true_and, Nat.zero_add, Nat.reduceBEq, Nat.reduceLT, nat_beq, decide_true, rd_38, fa_40_4_l, h8, h6, g6, b6, Obj.cells, hcl, hlen, hlt]
    refine W.cond (t := true) (by simp only [ev_tmp, nth_set, Nat.reduceBEq, cond_true, cond_false, *]) (W.skip ?_)
    simp only [next_normal]
    refine W.seq (W.block (W.sdrawQ hm ?_))
    unfold k22_r17
    simp only [WQ_nil, WQ_always, stepQ_some, isStore, nth_set, p_move, p_load, p_bin, p_fieldAddr, p_indexAddr, p_builtin, ev_tmp, ev_const, evc_eq, evcs_nil, evcs_cons, ofValue_int, load_loc, load_ro, retV_ok, retVS_some, bi_gtr, bi_add, bl_len, hintOf_some, cells_agg, Option.bind_some, clean_int, clean_str, cond_true, cond_false, QS_P, QS_hint, List.drop, List.head?_cons, beq_self_eq_true, true_and, Nat.zero_add, Nat.reduceBEq, Nat.reduceLT, nat_beq, rd_9, rd_38, fa_40_4_l, fa_51_0_r, fa_51_1_r, ln_9, h8, h6, g6, b6, Obj.cells, hia, tagV]
    cases hb : tagLong r with
    | true =>
      have hb' : ilt 300 (IntKind.i64.wrap ((r.1.length : Int) + (r.2.length : Int))) = true := hb
      refine W.cond (t := true) (by simp only [ev_tmp, nth_set, Nat.reduceBEq, cond_true, cond_false, hb']) (W.sreg ?_)
      unfold k22_r18
      simp only [WP_nil, WP_always, stepK_some, p_assign, ev_const, ofValue_bool, retV_ok, true_and, Nat.reduceLT]
      refine W.ret ⟨rfl, _, rfl, .inr ⟨rfl, ?_, by simp only [tagsFew, hb, cond_true]⟩⟩
      simp only [nth_set, Nat.reduceBEq, cond_true, cond_false, *]
    | false =>
      have hb' : ilt 300 (IntKind.i64.wrap ((r.1.length : Int) + (r.2.length : Int))) = false := hb
      refine W.cond (t := false) (by simp only [ev_tmp, nth_set, Nat.reduceBEq, cond_true, cond_false, hb']) (W.skip ?_)
      simp only [block_normal, next_normal]
      refine W.reg ?_
      unfold k22_r16
      simp only [WP_nil, WP_always, stepK_some, nth_set, p_move, p_assign, p_bin, ev_tmp, ev_const, evc_eq, ofValue_int, retV_ok, bi_add, Option.bind_some, clean_int, cond_true, cond_false, QS_P, beq_self_eq_true, true_and, Nat.reduceBEq, Nat.reduceLT, h8, hwr, next_normal]
      have hr : tagsFew (r :: rest) = tagsFew rest := by simp only [tagsFew, hb, cond_false]
      rw [hr]
      refine ih (pre ++ [r]) _ (by rw [hpre]; simp) ⟨?_, g2, b2, ?_, g6, b6, ?_⟩ ?_
      · simp only [nth_set, Nat.reduceBEq, cond_false, *]
      · simp only [nth_set, Nat.reduceBEq, cond_false, *]
      · simp only [nth_set, Nat.reduceBEq, cond_false, *]
      · simp only [nth_set, Nat.reduceBEq, cond_true, cond_false, List.length_append, List.length_cons, List.length_nil]

theorem few_objs {v : AVal} {l : List Obj} (hl : IsL 6 Obj.val v l) (hk : ∀ o ∈ l, o.Good) (hsmall : l.length < small) {s : St} (hm : s.minw ≤ s.next) : ∀ (rest pre : List Obj) (e : Env) (lc : Ag.Loc), l = pre ++ rest →
    nth e 2 = .lref 2 1 0 → lc.gen 2 = 1 → lc.get 2 1 = some [v] → nth e 5 = .int .i64 (pre.length : Nat) →
    W (QS sp) 22 (.loop k22_l2) ⟨e, 79, lc⟩ s fun x fr s' => s' = s ∧ fr.size = 79 ∧ ((x = .exit 0 ∧ objsFew rest = true) ∨ (x = .ret ∧ nth fr.env 4 = .bool false ∧ objsFew rest = false)) := by
  intro rest
  have hlen := fun mk s => hl.len ln_22_n ln_22_l mk s
  have hcl := hl.clean
  have hsm : small = 9223372036854775808 := rfl
  induction rest with
  | nil =>
    intro pre e lc hpre h2 g2 b2 h5
    have hl : l.length = pre.length := by rw [hpre]; simp
    refine W.loop1 ?_
    unfold k22_l2
    refine W.seq (W.sreg ?_)
    unfold k22_r4
    simp only [WP_nil, WP_always, stepK_some, nth_set, p_move, p_load, p_bin, p_fieldAddr, p_builtin, ev_tmp, evc_eq, evcs_nil, evcs_cons, load_loc, retV_ok, retVS_some, bi_lss, bl_len, hintOf_some, Option.bind_some, clean_int, cond_true, cond_false, QS_P, QS_hint, List.drop, List.head?_cons, ilt_nat, beq_self_eq_true, true_and, Nat.add_zero, Nat.reduceBEq, Nat.reduceLT, nat_beq, decide_false, rd_22, fa_24_0_l, h2, g2, b2, h5, hcl, hlen, hl, Nat.lt_irrefl]
    refine W.cond (t := false) (by simp only [ev_tmp, nth_set, Nat.reduceBEq, cond_true, cond_false, *]) ?_
    exact W.exit ⟨rfl, rfl, .inl ⟨rfl, rfl⟩⟩
  | cons o rest ih =>
    intro pre e lc hpre h2 g2 b2 h5
    have hlt : pre.length < l.length := by rw [hpre]; simp
    have hat : l[pre.length]? = some o := by rw [hpre]; simp
    have hia := fun lc => hl.at ia_22_l hat lc .i64
    have ho := (hk o (List.mem_of_getElem? hat)).toOk
    have hwr : IntKind.i64.wrap ((pre.length : Int) + 1) = ((pre.length + 1 : Nat) : Int) := by rw [wrap64_small (by omega) (by omega)]; omega
    have rlen := fun mk s => ho.refs.len ln_37_n ln_37_l mk s
    have rcl := ho.refs.clean
    have tlen := fun mk s => ho.tags.len ln_38_n ln_38_l mk s
    have tcl := ho.tags.clean
    have i1 : ilt 12 (o.refs.length : Nat) = decide (12 < o.refs.length) := ilt_nat 12 _
    have i2 : ilt 20 (o.tags.length : Nat) = decide (20 < o.tags.length) := ilt_nat 20 _
    have i3 : ilt 60 (o.id.length : Nat) = decide (60 < o.id.length) := ilt_nat 60 _
    refine W.loop1 ?_
    unfold k22_l2
    refine W.seq (W.sreg ?_)
    unfold k22_r4
    simp only [WP_nil, WP_always, stepK_some, nth_set, p_move, p_load, p_bin, p_fieldAddr, p_builtin, ev_tmp, evc_eq, evcs_nil, evcs_cons, load_loc, retV_ok, retVS_some, bi_lss, bl_len, hintOf_some, Option.bind_some, clean_int, cond_true, cond_false, QS_P, QS_hint, List.drop, List.head?_cons, ilt_nat, beq_self_eq_true, true_and, Nat.add_zero, Nat.reduceBEq, Nat.reduceLT, nat_beq, decide_true, rd_22, fa_24_0_l, h2, g2, b2, h5, hcl, hlen, hlt]
    refine W.cond (t := true) (by simp only [ev_tmp, nth_set, Nat.reduceBEq, cond_true, cond_false, *]) (W.skip ?_)
    simp only [next_normal]
    refine W.seq (W.block (W.sreg ?_))
    unfold k22_r6
    simp only [WP_nil, WP_always, WP_always0, stepK_some, stepK0_some, nth_set, loc_set', loc_set_set, p_move, p_alloc, p_load, p_store, p_fieldAddr, p_indexAddr, ev_tmp, evc_eq, boxA_loc, load_loc, load_ro, retV_ok, hintOf_some, cells_agg, store_loc, Option.bind_some, clean_agg, cond_true, cond_false, QS_P, QS_hint, List.length_cons, List.length_nil, cut, writeCells, List.take, List.drop, List.head?_cons, List.take_succ_cons, List.nil_append, List.cons_append, beq_self_eq_true, true_and, Nat.zero_add, Nat.add_zero, Nat.reduceBEq, Nat.reduceLT, Nat.reduceAdd, Nat.reduceLeDiff, Bool.and_true, nat_beq, nat_blt, nat_ble, decide_true, rd_22, rd_40, sz_40, zr_40, fa_24_0_l, hint_22_6, h2, g2, b2, h5, hia, Obj.val, Obj.cells]
    refine W.seq (W.sreg ?_)
    unfold k22_r7
    have fin : ∀ e' lc', nth e' 41 = .bool true → W (QS sp) 22 (.cond (Operand.tmp 41) (.seq (.region k22_r8) .ret) .skip) ⟨e', 79, lc'⟩ s fun x fr s' => x = .ret ∧ s' = s ∧ fr.size = 79 ∧ nth fr.env 4 = .bool false := by
      intro e' lc' h
      refine W.cond (t := true) (by simp only [ev_tmp, h]) (W.sreg ?_)
      unfold k22_r8
      simp only [WP_nil, WP_always, stepK_some, p_assign, ev_const, ofValue_bool, retV_ok, true_and, Nat.reduceLT]
      exact W.ret ⟨rfl, rfl, rfl, by simp only [nth_set, Nat.reduceBEq, cond_true, *]⟩
    cases q1 : decide (12 < o.refs.length) with
    | true =>
      simp only [WP_nil, WP_always, WP_when, stepK_some, whenK_false, wantV_tf, nth_set, gen_set', loc_set', p_move, p_pick, p_load, p_bin, p_fieldAddr, p_builtin, ev_tmp, ev_const, evc_eq, evcs_nil, evcs_cons, ofValue_bool, ofValue_int, load_loc, pick_eq, pickV_true, retV_ok, retVS_some, bi_gtr, bl_len, hintOf_some, Option.bind_some, clean_int, cond_true, cond_false, QS_P, QS_hint, List.drop, List.head?_cons, beq_self_eq_true, true_and, Nat.zero_add, Nat.reduceBEq, Nat.reduceLT, nat_beq, rd_37, fa_40_3_l, rcl, rlen, i1, q1]
      refine (fin _ _ ?_).mono ?_
      · simp only [nth_set, Nat.reduceBEq, cond_true, cond_false, *]
      · rintro x fr s' ⟨rfl, rfl, hs, h⟩
        exact ⟨rfl, hs, .inr ⟨rfl, h, by simp only [objsFew, objMany, q1, Bool.true_or, cond_true]⟩⟩
    | false =>
    cases q2 : decide (20 < o.tags.length) with
    | true =>
      simp only [WP_nil, WP_always, WP_when, stepK_some, whenK_true, whenK_false, wantV_tf, wantV_ff, nth_set, gen_set', loc_set', p_move, p_pick, p_load, p_bin, p_fieldAddr, p_builtin, ev_tmp, ev_const, evc_eq, evcs_nil, evcs_cons, ofValue_bool, ofValue_int, load_loc, pick_eq, pickV_true, pickV_false, retV_ok, retVS_some, bi_gtr, bl_len, hintOf_some, Option.bind_some, clean_int, cond_true, cond_false, QS_P, QS_hint, List.drop, List.head?_cons, beq_self_eq_true, true_and, Nat.zero_add, Nat.reduceBEq, Nat.reduceLT, nat_beq, rd_37, rd_38, fa_40_3_l, fa_40_4_l, rcl, rlen, i1, q1, tcl, tlen, i2, q2]
      refine (fin _ _ ?_).mono ?_
      · simp only [nth_set, Nat.reduceBEq, cond_true, cond_false, *]
      · rintro x fr s' ⟨rfl, rfl, hs, h⟩
        exact ⟨rfl, hs, .inr ⟨rfl, h, by simp only [objsFew, objMany, q1, q2, Bool.true_or, Bool.or_true, cond_true]⟩⟩
    | false =>
    cases q3 : decide (60 < o.id.length) with
    | true =>
      simp only [WP_nil, WP_always, WP_when, stepK_some, whenK_true, wantV_ff, nth_set, gen_set', loc_set', p_move, p_pick, p_load, p_bin, p_fieldAddr, p_builtin, ev_tmp, ev_const, evc_eq, evcs_nil, evcs_cons, ofValue_bool, ofValue_int, load_loc, pick_eq, pickV_false, retV_ok, retVS_some, bi_gtr, bl_len, hintOf_some, Option.bind_some, clean_int, clean_str, cond_true, cond_false, QS_P, QS_hint, List.drop, List.head?_cons, beq_self_eq_true, true_and, Nat.zero_add, Nat.add_zero, Nat.reduceBEq, Nat.reduceLT, nat_beq, rd_9, rd_37, rd_38, fa_40_0_l, fa_40_3_l, fa_40_4_l, ln_9, rcl, rlen, i1, q1, tcl, tlen, i2, q2, i3, q3]
      refine (fin _ _ ?_).mono ?_
      · simp only [nth_set, Nat.reduceBEq, cond_true, cond_false, *]
      · rintro x fr s' ⟨rfl, rfl, hs, h⟩
        exact ⟨rfl, hs, .inr ⟨rfl, h, by simp only [objsFew, objMany, q1, q2, q3, Bool.or_true, cond_true]⟩⟩
    | false =>
    have hmany : objMany o = false := by simp only [objMany, q1, q2, q3, Bool.or_false]
    simp only [WP_nil, WP_always, WP_when, stepK_some, whenK_true, wantV_ff, nth_set, gen_set', loc_set', p_move, p_pick, p_load, p_bin, p_fieldAddr, p_builtin, ev_tmp, ev_const, evc_eq, evcs_nil, evcs_cons, ofValue_bool, ofValue_int, load_loc, pick_eq, pickV_false, retV_ok, retVS_some, bi_gtr, bl_len, hintOf_some, Option.bind_some, clean_int, clean_str, cond_true, cond_false, QS_P, QS_hint, List.drop, List.head?_cons, beq_self_eq_true, true_and, Nat.zero_add, Nat.add_zero, Nat.reduceBEq, Nat.reduceLT, nat_beq, rd_9, rd_37, rd_38, fa_40_0_l, fa_40_3_l, fa_40_4_l, ln_9, rcl, rlen, i1, q1, tcl, tlen, i2, q2, i3, q3]
    refine W.cond (t := false) (by simp only [ev_tmp, nth_set, Nat.reduceBEq, cond_true, cond_false, *]) (W.skip ?_)
    simp only [next_normal]
    refine W.seq (W.sreg ?_)
    unfold k22_r9
    simp only [WP_nil, WP_always, stepK_some, p_assign, ev_const, ofValue_int, retV_ok, true_and, Nat.reduceLT]
    refine W.block ?_
    refine (few_refs (v := v) ho (i := pre.length) (g := lc.gen 6 + 1) o.refs [] _ rfl ⟨?_, ?_, ?_, ?_, ?_, ?_, ?_⟩ ?_).mono ?_
    · simp only [nth_set, Nat.reduceBEq, cond_false, *]
    · simp only [gen_set', Nat.reduceBEq, cond_false, g2]
    · simp only [loc_set', Nat.reduceBEq, cond_false, b2]
    · simp only [nth_set, Nat.reduceBEq, cond_true, cond_false, *]
    · simp only [gen_set', Nat.reduceBEq, cond_true]
    · simp only [loc_set', beq_self_eq_true, cond_true, Obj.cells]
    · simp only [nth_set, Nat.reduceBEq, cond_false, *]
    · simp only [nth_set, Nat.reduceBEq, cond_true, cond_false]; rfl
    rintro x fr s' ⟨rfl, e', rfl, ⟨rfl, F, hok⟩ | ⟨rfl, h4, hok⟩⟩
    · show W (QS sp) 22 _ _ _ _
      refine W.sreg ?_
      unfold k22_r14
      obtain ⟨f2, fg2, fb2, f6, fg6, fb6, f5⟩ := F
      simp only [WP_nil, WP_always, stepK_some, p_assign, ev_const, ofValue_int, retV_ok, true_and, Nat.reduceLT]
      refine W.block ?_
      refine (few_tags (v := v) ho hm (i := pre.length) (g := lc.gen 6 + 1) o.tags [] _ rfl ⟨?_, fg2, fb2, ?_, fg6, fb6, ?_⟩ ?_).mono ?_
      · simp only [nth_set, Nat.reduceBEq, cond_false, *]
      · simp only [nth_set, Nat.reduceBEq, cond_false, *]
      · simp only [nth_set, Nat.reduceBEq, cond_false, *]
      · simp only [nth_set, Nat.reduceBEq, cond_true]; rfl
      rintro x fr s' ⟨rfl, e'', rfl, ⟨rfl, F, hok2⟩ | ⟨rfl, h4, hok2⟩⟩
      · show W (QS sp) 22 _ _ _ _
        refine W.reg ?_
        unfold k22_r5
        obtain ⟨f2, fg2, fb2, f6, fg6, fb6, f5⟩ := F
        simp only [WP_nil, WP_always, stepK_some, nth_set, p_move, p_assign, p_bin, ev_tmp, ev_const, evc_eq, ofValue_int, retV_ok, bi_add, Option.bind_some, clean_int, cond_true, cond_false, QS_P, beq_self_eq_true, true_and, Nat.reduceBEq, Nat.reduceLT, f5, hwr, next_normal]
        have hr : objsFew (o :: rest) = objsFew rest := by simp only [objsFew, hmany, hok, hok2, cond_true, cond_false]
        rw [hr]
        refine ih (pre ++ [o]) _ _ (by rw [hpre]; simp) ?_ fg2 fb2 ?_
        · simp only [nth_set, Nat.reduceBEq, cond_false, *]
        · simp only [nth_set, Nat.reduceBEq, cond_true, cond_false, List.length_append, List.length_cons, List.length_nil]
      · exact ⟨rfl, rfl, .inr ⟨rfl, h4, by simp only [objsFew, hmany, hok, hok2, cond_true, cond_false]⟩⟩
    · exact ⟨rfl, rfl, .inr ⟨rfl, h4, by simp only [objsFew, hmany, hok, cond_false]⟩⟩

theorem few_run (h22 : sp 22 = none) {v : AVal} {l : List Obj} (hl : IsL 6 Obj.val v l) (hk : ∀ o ∈ l, o.Good) (hsmall : l.length < small) (n : Int) {s : St} (hm : s.minw ≤ s.next) : RunC (QS sp) 22 [.agg [v], .int .i64 n] s (.bool (few l n)) s := by
  have hlen := fun mk s => hl.len ln_22_n ln_22_l mk s
  have hcl := hl.clean
  refine RunC.of2 k22_func k22_code k22_tmps k22_res h22 ?_
  unfold k22
  refine W.sreg ?_
  unfold k22_r0
  simp only [frame0, ofArgs, WP_nil, WP_always, stepK_some, nth_set, gen_nil, p_assign, p_box, ev_tmp, ev_const, evc_eq, ofValue_bool, boxA_loc, retV_ok, hintOf_some, cells_agg, Option.bind_some, clean_agg, cond_true, cond_false, QS_hint, List.length_cons, List.length_nil, beq_self_eq_true, true_and, Nat.zero_add, Nat.reduceBEq, Nat.reduceLT, Nat.reduceAdd, Nat.reduceLeDiff, nat_ble, decide_true, hint_22_2]
  refine W.seq (W.sreg ?_)
  unfold k22_r1
  simp only [WP_nil, WP_always, stepK_some, nth_set, gen_nil, gen_set', loc_set', p_move, p_load, p_bin, p_fieldAddr, p_builtin, ev_tmp, evc_eq, evcs_nil, evcs_cons, load_loc, retV_ok, retVS_some, bi_gtr, bl_len, hintOf_some, Option.bind_some, clean_int, cond_true, cond_false, QS_P, QS_hint, List.drop, List.head?_cons, beq_self_eq_true, true_and, Nat.add_zero, Nat.reduceBEq, Nat.reduceLT, nat_beq, rd_22, fa_24_0_l, hcl, hlen]
  cases hb : ilt n (l.length : Nat) with
  | true =>
    refine W.cond (t := true) (by simp only [ev_tmp, nth_set, Nat.reduceBEq, cond_true, cond_false]) (W.sreg ?_)
    unfold k22_r2
    simp only [WP_nil, WP_always, stepK_some, p_assign, ev_const, ofValue_bool, retV_ok, true_and, Nat.reduceLT]
    refine W.ret ⟨rfl, .inr rfl, res_tmp ?_ rfl⟩
    simp only [nth_set, Nat.reduceBEq, cond_true, few, hb]
  | false =>
    refine W.cond (t := false) (by simp only [ev_tmp, nth_set, Nat.reduceBEq, cond_true, cond_false]) (W.skip ?_)
    simp only [next_normal]
    refine W.seq (W.sreg ?_)
    unfold k22_r3
    simp only [WP_nil, WP_always, stepK_some, p_assign, ev_const, ofValue_int, retV_ok, true_and, Nat.reduceLT]
    refine W.block ?_
    refine (few_objs hl hk hsmall hm l [] _ _ rfl (by simp only [nth_set, Nat.reduceBEq, cond_true, cond_false, *]) (by simp only [gen_nil, gen_set', Nat.reduceBEq, cond_true]) (by simp only [loc_set', Nat.reduceBEq, cond_true]) (by simp only [nth_set, Nat.reduceBEq, cond_true, cond_false]; rfl)).mono ?_
    rintro x ⟨e, sz, lc⟩ s' ⟨rfl, hs, ⟨rfl, hok⟩ | ⟨rfl, h4, hok⟩⟩
    · have hs : sz = 79 := hs
      subst hs
      show W (QS sp) 22 _ _ _ _
      refine W.sreg ?_
      unfold k22_r19
      simp only [WP_nil, WP_always, stepK_some, p_assign, ev_const, ofValue_bool, retV_ok, true_and, Nat.reduceLT]
      refine W.ret ⟨rfl, .inr rfl, res_tmp ?_ rfl⟩
      simp only [nth_set, Nat.reduceBEq, cond_true, few, hb, cond_false, hok]
    · exact ⟨rfl, .inr rfl, res_tmp (by rw [h4]; simp only [few, hb, cond_false, hok]) rfl⟩
end

def fewSp : Sp
  | [v, .int .i64 n] => (asMap v).bind fun l => some (.bool (few l n))
  | _ => none
theorem fewSp_of {v : AVal} {l : List Obj} (h : IsL 6 Obj.val v l) (hg : ∀ o ∈ l, o.Good) (hs : l.length < small) (n : Int) : fewSp [.agg [v], .int .i64 n] = some (.bool (few l n)) := by
  simp only [fewSp, asMap_of h hg hs, Option.bind_some]
theorem fewSp_ok : SpecOk Tryz.prog 22 fewSp := by
  intro args u hv G h w xs wr hx
  unfold fewSp at hv
  split at hv
  · rename_i v n
    simp only [Option.bind_eq_some_iff, Option.some.injEq] at hv
    obtain ⟨l, hl, rfl⟩ := hv
    obtain ⟨v, rfl, hl, hg, hs⟩ := asMap_inv hl
    obtain ⟨ht, v', hw, hl'⟩ := objs_top hl hg
    have hw : weaks [.agg [v], .int .i64 n] = [.agg [v'], .int .i64 n] := by simp only [weaks, hw]; rfl
    exact spec_of_run (Q := QT []) (good_of .nil) (fun _ => Nat.zero_lt_succ 1) (args := [.agg [v], .int .i64 n]) (v := .bool (few l n)) (s' := s0) (by simp only [tops, ht]; rfl) (by rw [hw]; exact few_run (sp := fun f => tblGet f []) rfl hl' hg hs n (Nat.le_refl _)) rfl ⟨1, rfl⟩ G h w xs wr hx
  · cases hv
end Go.Proofs.YtbfmdojdemckbaaGreat
/- planisphereref11.Same, planisphereref12.Same: of equal objects -/
namespace Go.Proofs.YtbfmdojdemckbaaGreat
open Go.Ag

theorem pt_neq (a b c d : Int) : binA Tryz.prog .neq 36 (.agg [.int .i64 a, .int .i64 b]) (.agg [.int .i64 c, .int .i64 d]) = some (.bool !(bif ieq a c then bif ieq b d then true else false else false)) := by
  have h : eqA Tryz.prog 36 (.agg [.int .i64 a, .int .i64 b]) (.agg [.int .i64 c, .int .i64 d]) = (some (ieq a c)).bind fun r => bif r then (some (ieq b d)).bind fun r => bif r then some true else some false else some false := by kernel_rfl
  rw [agg_neq, h]
  cases ieq a c <;> cases ieq b d <;> rfl
theorem tg_neq (a b c d : Bytes) : binA Tryz.prog .neq 51 (.agg [.str a, .str b]) (.agg [.str c, .str d]) = some (.bool !(bif a == c then bif b == d then true else false else false)) := by
  have h : eqA Tryz.prog 51 (.agg [.str a, .str b]) (.agg [.str c, .str d]) = (some (a == c)).bind fun r => bif r then (some (b == d)).bind fun r => bif r then some true else some false else some false := by kernel_rfl
  rw [agg_neq, h]
  cases a == c <;> cases b == d <;> rfl
theorem ieq_self (a : Int) : ieq a a = true := beq_self_eq_true a

/-- objects of one content -/
structure Obj.Eqv (o q : Obj) : Prop where
  id : q.id = o.id
  kind : q.kind = o.kind
  x : q.x = o.x
  y : q.y = o.y
  refs : q.refs = o.refs
  tags : q.tags = o.tags
theorem Obj.Eqv.rfl {o : Obj} : o.Eqv o := ⟨Eq.refl _, Eq.refl _, Eq.refl _, Eq.refl _, Eq.refl _, Eq.refl _⟩
structure SameI (o q : Obj) (e : Env) (lc : Ag.Loc) : Prop where
  h2 : nth e 2 = .lref 2 1 0
  g2 : lc.gen 2 = 1
  b2 : lc.get 2 1 = some o.cells
  h3 : nth e 3 = .lref 3 1 0
  g3 : lc.gen 3 = 1
  b3 : lc.get 3 1 = some q.cells

section
variable {sp : FuncId → Option (List AVal → Option AVal)}

theorem same_refs {o q : Obj} (ho : o.Ok) (hq : q.Ok) (hoq : o.Eqv q) {s : St} (hm : s.minw ≤ s.next) {lc : Ag.Loc} : ∀ (rest pre : List Bytes) (e : Env), o.refs = pre ++ rest → SameI o q e lc → nth e 5 = .int .i64 (pre.length : Nat) →
    W (QS sp) 33 (.loop k33_l0) ⟨e, 80, lc⟩ s fun x fr s' => s' = s ∧ ∃ e', fr = ⟨e', 80, lc⟩ ∧ x = .exit 0 ∧ SameI o q e' lc := by
  intro rest
  have hlen := fun mk s => ho.refs.len ln_37_n ln_37_l mk s
  have hcl := ho.refs.clean
  have hcq := hq.refs.clean
  have hsm : small = 9223372036854775808 := rfl
  induction rest with
  | nil =>
    intro pre e hpre F h5
    obtain ⟨h2, g2, b2, h3, g3, b3⟩ := F
    have hl : o.refs.length = pre.length := by rw [hpre]; simp
    refine W.loop1 ?_
    unfold k33_l0
    refine W.seq (W.sreg ?_)
    unfold k33_r4
    simp only [WP_nil, WP_always, stepK_some, nth_set, p_move, p_load, p_bin, p_fieldAddr, p_builtin, ev_tmp, evc_eq, evcs_nil, evcs_cons, load_loc, retV_ok, retVS_some, bi_lss, bl_len, hintOf_some, Option.bind_some, clean_int, cond_true, cond_false, QS_P, QS_hint, List.drop, List.head?_cons, ilt_nat, beq_self_eq_true, true_and, Nat.zero_add, Nat.reduceBEq, Nat.reduceLT, nat_beq, decide_false, rd_37, fa_40_3_l, h5, h2, g2, b2, Obj.cells, hcl, hlen, hl, Nat.lt_irrefl]
    refine W.cond (t := false) (by simp only [ev_tmp, nth_set, Nat.reduceBEq, cond_true, cond_false, *]) ?_
    refine W.exit ⟨rfl, _, rfl, rfl, ⟨?_, g2, b2, ?_, g3, b3⟩⟩ <;> simp only [nth_set, Nat.reduceBEq, cond_false, *]
  | cons r rest ih =>
    intro pre e hpre F h5
    obtain ⟨h2, g2, b2, h3, g3, b3⟩ := F
    have hlt : pre.length < o.refs.length := by rw [hpre]; simp
    have hat : o.refs[pre.length]? = some r := by rw [hpre]; simp
    have hia := fun lc => ho.refs.at ia_37_l hat lc .i64
    have hib := fun lc => hq.refs.at ia_37_l (hoq.refs ▸ hat) lc .i64
    have hrl := ho.reflen
    have hwr : IntKind.i64.wrap ((pre.length : Int) + 1) = ((pre.length + 1 : Nat) : Int) := by rw [wrap64_small (by omega) (by omega)]; omega
    refine W.loop1 ?_
    unfold k33_l0
    refine W.seq (W.sreg ?_)
    unfold k33_r4
    simp only [WP_nil, WP_always, stepK_some, nth_set, p_move, p_load, p_bin, p_fieldAddr, p_builtin, ev_tmp, evc_eq, evcs_nil, evcs_cons, load_loc, retV_ok, retVS_some, bi_lss, bl_len, hintOf_some, Option.bind_some, clean_int, cond_true, cond_false, QS_P, QS_hint, List.drop, List.head?_cons, ilt_nat, beq_self_eq_true, true_and, Nat.zero_add, Nat.reduceBEq, Nat.reduceLT, nat_beq, decide_true, rd_37, fa_40_3_l, h5, h2, g2, b2, Obj.cells, hcl, hlen, hlt]
    refine W.cond (t := true) (by simp only [ev_tmp, nth_set, Nat.reduceBEq, cond_true, cond_false, *]) (W.skip ?_)
    simp only [next_normal]
    refine W.seq (W.block (W.sdrawQ hm ?_))
    unfold k33_r6
    simp only [WQ_nil, WQ_always, stepQ_some, isStore, nth_set, p_move, p_load, p_bin, p_fieldAddr, p_indexAddr, ev_tmp, evc_eq, load_loc, load_ro, retV_ok, bs_neq, cells_str, Option.bind_some, clean_str, cond_true, cond_false, QS_P, List.drop, List.head?_cons, Bool.not_true, beq_self_eq_true, true_and, Nat.zero_add, Nat.reduceBEq, Nat.reduceLT, nat_beq, rd_9, rd_37, fa_40_3_l, h5, h2, g2, b2, h3, g3, b3, Obj.cells, hia, hib, strV]
    refine W.cond (t := false) (by simp only [ev_tmp, nth_set, Nat.reduceBEq, cond_true, cond_false, *]) (W.skip ?_)
    simp only [block_normal, next_normal]
    refine W.reg ?_
    unfold k33_r5
    simp only [WP_nil, WP_always, stepK_some, nth_set, p_move, p_assign, p_bin, ev_tmp, ev_const, evc_eq, ofValue_int, retV_ok, bi_add, Option.bind_some, clean_int, cond_true, cond_false, QS_P, beq_self_eq_true, true_and, Nat.reduceBEq, Nat.reduceLT, h5, hwr, next_normal]
    refine ih (pre ++ [r]) _ (by rw [hpre]; simp) ⟨?_, g2, b2, ?_, g3, b3⟩ ?_
    · simp only [nth_set, Nat.reduceBEq, cond_false, *]
    · simp only [nth_set, Nat.reduceBEq, cond_false, *]
    · simp only [nth_set, Nat.reduceBEq, cond_true, cond_false, List.length_append, List.length_cons, List.length_nil]

theorem same_tags {o q : Obj} (ho : o.Ok) (hq : q.Ok) (hoq : o.Eqv q) {s : St} (hm : s.minw ≤ s.next) {lc : Ag.Loc} : ∀ (rest pre : List Tag) (e : Env), o.tags = pre ++ rest → SameI o q e lc → nth e 6 = .int .i64 (pre.length : Nat) →
    W (QS sp) 33 (.loop k33_l1) ⟨e, 80, lc⟩ s fun x fr s' => s' = s ∧ ∃ e', fr = ⟨e', 80, lc⟩ ∧ x = .exit 2 ∧ SameI o q e' lc := by
  intro rest
  have hlen := fun mk s => ho.tags.len ln_38_n ln_38_l mk s
  have hcl := ho.tags.clean
  have hcq := hq.tags.clean
  have hsm : small = 9223372036854775808 := rfl
  induction rest with
  | nil =>
    intro pre e hpre F h6
    obtain ⟨h2, g2, b2, h3, g3, b3⟩ := F
    have hl : o.tags.length = pre.length := by rw [hpre]; simp
    refine W.loop1 ?_
    unfold k33_l1
    refine W.seq (W.sreg ?_)
    unfold k33_r9
    simp only [WP_nil, WP_always, stepK_some, nth_set, p_move, p_load, p_bin, p_fieldAddr, p_builtin, ev_tmp, evc_eq, evcs_nil, evcs_cons, load_loc, retV_ok, retVS_some, bi_lss, bl_len, hintOf_some, Option.bind_some, clean_int, cond_true, cond_false, QS_P, QS_hint, List.drop, List.head?_cons, ilt_nat, beq_self_eq_true, true_and, Nat.zero_add, Nat.reduceBEq, Nat.reduceLT, nat_beq, decide_false, rd_38, fa_40_4_l, h6, h2, g2, b2, Obj.cells, hcl, hlen, hl, Nat.lt_irrefl]
    refine W.cond (t := false) (by simp only [ev_tmp, nth_set, Nat.reduceBEq, cond_true, cond_false, *]) ?_
    refine W.exit ⟨rfl, _, rfl, rfl, ⟨?_, g2, b2, ?_, g3, b3⟩⟩ <;> simp only [nth_set, Nat.reduceBEq, cond_false, *]
  | cons r rest ih =>
    intro pre e hpre F h6
    obtain ⟨h2, g2, b2, h3, g3, b3⟩ := F
    have hlt : pre.length < o.tags.length := by rw [hpre]; simp
    have hat : o.tags[pre.length]? = some r := by rw [hpre]; simp
    have hia := fun lc => ho.tags.at ia_38_l hat lc .i64
    have hib := fun lc => hq.tags.at ia_38_l (hoq.tags ▸ hat) lc .i64
    have hrl := ho.taglen
    have hwr : IntKind.i64.wrap ((pre.length : Int) + 1) = ((pre.length + 1 : Nat) : Int) := by rw [wrap64_small (by omega) (by omega)]; omega
    refine W.loop1 ?_
    unfold k33_l1
    refine W.seq (W.sreg ?_)
    unfold k33_r9
    simp only [WP_nil, WP_always, stepK_some, nth_set, p_move, p_load, p_bin, p_fieldAddr, p_builtin, ev_tmp, evc_eq, evcs_nil, evcs_cons, load_loc, retV_ok, retVS_some, bi_lss, bl_len, hintOf_some, Option.bind_some, clean_int, cond_true, cond_false, QS_P, QS_hint, List.drop, List.head?_cons, ilt_nat, beq_self_eq_true, true_and, Nat.zero_add, Nat.reduceBEq, Nat.reduceLT, nat_beq, decide_true, rd_38, fa_40_4_l, h6, h2, g2, b2, Obj.cells, hcl, hlen, hlt]
    refine W.cond (t := true) (by simp only [ev_tmp, nth_set, Nat.reduceBEq, cond_true, cond_false, *]) (W.skip ?_)
    simp only [next_normal]
    refine W.seq (W.block (W.sdrawQ hm ?_))
    unfold k33_r11
    simp only [WQ_nil, WQ_always, stepQ_some, isStore, nth_set, p_move, p_load, p_bin, p_fieldAddr, p_indexAddr, ev_tmp, evc_eq, load_loc, load_ro, retV_ok, cells_agg, Option.bind_some, clean_agg, cond_true, cond_false, QS_P, List.length_cons, List.length_nil, cut, List.take, List.drop, List.head?_cons, List.take_succ_cons, Bool.not_true, beq_self_eq_true, true_and, Nat.zero_add, Nat.reduceBEq, Nat.reduceLT, Nat.reduceAdd, nat_beq, rd_38, rd_51, fa_40_4_l, h6, h2, g2, b2, h3, g3, b3, Obj.cells, hia, hib, tagV, tg_neq]
    refine W.cond (t := false) (by simp only [ev_tmp, nth_set, Nat.reduceBEq, cond_true, cond_false, *]) (W.skip ?_)
    simp only [block_normal, next_normal]
    refine W.reg ?_
    unfold k33_r10
    simp only [WP_nil, WP_always, stepK_some, nth_set, p_move, p_assign, p_bin, ev_tmp, ev_const, evc_eq, ofValue_int, retV_ok, bi_add, Option.bind_some, clean_int, cond_true, cond_false, QS_P, beq_self_eq_true, true_and, Nat.reduceBEq, Nat.reduceLT, h6, hwr, next_normal]
    refine ih (pre ++ [r]) _ (by rw [hpre]; simp) ⟨?_, g2, b2, ?_, g3, b3⟩ ?_
    · simp only [nth_set, Nat.reduceBEq, cond_false, *]
    · simp only [nth_set, Nat.reduceBEq, cond_false, *]
    · simp only [nth_set, Nat.reduceBEq, cond_true, cond_false, List.length_append, List.length_cons, List.length_nil]

theorem same_run (h40 : sp 33 = none) {o q : Obj} (ho : o.Ok) (hq : q.Ok) (hoq : o.Eqv q) {s : St} (hm : s.minw ≤ s.next) : RunC (QS sp) 33 [o.val, q.val] s (.bool true) s := by
  have rlen := fun mk s => ho.refs.len ln_37_n ln_37_l mk s
  have rcl := ho.refs.clean
  have rlq := fun mk s => hq.refs.len ln_37_n ln_37_l mk s
  have rcq := hq.refs.clean
  have tlq := fun mk s => hq.tags.len ln_38_n ln_38_l mk s
  have tcq := hq.tags.clean
  obtain ⟨e1, e2, e3, e4, e5, e6⟩ := id hoq
  have tlen := fun mk s => ho.tags.len ln_38_n ln_38_l mk s
  have tcl := ho.tags.clean
  refine RunC.of2 k33_func k33_code k33_tmps k33_res h40 ?_
  unfold k33
  refine W.sreg ?_
  unfold k33_r0
  simp only [frame0, ofArgs, WP_nil, WP_always, stepK_some, nth_set, gen_nil, gen_set', p_assign, p_box, ev_tmp, ev_const, evc_eq, ofValue_bool, boxA_loc, retV_ok, hintOf_some, cells_agg, Option.bind_some, clean_agg, cond_true, cond_false, QS_hint, List.length_cons, List.length_nil, beq_self_eq_true, true_and, Nat.zero_add, Nat.reduceBEq, Nat.reduceLT, Nat.reduceAdd, Nat.reduceLeDiff, nat_ble, decide_true, hint_33_2, hint_33_3, Obj.val]
  refine W.seq (W.sreg ?_)
  unfold k33_r1
  simp only [WP_nil, WP_always, WP_when, stepK_some, whenK_true, wantV_ff, nth_set, gen_nil, gen_set', loc_set', p_move, p_pick, p_load, p_bin, p_fieldAddr, p_builtin, ev_tmp, ev_const, evc_eq, evcs_nil, evcs_cons, ofValue_bool, load_loc, pick_eq, pickV_false, retV_ok, retVS_some, bi_neq, bs_neq, bl_len, hintOf_some, Option.bind_some, clean_int, clean_str, clean_agg, cond_true, cond_false, QS_P, QS_hint, List.length_cons, List.length_nil, cut, List.take, List.drop, List.head?_cons, List.take_succ_cons, Bool.not_true, beq_self_eq_true, true_and, Nat.zero_add, Nat.add_zero, Nat.reduceBEq, Nat.reduceLT, Nat.reduceAdd, nat_beq, rd_3, rd_9, rd_37, rd_36, rd_38, fa_40_0_l, fa_40_1_l, fa_40_2_l, fa_40_3_l, fa_40_4_l, Obj.cells, rcl, rlen, tcl, tlen, rcq, rlq, tcq, tlq, e1, e2, e3, e4, e5, e6, pt_neq, ieq_self]
  refine W.cond (t := false) (by simp only [ev_tmp, nth_set, Nat.reduceBEq, cond_true, cond_false, *]) (W.skip ?_)
  simp only [next_normal]
  refine W.seq (W.sreg ?_)
  unfold k33_r3
  simp only [WP_nil, WP_always, stepK_some, p_assign, ev_const, ofValue_int, retV_ok, true_and, Nat.reduceLT]
  refine W.block ?_
  refine (same_refs ho hq hoq hm o.refs [] _ rfl ⟨?_, ?_, ?_, ?_, ?_, ?_⟩ ?_).mono ?_
  · simp only [nth_set, Nat.reduceBEq, cond_true, cond_false, *]
  · simp only [gen_nil, gen_set', Nat.reduceBEq, cond_true, cond_false]
  · simp only [loc_set', Nat.reduceBEq, cond_true, cond_false, Obj.cells]
  · simp only [nth_set, Nat.reduceBEq, cond_true, cond_false, *]
  · simp only [gen_nil, gen_set', Nat.reduceBEq, cond_true, cond_false]
  · simp only [loc_set', Nat.reduceBEq, cond_true, cond_false, Obj.cells, e1, e2, e3, e4]
  · simp only [nth_set, Nat.reduceBEq, cond_true, cond_false]; rfl
  rintro x fr s' ⟨rfl, e', rfl, rfl, F⟩
  show W (QS sp) 33 _ _ _ _
  obtain ⟨h2, g2, b2, h3, g3, b3⟩ := F
  refine W.seq (W.sreg ?_)
  unfold k33_r8
  simp only [WP_nil, WP_always, stepK_some, p_assign, ev_const, ofValue_int, retV_ok, true_and, Nat.reduceLT]
  refine W.block ?_
  refine (same_tags ho hq hoq hm o.tags [] _ rfl ⟨?_, g2, b2, ?_, g3, b3⟩ ?_).mono ?_
  · simp only [nth_set, Nat.reduceBEq, cond_false, *]
  · simp only [nth_set, Nat.reduceBEq, cond_false, *]
  · simp only [nth_set, Nat.reduceBEq, cond_true]; rfl
  rintro x fr s' ⟨rfl, e', rfl, rfl, F⟩
  show W (QS sp) 33 _ _ _ _
  refine W.sreg ?_
  unfold k33_r13
  simp only [WP_nil, WP_always, stepK_some, p_assign, ev_const, ofValue_bool, retV_ok, true_and, Nat.reduceLT]
  refine W.ret ⟨rfl, .inr rfl, res_tmp ?_ rfl⟩
  simp only [nth_set, Nat.reduceBEq, cond_true, *]
end

open Classical in
noncomputable def same11Sp : Sp
  | [a, b] => (asObj a).bind fun o => (asObj b).bind fun q => if o.Eqv q then some (.bool true) else none
  | _ => none
theorem same11Sp_of {o q : Obj} (h : o.Good) (h2 : q.Good) (e : o.Eqv q) : same11Sp [o.val, q.val] = some (.bool true) := by
  simp only [same11Sp, if_pos e, asObj_val h, asObj_val h2, Option.bind_some]
theorem same11Sp_ok : SpecOk Tryz.prog 33 same11Sp := by
  intro args u hv G h w xs wr hx
  unfold same11Sp at hv
  split at hv
  · rename_i a b
    simp only [Option.bind_eq_some_iff] at hv
    obtain ⟨o, ho, q, hq, hv⟩ := hv
    split at hv
    · rename_i e
      injection hv with hv; subst hv
      obtain ⟨rfl, hg⟩ := asObj_inv ho
      obtain ⟨rfl, hg2⟩ := asObj_inv hq
      have hp : pures [o.val, q.val] = true := by simp only [pures, hg.pure, hg2.pure, Bool.and_self]
      exact spec_of_run (Q := QT []) (good_of .nil) (fun _ => Nat.zero_lt_succ 1) (args := [o.val, q.val]) (v := .bool true) (s' := s0) (tops_pure hp) (by rw [weaks_pure hp]; exact same_run (sp := fun f => tblGet f []) rfl hg.toOk hg2.toOk e (Nat.le_refl _)) rfl ⟨1, rfl⟩ G h w xs wr hx
    · cases hv
  · cases hv
/-- lists of objects of one content -/
structure ListEqv (l r : List Obj) : Prop where
  len : r.length = l.length
  at_ : ∀ (i : Nat) (o q : Obj), l[i]? = some o → r[i]? = some q → o.Eqv q
theorem ListEqv.rfl {l : List Obj} : ListEqv l l := ⟨Eq.refl _, fun i o q h1 h2 => by rw [h1] at h2; injection h2 with h2; subst h2; exact .rfl⟩
theorem ListEqv.some {l r : List Obj} (h : ListEqv l r) {i : Nat} {o : Obj} (ho : l[i]? = some o) : ∃ q, r[i]? = some q ∧ o.Eqv q := by
  have hlt : i < r.length := by
    rw [h.len]
    rcases Nat.lt_or_ge i l.length with h1 | h1
    · exact h1
    · rw [List.getElem?_eq_none h1] at ho; cases ho
  exact ⟨_, List.getElem?_eq_getElem hlt, h.at_ _ _ _ ho (List.getElem?_eq_getElem hlt)⟩

structure SameM (v u : AVal) (e : Env) (lc : Ag.Loc) : Prop where
  h2 : nth e 2 = .lref 2 1 0
  g2 : lc.gen 2 = 1
  b2 : lc.get 2 1 = some [v]
  h3 : nth e 3 = .lref 3 1 0
  g3 : lc.gen 3 = 1
  b3 : lc.get 3 1 = some [u]

section
variable {sp : FuncId → Option (List AVal → Option AVal)} (h40 : sp 33 = some same11Sp)
include h40
theorem same_objs {v u : AVal} {l r : List Obj} (hl : IsL 6 Obj.val v l) (hu : IsL 6 Obj.val u r) (hlr : ListEqv l r) (hk : ∀ o ∈ l, o.Good) (hk2 : ∀ o ∈ r, o.Good) (hsmall : l.length < small) {s : St} (hm : s.minw ≤ s.next) {lc : Ag.Loc} : ∀ (rest pre : List Obj) (e : Env), l = pre ++ rest → SameM v u e lc → nth e 5 = .int .i64 (pre.length : Nat) →
    W (QS sp) 10 (.loop k10_l0) ⟨e, 32, lc⟩ s fun x fr s' => s' = s ∧ ∃ e', fr = ⟨e', 32, lc⟩ ∧ x = .exit 0 := by
  intro rest
  have hlen := fun mk s => hl.len ln_22_n ln_22_l mk s
  have hcl := hl.clean
  have hcu := hu.clean
  have hsm : small = 9223372036854775808 := rfl
  induction rest with
  | nil =>
    intro pre e hpre F h5
    obtain ⟨h2, g2, b2, h3, g3, b3⟩ := F
    have hl : l.length = pre.length := by rw [hpre]; simp
    refine W.loop1 ?_
    unfold k10_l0
    refine W.seq (W.sreg ?_)
    unfold k10_r4
    simp only [WP_nil, WP_always, stepK_some, nth_set, p_move, p_load, p_bin, p_fieldAddr, p_builtin, ev_tmp, evc_eq, evcs_nil, evcs_cons, load_loc, retV_ok, retVS_some, bi_lss, bl_len, hintOf_some, Option.bind_some, clean_int, cond_true, cond_false, QS_P, QS_hint, List.drop, List.head?_cons, ilt_nat, beq_self_eq_true, true_and, Nat.add_zero, Nat.reduceBEq, Nat.reduceLT, nat_beq, decide_false, rd_22, fa_24_0_l, h5, h2, g2, b2, hcl, hlen, hl, Nat.lt_irrefl]
    refine W.cond (t := false) (by simp only [ev_tmp, nth_set, Nat.reduceBEq, cond_true, cond_false, *]) ?_
    exact W.exit ⟨rfl, _, rfl, rfl⟩
  | cons o rest ih =>
    intro pre e hpre F h5
    obtain ⟨h2, g2, b2, h3, g3, b3⟩ := F
    have hlt : pre.length < l.length := by rw [hpre]; simp
    have hat : l[pre.length]? = some o := by rw [hpre]; simp
    have hia := fun lc => hl.at ia_22_l hat lc .i64
    obtain ⟨q, hqt, hoq⟩ := hlr.some hat
    have hiu := fun lc => hu.at ia_22_l hqt lc .i64
    have hos := same11Sp_of (hk o (List.mem_of_getElem? hat)) (hk2 q (List.mem_of_getElem? hqt)) hoq
    simp only [Obj.val, Obj.cells] at hos
    have hwr : IntKind.i64.wrap ((pre.length : Int) + 1) = ((pre.length + 1 : Nat) : Int) := by rw [wrap64_small (by omega) (by omega)]; omega
    refine W.loop1 ?_
    unfold k10_l0
    refine W.seq (W.sreg ?_)
    unfold k10_r4
    simp only [WP_nil, WP_always, stepK_some, nth_set, p_move, p_load, p_bin, p_fieldAddr, p_builtin, ev_tmp, evc_eq, evcs_nil, evcs_cons, load_loc, retV_ok, retVS_some, bi_lss, bl_len, hintOf_some, Option.bind_some, clean_int, cond_true, cond_false, QS_P, QS_hint, List.drop, List.head?_cons, ilt_nat, beq_self_eq_true, true_and, Nat.add_zero, Nat.reduceBEq, Nat.reduceLT, nat_beq, decide_true, rd_22, fa_24_0_l, h5, h2, g2, b2, hcl, hlen, hlt]
    refine W.cond (t := true) (by simp only [ev_tmp, nth_set, Nat.reduceBEq, cond_true, cond_false, *]) (W.skip ?_)
    simp only [next_normal]
    refine W.seq (W.block (W.sdrawQ hm ?_))
    unfold k10_r6
    simp only [WQ_nil, WQ_always, stepQ_some, isStore, nth_set, p_move, p_load, p_un, p_fieldAddr, p_indexAddr, p_call, callee_func, ev_tmp, evc_eq, evcs_nil, evcs_cons, load_loc, load_ro, retV_ok, un_not, cells_agg, Option.bind_some, clean_bool, clean_agg, cond_true, cond_false, QS_P, QS_spec, List.length_cons, List.length_nil, cut, List.take, List.drop, List.head?_cons, List.take_succ_cons, Bool.not_true, beq_self_eq_true, true_and, Nat.zero_add, Nat.add_zero, Nat.reduceBEq, Nat.reduceLT, Nat.reduceAdd, nat_beq, rd_22, rd_40, fa_24_0_l, h5, h2, g2, b2, h3, g3, b3, hia, hiu, Obj.val, Obj.cells, h40, hos]
    refine W.cond (t := false) (by simp only [ev_tmp, nth_set, Nat.reduceBEq, cond_true, cond_false, *]) (W.skip ?_)
    simp only [block_normal, next_normal]
    refine W.reg ?_
    unfold k10_r5
    simp only [WP_nil, WP_always, stepK_some, nth_set, p_move, p_assign, p_bin, ev_tmp, ev_const, evc_eq, ofValue_int, retV_ok, bi_add, Option.bind_some, clean_int, cond_true, cond_false, QS_P, beq_self_eq_true, true_and, Nat.reduceBEq, Nat.reduceLT, h5, hwr, next_normal]
    refine ih (pre ++ [o]) _ (by rw [hpre]; simp) ⟨?_, g2, b2, ?_, g3, b3⟩ ?_
    · simp only [nth_set, Nat.reduceBEq, cond_false, *]
    · simp only [nth_set, Nat.reduceBEq, cond_false, *]
    · simp only [nth_set, Nat.reduceBEq, cond_true, cond_false, List.length_append, List.length_cons, List.length_nil]

theorem same14_run (h14 : sp 10 = none) {v u : AVal} {l r : List Obj} (hl : IsL 6 Obj.val v l) (hu : IsL 6 Obj.val u r) (hlr : ListEqv l r) (hk : ∀ o ∈ l, o.Good) (hk2 : ∀ o ∈ r, o.Good) (hsmall : l.length < small) {s : St} (hm : s.minw ≤ s.next) : RunC (QS sp) 10 [.agg [v], .agg [u]] s (.bool true) s := by
  have hlen := fun mk s => hl.len ln_22_n ln_22_l mk s
  have hlen2 := fun mk s => hu.len ln_22_n ln_22_l mk s
  have hrl := hlr.len
  have hcl := hl.clean
  have hcu := hu.clean
  refine RunC.of2 k10_func k10_code k10_tmps k10_res h14 ?_
  unfold k10
  refine W.sreg ?_
  unfold k10_r0
  simp only [frame0, ofArgs, WP_nil, WP_always, stepK_some, nth_set, gen_nil, gen_set', p_assign, p_box, ev_tmp, ev_const, evc_eq, ofValue_bool, boxA_loc, retV_ok, hintOf_some, cells_agg, Option.bind_some, clean_agg, cond_true, cond_false, QS_hint, List.length_cons, List.length_nil, beq_self_eq_true, true_and, Nat.zero_add, Nat.reduceBEq, Nat.reduceLT, Nat.reduceAdd, Nat.reduceLeDiff, nat_ble, decide_true, hint_10_2, hint_10_3]
  refine W.seq (W.sreg ?_)
  unfold k10_r1
  simp only [WP_nil, WP_always, stepK_some, nth_set, gen_nil, gen_set', loc_set', p_load, p_bin, p_fieldAddr, p_builtin, ev_tmp, evc_eq, evcs_nil, evcs_cons, load_loc, retV_ok, retVS_some, bi_neq, bl_len, hintOf_some, Option.bind_some, clean_int, cond_true, cond_false, QS_P, QS_hint, List.drop, List.head?_cons, Bool.not_true, beq_self_eq_true, true_and, Nat.add_zero, Nat.reduceBEq, Nat.reduceLT, nat_beq, rd_22, fa_24_0_l, hcl, hlen, hcu, hlen2, hrl, ieq_self]
  refine W.cond (t := false) (by simp only [ev_tmp, nth_set, Nat.reduceBEq, cond_true, cond_false, *]) (W.skip ?_)
  simp only [next_normal]
  refine W.seq (W.sreg ?_)
  unfold k10_r3
  simp only [WP_nil, WP_always, stepK_some, p_assign, ev_const, ofValue_int, retV_ok, true_and, Nat.reduceLT]
  refine W.block ?_
  refine (same_objs h40 hl hu hlr hk hk2 hsmall hm l [] _ rfl ⟨?_, ?_, ?_, ?_, ?_, ?_⟩ ?_).mono ?_
  · simp only [nth_set, Nat.reduceBEq, cond_true, cond_false, *]
  · simp only [gen_nil, gen_set', Nat.reduceBEq, cond_true, cond_false]
  · simp only [loc_set', Nat.reduceBEq, cond_true, cond_false]
  · simp only [nth_set, Nat.reduceBEq, cond_true, cond_false, *]
  · simp only [gen_nil, gen_set', Nat.reduceBEq, cond_true, cond_false]
  · simp only [loc_set', Nat.reduceBEq, cond_true, cond_false]
  · simp only [nth_set, Nat.reduceBEq, cond_true, cond_false]; rfl
  rintro x fr s' ⟨rfl, e', rfl, rfl⟩
  show W (QS sp) 10 _ _ _ _
  refine W.sreg ?_
  unfold k10_r8
  simp only [WP_nil, WP_always, stepK_some, p_assign, ev_const, ofValue_bool, retV_ok, true_and, Nat.reduceLT]
  refine W.ret ⟨rfl, .inr rfl, res_tmp ?_ rfl⟩
  simp only [nth_set, Nat.reduceBEq, cond_true, *]
end

open Classical in
noncomputable def same12Sp : Sp
  | [a, b] => (asMap a).bind fun l => (asMap b).bind fun r => if ListEqv l r then some (.bool true) else none
  | _ => none
theorem same12Sp_of {v u : AVal} {l r : List Obj} (h : IsL 6 Obj.val v l) (h2 : IsL 6 Obj.val u r) (hlr : ListEqv l r) (hg : ∀ o ∈ l, o.Good) (hg2 : ∀ o ∈ r, o.Good) (hs : l.length < small) : same12Sp [.agg [v], .agg [u]] = some (.bool true) := by
  simp only [same12Sp, asMap_of h hg hs, asMap_of h2 hg2 (by rw [hlr.len]; exact hs), Option.bind_some, if_pos hlr]
noncomputable def T6 : Tbl := [(33, same11Sp)]
theorem T6_ok : TblOk T6 := .cons same11Sp_ok .nil
theorem same12Sp_ok : SpecOk Tryz.prog 10 same12Sp := by
  intro args x hv G h w xs wr hx
  unfold same12Sp at hv
  split at hv
  · rename_i a b
    simp only [Option.bind_eq_some_iff] at hv
    obtain ⟨l, h1, r, h2, hv⟩ := hv
    split at hv
    · rename_i e
      injection hv with hv; subst hv
      obtain ⟨v, rfl, hl, hg, hs⟩ := asMap_inv h1
      obtain ⟨u, rfl, hu, hg2, _⟩ := asMap_inv h2
      obtain ⟨ht, v', hw, hl'⟩ := objs_top hl hg
      obtain ⟨ht2, u', hw2, hu'⟩ := objs_top hu hg2
      have hw : weaks [.agg [v], .agg [u]] = [.agg [v'], .agg [u']] := by simp only [weaks, hw, hw2]
      exact spec_of_run (Q := QT T6) (good_of T6_ok) (fun _ => Nat.zero_lt_succ 1) (args := [.agg [v], .agg [u]]) (v := .bool true) (s' := s0) (by simp only [tops, ht, ht2, Bool.and_self]) (by rw [hw]; exact same14_run (sp := fun f => tblGet f T6) rfl rfl hl' hu' e hg hg2 hs (Nat.le_refl _)) rfl ⟨1, rfl⟩ G h w xs wr hx
    · cases hv
  · cases hv
end Go.Proofs.YtbfmdojdemckbaaGreat
/- planisphereref08.word, letter, Name -/
namespace Go.Proofs.YtbfmdojdemckbaaGreat
open Go.Ag

def isWord (b : UInt8) : Bool := isLetter b || isDigit b || Nat.beq b.toNat 95
def isOkB (r : Option (AVal × Nat)) (b : Bool) : Bool :=
  match r with
  | some (.bool c, 0) => c == b
  | _ => false
theorem isOkB_eq {r : Option (AVal × Nat)} {b : Bool} (h : isOkB r b = true) : r = some (.bool b, 0) := by
  unfold isOkB at h
  split at h
  · rename_i c
    rw [eq_of_beq h]
  · cases h
theorem ev145 : (List.range 256).all (fun n => isOkB (evalC [] 100 145 [.int .u8 n]) (letterN n)) = true := by kernel_rfl
theorem ev144 : (List.range 256).all (fun n => isOkB (evalC [] 100 144 [.int .u8 n]) (letterN n || digitN n || Nat.beq n 95)) = true := by kernel_rfl
def letterSp : Sp
  | [.int .u8 (.ofNat n)] => bif Nat.blt n 256 then some (.bool (letterN n)) else none
  | _ => none
def w08Sp : Sp
  | [.int .u8 (.ofNat n)] => bif Nat.blt n 256 then some (.bool (letterN n || digitN n || Nat.beq n 95)) else none
  | _ => none
theorem letterSp_of (b : UInt8) : letterSp [.int .u8 (b.toNat : Nat)] = some (.bool (isLetter b)) := by
  have : Nat.blt b.toNat 256 = true := Nat.ble_eq_true_of_le b.toNat_lt
  show (bif Nat.blt b.toNat 256 then _ else _) = _
  rw [this]; rfl
theorem w08Sp_of (b : UInt8) : w08Sp [.int .u8 (b.toNat : Nat)] = some (.bool (isWord b)) := by
  have : Nat.blt b.toNat 256 = true := Nat.ble_eq_true_of_le b.toNat_lt
  show (bif Nat.blt b.toNat 256 then _ else _) = _
  rw [this]; rfl
theorem letterSp_ok : SpecOk Tryz.prog 145 letterSp := by
  intro args u hv G h w xs wr hx
  unfold letterSp at hv
  split at hv
  · rename_i n
    obtain ⟨h1, hv⟩ := bif_none hv
    injection hv with hv; subst hv
    exact spec_of_evalC .nil (isOkB_eq (List.all_eq_true.1 ev145 n (List.mem_range.2 (Nat.le_of_ble_eq_true h1)))) (args' := [.int .u8 (.ofNat n)]) rfl rfl G h w xs wr hx
  · cases hv
theorem w08Sp_ok : SpecOk Tryz.prog 144 w08Sp := by
  intro args u hv G h w xs wr hx
  unfold w08Sp at hv
  split at hv
  · rename_i n
    obtain ⟨h1, hv⟩ := bif_none hv
    injection hv with hv; subst hv
    exact spec_of_evalC .nil (isOkB_eq (List.all_eq_true.1 ev144 n (List.mem_range.2 (Nat.le_of_ble_eq_true h1)))) (args' := [.int .u8 (.ofNat n)]) rfl rfl G h w xs wr hx
  · cases hv

section
variable {sp : FuncId → Option (List AVal → Option AVal)} (h144 : sp 144 = some w08Sp)
include h144
theorem n08_loop {str : Bytes} (hsmall : str.length < 9223372036854775808) {s : St} : ∀ (rest pre : Bytes) (e : Env) (lc : Ag.Loc), str = pre ++ rest →
    nth e 0 = .str str → nth e 3 = .int .i64 (pre.length : Nat) →
    W (QS sp) 85 (.loop k85_l0) ⟨e, 28, lc⟩ s fun x fr s' => s' = s ∧ fr.size = 28 ∧ ((x = .exit 0 ∧ nth fr.env 0 = .str str ∧ rest.all isWord = true) ∨ (x = .ret ∧ nth fr.env 2 = .bool false ∧ rest.all isWord = false)) := by
  intro rest
  induction rest with
  | nil =>
    intro pre e lc hpre h0 h3
    have hlen : str.length = pre.length := by rw [hpre]; simp
    refine W.loop1 ?_
    unfold k85_l0
    refine W.seq (W.sreg ?_)
    unfold k85_r2
    simp only [WP_nil, WP_always, stepK_some, nth_set, p_move, p_bin, p_builtin, ev_tmp, evc_eq, evcs_nil, evcs_cons, retV_ok, retVS_some, bi_lss, bl_len, hintOf_some, Option.bind_some, clean_int, clean_str, cond_true, cond_false, QS_P, QS_hint, ilt_nat, beq_self_eq_true, true_and, Nat.reduceBEq, Nat.reduceLT, nat_beq, decide_false, ln_9, h0, h3, hlen, Nat.lt_irrefl]
    refine W.cond (t := false) (by simp only [ev_tmp, nth_set, Nat.reduceBEq, cond_true, cond_false, *]) ?_
    refine W.exit ?_
    refine ⟨rfl, rfl, .inl ⟨rfl, ?_, rfl⟩⟩
    simp only [nth_set, Nat.reduceBEq, cond_false, *]
  | cons b rest ih =>
    intro pre e lc hpre h0 h3
    have hlt : pre.length < str.length := by rw [hpre]; simp
    have hdrop : str.drop pre.length = b :: rest := by rw [hpre]; simp
    have hwr : IntKind.i64.wrap ((pre.length : Int) + 1) = ((pre.length + 1 : Nat) : Int) := by rw [wrap64_small (by omega) (by omega)]; omega
    have hw8 := w08Sp_of b
    refine W.loop1 ?_
    unfold k85_l0
    refine W.seq (W.sreg ?_)
    unfold k85_r2
    simp only [WP_nil, WP_always, stepK_some, nth_set, p_move, p_bin, p_builtin, ev_tmp, evc_eq, evcs_nil, evcs_cons, retV_ok, retVS_some, bi_lss, bl_len, hintOf_some, Option.bind_some, clean_int, clean_str, cond_true, cond_false, QS_P, QS_hint, ilt_nat, beq_self_eq_true, true_and, Nat.reduceBEq, Nat.reduceLT, nat_beq, decide_true, ln_9, h0, h3, hlt]
    refine W.cond (t := true) (by simp only [ev_tmp, nth_set, Nat.reduceBEq, cond_true, cond_false, *]) (W.skip ?_)
    simp only [next_normal]
    refine W.seq (W.block ?_)
    refine W.sreg ?_
    unfold k85_r4
    simp only [WP_nil, WP_always, stepK_some, nth_set, p_move, p_un, p_index, p_call, callee_func, ev_tmp, evc_eq, evcs_nil, evcs_cons, natOf_cast, retV_ok, un_not, Option.bind_some, clean_bool, clean_int, clean_str, cond_true, cond_false, QS_P, QS_spec, beq_self_eq_true, true_and, Nat.reduceBEq, Nat.reduceLT, ix_9, h0, h3, hdrop, h144, hw8]
    cases hw : isWord b with
    | false =>
      refine W.cond (t := true) (by simp only [ev_tmp, nth_set, Nat.reduceBEq, cond_true, cond_false, Bool.not_false]) ?_
      refine W.sreg ?_
      unfold k85_r5
      simp only [WP_nil, WP_always, stepK_some, p_assign, ev_const, ofValue_bool, retV_ok, Bool.not_false, true_and, Nat.reduceLT]
      refine W.ret ⟨rfl, rfl, .inr ⟨rfl, by simp only [nth_set, Nat.reduceBEq, cond_true, cond_false, *], ?_⟩⟩
      simp only [List.all_cons, hw, Bool.false_and]
    | true =>
      refine W.cond (t := false) (by simp only [ev_tmp, nth_set, Nat.reduceBEq, cond_true, cond_false, Bool.not_true]) (W.skip ?_)
      simp only [block_normal, next_normal]
      refine W.reg ?_
      unfold k85_r3
      simp only [WP_nil, WP_always, stepK_some, nth_set, p_move, p_assign, p_bin, ev_tmp, ev_const, evc_eq, ofValue_int, retV_ok, bi_add, Option.bind_some, clean_int, cond_true, cond_false, QS_P, Bool.not_true, beq_self_eq_true, true_and, Nat.reduceBEq, Nat.reduceLT, h3, hwr, next_normal]
      refine (ih (pre ++ [b]) _ _ (by rw [hpre]; simp) (by simp only [nth_set, Nat.reduceBEq, cond_false, *]) (by simp only [nth_set, Nat.reduceBEq, cond_true, cond_false, List.length_append, List.length_cons, List.length_nil])).mono ?_
      simp only [List.all_cons, hw, Bool.true_and]
      exact fun _ _ _ h => h

theorem n08_run (h145 : sp 145 = some letterSp) (h85 : sp 85 = none) (str : Bytes) (hsmall : str.length < 9223372036854775808) (s : St) : RunC (QS sp) 85 [.str str] s (.bool (nameOk str)) s := by
  refine RunC.of2 k85_func k85_code k85_tmps k85_res h85 ?_
  unfold k85
  refine W.sreg ?_
  unfold k85_r0
  simp only [frame0, ofArgs, WP_nil, WP_always, stepK_some, p_assign, ev_const, ofValue_bool, retV_ok, cond_true, List.length_cons, List.length_nil, true_and, Nat.zero_add, Nat.reduceLT, Nat.reduceLeDiff, nat_ble, decide_true]
  refine W.seq (W.sreg ?_)
  unfold k85_r1
  simp only [WP_nil, WP_always, stepK_some, p_assign, ev_const, ofValue_int, retV_ok, true_and, Nat.reduceLT]
  refine W.block ?_
  refine (n08_loop h144 hsmall str [] _ _ rfl (by simp only [nth_set, Nat.reduceBEq, cond_true, cond_false, *]) (by simp only [nth_set, Nat.reduceBEq, cond_true, cond_false]; rfl)).mono ?_
  rintro x ⟨e, sz, lc⟩ s' ⟨rfl, hs, ⟨rfl, h0, hok⟩ | ⟨rfl, h2, hok⟩⟩
  · have hs : sz = 28 := hs
    subst hs
    have h0 : nth e 0 = .str str := h0
    show W (QS sp) 85 _ _ _ _
    refine W.sreg ?_
    unfold k85_r6
    cases str with
    | nil =>
      have h1 : ilt 0 ((0 : Nat) : Int) = false := rfl
      simp only [WP_nil, WP_always, WP_when, stepK_some, whenK_false, wantV_ft, nth_set, p_move, p_assign, p_pick, p_bin, p_builtin, ev_tmp, ev_const, evc_eq, evcs_nil, evcs_cons, ofValue_bool, ofValue_int, pick_eq, pickV_false, retV_ok, retVS_some, bi_gtr, bl_len, hintOf_some, Option.bind_some, clean_int, clean_str, cond_true, cond_false, QS_P, QS_hint, List.length_nil, beq_self_eq_true, true_and, Nat.reduceBEq, Nat.reduceLT, nat_beq, ln_9, h0, h1]
      refine W.ret ⟨rfl, .inr rfl, res_tmp ?_ rfl⟩
      simp only [nth_set, Nat.reduceBEq, cond_true, cond_false, *]
      rfl
    | cons b r =>
      have h1 : ilt 0 (((b :: r).length : Nat) : Int) = true := by rw [show (0 : Int) = ((0 : Nat) : Int) from rfl, ilt_nat]; simp
      have hil : ile (((b :: r).length : Nat) : Int) 24 = decide ((b :: r).length ≤ 24) := ile_nat _ 24
      have hlb := letterSp_of b
      have hn : nameOk (b :: r) = (isLetter b && decide ((b :: r).length ≤ 24)) := by
        simp only [List.all_cons, Bool.and_eq_true] at hok
        have h2 : nameRest r = true := hok.2
        simp only [nameOk, h2, Bool.and_true, nat_ble]
      cases h24 : decide ((b :: r).length ≤ 24) with
      | false =>
        rw [h24] at hil
        simp only [List.length_cons] at h1 hil
        simp only [WP_nil, WP_always, WP_when, stepK_some, whenK_true, whenK_false, wantV_tt, wantV_ft, nth_set, p_move, p_assign, p_pick, p_bin, p_builtin, ev_tmp, ev_const, evc_eq, evcs_nil, evcs_cons, ofValue_bool, ofValue_int, pick_eq, pickV_true, pickV_false, retV_ok, retVS_some, bi_leq, bi_gtr, bl_len, hintOf_some, Option.bind_some, clean_int, clean_str, cond_true, cond_false, QS_P, QS_hint, List.length_cons, beq_self_eq_true, true_and, Nat.reduceBEq, Nat.reduceLT, nat_beq, ln_9, h0, h1, hil]
        refine W.ret ⟨rfl, .inr rfl, res_tmp ?_ rfl⟩
        simp only [nth_set, Nat.reduceBEq, cond_true, cond_false, *]
        rw [Bool.and_false]
      | true =>
        rw [h24] at hil
        have h0d : natOf (.int .i64 0) = some 0 := rfl
        simp only [List.length_cons] at h1 hil
        simp only [WP_nil, WP_always, WP_when, stepK_some, whenK_true, wantV_tt, nth_set, p_move, p_assign, p_pick, p_bin, p_index, p_builtin, p_call, callee_func, ev_tmp, ev_const, evc_eq, evcs_nil, evcs_cons, ofValue_bool, ofValue_int, pick_eq, pickV_true, retV_ok, retVS_some, bi_leq, bi_gtr, bl_len, hintOf_some, Option.bind_some, clean_int, clean_str, cond_true, cond_false, QS_P, QS_hint, QS_spec, List.length_cons, List.drop, beq_self_eq_true, true_and, Nat.reduceBEq, Nat.reduceLT, nat_beq, ix_9, ln_9, h0, h1, hil, h0d, h145, hlb]
        refine W.ret ⟨rfl, .inr rfl, res_tmp ?_ rfl⟩
        simp only [nth_set, Nat.reduceBEq, cond_true, cond_false, *]
        rw [Bool.and_true]
  · refine ⟨rfl, .inr rfl, res_tmp ?_ rfl⟩
    rw [h2]
    cases str with
    | nil => cases hok
    | cons b r =>
      refine congrArg AVal.bool ?_
      cases hn : nameOk (b :: r) with
      | false => rfl
      | true =>
        exfalso
        simp only [nameOk, Bool.and_eq_true] at hn
        have h3 : isWord b = true := by simp only [isWord, hn.1.1, Bool.true_or]
        have h4 : r.all isWord = true := hn.1.2
        rw [List.all_cons, h3, h4] at hok
        cases hok
end
def U1 : Tbl := [(144, w08Sp), (145, letterSp)]
theorem U1_ok : TblOk U1 := .cons w08Sp_ok (.cons letterSp_ok .nil)
theorem n08Sp_ok : SpecOk Tryz.prog 85 nameSp := by
  intro args v hv G h w xs wr hx
  unfold nameSp at hv
  split at hv
  · rename_i s
    obtain ⟨h1, hv⟩ := bif_none hv
    injection hv with hv; subst hv
    have h1 : s.length < small := Nat.le_of_ble_eq_true h1
    exact spec_of_run (Q := QT U1) (good_of U1_ok) (fun _ => Nat.zero_lt_succ 1) (args := [.str s]) (v := .bool (nameOk s)) (s' := s0) rfl (n08_run (sp := fun f => tblGet f U1) rfl rfl rfl s h1 s0) rfl ⟨1, rfl⟩ G h w xs wr hx
  · cases hv
end Go.Proofs.YtbfmdojdemckbaaGreat
/- planisphereref11.Word, On, Tags -/
namespace Go.Proofs.YtbfmdojdemckbaaGreat
open Go.Ag

theorem bs_geq (P : Program) (t : TypeId) (a b : List UInt8) : binA P .geq t (.str a) (.str b) = some (.bool (!Op.bytesLess a b)) := rfl

theorem ev86_1 : evalC [] 100 86 [.int .i64 1] = some (.str (wordOf 1), 0) := by kernel_rfl
theorem ev86_2 : evalC [] 100 86 [.int .i64 2] = some (.str (wordOf 2), 0) := by kernel_rfl
theorem ev86_3 : evalC [] 100 86 [.int .i64 3] = some (.str (wordOf 3), 0) := by kernel_rfl
theorem ev86_4 : evalC [] 100 86 [.int .i64 4] = some (.str (wordOf 4), 0) := by kernel_rfl
theorem ev86_5 : evalC [] 100 86 [.int .i64 5] = some (.str (wordOf 5), 0) := by kernel_rfl
theorem w11_list (e : Env) (s : St) : buildSliceA Tryz.prog 37 6 [(0, Operand.const (Value.string { data := #[] })), (1, Operand.const (Value.string { data := #[110, 111, 100, 101] })), (2, Operand.const (Value.string { data := #[119, 97, 121] })), (3, Operand.const (Value.string { data := #[97, 114, 101, 97] })), (4, Operand.const (Value.string { data := #[114, 111, 117, 116, 101] })), (5, Operand.const (Value.string { data := #[116, 117, 114, 110] }))] false e s =
    some (.list 1 [.str [], .str [110, 111, 100, 101], .str [119, 97, 121], .str [97, 114, 101, 97], .str [114, 111, 117, 116, 101], .str [116, 117, 114, 110]] .full, s) := by
  kernel_rfl
theorem w11_run {sp : FuncId → Option (List AVal → Option AVal)} (h86 : sp 86 = none) {k : Int} (hk : k < 1 ∨ 5 < k) (s : St) : RunC (QS sp) 86 [.int .i64 k] s (.str []) s := by
  refine RunC.of2 k86_func k86_code k86_tmps k86_res h86 ?_
  unfold k86
  refine W.sreg ?_
  unfold k86_r0
  simp only [frame0, ofArgs, WP_nil, WP_always, stepK_some, p_assign, ev_const, ofValue_str, retV_ok, cond_true, List.length_cons, List.length_nil, true_and, Nat.zero_add, Nat.reduceLT, Nat.reduceLeDiff, nat_ble, decide_true]
  refine W.sreg ?_
  unfold k86_r1
  simp only [WP_nil, WP_always, stepK_some, nth_set, p_assign, p_buildSlice, ev_tmp, retV_ok, retVS_some, hintOf_some, cond_true, cond_false, QS_P, QS_hint, beq_self_eq_true, true_and, Nat.reduceBEq, Nat.reduceLT, nat_beq, hint_86_4, w11_list]
  refine W.seq (W.sreg ?_)
  unfold k86_r2
  have fin : ∀ e' lc', nth e' 10 = .bool true → W (QS sp) 86 (.cond (Operand.tmp 10) (.seq (.region k86_r3) .ret) .skip) ⟨e', 15, lc'⟩ s fun x fr s' => x = .ret ∧ s' = s ∧ nth fr.env 2 = .str [] := by
    intro e' lc' h
    refine W.cond (t := true) (by simp only [ev_tmp, h]) (W.sreg ?_)
    unfold k86_r3
    simp only [WP_nil, WP_always, stepK_some, p_assign, ev_const, ofValue_str, retV_ok, true_and, Nat.reduceLT]
    exact W.ret ⟨rfl, rfl, by simp only [nth_set, Nat.reduceBEq, cond_true, *]⟩
  cases h1 : ilt k 1 with
  | true =>
    simp only [WP_nil, WP_always, WP_when, stepK_some, whenK_false, wantV_tf, nth_set, p_move, p_pick, p_bin, ev_tmp, ev_const, evc_eq, ofValue_bool, ofValue_int, pick_eq, pickV_true, retV_ok, bi_lss, Option.bind_some, clean_int, cond_true, cond_false, QS_P, beq_self_eq_true, true_and, Nat.reduceBEq, Nat.reduceLT, h1]
    refine (fin _ _ ?_).mono ?_
    · simp only [nth_set, Nat.reduceBEq, cond_true, cond_false, *]
    · rintro x fr s' ⟨rfl, rfl, h⟩
      exact ⟨rfl, .inr rfl, res_tmp h rfl⟩
  | false =>
    have h2 : ilt 5 k = true := by
      simp only [ilt, decide_eq_false_iff_not] at h1
      simp only [ilt, decide_eq_true_eq]; omega
    simp only [WP_nil, WP_always, WP_when, stepK_some, whenK_true, wantV_ff, nth_set, p_move, p_pick, p_bin, ev_tmp, ev_const, evc_eq, ofValue_bool, ofValue_int, pick_eq, pickV_false, retV_ok, bi_lss, bi_gtr, Option.bind_some, clean_int, cond_true, cond_false, QS_P, beq_self_eq_true, true_and, Nat.reduceBEq, Nat.reduceLT, h1, h2]
    refine (fin _ _ ?_).mono ?_
    · simp only [nth_set, Nat.reduceBEq, cond_true, cond_false, *]
    · rintro x fr s' ⟨rfl, rfl, h⟩
      exact ⟨rfl, .inr rfl, res_tmp h rfl⟩
theorem w11Sp_ok : SpecOk Tryz.prog 86 wordSp := by
  intro args u hv G h w xs wr hx
  unfold wordSp at hv
  split at hv
  · rename_i k
    injection hv with hv; subst hv
    have hcase : (k < 1 ∨ 5 < k) ∨ k = 1 ∨ k = 2 ∨ k = 3 ∨ k = 4 ∨ k = 5 := by omega
    rcases hcase with hk | rfl | rfl | rfl | rfl | rfl
    · have hw : wordOf k = [] := by
        simp only [wordOf, ieq_ne (show k ≠ 1 by omega), ieq_ne (show k ≠ 2 by omega), ieq_ne (show k ≠ 3 by omega), ieq_ne (show k ≠ 4 by omega), ieq_ne (show k ≠ 5 by omega), cond_false]
      rw [hw]
      exact spec_of_run (Q := QT []) (good_of .nil) (fun _ => Nat.zero_lt_succ 1) (args := [.int .i64 k]) (v := .str []) (s' := s0) rfl (w11_run (sp := fun f => tblGet f []) rfl hk s0) rfl ⟨1, rfl⟩ G h w xs wr hx
    · exact spec_of_evalC .nil ev86_1 (args' := [.int .i64 1]) rfl rfl G h w xs wr hx
    · exact spec_of_evalC .nil ev86_2 (args' := [.int .i64 2]) rfl rfl G h w xs wr hx
    · exact spec_of_evalC .nil ev86_3 (args' := [.int .i64 3]) rfl rfl G h w xs wr hx
    · exact spec_of_evalC .nil ev86_4 (args' := [.int .i64 4]) rfl rfl G h w xs wr hx
    · exact spec_of_evalC .nil ev86_5 (args' := [.int .i64 5]) rfl rfl G h w xs wr hx
  · cases hv

theorem on11_run {sp : FuncId → Option (List AVal → Option AVal)} (h84 : sp 84 = none) (x y : Int) (s : St) : RunC (QS sp) 84 [.agg [.int .i64 x, .int .i64 y]] s (.bool (onGrid x y)) s := by
  refine RunC.of2 k84_func k84_code k84_tmps k84_res h84 ?_
  unfold k84
  refine W.sreg ?_
  unfold k84_r0
  simp only [frame0, ofArgs, WP_nil, WP_always, stepK_some, nth_set, gen_nil, p_assign, p_box, ev_tmp, ev_const, evc_eq, ofValue_bool, boxA_loc, retV_ok, hintOf_some, cells_agg, Option.bind_some, clean_agg, cond_true, QS_hint, List.length_cons, List.length_nil, beq_self_eq_true, true_and, Nat.zero_add, Nat.reduceLT, Nat.reduceLeDiff, nat_ble, decide_true, hint_84_1]
  refine W.sreg ?_
  unfold k84_r1
  cases h1 : ile 0 x with
  | false =>
    simp only [WP_nil, WP_always, WP_when, stepK_some, whenK_false, wantV_ft, nth_set, gen_nil, gen_set', loc_set', p_move, p_assign, p_pick, p_load, p_bin, p_fieldAddr, ev_tmp, ev_const, evc_eq, ofValue_bool, ofValue_int, load_loc, pick_eq, pickV_false, retV_ok, bi_geq, Option.bind_some, clean_int, cond_true, cond_false, QS_P, List.drop, List.head?_cons, beq_self_eq_true, true_and, Nat.add_zero, Nat.reduceBEq, Nat.reduceLT, nat_beq, rd_3, fa_36_0_l, h1]
    refine W.ret ⟨rfl, .inr rfl, res_tmp ?_ rfl⟩
    simp only [nth_set, Nat.reduceBEq, cond_true, cond_false, *]
    simp only [onGrid, h1, Bool.false_and]
  | true =>
  cases h2 : ilt x 1048576 with
  | false =>
    simp only [WP_nil, WP_always, WP_when, stepK_some, whenK_true, whenK_false, wantV_tt, wantV_ft, nth_set, gen_nil, gen_set', loc_set', p_move, p_assign, p_pick, p_load, p_bin, p_fieldAddr, ev_tmp, ev_const, evc_eq, ofValue_bool, ofValue_int, load_loc, pick_eq, pickV_true, pickV_false, retV_ok, bi_lss, bi_geq, Option.bind_some, clean_int, cond_true, cond_false, QS_P, List.drop, List.head?_cons, beq_self_eq_true, true_and, Nat.add_zero, Nat.reduceBEq, Nat.reduceLT, nat_beq, rd_3, fa_36_0_l, h1, h2]
    refine W.ret ⟨rfl, .inr rfl, res_tmp ?_ rfl⟩
    simp only [nth_set, Nat.reduceBEq, cond_true, cond_false, *]
    simp only [onGrid, h1, h2, Bool.and_false, Bool.false_and]
  | true =>
  cases h3 : ile 0 y with
  | false =>
    simp only [WP_nil, WP_always, WP_when, stepK_some, whenK_true, whenK_false, wantV_tt, wantV_ft, nth_set, gen_nil, gen_set', loc_set', p_move, p_assign, p_pick, p_load, p_bin, p_fieldAddr, ev_tmp, ev_const, evc_eq, ofValue_bool, ofValue_int, load_loc, pick_eq, pickV_true, pickV_false, retV_ok, bi_lss, bi_geq, Option.bind_some, clean_int, cond_true, cond_false, QS_P, List.drop, List.head?_cons, beq_self_eq_true, true_and, Nat.zero_add, Nat.add_zero, Nat.reduceBEq, Nat.reduceLT, nat_beq, rd_3, fa_36_0_l, fa_36_1_l, h1, h2, h3]
    refine W.ret ⟨rfl, .inr rfl, res_tmp ?_ rfl⟩
    simp only [nth_set, Nat.reduceBEq, cond_true, cond_false, *]
    simp only [onGrid, h1, h2, h3, Bool.and_false, Bool.false_and]
  | true =>
    simp only [WP_nil, WP_always, WP_when, stepK_some, whenK_true, wantV_tt, nth_set, gen_nil, gen_set', loc_set', p_move, p_assign, p_pick, p_load, p_bin, p_fieldAddr, ev_tmp, ev_const, evc_eq, ofValue_bool, ofValue_int, load_loc, pick_eq, pickV_true, retV_ok, bi_lss, bi_geq, Option.bind_some, clean_int, cond_true, cond_false, QS_P, List.drop, List.head?_cons, beq_self_eq_true, true_and, Nat.zero_add, Nat.add_zero, Nat.reduceBEq, Nat.reduceLT, nat_beq, rd_3, fa_36_0_l, fa_36_1_l, h1, h2, h3]
    refine W.ret ⟨rfl, .inr rfl, res_tmp ?_ rfl⟩
    simp only [nth_set, Nat.reduceBEq, cond_true, cond_false, *]
    simp only [onGrid, h1, h2, h3, Bool.true_and]
theorem on11Sp_ok : SpecOk Tryz.prog 84 onSp := by
  intro args u hv G h w xs wr hx
  unfold onSp at hv
  split at hv
  · rename_i x y
    injection hv with hv; subst hv
    exact spec_of_run (Q := QT []) (good_of .nil) (fun _ => Nat.zero_lt_succ 1) (args := [.agg [.int .i64 x, .int .i64 y]]) (v := .bool (onGrid x y)) (s' := s0) rfl (on11_run (sp := fun f => tblGet f []) rfl x y s0) rfl ⟨1, rfl⟩ G h w xs wr hx
  · cases hv

/- Tags -/
def prevBad (p : Option Bytes) (k : Bytes) : Bool := match p with | none => false | some p => !Op.bytesLess p k
def tBad (p : Option Bytes) (t : Tag) : Bool := !nameOk t.1 || decide (t.2.length < 1) || decide (200 < t.2.length) || prevBad p t.1
def rTags : Option Bytes → List Tag → Bool
  | _, [] => true
  | p, t :: r => bif tBad p t then false else rTags (some t.1) r
def refTags (l : List Tag) : Bool := bif decide (60 < l.length) then false else rTags none l
def Prev (pre : List Tag) (p : Option Bytes) : Prop := (pre = [] ∧ p = none) ∨ ∃ q t, pre = q ++ [t] ∧ p = some t.1

section
variable {sp : FuncId → Option (List AVal → Option AVal)} (h85 : sp 85 = some nameSp)
include h85
theorem t11_loop {v : AVal} {l : List Tag} (hl : IsL 2 tagV v l) (hk : ∀ t ∈ l, t.1.length < small) (hsmall : l.length < small) {s : St} (hm : s.minw ≤ s.next) {lc : Ag.Loc} : ∀ (rest pre : List Tag) (e : Env) (p : Option Bytes), l = pre ++ rest → Prev pre p →
    nth e 0 = v → nth e 3 = .int .i64 (pre.length : Nat) →
    W (QS sp) 87 (.loop k87_l0) ⟨e, 56, lc⟩ s fun x fr s' => s' = s ∧ fr.size = 56 ∧ ((x = .exit 0 ∧ rTags p rest = true) ∨ (x = .ret ∧ nth fr.env 2 = .bool false ∧ rTags p rest = false)) := by
  intro rest
  have hlen := fun mk s => hl.len ln_38_n ln_38_l mk s
  have hcl := hl.clean
  have hsm : small = 9223372036854775808 := rfl
  induction rest with
  | nil =>
    intro pre e p hpre hp h0 h3
    have hlen' : l.length = pre.length := by rw [hpre]; simp
    refine W.loop1 ?_
    unfold k87_l0
    refine W.seq (W.sreg ?_)
    unfold k87_r4
    simp only [WP_nil, WP_always, stepK_some, nth_set, p_move, p_bin, p_builtin, ev_tmp, evc_eq, evcs_nil, evcs_cons, retV_ok, retVS_some, bi_lss, bl_len, hintOf_some, Option.bind_some, clean_int, cond_true, cond_false, QS_P, QS_hint, ilt_nat, beq_self_eq_true, true_and, Nat.reduceBEq, Nat.reduceLT, nat_beq, decide_false, h0, h3, hcl, hlen, hlen', Nat.lt_irrefl]
    refine W.cond (t := false) (by simp only [ev_tmp, nth_set, Nat.reduceBEq, cond_true, cond_false, *]) ?_
    exact W.exit ⟨rfl, rfl, .inl ⟨rfl, rfl⟩⟩
  | cons t rest ih =>
    intro pre e p hpre hp h0 h3
    have hlt : pre.length < l.length := by rw [hpre]; simp
    have hat : l[pre.length]? = some t := by rw [hpre]; simp
    have hia := fun lc => hl.at ia_38_l hat lc .i64
    have hns := nameSp_str (hk t (List.mem_of_getElem? hat))
    have hwr : IntKind.i64.wrap ((pre.length : Int) + 1) = ((pre.length + 1 : Nat) : Int) := by rw [wrap64_small (by omega) (by omega)]; omega
    have hi1 : ilt (t.2.length : Nat) 1 = decide (t.2.length < 1) := ilt_nat _ 1
    have hi2 : ilt 200 (t.2.length : Nat) = decide (200 < t.2.length) := ilt_nat 200 _
    have hi3 : ilt 0 (pre.length : Nat) = decide (0 < pre.length) := ilt_nat 0 _
    refine W.loop1 ?_
    unfold k87_l0
    refine W.seq (W.sreg ?_)
    unfold k87_r4
    simp only [WP_nil, WP_always, stepK_some, nth_set, p_move, p_bin, p_builtin, ev_tmp, evc_eq, evcs_nil, evcs_cons, retV_ok, retVS_some, bi_lss, bl_len, hintOf_some, Option.bind_some, clean_int, cond_true, cond_false, QS_P, QS_hint, ilt_nat, beq_self_eq_true, true_and, Nat.reduceBEq, Nat.reduceLT, nat_beq, decide_true, h0, h3, hcl, hlen, hlt]
    refine W.cond (t := true) (by simp only [ev_tmp, nth_set, Nat.reduceBEq, cond_true, cond_false, *]) (W.skip ?_)
    simp only [next_normal]
    refine W.seq (W.block (W.sdrawQ hm ?_))
    unfold k87_r6
    have fin : ∀ e' lc', nth e' 55 = .bool true → W (QS sp) 87 (.cond (Operand.tmp 55) (.seq (.region k87_r7) .ret) .skip) ⟨e', 56, lc'⟩ s fun x fr s' => x = .ret ∧ s' = s ∧ fr.size = 56 ∧ nth fr.env 2 = .bool false := by
      intro e' lc' h
      refine W.cond (t := true) (by simp only [ev_tmp, h]) (W.sreg ?_)
      unfold k87_r7
      simp only [WP_nil, WP_always, stepK_some, p_assign, ev_const, ofValue_bool, retV_ok, true_and, Nat.reduceLT]
      exact W.ret ⟨rfl, rfl, rfl, by simp only [nth_set, Nat.reduceBEq, cond_true, *]⟩
    cases hb1 : nameOk t.1 with
    | false =>
      simp only [WQ_nil, WQ_always, WQ_when, stepQ_some, whenQ_false, isStore, wantV_tf, wantV_undef, nth_set, p_move, p_pick, p_load, p_un, p_fieldAddr, p_indexAddr, p_call, callee_func, ev_tmp, ev_const, evc_eq, evcs_nil, evcs_cons, ofValue_bool, load_ro, pick_eq, pickV_true, retV_ok, un_not, cells_agg, Option.bind_some, clean_bool, clean_str, cond_true, cond_false, QS_P, QS_spec, List.drop, List.head?_cons, Bool.not_false, beq_self_eq_true, true_and, Nat.reduceBEq, Nat.reduceLT, rd_9, fa_51_0_r, h0, h3, hia, tagV, h85, hns, hb1]
      refine (fin _ _ ?_).mono ?_
      · simp only [nth_set, Nat.reduceBEq, cond_true, cond_false, *]
      · rintro x fr s' ⟨rfl, rfl, hs, h⟩
        exact ⟨rfl, hs, .inr ⟨rfl, h, by simp [rTags, tBad, hb1]⟩⟩
    | true =>
    cases hb2 : decide (t.2.length < 1) with
    | true =>
      simp only [WQ_nil, WQ_always, WQ_when, stepQ_some, whenQ_true, whenQ_false, isStore, wantV_tf, wantV_ff, wantV_undef, nth_set, p_move, p_pick, p_load, p_bin, p_un, p_fieldAddr, p_indexAddr, p_builtin, p_call, callee_func, ev_tmp, ev_const, evc_eq, evcs_nil, evcs_cons, ofValue_bool, ofValue_int, load_ro, pick_eq, pickV_true, pickV_false, retV_ok, retVS_some, bi_lss, un_not, bl_len, hintOf_some, cells_agg, Option.bind_some, clean_bool, clean_int, clean_str, cond_true, cond_false, QS_P, QS_hint, QS_spec, List.drop, List.head?_cons, Bool.not_true, beq_self_eq_true, true_and, Nat.reduceBEq, Nat.reduceLT, nat_beq, rd_9, fa_51_0_r, fa_51_1_r, ln_9, h0, h3, hia, tagV, h85, hns, hb1, hi1, hb2]
      refine (fin _ _ ?_).mono ?_
      · simp only [nth_set, Nat.reduceBEq, cond_true, cond_false, *]
      · rintro x fr s' ⟨rfl, rfl, hs, h⟩
        exact ⟨rfl, hs, .inr ⟨rfl, h, by simp only [rTags, tBad, hb1, hb2, Bool.or_true, Bool.true_or, cond_true]⟩⟩
    | false =>
    cases hb3 : decide (200 < t.2.length) with
    | true =>
      simp only [WQ_nil, WQ_always, WQ_when, stepQ_some, whenQ_true, whenQ_false, isStore, wantV_tf, wantV_ff, wantV_undef, nth_set, p_move, p_pick, p_load, p_bin, p_un, p_fieldAddr, p_indexAddr, p_builtin, p_call, callee_func, ev_tmp, ev_const, evc_eq, evcs_nil, evcs_cons, ofValue_bool, ofValue_int, load_ro, pick_eq, pickV_true, pickV_false, retV_ok, retVS_some, bi_lss, bi_gtr, un_not, bl_len, hintOf_some, cells_agg, Option.bind_some, clean_bool, clean_int, clean_str, cond_true, cond_false, QS_P, QS_hint, QS_spec, List.drop, List.head?_cons, Bool.not_true, beq_self_eq_true, true_and, Nat.reduceBEq, Nat.reduceLT, nat_beq, rd_9, fa_51_0_r, fa_51_1_r, ln_9, h0, h3, hia, tagV, h85, hns, hb1, hi1, hb2, hi2, hb3]
      refine (fin _ _ ?_).mono ?_
      · simp only [nth_set, Nat.reduceBEq, cond_true, cond_false, *]
      · rintro x fr s' ⟨rfl, rfl, hs, h⟩
        exact ⟨rfl, hs, .inr ⟨rfl, h, by simp only [rTags, tBad, hb1, hb2, hb3, Bool.or_true, Bool.true_or, cond_true]⟩⟩
    | false =>
    rcases hp with ⟨rfl, rfl⟩ | ⟨q, u, rfl, rfl⟩
    · have hi3 : ilt 0 ((0 : Nat) : Int) = false := rfl
      have hwr0 : IntKind.i64.wrap (((0 : Nat) : Int) + 1) = 1 := rfl
      simp only [List.length_nil] at h3 hia
      simp only [WQ_nil, WQ_always, WQ_when, stepQ_some, whenQ_true, whenQ_false, isStore, wantV_ft, wantV_ff, nth_set, p_move, p_pick, p_load, p_bin, p_un, p_fieldAddr, p_indexAddr, p_builtin, p_call, callee_func, ev_tmp, ev_const, evc_eq, evcs_nil, evcs_cons, ofValue_bool, ofValue_int, load_ro, pick_eq, pickV_false, retV_ok, retVS_some, bi_lss, bi_gtr, un_not, bl_len, hintOf_some, cells_agg, Option.bind_some, clean_bool, clean_int, clean_str, cond_true, cond_false, QS_P, QS_hint, QS_spec, List.length_nil, List.drop, List.head?_cons, Bool.not_true, beq_self_eq_true, true_and, Nat.reduceBEq, Nat.reduceLT, nat_beq, rd_9, fa_51_0_r, fa_51_1_r, ln_9, h0, h3, hia, tagV, h85, hns, hb1, hi1, hb2, hi2, hb3, hi3]
      have hbad : tBad none t = false := by simp only [tBad, hb1, hb2, hb3, prevBad, Bool.not_true, Bool.or_false]
      refine W.cond (t := false) (by simp only [ev_tmp, nth_set, Nat.reduceBEq, cond_true, cond_false]) (W.skip ?_)
      simp only [block_normal, next_normal]
      refine W.reg ?_
      unfold k87_r5
      simp only [WP_nil, WP_always, stepK_some, nth_set, p_move, p_assign, p_bin, ev_tmp, ev_const, evc_eq, ofValue_int, retV_ok, bi_add, Option.bind_some, clean_int, cond_true, cond_false, QS_P, beq_self_eq_true, true_and, Nat.reduceBEq, Nat.reduceLT, h3, hwr0, next_normal]
      refine (ih [t] _ (some t.1) (by rw [hpre]; simp) (.inr ⟨[], t, rfl, rfl⟩) (by simp only [nth_set, Nat.reduceBEq, cond_false, *]) (by simp only [nth_set, Nat.reduceBEq, cond_true, cond_false]; rfl)).mono ?_
      simp only [rTags, hbad, cond_false]
      exact fun _ _ _ h => h
    · have hi3 : decide (0 < (q ++ [u]).length) = true := by simp
      have hat2 : l[q.length]? = some u := by rw [hpre]; simp
      have hia2 := fun lc => hl.at ia_38_l hat2 lc .i64
      have hws : IntKind.i64.wrap (((q ++ [u]).length : Int) - 1) = ((q.length : Nat) : Int) := by
        have : (q ++ [u]).length = q.length + 1 := by simp
        rw [this, wrap64_small (by omega) (by omega)]; omega
      have hi4 : ilt 0 ((q ++ [u]).length : Nat) = true := by rw [show (0 : Int) = ((0 : Nat) : Int) from rfl, ilt_nat]; simp
      simp only [WQ_nil, WQ_always, WQ_when, stepQ_some, whenQ_true, isStore, wantV_tt, wantV_ff, nth_set, p_move, p_pick, p_load, p_bin, p_un, p_fieldAddr, p_indexAddr, p_builtin, p_call, callee_func, ev_tmp, ev_const, evc_eq, evcs_nil, evcs_cons, ofValue_bool, ofValue_int, load_ro, pick_eq, pickV_true, pickV_false, retV_ok, retVS_some, bi_lss, bi_gtr, bi_sub, un_not, bl_len, hintOf_some, cells_agg, Option.bind_some, clean_bool, clean_int, clean_str, cond_true, cond_false, QS_P, QS_hint, QS_spec, List.drop, List.head?_cons, Bool.not_true, beq_self_eq_true, true_and, Nat.reduceBEq, Nat.reduceLT, nat_beq, bs_geq, rd_9, fa_51_0_r, fa_51_1_r, ln_9, h0, h3, hia, hia2, hws, tagV, h85, hns, hb1, hi1, hb2, hi2, hb3, hi4]
      cases hb4 : Op.bytesLess u.1 t.1 with
      | false =>
        refine (fin _ _ ?_).mono ?_
        · simp only [nth_set, Nat.reduceBEq, cond_true, cond_false, Bool.not_false]
        · rintro x fr s' ⟨rfl, rfl, hs, h⟩
          exact ⟨rfl, hs, .inr ⟨rfl, h, by simp only [rTags, tBad, prevBad, hb4, Bool.not_false, Bool.or_true, cond_true]⟩⟩
      | true =>
        have hbad : tBad (some u.1) t = false := by simp only [tBad, hb1, hb2, hb3, prevBad, hb4, Bool.not_true, Bool.or_false]
        refine W.cond (t := false) (by simp only [ev_tmp, nth_set, Nat.reduceBEq, cond_true, cond_false, Bool.not_true]) (W.skip ?_)
        simp only [block_normal, next_normal]
        refine W.reg ?_
        unfold k87_r5
        simp only [WP_nil, WP_always, stepK_some, nth_set, p_move, p_assign, p_bin, ev_tmp, ev_const, evc_eq, ofValue_int, retV_ok, bi_add, Option.bind_some, clean_int, cond_true, cond_false, QS_P, Bool.not_true, beq_self_eq_true, true_and, Nat.reduceBEq, Nat.reduceLT, h3, hwr, next_normal]
        refine (ih (q ++ [u] ++ [t]) _ (some t.1) (by rw [hpre]; simp) (.inr ⟨q ++ [u], t, rfl, rfl⟩) (by simp only [nth_set, Nat.reduceBEq, cond_false, *]) (by simp only [nth_set, Nat.reduceBEq, cond_true, cond_false, List.length_append, List.length_cons, List.length_nil])).mono ?_
        simp only [rTags, hbad, cond_false]
        exact fun _ _ _ h => h

theorem t11_run (h87 : sp 87 = none) {v : AVal} {l : List Tag} (hl : IsL 2 tagV v l) (hk : ∀ t ∈ l, t.1.length < small) (hsmall : l.length < small) {s : St} (hm : s.minw ≤ s.next) : RunC (QS sp) 87 [v] s (.bool (refTags l)) s := by
  have hlen := fun mk s => hl.len ln_38_n ln_38_l mk s
  have hcl := hl.clean
  have hil : ilt 60 (l.length : Nat) = decide (60 < l.length) := ilt_nat 60 _
  refine RunC.of2 k87_func k87_code k87_tmps k87_res h87 ?_
  unfold k87
  refine W.sreg ?_
  unfold k87_r0
  simp only [frame0, ofArgs, WP_nil, WP_always, stepK_some, p_assign, ev_const, ofValue_bool, retV_ok, cond_true, List.length_cons, List.length_nil, true_and, Nat.zero_add, Nat.reduceLT, Nat.reduceLeDiff, nat_ble, decide_true]
  refine W.seq (W.sreg ?_)
  unfold k87_r1
  simp only [WP_nil, WP_always, stepK_some, nth_set, p_move, p_bin, p_builtin, ev_tmp, ev_const, evc_eq, evcs_nil, evcs_cons, ofValue_int, retV_ok, retVS_some, bi_gtr, bl_len, hintOf_some, Option.bind_some, clean_int, cond_true, cond_false, QS_P, QS_hint, beq_self_eq_true, true_and, Nat.reduceBEq, Nat.reduceLT, nat_beq, hcl, hlen, hil]
  cases h60 : decide (60 < l.length) with
  | true =>
    refine W.cond (t := true) (by simp only [ev_tmp, nth_set, Nat.reduceBEq, cond_true, cond_false]) (W.sreg ?_)
    unfold k87_r2
    simp only [WP_nil, WP_always, stepK_some, p_assign, ev_const, ofValue_bool, retV_ok, true_and, Nat.reduceLT]
    refine W.ret ⟨rfl, .inr rfl, res_tmp ?_ rfl⟩
    simp only [nth_set, Nat.reduceBEq, cond_true, cond_false, refTags, h60]
  | false =>
    refine W.cond (t := false) (by simp only [ev_tmp, nth_set, Nat.reduceBEq, cond_true, cond_false]) (W.skip ?_)
    simp only [next_normal]
    refine W.seq (W.sreg ?_)
    unfold k87_r3
    simp only [WP_nil, WP_always, stepK_some, p_assign, ev_const, ofValue_int, retV_ok, true_and, Nat.reduceLT]
    refine W.block ?_
    refine (t11_loop h85 hl hk hsmall hm l [] _ none rfl (.inl ⟨rfl, rfl⟩) (by simp only [nth_set, Nat.reduceBEq, cond_true, cond_false, *]) (by simp only [nth_set, Nat.reduceBEq, cond_true, cond_false]; rfl)).mono ?_
    rintro x ⟨e, sz, lc⟩ s' ⟨rfl, hs, ⟨rfl, hok⟩ | ⟨rfl, h2, hok⟩⟩
    · have hs : sz = 56 := hs
      subst hs
      show W (QS sp) 87 _ _ _ _
      refine W.sreg ?_
      unfold k87_r8
      simp only [WP_nil, WP_always, stepK_some, p_assign, ev_const, ofValue_bool, retV_ok, true_and, Nat.reduceLT]
      refine W.ret ⟨rfl, .inr rfl, res_tmp ?_ rfl⟩
      simp only [nth_set, Nat.reduceBEq, cond_true, cond_false, refTags, h60, hok]
    · exact ⟨rfl, .inr rfl, res_tmp (by rw [h2]; simp only [refTags, h60, cond_false, hok]) rfl⟩
end
def t11Sp : Sp
  | [v] => (asL 2 asTag v).bind fun l => bif Nat.blt l.length small && smallTags l then some (.bool (refTags l)) else none
  | _ => none
theorem t11Sp_of {v : AVal} {l : List Tag} (h : IsL 2 tagV v l) (h1 : l.length < small) (h2 : ∀ t ∈ l, t.1.length < small) : t11Sp [v] = some (.bool (refTags l)) := by
  simp only [t11Sp, isL_asL asTag_tagV h, Option.bind_some, nat_blt, h1, decide_true, smallTags_of h2, Bool.and_self, cond_true]
def U2 : Tbl := (85, nameSp) :: U1
theorem U2_ok : TblOk U2 := .cons n08Sp_ok U1_ok
theorem t11Sp_ok : SpecOk Tryz.prog 87 t11Sp := by
  intro args u hv G h w xs wr hx
  unfold t11Sp at hv
  split at hv
  · rename_i v
    simp only [Option.bind_eq_some_iff] at hv
    obtain ⟨l, h1, hv⟩ := hv
    obtain ⟨h2, hv⟩ := bif_none hv
    injection hv with hv; subst hv
    simp only [Bool.and_eq_true] at h2
    have hl : IsL 2 tagV v l := asL_isL (fun _ _ => asTag_enc) h1
    obtain ⟨ht, hw⟩ := isL_top tagV_pure hl
    exact spec_of_run (Q := QT U2) (good_of U2_ok) (fun _ => Nat.zero_lt_succ 1) (args := [v]) (v := .bool (refTags l)) (s' := s0) (by simp only [tops, ht, Bool.and_self])
      (t11_run (sp := fun f => tblGet f U2) rfl rfl hw (smallTags_mem h2.2) (Nat.le_of_ble_eq_true h2.1) (Nat.le_refl _)) rfl ⟨1, rfl⟩ G h w xs wr hx
  · cases hv
end Go.Proofs.YtbfmdojdemckbaaGreat
