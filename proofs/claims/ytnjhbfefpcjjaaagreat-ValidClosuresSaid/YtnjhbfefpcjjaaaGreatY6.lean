/- The contract of valid.Close; the plain law of closures. -/
import Derived.Test.YtnjhbfefpcjjaaaGreatY5
/- valid.Close -/
namespace Go.Proofs.YtnjhbfefpcjjaaaGreat
open Go.Ag

theorem bs_22 {e : Env} {x : Operand} {a b c d f g : AVal} (h : ev e x = some (.agg [a, b, c, d, f, g])) (s : St) : buildSliceA Tryz.prog 22 1 [(0, x)] false e s = some (.list 6 [.agg [a, b, c, d, f, g]] .full, s) := by
  simp only [buildSliceA, el_22, Option.bind_some, fillA, evc, h, AVal.clean, cond_true, repCells, AVal.cells, List.length_cons, List.length_nil, writeCells, Nat.zero_mul, Nat.zero_add, Nat.reduceAdd, Nat.reduceMul, chunk, cut]
  rfl
theorem bs_25 {e : Env} {x : Operand} {a : Bytes} (h : ev e x = some (.str a)) (s : St) : buildSliceA Tryz.prog 25 1 [(0, x)] false e s = some (.list 1 [.str a] .full, s) := by
  simp only [buildSliceA, el_25, Option.bind_some, fillA, evc, h, AVal.clean, cond_true, repCells, AVal.cells, List.length_cons, List.length_nil, writeCells, Nat.zero_mul, Nat.zero_add, Nat.reduceMul, chunk, cut]
  rfl

def OutI (s : St) (ov : AVal) (acc : List Obj) : Prop := (ov = .nils ∧ acc = []) ∨ (acc ≠ [] ∧ ∃ k, ov = .list 6 (acc.map Obj.val) (.own k) ∧ s.get [] k = some .tok ∧ 5 ≤ k)
theorem OutI.clean {s : St} {ov : AVal} {acc : List Obj} (h : OutI s ov acc) : ov.clean = true := by
  rcases h with ⟨rfl, _⟩ | ⟨_, k, rfl, _⟩ <;> rfl
theorem OutI.cells {s : St} {ov : AVal} {acc : List Obj} (h : OutI s ov acc) : ov.cells = [ov] := by
  rcases h with ⟨rfl, _⟩ | ⟨_, k, rfl, _⟩ <;> rfl

theorem roomy_small {n b : Nat} (hn : n ≤ 1000000) (hb : b ≤ 88) : roomy n b = true := by
  unfold roomy
  apply Nat.ble_eq_true_of_le
  have : (n * 2 + 1024) * b ≤ 2001024 * 88 := Nat.mul_le_mul (by omega) hb
  omega
theorem app_out {s : St} {ov : AVal} {acc : List Obj} (h : OutI s ov acc) (hlen : acc.length < 1000000) (hn : 5 ≤ s.next) (o : Obj) :
    ∃ ov' s', appendA Tryz.prog [] 22 ov (.list 6 [o.val] .full) false s = some (ov', s') ∧ OutI s' ov' (acc ++ [o]) ∧ s'.ci = s.ci ∧ 5 ≤ s'.next ∧ ∀ n, n < 5 → s'.get [] n = s.get [] n := by
  rcases h with ⟨rfl, rfl⟩ | ⟨hne, k, rfl, hk, h5⟩
  · refine ⟨.list 6 [o.val] (.own s.next), s.new .tok, ?_, .inr ⟨by simp, s.next, rfl, ?_, hn⟩, rfl, Nat.le_succ_of_le hn, ?_⟩
    · have : roomy 1 88 = true := roomy_small (by omega) (by omega)
      simp only [appendA, el_22, Option.bind_some, elemsA, nat_beq, beq_self_eq_true, cond_true, appendTo, madeA, List.length_cons, List.length_nil, Nat.zero_add, this, cond_false]
    · rw [get_new, beq_self_eq_true]; rfl
    · intro n hn'
      rw [get_new, beq_eq_false_iff_ne.2 (by omega)]; rfl
  · refine ⟨.list 6 ((acc ++ [o]).map Obj.val) (.own s.next), (s.put k none).new .tok, ?_, .inr ⟨by simp, s.next, rfl, ?_, hn⟩, rfl, Nat.le_succ_of_le hn, ?_⟩
    · have : roomy (acc.length + 1) 88 = true := roomy_small (by omega) (by omega)
      simp only [appendA, el_22, Option.bind_some, elemsA, nat_beq, beq_self_eq_true, cond_true, appendTo, hk, List.length_map, List.length_cons, List.length_nil, Nat.zero_add, this, Bool.and_self, List.map_append, List.map_cons, List.map_nil]
    · rw [get_new, next_put, beq_self_eq_true]; rfl
    · intro n hn'
      rw [get_new, next_put, beq_eq_false_iff_ne.2 (by omega), cond_false, get_put, beq_eq_false_iff_ne.2 (by omega)]; rfl

theorem res_cell24 {Q : Prog} (hP : Q.P = Tryz.prog) {e : Env} {n : Nat} {lc : Ag.Loc} {s : St} {t : Tmp} {ov : AVal} (h : nth e t = .lref t 1 0) (hl : lc.get t 1 = some [ov]) : ∃ vs, resultsA Q [] ⟨e, n, lc⟩ s [.cell t 24] = some vs ∧ packA vs = .agg [ov] := by
  refine ⟨[.agg [ov]], ?_, rfl⟩
  simp only [resultsA, resultA, h, hP, load_loc, hl, Option.bind_some, rd_24, cut, List.drop_zero, List.take, nat_beq, List.length_cons, List.length_nil, beq_self_eq_true, cond_true, AVal.clean]

section
variable {sp : FuncId → Option (List AVal → Option AVal)}

theorem close_out {v : AVal} {l : List Obj} (hl : IsL 6 Obj.val v l) (hsmall : l.length ≤ 1000) (seen : List Bytes) : ∀ (rest pre : List Obj) (e : Env) (lc : Ag.Loc) (s : St) (ov : AVal) (acc : List Obj), l = pre ++ rest → acc.length ≤ pre.length →
    OutI s ov acc → 5 ≤ s.next → s.ci = 0 → s.get [] 3 = some (.cells [.map 2]) → s.get [] 2 = some (.map (ents 0 (setM seen)) (setM seen).length) →
    nth e 4 = .lref 4 1 0 → lc.gen 4 = 1 → lc.get 4 1 = some [.nils] → nth e 6 = .ptr 3 0 → nth e 10 = .lref 10 1 0 → lc.gen 10 = 1 → lc.get 10 1 = some [ov] → nth e 32 = v → nth e 33 = .int .i64 (l.length : Nat) → nth e 34 = .int .i64 (pre.length : Nat) →
    W (QS sp) 15 (.loop k15_l1) ⟨e, 50, lc⟩ s fun x fr s' => x = .exit 2 ∧ s'.ci = 0 ∧ fr.size = 50 ∧ ∃ ov', OutI s' ov' (acc ++ rest.filter fun o => seen.contains o.id) ∧ nth fr.env 4 = .lref 4 1 0 ∧ fr.loc.gen 4 = 1 ∧ fr.loc.get 4 1 = some [.nils] ∧ nth fr.env 10 = .lref 10 1 0 ∧ fr.loc.gen 10 = 1 ∧ fr.loc.get 10 1 = some [ov'] := by
  intro rest
  have hcl := hl.clean
  induction rest with
  | nil =>
    intro pre e lc s ov acc hpre hac hO hn hci g3 g2 h4 l4 b4 h6 h10 l10 b10 h32 h33 h34
    have hl : l.length = pre.length := by rw [hpre]; simp
    refine W.loop1 ?_
    unfold k15_l1
    refine W.sreg ?_
    unfold k15_r14
    simp only [WP_nil, WP_always, stepK_some, p_bin, ev_tmp, evc_eq, retV_ok, bi_lss, Option.bind_some, clean_int, cond_true, QS_P, ilt_nat, true_and, Nat.reduceLT, decide_false, h33, h34, hl, Nat.lt_irrefl]
    refine W.seq (W.cond (t := false) (by simp only [ev_tmp, nth_set, Nat.reduceBEq, cond_true, *]) ?_)
    refine W.exit ⟨rfl, hci, rfl, ov, by simpa using hO, ?_, l4, b4, ?_, l10, b10⟩ <;> simp only [nth_set, Nat.reduceBEq, cond_false, *]
  | cons o rest ih =>
    intro pre e lc s ov acc hpre hac hO hn hci g3 g2 h4 l4 b4 h6 h10 l10 b10 h32 h33 h34
    have hlt : pre.length < l.length := by rw [hpre]; simp
    have hat : l[pre.length]? = some o := by rw [hpre]; simp
    have hia := fun lc => hl.at ia_22_l hat lc .i64
    have hwr : IntKind.i64.wrap ((pre.length : Int) + 1) = ((pre.length + 1 : Nat) : Int) := by rw [wrap64_small (by omega) (by omega)]; omega
    have hlk := lookup_ents eq_9 mp_46 zr_4 g2 o.id
    rw [look_setD] at hlk
    have hco := hO.clean
    have hcc := hO.cells
    refine W.loop1 ?_
    unfold k15_l1
    refine W.sreg ?_
    unfold k15_r14
    simp only [WP_nil, WP_always, stepK_some, p_bin, ev_tmp, evc_eq, retV_ok, bi_lss, Option.bind_some, clean_int, cond_true, QS_P, ilt_nat, true_and, Nat.reduceLT, decide_true, h33, h34, hlt]
    refine W.seq (W.cond (t := true) (by simp only [ev_tmp, nth_set, Nat.reduceBEq, cond_true, *]) (W.skip ?_))
    simp only [next_normal]
    refine W.seq (W.block (W.sreg ?_))
    unfold k15_r15
    simp only [WP_nil, WP_always, WP_always0, stepK_some, stepK0_some, nth_set, loc_set', loc_set_set, p_alloc, p_load, p_store, p_indexAddr, ev_tmp, evc_eq, boxA_loc, load_ro, retV_ok, hintOf_some, cells_agg, store_loc, Option.bind_some, clean_agg, cond_true, cond_false, QS_P, QS_hint, List.length_cons, List.length_nil, cut, writeCells, List.take, List.drop, List.take_succ_cons, List.nil_append, List.cons_append, beq_self_eq_true, true_and, Nat.zero_add, Nat.reduceBEq, Nat.reduceLT, Nat.reduceAdd, Nat.reduceLeDiff, Bool.and_true, nat_beq, nat_blt, nat_ble, decide_true, rd_51, sz_51, zr_51, hint_15_12, h32, h34, hia, Obj.val, Obj.cells]
    refine W.sreg ?_
    unfold k15_r16
    simp only [WP_nil, WP_always, stepK_some, nth_set, gen_set', loc_set', p_load, p_fieldAddr, p_lookup, ev_tmp, evc_eq, load_loc, retV_ok, Option.bind_some, clean_str, clean_map, cond_true, cond_false, QS_P, List.drop, List.head?_cons, beq_self_eq_true, true_and, Nat.add_zero, Nat.reduceBEq, Nat.reduceLT, nat_beq, rd_9, rd_46, fa_51_0_l, h6, load_ptr, loadO_cells, g3, hlk]
    cases hs : seen.contains o.id with
    | true =>
      obtain ⟨ov', s', happ, hO', hci', hn', hget⟩ := app_out hO (by omega) hn o
      have hcc' := hO'.cells
      have hco' := hO'.clean
      simp only [Obj.val, Obj.cells] at happ
      refine W.cond (t := true) (by simp only [ev_tmp, nth_set, Nat.reduceBEq, cond_true, cond_false]) (W.reg ?_)
      unfold k15_r17
      have hbs : ∀ e s, nth e 44 = .agg [.str o.id, .int .i64 o.kind, .int .i64 o.x, .int .i64 o.y, o.refsV, o.tagsV] → buildSliceA Tryz.prog 22 1 [(0, .tmp 44)] false e s = some (.list 6 [.agg [.str o.id, .int .i64 o.kind, .int .i64 o.x, .int .i64 o.y, o.refsV, o.tagsV]] .full, s) := fun e s h => bs_22 (by rw [ev_tmp, h]) s
      simp only [WP_nil, WP_always, WP_always0, stepK_some, stepK0_some, nth_set, gen_set', loc_set', p_buildSlice, p_load, p_store, p_fieldAddr, p_builtin, ev_tmp, evc_eq, evcs_nil, evcs_cons, load_loc, retV_ok, retVS_some, bl_append, hintOf_some, store_loc, Option.bind_some, clean_list, cond_true, cond_false, QS_P, QS_hint, List.length_cons, List.length_nil, cut, writeCells, List.take, List.drop, List.head?_cons, List.nil_append, List.cons_append, beq_self_eq_true, true_and, Nat.zero_add, Nat.add_zero, Nat.reduceBEq, Nat.reduceLT, Nat.reduceAdd, Nat.reduceLeDiff, Bool.and_true, nat_beq, nat_blt, nat_ble, decide_true, rd_22, rd_51, sz_22, fa_24_0_l, is_22, hint_15_45, hint_15_46, h10, l10, b10, hco, hbs, happ, hcc', hco', block_normal, next_normal]
      refine W.reg ?_
      unfold k15_r18
      simp only [WP_nil, WP_always, stepK_some, nth_set, p_move, p_bin, ev_tmp, ev_const, evc_eq, ofValue_int, retV_ok, bi_add, Option.bind_some, clean_int, cond_true, cond_false, QS_P, beq_self_eq_true, true_and, Nat.reduceBEq, Nat.reduceLT, h34, hwr, next_normal]
      have hf : acc ++ List.filter (fun o => seen.contains o.id) (o :: rest) = (acc ++ [o]) ++ List.filter (fun o => seen.contains o.id) rest := by
        simp only [List.filter_cons, hs, if_true, List.append_assoc, List.cons_append, List.nil_append]
      rw [hf]
      refine ih (pre ++ [o]) _ _ s' ov' (acc ++ [o]) (by rw [hpre]; simp) (by simp; omega) hO' hn' (hci'.trans hci) ((hget 3 (by omega)).trans g3) ((hget 2 (by omega)).trans g2) (by simp only [nth_set, Nat.reduceBEq, cond_false, *]) ?_ ?_ (by simp only [nth_set, Nat.reduceBEq, cond_false, *]) (by simp only [nth_set, Nat.reduceBEq, cond_false, *]) ?_ ?_ (by simp only [nth_set, Nat.reduceBEq, cond_false, *]) (by simp only [nth_set, Nat.reduceBEq, cond_false, *]) ?_
      · simp only [gen_set', Nat.reduceBEq, cond_false, l4]
      · simp only [loc_set', Nat.reduceBEq, cond_false, b4]
      · simp only [gen_set', Nat.reduceBEq, cond_true]
      · simp only [loc_set', Nat.reduceBEq, cond_true]
      · simp only [nth_set, Nat.reduceBEq, cond_true, cond_false, List.length_append, List.length_cons, List.length_nil]
    | false =>
      refine W.cond (t := false) (by simp only [ev_tmp, nth_set, Nat.reduceBEq, cond_true, cond_false]) (W.skip ?_)
      simp only [block_normal, next_normal]
      refine W.reg ?_
      unfold k15_r18
      simp only [WP_nil, WP_always, stepK_some, nth_set, p_move, p_bin, ev_tmp, ev_const, evc_eq, ofValue_int, retV_ok, bi_add, Option.bind_some, clean_int, cond_true, cond_false, QS_P, beq_self_eq_true, true_and, Nat.reduceBEq, Nat.reduceLT, h34, hwr, next_normal]
      have hf : List.filter (fun o => seen.contains o.id) (o :: rest) = List.filter (fun o => seen.contains o.id) rest := by
        simp only [List.filter_cons, hs, Bool.false_eq_true, if_false]
      rw [hf]
      refine ih (pre ++ [o]) _ _ s ov acc (by rw [hpre]; simp) (by simp; omega) hO hn hci g3 g2 (by simp only [nth_set, Nat.reduceBEq, cond_false, *]) ?_ ?_ (by simp only [nth_set, Nat.reduceBEq, cond_false, *]) (by simp only [nth_set, Nat.reduceBEq, cond_false, *]) ?_ ?_ (by simp only [nth_set, Nat.reduceBEq, cond_false, *]) (by simp only [nth_set, Nat.reduceBEq, cond_false, *]) ?_
      · simp only [gen_set', Nat.reduceBEq, cond_false, l4]
      · simp only [loc_set', Nat.reduceBEq, cond_false, b4]
      · simp only [gen_set', Nat.reduceBEq, cond_false, l10]
      · simp only [loc_set', Nat.reduceBEq, cond_false, b10]
      · simp only [nth_set, Nat.reduceBEq, cond_true, cond_false, List.length_append, List.length_cons, List.length_nil]

theorem close_ids (h42 : sp 42 = none) {v : AVal} {ids : List Bytes} (hi : IsL 1 strV v ids) (hsmall : ids.length < small) {L : List (Bytes × AVal)} {U : List Bytes} {oo : Bytes → Obj} (hL : ∀ id, (look id L).getD zeroObj.val = (oo id).val) (hg : ∀ id, (oo id).Good) (hU : ∀ x, ∀ r ∈ (oo x).refs, r ∈ U) (hI : ∀ x ∈ ids, x ∈ U) {lc : Ag.Loc} :
    ∀ (rest pre : List Bytes) (e : Env) (s : St) (seen : List Bytes), ids = pre ++ rest → Add s 3 1 4 2 0 L seen → s.ci = 0 → s.next = 5 → (∀ x ∈ seen, Reach (fun x => (oo x).refs) ids x) → (∀ x ∈ seen, ∀ r ∈ (oo x).refs, r ∈ seen) → (∀ x ∈ pre, x ∈ seen) →
    nth e 2 = .lref 2 1 0 → nth e 4 = .lref 4 1 0 → nth e 6 = .ptr 3 0 → nth e 7 = .ptr 4 0 → nth e 21 = v → nth e 22 = .int .i64 (ids.length : Nat) → nth e 23 = .int .i64 (pre.length : Nat) →
    W (QS sp) 15 (.loop k15_l0) ⟨e, 50, lc⟩ s fun x fr s' => x = .exit 0 ∧ s'.ci = 0 ∧ s'.next = 5 ∧ ∃ e' seen', fr = ⟨e', 50, lc⟩ ∧ Add s' 3 1 4 2 0 L seen' ∧ (∀ x ∈ seen', Reach (fun x => (oo x).refs) ids x) ∧ (∀ x ∈ seen', ∀ r ∈ (oo x).refs, r ∈ seen') ∧ (∀ x ∈ ids, x ∈ seen') ∧ nth e' 2 = .lref 2 1 0 ∧ nth e' 4 = .lref 4 1 0 ∧ nth e' 6 = .ptr 3 0 := by
  intro rest
  have hcl := hi.clean
  have hsm : small = 9223372036854775808 := rfl
  induction rest with
  | nil =>
    intro pre e s seen hpre a hci hnx rc cl pr h2 h4 h6 h7 h21 h22 h23
    have hl : ids.length = pre.length := by rw [hpre]; simp
    refine W.loop1 ?_
    unfold k15_l0
    refine W.sreg ?_
    unfold k15_r8
    simp only [WP_nil, WP_always, stepK_some, p_bin, ev_tmp, evc_eq, retV_ok, bi_lss, Option.bind_some, clean_int, cond_true, QS_P, ilt_nat, true_and, Nat.reduceLT, decide_false, h22, h23, hl, Nat.lt_irrefl]
    refine W.seq (W.cond (t := false) (by simp only [ev_tmp, nth_set, Nat.reduceBEq, cond_true, *]) ?_)
    refine W.exit ⟨rfl, hci, hnx, _, seen, rfl, a, rc, cl, fun x hx => pr x (by rw [hpre] at hx; simpa using hx), ?_, ?_, ?_⟩ <;> simp only [nth_set, Nat.reduceBEq, cond_false, *]
  | cons r rest ih =>
    intro pre e s seen hpre a hci hnx rc cl pr h2 h4 h6 h7 h21 h22 h23
    have hlt : pre.length < ids.length := by rw [hpre]; simp
    have hat : ids[pre.length]? = some r := by rw [hpre]; simp
    have hmem : r ∈ ids := by rw [hpre]; simp
    have hia := fun lc => hi.at ia_25_l hat lc .i64
    have hwr : IntKind.i64.wrap ((pre.length : Int) + 1) = ((pre.length + 1 : Nat) : Int) := by rw [wrap64_small (by omega) (by omega)]; omega
    have had := a.had
    obtain ⟨u, s2, hr, rfl, e1, e2, seen2, a2, r2⟩ := add_run h42 hL hg hU (left U seen + 1) s seen r a (hI r hmem) (Nat.lt_succ_self _)
    refine W.loop1 ?_
    unfold k15_l0
    refine W.sreg ?_
    unfold k15_r8
    simp only [WP_nil, WP_always, stepK_some, p_bin, ev_tmp, evc_eq, retV_ok, bi_lss, Option.bind_some, clean_int, cond_true, QS_P, ilt_nat, true_and, Nat.reduceLT, decide_true, h22, h23, hlt]
    refine W.seq (W.cond (t := true) (by simp only [ev_tmp, nth_set, Nat.reduceBEq, cond_true, *]) (W.skip ?_))
    simp only [next_normal]
    refine W.seq (W.block (W.sreg ?_))
    unfold k15_r9
    simp only [WP_nil, WP_always, stepK_some, nth_set, p_assign, p_load, p_indexAddr, ev_tmp, load_ro, retV_ok, cells_str, Option.bind_some, cond_true, cond_false, QS_P, List.drop, List.head?_cons, beq_self_eq_true, true_and, Nat.reduceBEq, Nat.reduceLT, rd_9, h21, h23, hia, strV]
    refine W.region (WL_split 2 ?_)
    unfold k15_r10
    simp only [WP_nil, WP_always, stepK_some, nth_set, p_move, p_load, ev_tmp, retV_ok, Option.bind_some, cond_true, cond_false, QS_P, List.take, List.drop, List.head?_cons, beq_self_eq_true, true_and, Nat.reduceBEq, Nat.reduceLT, rd_74, h7, load_ptr, loadO_cells, had, addV]
    refine WL_call (g := 42) (args := [.str r, .ptr 3 0, .ptr 1 0, .ptr 4 0]) ?_ hr (by decide) ?_
    · simp only [callee, nth_set, ev_tmp, evc_eq, evcs_nil, evcs_cons, Option.bind_some, clean_str, cond_true, cond_false, List.nil_append, List.cons_append, beq_self_eq_true, Nat.reduceBEq]
    refine WL_WP ?_
    simp only [WP_nil, block_normal, next_normal]
    refine W.reg ?_
    unfold k15_r11
    simp only [WP_nil, WP_always, stepK_some, nth_set, p_move, p_bin, ev_tmp, ev_const, evc_eq, ofValue_int, retV_ok, bi_add, Option.bind_some, clean_int, cond_true, cond_false, QS_P, beq_self_eq_true, true_and, Nat.reduceBEq, Nat.reduceLT, h23, hwr, next_normal]
    refine ih (pre ++ [r]) _ s2 seen2 (by rw [hpre]; simp) a2 (e1.trans hci) (e2.trans hnx) ?_ ?_ ?_ (by simp only [nth_set, Nat.reduceBEq, cond_false, *]) (by simp only [nth_set, Nat.reduceBEq, cond_false, *]) (by simp only [nth_set, Nat.reduceBEq, cond_false, *]) (by simp only [nth_set, Nat.reduceBEq, cond_false, *]) (by simp only [nth_set, Nat.reduceBEq, cond_false, *]) (by simp only [nth_set, Nat.reduceBEq, cond_false, *]) (by simp only [nth_set, Nat.reduceBEq, cond_true, cond_false, List.length_append, List.length_cons, List.length_nil])
    · intro x hx
      rcases r2.reach x hx with h | h
      · exact rc x h
      · refine h.sub ?_
        intro y hy
        rw [List.mem_singleton.1 hy]
        exact .base hmem
    · intro x hx
      rcases r2.closed x hx with h | h
      · exact fun q hq => r2.sub q (cl x h q hq)
      · exact h
    · intro x hx
      rcases List.mem_append.1 hx with h | h
      · exact r2.sub x (pr x h)
      · rw [List.mem_singleton.1 h]; exact r2.self
end

open Classical in
noncomputable def closeL (l : List Obj) (ids : List Bytes) : List Obj := if mapValid l = true then l.filter fun o => decide (Reach (refsOf l) ids o.id) else []
def mapV : List Obj → AVal
  | [] => .agg [.nils]
  | o :: l => .agg [.list 6 ((o :: l).map Obj.val) .no]

section
variable {sp : FuncId → Option (List AVal → Option AVal)} (h23 : sp 23 = some mapSp) (h41 : sp 41 = none) (h42 : sp 42 = none)
include h23 h41 h42
theorem close_run (h15 : sp 15 = none) {v u : AVal} {l : List Obj} {ids : List Bytes} (hl : IsL 6 Obj.val v l) (hk : ∀ o ∈ l, o.Good) (hsmall : l.length ≤ 1000) (hi : IsL 1 strV u ids) (hismall : ids.length < small) :
    ∃ x s', RunC (QS sp) 15 [.agg [v], u] s0 x s' ∧ (s'.ci = 0 ∧ ∃ ov, x = .agg [ov] ∧ OutI s' ov (closeL l ids)) := by
  have hsm : small = 9223372036854775808 := rfl
  have hls : l.length < small := by omega
  have hlen := fun mk s => hl.len ln_22_n ln_22_l mk s
  have ilen := fun mk s => hi.len ln_25_n ln_25_l mk s
  have hcl := hl.clean
  have icl := hi.clean
  have hms := mapSp_of hl hk hls
  refine RunC.ofEx k15_func k15_code k15_tmps k15_res h15 ?_
  unfold k15
  refine W.sreg ?_
  unfold k15_r0
  simp only [frame0, ofArgs, WP_nil, WP_always, stepK_some, nth_set, gen_nil, gen_set', p_alloc, p_box, ev_tmp, evc_eq, boxA_loc, hintOf_some, cells_agg, Option.bind_some, clean_agg, cond_true, cond_false, QS_P, QS_hint, List.length_cons, List.length_nil, beq_self_eq_true, true_and, Nat.zero_add, Nat.reduceBEq, Nat.reduceLT, Nat.reduceAdd, Nat.reduceLeDiff, nat_ble, decide_true, zr_24, hint_15_2, hint_15_4]
  refine W.seq (W.sreg ?_)
  unfold k15_r1
  simp only [WP_nil, WP_always, stepK_some, nth_set, loc_set', p_load, p_un, p_call, callee_func, ev_tmp, evc_eq, evcs_nil, evcs_cons, load_loc, retV_ok, un_not, Option.bind_some, clean_bool, clean_agg, cond_true, cond_false, QS_P, QS_spec, List.length_cons, List.length_nil, cut, List.take, List.drop, beq_self_eq_true, true_and, Nat.zero_add, Nat.reduceBEq, Nat.reduceLT, nat_beq, rd_24, h23, hms]
  cases hv : mapValid l with
  | false =>
    refine W.cond (t := true) (by simp only [ev_tmp, nth_set, Nat.reduceBEq, cond_true, cond_false, Bool.not_false]) (W.sreg ?_)
    unfold k15_r2
    simp only [WP_nil, WP_always, WP_always0, stepK_some, stepK0_some, nth_set, loc_set', loc_set_set, p_build, p_store, ev_tmp, evc_eq, retV_ok, cells_agg, store_loc, Option.bind_some, clean_agg, cond_true, cond_false, QS_P, List.length_cons, List.length_nil, writeCells, List.take, List.drop, List.nil_append, List.cons_append, Bool.not_false, beq_self_eq_true, true_and, Nat.zero_add, Nat.reduceBEq, Nat.reduceLT, Nat.reduceLeDiff, Bool.and_true, nat_beq, nat_blt, nat_ble, decide_true, bd_24, sz_24, zr_24, fillA]
    refine W.ret ⟨.inr rfl, .agg [.nils], res_cell24 rfl ?_ ?_, rfl, .nils, rfl, .inl ⟨rfl, ?_⟩⟩
    · simp only [nth_set, Nat.reduceBEq, cond_true, cond_false, *]
    · simp only [loc_set', Nat.reduceBEq, cond_true, cond_false]
    · simp only [closeL, hv, Bool.false_eq_true, if_false]
  | true =>
  refine W.cond (t := false) (by simp only [ev_tmp, nth_set, Nat.reduceBEq, cond_true, cond_false, Bool.not_true]) (W.skip ?_)
  simp only [next_normal]
  obtain ⟨mv, s1, hr1, rfl, n1, c1, keep1, g1⟩ := objects_run (sp := sp) h41 hl hls s0
  have n0 : s0.next = 0 := rfl
  rw [n0] at n1 g1
  have c0 : s0.ci = 0 := rfl
  rw [c0] at c1
  refine W.seq (W.region (WL_split 1 ?_))
  unfold k15_r3
  simp only [WP_nil, WP_always, stepK_some, nth_set, loc_set', p_load, ev_tmp, load_loc, retV_ok, Option.bind_some, cond_true, cond_false, QS_P, List.length_cons, List.length_nil, cut, List.take, List.drop, Bool.not_true, beq_self_eq_true, true_and, Nat.zero_add, Nat.reduceBEq, Nat.reduceLT, nat_beq, rd_24]
  refine WL_call (g := 41) ?_ hr1 (by decide) ?_
  · simp only [callee_func, nth_set, callee_func, ev_tmp, evc_eq, evcs_nil, evcs_cons, Option.bind_some, clean_agg, cond_true, cond_false, beq_self_eq_true, Nat.reduceBEq]
  refine WL_WP ?_
  simp only [WP_nil, WP_always, WP_always0, stepK_some, stepK0_some, nth_set, p_alloc, p_store, ev_tmp, evc_eq, boxA_heap, hintOf_some, Option.bind_some, clean_map, cond_true, cond_false, QS_P, QS_hint, List.length_cons, List.length_nil, writeCells, List.take, List.drop, List.drop_succ_cons, List.nil_append, List.append_nil, beq_self_eq_true, true_and, Nat.zero_add, Nat.reduceBEq, Nat.reduceLT, Nat.reduceLeDiff, Bool.and_true, nat_beq, nat_blt, nat_ble, decide_true, sz_72, zr_72, hint_15_5, n0, n1, store_ptr', get_new, storeO_cells, AVal.cells, next_normal]
  refine W.sreg ?_
  unfold k15_r4
  simp only [WP_nil, WP_always, WP_always0, stepK_some, stepK0_some, nth_set, p_alloc, p_store, p_makeMap, ev_tmp, evc_eq, boxA_heap, retVS_some, hintOf_some, Option.bind_some, clean_map, cond_true, cond_false, QS_P, QS_hint, List.length_cons, List.length_nil, writeCells, List.take, List.drop, List.drop_succ_cons, List.nil_append, List.append_nil, beq_self_eq_true, true_and, Nat.zero_add, Nat.reduceBEq, Nat.reduceLT, Nat.reduceAdd, Nat.reduceLeDiff, Bool.and_true, nat_beq, nat_blt, nat_ble, decide_true, sz_46, zr_46, hint_15_6, mm_none, next_new, next_put, n1, store_ptr', get_new, get_put, storeO_cells, AVal.cells]
  refine W.sreg ?_
  unfold k15_r5
  simp only [WP_nil, WP_always, stepK_some, p_alloc, boxA_heap, hintOf_some, Option.bind_some, QS_P, QS_hint, true_and, Nat.zero_add, Nat.reduceLT, Nat.reduceAdd, zr_74, hint_15_7, next_new, next_put, n1, AVal.cells]
  refine W.sreg ?_
  unfold k15_r6
  simp only [WP_nil, WP_always, WP_always0, stepK_some, stepK0_some, nth_set, p_store, p_makeFunc, ev_tmp, evc_eq, evcs_nil, evcs_cons, retV_ok, Option.bind_some, clean_ptr, clean_func, cond_true, cond_false, QS_P, List.length_cons, List.length_nil, writeCells, List.take, List.drop, List.drop_succ_cons, List.nil_append, List.append_nil, beq_self_eq_true, true_and, Nat.zero_add, Nat.reduceBEq, Nat.reduceLT, Nat.reduceAdd, Nat.reduceLeDiff, Bool.and_true, nat_beq, nat_blt, nat_ble, decide_true, sz_74, makeFuncA, next_new, next_put, n1, store_ptr', get_new, get_put, storeO_cells, AVal.cells]
  have hst : ∃ s5, ((((((s1.new (.cells [.nilm])).put 1 (some (.cells [.map 0]))).new (.map [] 0)).new (.cells [.nilm])).put 3 (some (.cells [.map 2]))).new (.cells [.nilf])).put 4 (some (.cells [addV 3 1 4])) = s5 ∧ Add s5 3 1 4 2 0 (addAll [] l) [] ∧ s5.ci = 0 ∧ s5.next = 5 := by
    refine ⟨_, rfl, ⟨?_, ?_, ?_, ?_, ?_, rfl, rfl, rfl, rfl⟩, c1, ?_⟩
    · simp only [get_new, get_put, next_new, next_put, n1, Nat.reduceBEq, Nat.reduceAdd, cond_true, cond_false]
    · simp only [get_new, get_put, next_new, next_put, n1, Nat.reduceBEq, Nat.reduceAdd, cond_true, cond_false]
    · simp only [get_new, get_put, next_new, next_put, n1, Nat.reduceBEq, Nat.reduceAdd, cond_true, cond_false]
    · simp only [get_new, get_put, next_new, next_put, n1, Nat.reduceBEq, Nat.reduceAdd, cond_true, cond_false]; rfl
    · simp only [get_new, get_put, next_new, next_put, n1, Nat.reduceBEq, Nat.reduceAdd, cond_false, g1]
    · simp only [next_new, next_put, n1, Nat.reduceAdd]
  obtain ⟨s5, e5, a5, c5, n5⟩ := hst
  simp only [addV] at e5
  rw [e5]
  have hL : ∀ id, (look id (addAll [] l)).getD zeroObj.val = (objOf l id).val := fun id => look_addAll id l [] zeroObj rfl
  have hg : ∀ id, (objOf l id).Good := by
    intro id
    rcases lastOf_mem id l zeroObj with h | ⟨h, _⟩
    · unfold objOf; rw [h]; exact zeroObj_good
    · exact hk _ h
  have hU : ∀ x, ∀ r ∈ (objOf l x).refs, r ∈ ids ++ l.flatMap Obj.refs := by
    intro x r hr
    rcases lastOf_mem x l zeroObj with h | ⟨h, _⟩
    · unfold objOf at hr; rw [h] at hr; cases hr
    · exact List.mem_append.2 (.inr (List.mem_flatMap.2 ⟨_, h, hr⟩))
  refine W.seq (W.sreg ?_)
  unfold k15_r7
  simp only [WP_nil, WP_always, stepK_some, nth_set, p_move, p_builtin, ev_tmp, ev_const, evc_eq, evcs_nil, evcs_cons, ofValue_int, retV_ok, retVS_some, bl_len, hintOf_some, Option.bind_some, cond_true, cond_false, QS_P, QS_hint, beq_self_eq_true, true_and, Nat.reduceBEq, Nat.reduceLT, nat_beq, icl, ilen]
  refine W.block ?_
  refine (close_ids h42 hi hismall hL hg hU (fun x hx => List.mem_append.2 (.inl hx)) ids [] _ s5 [] rfl a5 c5 n5 (fun _ h => by cases h) (fun _ h => by cases h) (fun _ h => by cases h) (by simp only [nth_set, Nat.reduceBEq, cond_true, cond_false, *]) (by simp only [nth_set, Nat.reduceBEq, cond_true, cond_false, *]) (by simp only [nth_set, Nat.reduceBEq, cond_true, cond_false, *]) (by simp only [nth_set, Nat.reduceBEq, cond_true, cond_false, *]) (by simp only [nth_set, Nat.reduceBEq, cond_true, cond_false, *]) (by simp only [nth_set, Nat.reduceBEq, cond_true, cond_false, *]) (by simp only [nth_set, Nat.reduceBEq, cond_true, cond_false]; rfl)).mono ?_
  rintro x fr s6 ⟨rfl, c6, n6, e6, seen, rfl, a6, rc, cl, pr, h2, h4, h6⟩
  show W (QS sp) 15 _ _ _ _
  have hseen : ∀ x, seen.contains x = true ↔ Reach (refsOf l) ids x := by
    intro x
    rw [List.contains_iff_mem]
    constructor
    · exact rc x
    · intro h
      induction h with
      | base h => exact pr _ h
      | step _ h ih => exact cl _ ih _ h
  refine W.sreg ?_
  unfold k15_r12
  simp only [WP_nil, WP_always, stepK_some, gen_nil, gen_set', p_alloc, boxA_loc, hintOf_some, Option.bind_some, cond_false, QS_P, QS_hint, true_and, Nat.zero_add, Nat.reduceBEq, Nat.reduceLT, zr_24, hint_15_10, AVal.cells]
  refine W.seq (W.sreg ?_)
  unfold k15_r13
  simp only [WP_nil, WP_always, stepK_some, nth_set, gen_nil, gen_set', loc_set', p_move, p_load, p_fieldAddr, p_builtin, ev_tmp, ev_const, evc_eq, evcs_nil, evcs_cons, ofValue_int, load_loc, retV_ok, retVS_some, bl_len, hintOf_some, Option.bind_some, cond_true, cond_false, QS_P, QS_hint, List.drop, List.head?_cons, beq_self_eq_true, true_and, Nat.add_zero, Nat.reduceBEq, Nat.reduceLT, nat_beq, rd_22, fa_24_0_l, hint_15_33, h2, gen_nil, hcl, hlen]
  refine W.block ?_
  refine (close_out hl hsmall seen l [] _ _ s6 .nils [] rfl (Nat.le_refl _) (.inl ⟨rfl, rfl⟩) (by omega) c6 a6.hin a6.hmi (by simp only [nth_set, Nat.reduceBEq, cond_false, *]) ?_ ?_ (by simp only [nth_set, Nat.reduceBEq, cond_false, *]) (by simp only [nth_set, Nat.reduceBEq, cond_true, cond_false, *]) ?_ ?_ (by simp only [nth_set, Nat.reduceBEq, cond_true, cond_false, *]) (by simp only [nth_set, Nat.reduceBEq, cond_true, cond_false, *]) (by simp only [nth_set, Nat.reduceBEq, cond_true, cond_false]; rfl)).mono ?_
  · simp only [gen_nil, gen_set', Nat.reduceBEq, cond_true, cond_false]
  · simp only [loc_set', Nat.reduceBEq, cond_true, cond_false]
  · simp only [gen_nil, gen_set', Nat.reduceBEq, cond_true, cond_false]
  · simp only [loc_set', Nat.reduceBEq, cond_true, cond_false]
  rintro x ⟨e7, sz, lc⟩ s7 ⟨rfl, c7, hs7, ov, hO, q4, ql4, qb4, q10, ql10, qb10⟩
  show W (QS sp) 15 _ _ _ _
  have hs7 : sz = 50 := hs7
  subst hs7
  have q4 : nth e7 4 = .lref 4 1 0 := q4
  have ql4 : lc.gen 4 = 1 := ql4
  have qb4 : lc.get 4 1 = some [.nils] := qb4
  have q10 : nth e7 10 = .lref 10 1 0 := q10
  have ql10 : lc.gen 10 = 1 := ql10
  have qb10 : lc.get 10 1 = some [ov] := qb10
  refine W.sreg ?_
  unfold k15_r19
  simp only [WP_nil, WP_always, WP_always0, stepK_some, stepK0_some, nth_set, p_load, p_store, ev_tmp, evc_eq, load_loc, retV_ok, cells_agg, store_loc, Option.bind_some, clean_agg, cond_true, cond_false, QS_P, List.length_cons, List.length_nil, cut, writeCells, List.take, List.drop, List.nil_append, List.cons_append, beq_self_eq_true, true_and, Nat.zero_add, Nat.reduceBEq, Nat.reduceLT, Nat.reduceLeDiff, Bool.and_true, nat_beq, nat_blt, nat_ble, decide_true, rd_24, sz_24, q10, qb10, q4, qb4]
  refine W.ret ⟨.inr rfl, .agg [ov], res_cell24 rfl ?_ ?_, c7, ov, rfl, ?_⟩
  · simp only [nth_set, Nat.reduceBEq, cond_false, *]
  · simp only [loc_set', Nat.reduceBEq, cond_true]
  · have hf : closeL l ids = l.filter fun o => seen.contains o.id := by
      classical
      simp only [closeL, hv, if_true]
      apply List.filter_congr
      intro o _
      rw [Bool.eq_iff_iff, decide_eq_true_eq]
      exact (hseen o.id).symm
    rw [hf]
    simpa using hO
end

theorem frz_strs (h : Trie AObj) (k : Nat) : ∀ l : List Bytes, frzL (frz h (k + 1)) (l.map strV) = some (l.map strV)
  | [] => rfl
  | a :: l => by
    simp only [List.map_cons, frzL, frz_strs h k l]; rfl
theorem frz_tagsL (h : Trie AObj) (k : Nat) : ∀ l : List Tag, frzL (frz h (k + 2)) (l.map tagV) = some (l.map tagV)
  | [] => rfl
  | a :: l => by
    simp only [List.map_cons, frzL, frz_tagsL h k l]; rfl
theorem frz_isL {α : Type} {n : Nat} {enc : α → AVal} {v : AVal} {l : List α} (h : IsL n enc v l) (hp : pureV v = true) {hh : Trie AObj} {k : Nat} (hf : frzL (frz hh k) (l.map enc) = some (l.map enc)) : frz hh (k + 1) v = some v := by
  rcases h with ⟨rfl, rfl⟩ | ⟨r, rfl⟩
  · rfl
  · simp only [frz, hf, Option.bind_some]
    cases r with
    | own n => simp [pureV] at hp
    | full => rfl
    | no => rfl
theorem frz_obj {o : Obj} (h : o.Good) (hh : Trie AObj) (k : Nat) : frz hh (k + 4) o.val = some o.val := by
  have h1 : frz hh (k + 3) o.refsV = some o.refsV := frz_isL h.refs h.pr (frz_strs hh (k + 1) o.refs)
  have h2 : frz hh (k + 3) o.tagsV = some o.tagsV := frz_isL h.tags h.pt (frz_tagsL hh k o.tags)
  show (frzL (frz hh (k + 3)) o.cells).bind _ = _
  simp only [Obj.cells, frzL, h1, h2]
  rfl
theorem frz_objs (hh : Trie AObj) (k : Nat) : ∀ {l : List Obj}, (∀ o ∈ l, o.Good) → frzL (frz hh (k + 4)) (l.map Obj.val) = some (l.map Obj.val)
  | [], _ => rfl
  | o :: l, h => by
    have ih := frz_objs hh k (l := l) fun o ho => h o (List.mem_cons_of_mem _ ho)
    simp only [List.map_cons, frzL, frz_obj (h o List.mem_cons_self) hh k, ih, Option.bind_some]
theorem frz_out {s : St} {ov : AVal} {l : List Obj} (h : OutI s ov l) (hg : ∀ o ∈ l, o.Good) : Frz s.heap (.agg [ov]) (mapV l) := by
  rcases h with ⟨rfl, rfl⟩ | ⟨hne, k, rfl, _⟩
  · exact ⟨2, rfl⟩
  · cases l with
    | nil => exact absurd rfl hne
    | cons o l =>
      refine ⟨6, ?_⟩
      have e1 : frz s.heap 5 (.list 6 ((o :: l).map Obj.val) (.own k)) = some (.list 6 ((o :: l).map Obj.val) .no) := by
        show (frzL (frz s.heap 4) _).bind _ = _
        rw [frz_objs s.heap 0 hg]; rfl
      show (frzL (frz s.heap 5) [.list 6 ((o :: l).map Obj.val) (.own k)]).bind _ = _
      simp only [frzL, e1, Option.bind_some, mapV]

theorem closeL_mem {l : List Obj} {ids : List Bytes} {o : Obj} (h : o ∈ closeL l ids) : o ∈ l := by
  unfold closeL at h
  split at h
  · exact (List.mem_filter.1 h).1
  · cases h

noncomputable def closeSp : Sp
  | [a, b] => (asMap a).bind fun l => (asL 1 asStr b).bind fun ids => bif Nat.ble l.length 1000 && Nat.blt ids.length small then some (mapV (closeL l ids)) else none
  | _ => none
theorem closeSp_of {v u : AVal} {l : List Obj} {ids : List Bytes} (hl : IsL 6 Obj.val v l) (hk : ∀ o ∈ l, o.Good) (hsmall : l.length ≤ 1000) (hi : IsL 1 strV u ids) (hismall : ids.length < small) : closeSp [.agg [v], u] = some (mapV (closeL l ids)) := by
  have hsm : small = 9223372036854775808 := rfl
  have q1 : Nat.ble l.length 1000 = true := Nat.ble_eq_true_of_le hsmall
  have q2 : Nat.blt ids.length small = true := Nat.ble_eq_true_of_le hismall
  simp only [closeSp, asMap_of hl hk (by omega), isL_asL asStr_strV hi, Option.bind_some, q1, q2, Bool.and_self, cond_true]
def T7 : Tbl := (23, mapSp) :: T5
theorem T7_ok : TblOk T7 := .cons mapSp_ok T5_ok
theorem closeSp_ok : SpecOk Tryz.prog 15 closeSp := by
  intro args x hv G h w xs wr hx
  unfold closeSp at hv
  split at hv
  · rename_i a b
    simp only [Option.bind_eq_some_iff] at hv
    obtain ⟨l, h1, ids, h2, hv⟩ := hv
    obtain ⟨h3, hv⟩ := bif_none hv
    injection hv with hv; subst hv
    simp only [Bool.and_eq_true] at h3
    obtain ⟨v, rfl, hl, hg, hs⟩ := asMap_inv h1
    have hi := asL_isL (fun v a => asStr_enc) h2
    obtain ⟨ht, v', hw, hl'⟩ := objs_top hl hg
    obtain ⟨ht2, hi'⟩ := isL_top strV_pure hi
    have hw : weaks [.agg [v], b] = [.agg [v'], weak b] := by simp only [weaks, hw]
    obtain ⟨y, s', hr, hci, ov, rfl, hO⟩ := close_run (sp := fun f => tblGet f T7) rfl rfl rfl rfl hl' hg (Nat.le_of_ble_eq_true h3.1) hi' (Nat.le_of_ble_eq_true h3.2)
    exact spec_of_run (Q := QT T7) (good_of T7_ok) (show 0 < 2 from Nat.zero_lt_succ 1) (args := [.agg [v], b]) (v := .agg [ov]) (s' := s') (by simp only [tops, ht, ht2, Bool.and_self]) (by rw [hw]; exact hr) hci (frz_out hO fun o ho => hg o (closeL_mem ho)) G h w xs wr hx
  · cases hv
end Go.Proofs.YtnjhbfefpcjjaaaGreat
/- The plain law of closures. -/
namespace Go.Proofs.YtnjhbfefpcjjaaaGreat
open Go.Ag

def ltB (a b : Bytes) : Prop := Ag.leBytes b a = false
theorem ltB_iff : ∀ {a b : Bytes}, ltB a b ↔ Op.bytesLess a b = true
  | [], [] => by simp [ltB, Ag.leBytes, Op.bytesLess]
  | [], b :: y => by simp [ltB, Ag.leBytes, Op.bytesLess]
  | a :: x, [] => by simp [ltB, Ag.leBytes, Op.bytesLess]
  | a :: x, b :: y => by
    have ih := ltB_iff (a := x) (b := y)
    simp only [ltB, Ag.leBytes, Bool.or_eq_false_iff] at ih ⊢
    simp only [Op.bytesLess, Bool.or_eq_true, Bool.or_eq_false_iff, Bool.and_eq_true, Bool.and_eq_false_iff, decide_eq_true_eq, decide_eq_false_iff_not, beq_iff_eq, beq_eq_false_iff_ne, ne_eq, List.cons.injEq, not_and] at ih ⊢
    rw [UInt8.lt_iff_toNat_lt, UInt8.lt_iff_toNat_lt, ← UInt8.toNat_inj, ← UInt8.toNat_inj]
    constructor
    · rintro ⟨⟨h1, h2⟩, h3⟩
      by_cases h : a.toNat < b.toNat
      · exact .inl h
      · have e : a.toNat = b.toNat := by omega
        refine .inr ⟨e, ih.1 ⟨?_, h3 e.symm⟩⟩
        rcases h2 with h2 | h2
        · exact absurd e.symm h2
        · exact h2
    · rintro (h | ⟨e, h⟩)
      · exact ⟨⟨by omega, .inl (by omega)⟩, fun e => by omega⟩
      · have := ih.2 h
        exact ⟨⟨by omega, .inr this.1⟩, fun _ => this.2⟩
theorem ltB_trans {a b c : Bytes} (h1 : ltB a b) (h2 : ltB b c) : ltB a c := by
  rw [ltB_iff] at h1 h2 ⊢
  induction a generalizing b c with
  | nil =>
    cases b with
    | nil => simp [Op.bytesLess] at h1
    | cons b y =>
      cases c with
      | nil => simp [Op.bytesLess] at h2
      | cons c z => simp [Op.bytesLess]
  | cons a x ih =>
    cases b with
    | nil => simp [Op.bytesLess] at h1
    | cons b y =>
      cases c with
      | nil => simp [Op.bytesLess] at h2
      | cons c z =>
        simp only [Op.bytesLess, Bool.or_eq_true, Bool.and_eq_true, decide_eq_true_eq, beq_iff_eq] at h1 h2 ⊢
        rw [UInt8.lt_iff_toNat_lt, ← UInt8.toNat_inj] at *
        rcases h1 with h1 | ⟨e1, h1⟩
        · rcases h2 with h2 | ⟨e2, h2⟩
          · exact .inl (by omega)
          · exact .inl (by omega)
        · rcases h2 with h2 | ⟨e2, h2⟩
          · exact .inl (by omega)
          · exact .inr ⟨by omega, ih h1 h2⟩
theorem ltB_irrefl (a : Bytes) : ¬ ltB a a := by
  intro h
  simp [ltB, Ag.leBytes] at h

theorem objsOk_iff : ∀ {l : List Obj} {last : Bytes}, objsOk last l = true ↔ (∀ o ∈ l, objValid o = true) ∧ (∀ o ∈ l, ltB last o.id) ∧ l.Pairwise fun a b => ltB a.id b.id
  | [], last => by simp [objsOk]
  | o :: l, last => by
    have ih := objsOk_iff (l := l) (last := o.id)
    simp only [objsOk]
    cases h1 : objValid o with
    | false => simp [h1]
    | true =>
      cases h2 : Ag.leBytes o.id last with
      | true => simp [h1, ltB, h2]
      | false =>
        simp only [Bool.not_true, Bool.or_false, cond_false, ih, List.mem_cons, forall_eq_or_imp, h1, true_and, List.pairwise_cons]
        constructor
        · rintro ⟨p1, p2, p3⟩
          exact ⟨p1, ⟨h2, fun a ha => ltB_trans h2 (p2 a ha)⟩, p2, p3⟩
        · rintro ⟨p1, ⟨_, _⟩, p2, p3⟩
          exact ⟨p1, p2, p3⟩

theorem mapValid_sub {l r : List Obj} (h : mapValid l = true) (hs : r.Sublist l) : mapValid r = true := by
  simp only [mapValid, Bool.and_eq_true, decide_eq_true_eq] at h ⊢
  obtain ⟨h1, h2, h3⟩ := objsOk_iff.1 h.1
  exact ⟨objsOk_iff.2 ⟨fun o ho => h1 o (hs.subset ho), fun o ho => h2 o (hs.subset ho), h3.sublist hs⟩, Nat.le_trans hs.length_le h.2⟩

theorem lastOf_skip (id : Bytes) : ∀ (l : List Obj) (d : Obj), (∀ o ∈ l, o.id ≠ id) → lastOf l id d = d
  | [], d, _ => rfl
  | o :: l, d, h => by
    simp only [lastOf]
    have : (id == o.id) = false := beq_eq_false_iff_ne.2 fun e => h o (by simp) e.symm
    rw [this, cond_false]
    exact lastOf_skip id l d fun o ho => h o (by simp [ho])
theorem lastOf_at : ∀ {l : List Obj} {o : Obj} (d : Obj), l.Pairwise (fun a b => ltB a.id b.id) → o ∈ l → lastOf l o.id d = o
  | [], _, _, _, h => by cases h
  | a :: l, o, d, hp, h => by
    rw [List.pairwise_cons] at hp
    simp only [lastOf]
    rcases List.mem_cons.1 h with rfl | h
    · rw [beq_self_eq_true, cond_true]
      exact lastOf_skip _ l _ fun b hb e => ltB_irrefl o.id (by have := hp.1 b hb; rwa [e] at this)
    · exact lastOf_at _ hp.2 h
theorem refsOf_at {l : List Obj} (h : mapValid l = true) {o : Obj} (ho : o ∈ l) : refsOf l o.id = o.refs := by
  simp only [mapValid, Bool.and_eq_true] at h
  rw [refsOf, objOf, lastOf_at zeroObj (objsOk_iff.1 h.1).2.2 ho]
theorem refsOf_inv {l : List Obj} {y r : Bytes} (h : r ∈ refsOf l y) : ∃ o ∈ l, o.id = y ∧ r ∈ o.refs := by
  rcases lastOf_mem y l zeroObj with e | ⟨e1, e2⟩
  · unfold refsOf objOf at h; rw [e] at h; cases h
  · exact ⟨_, e1, e2, h⟩

section
variable {l : List Obj} {ids : List Bytes} (hv : mapValid l = true)
include hv
theorem closeL_iff {o : Obj} : o ∈ closeL l ids ↔ o ∈ l ∧ Reach (refsOf l) ids o.id := by
  classical
  simp only [closeL, hv, if_true, List.mem_filter, decide_eq_true_eq]
theorem closeL_sub : (closeL l ids).Sublist l := by
  simp only [closeL, hv, if_true]; exact List.filter_sublist
/-- the objects that are needed -/
theorem closeL_needed {N : List Bytes} (hN : ∀ x, x ∈ N ↔ x ∈ ids ∨ ∃ o ∈ closeL l ids, x ∈ o.refs) : closeL l ids = l.filter fun o => N.contains o.id := by
  classical
  have : closeL l ids = l.filter fun o => @decide (Reach (refsOf l) ids o.id) (Classical.propDecidable _) := by simp only [closeL, hv, if_true]
  rw [this]
  apply List.filter_congr
  intro o ho
  rw [Bool.eq_iff_iff, decide_eq_true_eq, List.contains_iff_mem, hN]
  constructor
  · intro h
    cases h with
    | base h => exact .inl h
    | step h1 h2 =>
      obtain ⟨p, hp, e, hr⟩ := refsOf_inv h2
      exact .inr ⟨p, (closeL_iff hv).2 ⟨hp, by rw [e]; exact h1⟩, hr⟩
  · rintro (h | ⟨p, hp, hr⟩)
    · exact .base h
    · obtain ⟨h1, h2⟩ := (closeL_iff hv).1 hp
      exact .step h2 (by rw [refsOf_at hv h1]; exact hr)
theorem closeL_own : closeL l ((closeL l ids).map Obj.id) = closeL l ids := by
  classical
  have e : ∀ J, closeL l J = l.filter fun o => @decide (Reach (refsOf l) J o.id) (Classical.propDecidable _) := fun J => by simp only [closeL, hv, if_true]
  rw [e, e ids]
  apply List.filter_congr
  intro o ho
  rw [Bool.eq_iff_iff, decide_eq_true_eq, decide_eq_true_eq]
  constructor
  · intro h
    refine h.sub ?_
    intro x hx
    obtain ⟨p, hp, rfl⟩ := List.mem_map.1 hx
    rw [← e ids] at hp
    exact ((closeL_iff hv).1 hp).2
  · intro h
    refine .base (List.mem_map.2 ⟨o, ?_, rfl⟩)
    rw [← e ids]
    exact (closeL_iff hv).2 ⟨ho, h⟩
theorem closeL_again : closeL (closeL l ids) ids = closeL l ids := by
  classical
  have hv2 : mapValid (closeL l ids) = true := mapValid_sub hv (closeL_sub hv)
  have e : closeL (closeL l ids) ids = (closeL l ids).filter fun o => @decide (Reach (refsOf (closeL l ids)) ids o.id) (Classical.propDecidable _) := by
    unfold closeL at hv2 ⊢
    simp only [hv2, if_true]
  rw [e, List.filter_eq_self]
  intro o ho
  rw [decide_eq_true_eq]
  have key : ∀ x, Reach (refsOf l) ids x → Reach (refsOf (closeL l ids)) ids x := by
    intro x hx
    induction hx with
    | base h => exact .base h
    | step h1 h2 ih =>
      obtain ⟨p, hp, e, hr⟩ := refsOf_inv h2
      have hpc : p ∈ closeL l ids := (closeL_iff hv).2 ⟨hp, by rw [e]; exact h1⟩
      have := refsOf_at hv2 hpc
      rw [e] at this
      exact .step ih (by rw [this]; exact hr)
  exact key _ ((closeL_iff hv).1 ho).2
end
end Go.Proofs.YtnjhbfefpcjjaaaGreat
