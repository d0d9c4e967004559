/- The walk of merge.Merge: the result; its contract where nothing is in conflict. -/
import Derived.Test.YtbfmdojdemckbaaGreatZ9
/- merge.Merge: the loop over what is needed; the loop that lays out the result -/
namespace Go.Proofs.YtbfmdojdemckbaaGreat
open Go.Ag
section
variable {sp : FuncId → Option (List AVal → Option AVal)} {ch : Nat → Nat}
theorem all_need (h27 : sp 27 = none) {s : St} {x mb mo mt mu md : Nat} {B O T U : List (Bytes × AVal)} (M : Mg s x mb mo mt mu md B O T U) {ids : List Bytes} {v : AVal} (hv : IsL 1 strV v ids) (hsmall : ids.length < small)
    (hids : ∀ id ∈ ids, ∃ p ob, at_ id U = .ptr p 0 ∧ s.get [] p = some (.cells (Obj.cells ob)) ∧ ob.Good ∧ ∀ r ∈ ob.refs, ∃ p, at_ r U = .ptr p 0) {lc : Ag.Loc} : ∀ (rest pre : List Bytes) (e : Env), ids = pre ++ rest →
    nth e 8 = .ptr x 0 → nth e 84 = v → nth e 85 = .int .i64 (ids.length : Nat) → nth e 86 = .int .i64 (pre.length : Nat) →
    W (QM sp ch) 9 (.loop k9_l2) ⟨e, 132, lc⟩ s fun y fr s' => s' = s ∧ y = .exit 4 ∧ ∃ e', fr = ⟨e', 132, lc⟩ ∧ nth e' 6 = nth e 6 ∧ nth e' 8 = nth e 8 := by
  intro rest
  have hcl := hv.clean
  have hsm : small = 9223372036854775808 := rfl
  induction rest with
  | nil =>
    intro pre e hpre h8 h84 h85 h86
    have hl : ids.length = pre.length := by rw [hpre]; simp
    refine W.loop1 ?_
    unfold k9_l2
    refine W.sreg ?_
    unfold k9_r15
    simp only [WP_nil, WP_always, stepK_some, p_bin, ev_tmp, evc_eq, retV_ok, bi_lss, Option.bind_some, clean_int, cond_true, QM_P, ilt_nat, true_and, Nat.reduceLT, decide_false, h85, h86, hl, Nat.lt_irrefl]
    refine W.seq (W.cond (t := false) (by simp only [ev_tmp, nth_set, Nat.reduceBEq, cond_true, *]) ?_)
    exact W.exit ⟨rfl, rfl, _, rfl, by simp only [nth_set, Nat.reduceBEq, cond_false, *], by simp only [nth_set, Nat.reduceBEq, cond_false, *]⟩
  | cons id rest ih =>
    intro pre e hpre h8 h84 h85 h86
    have hlt : pre.length < ids.length := by rw [hpre]; simp
    have hat : ids[pre.length]? = some id := by rw [hpre]; simp
    have hia := fun lc => hv.at ia_37_l hat lc .i64
    obtain ⟨p, ob, hp, hs, hg, hr⟩ := hids id (by rw [hpre]; simp)
    have hlk := look_61 M.hu id
    rw [hp] at hlk
    have hx := M.hx
    have hcall := need_run (ch := ch) h27 M hg hs hr
    have hwr : IntKind.i64.wrap ((pre.length : Int) + 1) = ((pre.length + 1 : Nat) : Int) := by rw [wrap64_small (by omega) (by omega)]; omega
    refine W.loop1 ?_
    unfold k9_l2
    refine W.sreg ?_
    unfold k9_r15
    simp only [WP_nil, WP_always, stepK_some, p_bin, ev_tmp, evc_eq, retV_ok, bi_lss, Option.bind_some, clean_int, cond_true, QM_P, ilt_nat, true_and, Nat.reduceLT, decide_true, h85, h86, hlt]
    refine W.seq (W.cond (t := true) (by simp only [ev_tmp, nth_set, Nat.reduceBEq, cond_true, *]) (W.skip ?_))
    simp only [next_normal]
    refine W.seq (W.block (W.sreg ?_))
    unfold k9_r16
    simp only [WP_nil, WP_always, stepK_some, nth_set, p_assign, p_load, p_indexAddr, ev_tmp, load_ro, retV_ok, cells_str, Option.bind_some, cond_true, cond_false, QM_P, List.drop, List.head?_cons, beq_self_eq_true, true_and, Nat.reduceBEq, Nat.reduceLT, rd_9, h84, h86, hia, strV]
    refine W.region (WL_split 7 ?_)
    unfold k9_r17
    simp only [WP_nil, WP_always, stepK_some, nth_set, p_move, p_load, p_fieldAddr, p_lookup, p_nilCheck, ev_tmp, evc_eq, retV_ok, Option.bind_some, clean_str, clean_map, cond_true, cond_false, QM_P, List.take, List.drop, List.head?_cons, beq_self_eq_true, true_and, Nat.zero_add, Nat.reduceBEq, Nat.reduceLT, rd_61, fa_65_3_p, h8, nil_ptr, load_ptr, hx, loadO_cells, hlk]
    refine WL_call (g := 27) (args := [.ptr x 0, .ptr p 0]) ?_ hcall (by decide) ?_
    · simp only [callee, nth_set, ev_tmp, ev_func, evc_eq, evcs_nil, evcs_cons, Option.bind_some, clean_ptr, cond_true, cond_false, List.nil_append, List.cons_append, beq_self_eq_true, Nat.reduceBEq]
    refine WL_WP ?_
    simp only [WP_nil, block_normal, next_normal]
    refine W.reg ?_
    unfold k9_r18
    simp only [WP_nil, WP_always, stepK_some, nth_set, p_move, p_bin, ev_tmp, ev_const, evc_eq, ofValue_int, retV_ok, bi_add, Option.bind_some, clean_int, cond_true, cond_false, QM_P, beq_self_eq_true, true_and, Nat.reduceBEq, Nat.reduceLT, h86, hwr, next_normal]
    refine (ih (pre ++ [id]) _ (by rw [hpre]; simp) (by simp only [nth_set, Nat.reduceBEq, cond_false, *]) (by simp only [nth_set, Nat.reduceBEq, cond_false, *]) (by simp only [nth_set, Nat.reduceBEq, cond_false, *]) (by simp only [nth_set, Nat.reduceBEq, cond_true, cond_false, List.length_append, List.length_cons, List.length_nil])).mono ?_
    rintro y fr s' ⟨rfl, rfl, e', rfl, q1, q2⟩
    exact ⟨rfl, rfl, e', rfl, q1.trans (by simp only [nth_set, Nat.reduceBEq, cond_false, *]), q2.trans (by simp only [nth_set, Nat.reduceBEq, cond_false, *])⟩

/- the result -/
def OutI (x : Nat) (s : St) (ov : AVal) (acc : List Obj) : Prop := (ov = .nils ∧ acc = []) ∨ (acc ≠ [] ∧ ∃ k, ov = .list 6 (acc.map Obj.val) (.own k) ∧ s.get [] k = some .tok ∧ x < k ∧ k < s.next)
theorem OutI.clean {x : Nat} {s : St} {ov : AVal} {acc : List Obj} (h : OutI x s ov acc) : ov.clean = true := by
  rcases h with ⟨rfl, _⟩ | ⟨_, k, rfl, _⟩ <;> rfl
theorem OutI.cells {x : Nat} {s : St} {ov : AVal} {acc : List Obj} (h : OutI x s ov acc) : ov.cells = [ov] := by
  rcases h with ⟨rfl, _⟩ | ⟨_, k, rfl, _⟩ <;> rfl
theorem roomy_small {n b : Nat} (hn : n ≤ 1000000) (hb : b ≤ 88) : roomy n b = true := by
  unfold roomy
  apply Nat.ble_eq_true_of_le
  have : (n * 2 + 1024) * b ≤ 2001024 * 88 := Nat.mul_le_mul (by omega) hb
  omega
theorem bs_22 {e : Env} {x : Operand} {a b c d f g : AVal} (h : ev e x = some (.agg [a, b, c, d, f, g])) (s : St) : buildSliceA Tryz.prog 22 1 [(0, x)] false e s = some (.list 6 [.agg [a, b, c, d, f, g]] .full, s) := by
  simp only [buildSliceA, el_22, Option.bind_some, fillA, evc, h, AVal.clean, cond_true, repCells, AVal.cells, List.length_cons, List.length_nil, writeCells, Nat.zero_mul, Nat.zero_add, Nat.reduceAdd, Nat.reduceMul, chunk, cut]
  rfl
theorem app_out {x : Nat} {s : St} {ov : AVal} {acc : List Obj} (h : OutI x s ov acc) (hlen : acc.length < 1000000) (hn : x < s.next) (hm : s.minw ≤ s.next) (o : Obj) :
    ∃ ov' s', appendA Tryz.prog [] 22 ov (.list 6 [o.val] .full) false s = some (ov', s') ∧ OutI x s' ov' (acc ++ [o]) ∧ s'.ci = s.ci ∧ s.next ≤ s'.next ∧ s'.minw ≤ s'.next ∧ ∀ n, n ≤ x → s'.get [] n = s.get [] n := by
  rcases h with ⟨rfl, rfl⟩ | ⟨hne, k, rfl, hk, h5, h6⟩
  · refine ⟨.list 6 [o.val] (.own s.next), s.new .tok, ?_, .inr ⟨by simp, s.next, rfl, ?_, hn, Nat.lt_succ_self _⟩, rfl, Nat.le_succ _, Nat.le_succ_of_le hm, ?_⟩
    · have : roomy 1 88 = true := roomy_small (by omega) (by omega)
      simp only [appendA, el_22, Option.bind_some, elemsA, nat_beq, beq_self_eq_true, cond_true, appendTo, madeA, List.length_cons, List.length_nil, Nat.zero_add, this, cond_false]
    · rw [get_new, beq_self_eq_true]; rfl
    · intro n hn'
      rw [get_new, beq_eq_false_iff_ne.2 (by omega)]; rfl
  · refine ⟨.list 6 ((acc ++ [o]).map Obj.val) (.own s.next), (s.put k none).new .tok, ?_, .inr ⟨by simp, s.next, rfl, ?_, hn, Nat.lt_succ_self _⟩, rfl, Nat.le_succ _, Nat.le_succ_of_le (minw_put s k none hm), ?_⟩
    · have : roomy (acc.length + 1) 88 = true := roomy_small (by omega) (by omega)
      simp only [appendA, el_22, Option.bind_some, elemsA, nat_beq, beq_self_eq_true, cond_true, appendTo, hk, List.length_map, List.length_cons, List.length_nil, Nat.zero_add, this, Bool.and_self, List.map_append, List.map_cons, List.map_nil]
    · rw [get_new, next_put, beq_self_eq_true]; rfl
    · intro n hn'
      rw [get_new, next_put, beq_eq_false_iff_ne.2 (by omega), cond_false, get_put, beq_eq_false_iff_ne.2 (by omega)]; rfl
theorem W.drawThen {Q : Prog} {f : FuncId} {l1 l2 : List SOp} {bs : List Nat} {fr : Fr} {s : St} {K : Ex → Fr → St → Prop} (hm : s.minw ≤ s.next)
    (h : WQ Q f s.top l1 fr fun fr1 => ∀ rs1, calm rs1 → (∀ r ∈ rs1, r.i < l1.length) → ∃ fr' s', RunD Q f (bs.drop l1.length) rs1 l1.length l2 fr1 s fr' s' ∧ K .normal fr' s') : W Q f (.draw (l1 ++ l2) bs) fr s K := by
  obtain ⟨fr', s', h1, h2⟩ := WQ.thenD (N := fun fr s => K .normal fr s) (l2 := l2) (bs := bs) (rs := []) (i := 0) hm (fun _ hr => by cases hr) (fun _ hr => by cases hr) (by simpa using h)
  exact W.drawR h1 h2
theorem app_tail {e : Env} {lc : Ag.Loc} {s : St} {x : Nat} {ov : AVal} {acc : List Obj} {ob : Obj} {rs1 : List Rec} (hi : ∀ r ∈ rs1, r.i < 11) (h15 : nth e 15 = .lref 15 1 0) (h111 : nth e 111 = ov) (h120 : nth e 120 = .list 6 [ob.val] .full) (g15 : lc.gen 15 = 1) (b15 : lc.get 15 1 = some [ov])
    (hO : OutI x s ov acc) (hm : s.minw ≤ s.next) (hx : x < s.next) (hlen : acc.length < 1000000) :
    ∃ ov' s', RunD (QM sp ch) 9 [2047, 4095, 8191] rs1 11 (k9_r23.drop 11) ⟨e, 132, lc⟩ s ⟨(e.set 121 (some ov')).set 122 (some (.lref 15 1 0)), 132, lc.set 15 1 [ov']⟩ s' ∧ OutI x s' ov' (acc ++ [ob]) ∧ s'.minw ≤ s'.next ∧ (∀ n, n ≤ x → s'.get [] n = s.get [] n) ∧ s.next ≤ s'.next ∧ s'.ci = s.ci := by
  obtain ⟨ov', s1, a1, a2, a3, a4, a5, a6⟩ := app_out (s := s.top) hO hlen hx (Nat.le_refl _) ob
  have hcl := hO.clean
  have hcl2 := a2.clean
  have hce := a2.cells
  have hn1 : (s.least s1).next = s1.next := rfl
  have hmw : (s.least s1).minw ≤ (s.least s1).next := by
    show (bif Nat.ble s.minw s1.minw then s.minw else s1.minw) ≤ s1.next
    have a4 : s.next ≤ s1.next := a4
    cases Nat.ble s.minw s1.minw with
    | true => exact Nat.le_trans hm a4
    | false => exact a5
  refine ⟨ov', s.least s1, ?_, a2, hmw, a6, a4, a3⟩
  unfold k9_r23
  refine RunD.full (v := ov') (lc := lc) (s1 := s1) (fr1 := ⟨e.set 121 (some ov'), 132, lc⟩) (by decide) hi rfl ?_ a3 ?_ (fun rc hrc => ?_)
  · simp only [p_builtin, ev_tmp, evc_eq, evcs_nil, evcs_cons, retVS_some, bl_append, hintOf_some, Option.bind_some, clean_list, cond_true, QM_P, QM_hint, Nat.reduceBEq, nat_beq, is_22, hint_9_121, h111, h120, hcl, a1]
  · exact put_some.2 ⟨by decide, rfl⟩
  refine RunD.full (v := .lref 15 1 0) (lc := lc) (s1 := (s.least s1).top) (fr1 := ⟨(e.set 121 (some ov')).set 122 (some (.lref 15 1 0)), 132, lc⟩) (by decide) (fun r hr => ?_) rfl ?_ rfl ?_ (fun rc2 hrc2 => ?_)
  · rcases List.mem_cons.1 hr with rfl | hr
    · omega
    · have := hi r hr; omega
  · simp only [nth_set, p_fieldAddr, ev_tmp, retV_ok, Option.bind_some, cond_true, cond_false, QM_P, beq_self_eq_true, Nat.add_zero, Nat.reduceBEq, nat_beq, fa_24_0_l, h15, g15]
  · exact put_some.2 ⟨by decide, rfl⟩
  rw [least_top hmw]
  refine RunD.full (v := undefA) (lc := lc.set 15 1 [ov']) (s1 := (s.least s1).top) (fr1 := ⟨(e.set 121 (some ov')).set 122 (some (.lref 15 1 0)), 132, lc.set 15 1 [ov']⟩) (by decide) (fun r hr => ?_) rfl ?_ rfl rfl (fun rc3 hrc3 => ?_)
  · rcases List.mem_cons.1 hr with rfl | hr
    · omega
    · rcases List.mem_cons.1 hr with rfl | hr
      · omega
      · have := hi r hr; omega
  · simp only [nth_set, p_store, ev_tmp, evc_eq, store_loc, Option.bind_some, cond_true, cond_false, QM_P, List.length_cons, List.length_nil, writeCells, List.take, List.drop, List.nil_append, List.cons_append, beq_self_eq_true, Nat.zero_add, Nat.reduceBEq, Nat.reduceLT, Nat.reduceLeDiff, Bool.and_true, nat_beq, nat_blt, nat_ble, decide_true, sz_22, hcl2, hce, b15]
  rw [least_top hmw]
  exact .nil
end
end Go.Proofs.YtbfmdojdemckbaaGreat
/- merge.Merge: the loop that lays out the result; the keys in order -/
namespace Go.Proofs.YtbfmdojdemckbaaGreat
open Go.Ag
/-- the two boxes of Merge that are left at its end -/
structure Bx (e : Env) (lc : Ag.Loc) (x : Nat) (ov : AVal) : Prop where
  h8 : nth e 8 = .ptr x 0
  h6 : nth e 6 = .lref 6 1 0
  g6 : lc.gen 6 = 1
  b6 : lc.get 6 1 = some [.nils]
  h15 : nth e 15 = .lref 15 1 0
  g15 : lc.gen 15 = 1
  b15 : lc.get 15 1 = some [ov]
section
variable {sp : FuncId → Option (List AVal → Option AVal)} {ch : Nat → Nat}
theorem app_step {e : Env} {lc : Ag.Loc} {s : St} {x : Nat} {ov : AVal} {acc : List Obj} {ob : Obj} {rs1 : List Rec} {K : Fr → St → Prop} (hi : ∀ r ∈ rs1, r.i < 11) (h15 : nth e 15 = .lref 15 1 0) (h111 : nth e 111 = ov) (h120 : nth e 120 = .list 6 [ob.val] .full) (g15 : lc.gen 15 = 1) (b15 : lc.get 15 1 = some [ov])
    (hO : OutI x s ov acc) (hm : s.minw ≤ s.next) (hx : x < s.next) (hlen : acc.length < 1000000) (hk : ∀ ov' s', OutI x s' ov' (acc ++ [ob]) → s'.minw ≤ s'.next → (∀ n, n ≤ x → s'.get [] n = s.get [] n) → s.next ≤ s'.next → s'.ci = s.ci → K ⟨(e.set 121 (some ov')).set 122 (some (.lref 15 1 0)), 132, lc.set 15 1 [ov']⟩ s') :
    ∃ fr' s', RunD (QM sp ch) 9 [2047, 4095, 8191] rs1 11 (k9_r23.drop 11) ⟨e, 132, lc⟩ s fr' s' ∧ K fr' s' := by
  obtain ⟨ov', s', t1, t2, t3, t4, t5, t6⟩ := app_tail (sp := sp) (ch := ch) hi h15 h111 h120 g15 b15 hO hm hx hlen
  exact ⟨_, s', t1, hk ov' s' t2 t3 t4 t5 t6⟩
theorem lay_loop {s2 : St} {x mb mo mt mu md : Nat} {B O T U : List (Bytes × AVal)} (M : Mg s2 x mb mo mt mu md B O T U) (hmu : mu ≤ x) {ids : List Bytes} {v : AVal} (hv : IsL 1 strV v ids) (hsmall : ids.length < 1000000) (g : Bytes → Obj)
    (hids : ∀ id ∈ ids, ∃ p, p ≤ x ∧ at_ id U = .ptr p 0 ∧ s2.get [] p = some (.cells (g id).cells) ∧ (g id).Good) : ∀ (rest pre : List Bytes) (e : Env) (lc : Ag.Loc) (s : St) (ov : AVal), ids = pre ++ rest →
    s.minw ≤ s.next → x < s.next → (∀ n, n ≤ x → s.get [] n = s2.get [] n) → OutI x s ov (pre.map g) → Bx e lc x ov →
    nth e 104 = v → nth e 105 = .int .i64 (ids.length : Nat) → nth e 106 = .int .i64 (pre.length : Nat) →
    W (QM sp ch) 9 (.loop k9_l3) ⟨e, 132, lc⟩ s fun y fr s' => y = .exit 6 ∧ ∃ e' lc' ov', fr = ⟨e', 132, lc'⟩ ∧ s'.minw ≤ s'.next ∧ x < s'.next ∧ (∀ n, n ≤ x → s'.get [] n = s2.get [] n) ∧ OutI x s' ov' (ids.map g) ∧ Bx e' lc' x ov' ∧ s'.ci = s.ci := by
  intro rest
  have hcl := hv.clean
  induction rest with
  | nil =>
    intro pre e lc s ov hpre hm hx hs hO hB h104 h105 h106
    obtain ⟨h8, h6, g6, b6, h15, g15, b15⟩ := hB
    have hl : ids.length = pre.length := by rw [hpre]; simp
    have hpp : pre = ids := by rw [hpre]; simp
    rw [hpp] at hO
    refine W.loop1 ?_
    unfold k9_l3
    refine W.sreg ?_
    unfold k9_r21
    simp only [WP_nil, WP_always, stepK_some, p_bin, ev_tmp, evc_eq, retV_ok, bi_lss, Option.bind_some, clean_int, cond_true, QM_P, ilt_nat, true_and, Nat.reduceLT, decide_false, h105, h106, hl, Nat.lt_irrefl]
    refine W.seq (W.cond (t := false) (by simp only [ev_tmp, nth_set, Nat.reduceBEq, cond_true, *]) ?_)
    exact W.exit ⟨rfl, _, _, _, rfl, hm, hx, hs, hO, ⟨by simp only [nth_set, Nat.reduceBEq, cond_false, *], by simp only [nth_set, Nat.reduceBEq, cond_false, *], g6, b6, by simp only [nth_set, Nat.reduceBEq, cond_false, *], g15, b15⟩, rfl⟩
  | cons id rest ih =>
    intro pre e lc s ov hpre hm hx hs hO hB h104 h105 h106
    obtain ⟨h8, h6, g6, b6, h15, g15, b15⟩ := hB
    have hlt : pre.length < ids.length := by rw [hpre]; simp
    have hat : ids[pre.length]? = some id := by rw [hpre]; simp
    have hia := fun lc => hv.at ia_37_l hat lc .i64
    obtain ⟨p, hpx, hp, hsp, hg⟩ := hids id (by rw [hpre]; simp)
    have hso : s.top.get [] p = some (.cells (g id).cells) := (hs p hpx).trans hsp
    have hxx : s.top.get [] x = _ := (hs x (Nat.le_refl _)).trans M.hx
    have hmm : s.top.get [] mu = _ := (hs mu hmu).trans M.hu
    have hlk := look_61 hmm id
    rw [hp] at hlk
    simp only [Obj.cells] at hso
    have hoc := hO.clean
    have hocc := hO.cells
    have hwr : IntKind.i64.wrap ((pre.length : Int) + 1) = ((pre.length + 1 : Nat) : Int) := by rw [wrap64_small (by omega) (by omega)]; omega
    have hbs : ∀ e s, nth e 119 = .agg [.str (g id).id, .int .i64 (g id).kind, .int .i64 (g id).x, .int .i64 (g id).y, (g id).refsV, (g id).tagsV] → buildSliceA Tryz.prog 22 1 [(0, .tmp 119)] false e s = some (.list 6 [.agg [.str (g id).id, .int .i64 (g id).kind, .int .i64 (g id).x, .int .i64 (g id).y, (g id).refsV, (g id).tagsV]] .full, s) := fun e s h => bs_22 (by rw [ev_tmp, h]) s
    refine W.loop1 ?_
    unfold k9_l3
    refine W.sreg ?_
    unfold k9_r21
    simp only [WP_nil, WP_always, stepK_some, p_bin, ev_tmp, evc_eq, retV_ok, bi_lss, Option.bind_some, clean_int, cond_true, QM_P, ilt_nat, true_and, Nat.reduceLT, decide_true, h105, h106, hlt]
    refine W.seq (W.cond (t := true) (by simp only [ev_tmp, nth_set, Nat.reduceBEq, cond_true, *]) (W.skip ?_))
    simp only [next_normal]
    refine W.seq (W.block (W.sreg ?_))
    unfold k9_r22
    simp only [WP_nil, WP_always, stepK_some, nth_set, p_assign, p_load, p_indexAddr, ev_tmp, load_ro, retV_ok, cells_str, Option.bind_some, cond_true, cond_false, QM_P, List.drop, List.head?_cons, beq_self_eq_true, true_and, Nat.reduceBEq, Nat.reduceLT, rd_9, h104, h106, hia, strV]
    rw [show k9_r23 = k9_r23.take 11 ++ k9_r23.drop 11 from (List.take_append_drop 11 _).symm]
    refine W.drawThen hm ?_
    have hlen11 : (k9_r23.take 11).length = 11 := rfl
    rw [hlen11]
    unfold k9_r23
    simp only [WQ_nil, WQ_always, stepQ_some, isStore, nth_set, p_move, p_buildSlice, p_load, p_fieldAddr, p_lookup, p_nilCheck, ev_tmp, evc_eq, load_loc, retV_ok, retVS_some, hintOf_some, Option.bind_some, clean_str, clean_map, cond_true, cond_false, QM_P, QM_hint, List.length_cons, List.length_nil, cut, List.take, List.drop, List.head?_cons, List.take_succ_cons, List.nil_append, List.cons_append, beq_self_eq_true, true_and, Nat.zero_add, Nat.add_zero, Nat.reduceBEq, Nat.reduceLT, Nat.reduceAdd, nat_beq, rd_22, rd_40, rd_61, fa_24_0_l, fa_65_3_p, hint_9_120, h15, g15, b15, h8, nil_ptr, load_ptr, hxx, loadO_cells, hlk, hso, hbs]
    intro rs1 _ hrs
    refine app_step (ob := g id) (acc := pre.map g) (ov := ov) hrs (by simp only [nth_set, Nat.reduceBEq, cond_false, *]) (by simp only [nth_set, Nat.reduceBEq, cond_true, cond_false, *]) (by simp only [nth_set, Nat.reduceBEq, cond_true, cond_false, Obj.val, Obj.cells]) g15 b15 hO hm hx (by rw [List.length_map]; omega) (fun ov' s' t2 t3 t4 t5 t6 => ?_)
    simp only [block_normal, next_normal]
    refine W.reg ?_
    unfold k9_r24
    simp only [WP_nil, WP_always, stepK_some, nth_set, p_move, p_bin, ev_tmp, ev_const, evc_eq, ofValue_int, retV_ok, bi_add, Option.bind_some, clean_int, cond_true, cond_false, QM_P, beq_self_eq_true, true_and, Nat.reduceBEq, Nat.reduceLT, h106, hwr, next_normal]
    refine W.mono (ih (pre ++ [id]) _ _ s' ov' (by rw [hpre]; simp) t3 (by omega) (fun n hn => (t4 n hn).trans (hs n hn)) (by rw [List.map_append]; exact t2) ⟨by simp only [nth_set, Nat.reduceBEq, cond_false, *], by simp only [nth_set, Nat.reduceBEq, cond_false, *], ?_, ?_, by simp only [nth_set, Nat.reduceBEq, cond_false, *], ?_, ?_⟩ (by simp only [nth_set, Nat.reduceBEq, cond_false, *]) (by simp only [nth_set, Nat.reduceBEq, cond_false, *]) (by simp only [nth_set, Nat.reduceBEq, cond_true, cond_false, List.length_append, List.length_cons, List.length_nil])) ?_
    · simp only [gen_set', Nat.reduceBEq, cond_false]; exact g6
    · simp only [loc_set', Nat.reduceBEq, cond_false]; exact b6
    · simp only [gen_set', Nat.reduceBEq, cond_true]
    · simp only [loc_set', Nat.reduceBEq, cond_true]
    · rintro y fr s'' ⟨rfl, e', lc', ov'', rfl, w1, w2, w3, w4, w5, w6⟩
      exact ⟨rfl, e', lc', ov'', rfl, w1, w2, w3, w4, w5, w6.trans t6⟩
end
end Go.Proofs.YtbfmdojdemckbaaGreat
/- merge.Merge: the maps -/
namespace Go.Proofs.YtbfmdojdemckbaaGreat
open Go.Ag
section
variable {Q : Prog} {f : FuncId}
def WD (Q : Prog) (f : FuncId) (bs : List Nat) (rs : List Rec) (i : Nat) (l : List SOp) (fr : Fr) (s : St) (K : Fr → St → Prop) : Prop := ∃ fr' s', RunD Q f bs rs i l fr s fr' s' ∧ K fr' s'
def RecOk (i : Nat) (rs : List Rec) : Prop := ∀ r ∈ rs, r.i < i ∧ r.loud = false
theorem RecOk.cons {i c0 c1 : Nat} {ft : Foot} {lo : Bool} {rs : List Rec} (h : RecOk i rs) (hl : lo = false) : RecOk (i + 1) (⟨i, c0, c1, ft, lo⟩ :: rs) := by
  intro r hr
  rcases List.mem_cons.1 hr with rfl | hr
  · exact ⟨Nat.lt_succ_self _, hl⟩
  · exact ⟨Nat.lt_succ_of_lt (h r hr).1, (h r hr).2⟩
theorem not_loud {s s1 : St} {o : SOp} (hst : isStore o.op = false) (hmw : s.next ≤ s1.minw) : (Nat.blt s1.minw s.next || isStore o.op) = false := by
  rw [hst, Bool.or_false, nat_blt]
  exact decide_eq_false (by omega)
theorem WD.nil {bs : List Nat} {rs : List Rec} {i : Nat} {fr : Fr} {s : St} {K : Fr → St → Prop} (h : K fr s) : WD Q f bs rs i [] fr s K := ⟨fr, s, .nil, h⟩
theorem WD.hush {b i : Nat} {bs : List Nat} {rs : List Rec} {o : SOp} {l : List SOp} {fr fr1 : Fr} {s s1 : St} {v : AVal} {lc : Ag.Loc} {K : Fr → St → Prop} (hr : RecOk i rs) (hst : isStore o.op = false) (hmw : s.next ≤ s1.minw) (hw : wantS fr.env o.g = true)
    (hpl : ∀ mk, plainS Q f o mk fr s.top = some (v, lc, s1)) (hci : s1.ci = s.ci) (hp : putDst fr o.dst v lc = some fr1) (hk : ∀ rs', RecOk (i + 1) rs' → WD Q f bs rs' (i + 1) l fr1 (s.least s1) K) : WD Q f (b :: bs) rs i (o :: l) fr s K := by
  have hl := not_loud hst hmw
  obtain ⟨fr', s', h1, h2⟩ := hk (⟨i, s.next, s1.next, footOf (Q.hint f) o.dst fr.env o.op, Nat.blt s1.minw s.next || isStore o.op⟩ :: rs) (hr.cons hl)
  exact ⟨fr', s', .step hw (hpl _) (by rw [hl]; exact fits_hush fun r h => (hr r h).2) hci hp h1, h2⟩
theorem WD.full {b i : Nat} {bs : List Nat} {rs : List Rec} {o : SOp} {l : List SOp} {fr fr1 : Fr} {s s1 : St} {v : AVal} {lc : Ag.Loc} {K : Fr → St → Prop} (hr : RecOk i rs) (hb : ∀ j, j < i → b.testBit j = true) (hst : isStore o.op = false) (hmw : s.next ≤ s1.minw) (hw : wantS fr.env o.g = true)
    (hpl : plainS Q f o [] fr s.top = some (v, lc, s1)) (hci : s1.ci = s.ci) (hp : putDst fr o.dst v lc = some fr1) (hk : ∀ rs', RecOk (i + 1) rs' → WD Q f bs rs' (i + 1) l fr1 (s.least s1) K) : WD Q f (b :: bs) rs i (o :: l) fr s K := by
  have hl := not_loud hst hmw
  obtain ⟨fr', s', h1, h2⟩ := hk (⟨i, s.next, s1.next, footOf (Q.hint f) o.dst fr.env o.op, Nat.blt s1.minw s.next || isStore o.op⟩ :: rs) (hr.cons hl)
  refine ⟨fr', s', .step hw ?_ (fits_bits fun r h => hb _ (hr r h).1) hci hp h1, h2⟩
  show plainS Q f o (maskOf b rs []) fr s.top = _
  rw [mask_bits fun r h => .inl (hb _ (hr r h).1)]
  exact hpl
theorem WD.fullL {b i : Nat} {bs : List Nat} {rs : List Rec} {o : SOp} {l : List SOp} {fr fr1 : Fr} {s s1 : St} {v : AVal} {lc : Ag.Loc} {K : Fr → St → Prop} (hr : ∀ r ∈ rs, r.i < i) (hb : ∀ j, j < i → b.testBit j = true) (hw : wantS fr.env o.g = true)
    (hpl : plainS Q f o [] fr s.top = some (v, lc, s1)) (hci : s1.ci = s.ci) (hp : putDst fr o.dst v lc = some fr1) (hk : ∀ rs', (∀ r ∈ rs', r.i < i + 1) → WD Q f bs rs' (i + 1) l fr1 (s.least s1) K) : WD Q f (b :: bs) rs i (o :: l) fr s K := by
  obtain ⟨fr', s', h1, h2⟩ := hk (⟨i, s.next, s1.next, footOf (Q.hint f) o.dst fr.env o.op, Nat.blt s1.minw s.next || isStore o.op⟩ :: rs) (fun r hr' => by
    rcases List.mem_cons.1 hr' with rfl | hr'
    · exact Nat.lt_succ_self _
    · exact Nat.lt_succ_of_lt (hr r hr'))
  refine ⟨fr', s', .step hw ?_ (fits_bits fun r h => hb _ (hr r h)) hci hp h1, h2⟩
  show plainS Q f o (maskOf b rs []) fr s.top = _
  rw [mask_bits fun r h => .inl (hb _ (hr r h))]
  exact hpl
theorem WD.call {b i : Nat} {bs : List Nat} {rs : List Rec} {o : SOp} {c : Call} {l : List SOp} {fr fr1 : Fr} {s s1 : St} {g : FuncId} {args : List AVal} {v : AVal} {K : Fr → St → Prop} (hr : RecOk i rs) (hb : ∀ j, j < i → b.testBit j = true) (ho : o.op = .call c) (hmw : s.next ≤ s1.minw) (hw : wantS fr.env o.g = true)
    (hn : ∀ b, c.callee ≠ .builtin b) (hc : callee fr.env c = some (g, args)) (hrun : RunC Q g args s.top v s1) (hci : s1.ci = s.ci) (hp : putDst fr o.dst v fr.loc = some fr1) (hk : ∀ rs', RecOk (i + 1) rs' → WD Q f bs rs' (i + 1) l fr1 (s.least s1) K) : WD Q f (b :: bs) rs i (o :: l) fr s K := by
  have hst : isStore o.op = false := by rw [ho]; rfl
  have hl := not_loud hst hmw
  obtain ⟨fr', s', h1, h2⟩ := hk (⟨i, s.next, s1.next, footOf (Q.hint f) o.dst fr.env o.op, Nat.blt s1.minw s.next || isStore o.op⟩ :: rs) (hr.cons hl)
  refine ⟨fr', s', .call hw ho hn hc ?_ (fits_bits fun r h => hb _ (hr r h).1) hci hp h1, h2⟩
  show RunM Q g args (maskOf b rs []) s.top v s1
  rw [mask_bits fun r h => .inl (hb _ (hr r h).1)]
  exact hrun
theorem W.drawD {ops : List SOp} {bs : List Nat} {fr : Fr} {s : St} {K : Ex → Fr → St → Prop} (h : WD Q f bs [] 0 ops fr s fun fr s => K .normal fr s) : W Q f (.draw ops bs) fr s K := let ⟨_, _, h1, h2⟩ := h; W.drawR h1 h2
theorem least_min {s s1 : St} (h : s.minw ≤ s.next) (h1 : s.next ≤ s1.minw) : (s.least s1).minw = s.minw := by
  show (bif Nat.ble s.minw s1.minw then s.minw else s1.minw) = s.minw
  rw [Nat.ble_eq_true_of_le (Nat.le_trans h h1)]; rfl
end
/-- what lies behind the making of the three maps and the merger -/
structure Made (s s' : St) (b o t : List Obj) (mb mo mt mu md x : Nat) : Prop where
  emb : mb = s.next
  emo : mo = mb + 1 + b.length
  emt : mt = mo + 1 + o.length
  emu : mu = mt + 1 + t.length
  emd : md = mu + 1
  ex : x = md + 1
  next : s'.next = x + 1
  minw : s'.minw ≤ s'.next
  ci : s'.ci = s.ci
  mg : Mg s' x mb mo mt mu md (addPtr [] (mb + 1) b) (addPtr [] (mo + 1) o) (addPtr [] (mt + 1) t) []
  ob : ∀ (i : Nat) (q : Obj), b[i]? = some q → s'.get [] (mb + 1 + i) = some (.cells q.cells)
  oo : ∀ (i : Nat) (q : Obj), o[i]? = some q → s'.get [] (mo + 1 + i) = some (.cells q.cells)
  ot : ∀ (i : Nat) (q : Obj), t[i]? = some q → s'.get [] (mt + 1 + i) = some (.cells q.cells)
section
variable {sp : FuncId → Option (List AVal → Option AVal)} {ch : Nat → Nat}
theorem maps_run (h23 : sp 23 = none) {vb vo vt : AVal} {b o t : List Obj} (hb : IsL 6 Obj.val vb b) (ho : IsL 6 Obj.val vo o) (ht : IsL 6 Obj.val vt t) (sb : b.length < small) (so : o.length < small) (st : t.length < small) {e : Env} {lc : Ag.Loc} {s : St} (hm : s.minw ≤ s.next)
    (h3 : nth e 3 = .lref 3 1 0) (_g3 : lc.gen 3 = 1) (b3 : lc.get 3 1 = some [vb]) (h4 : nth e 4 = .lref 4 1 0) (_g4 : lc.gen 4 = 1) (b4 : lc.get 4 1 = some [vo]) (h5 : nth e 5 = .lref 5 1 0) (_g5 : lc.gen 5 = 1) (b5 : lc.get 5 1 = some [vt]) {K : Fr → St → Prop}
    (hk : ∀ (e' : Env) (s' : St) (mb mo mt mu md x : Nat), Made s s' b o t mb mo mt mu md x → nth e' 8 = .ptr x 0 → nth e' 6 = nth e 6 → nth e' 7 = nth e 7 → K ⟨e', 132, lc⟩ s') :
    WD (QM sp ch) 9 k9_b3 [] 0 k9_r3 ⟨e, 132, lc⟩ s K := by
  have cb := hb.clean
  have co := ho.clean
  have ct := ht.clean
  obtain ⟨s1, r1, l1⟩ := objects_run (ch := ch) h23 hb sb s.top (Nat.le_refl _)
  have n1 : s1.next = s.next + 1 + b.length := l1.next
  have w1 : s1.minw = s.next := l1.minw
  let sA := s.least s1
  have mA : sA.minw = s.minw := least_min hm (by omega)
  have nA : sA.next = s.next + 1 + b.length := n1
  have hA : sA.minw ≤ sA.next := by omega
  obtain ⟨s2, r2, l2⟩ := objects_run (ch := ch) h23 ho so sA.top (Nat.le_refl _)
  have n2 : s2.next = sA.next + 1 + o.length := l2.next
  have w2 : s2.minw = sA.next := l2.minw
  let sB := sA.least s2
  have mB : sB.minw = sA.minw := least_min hA (by omega)
  have nB : sB.next = sA.next + 1 + o.length := n2
  have hB : sB.minw ≤ sB.next := by omega
  obtain ⟨s3, r3, l3⟩ := objects_run (ch := ch) h23 ht st sB.top (Nat.le_refl _)
  have n3 : s3.next = sB.next + 1 + t.length := l3.next
  have w3 : s3.minw = sB.next := l3.minw
  let sC := sB.least s3
  have mC : sC.minw = sB.minw := least_min hB (by omega)
  have nC : sC.next = sB.next + 1 + t.length := n3
  have hC : sC.minw ≤ sC.next := by omega
  have gB : ∀ n, n < sA.next → sB.get [] n = sA.get [] n := fun n h => l2.old n (by show n < sA.next + 1; omega) (by show n ≠ sA.next; omega)
  have gC : ∀ n, n < sB.next → sC.get [] n = sB.get [] n := fun n h => l3.old n (by show n < sB.next + 1; omega) (by show n ≠ sB.next; omega)
  have gF : ∀ n v, n < sC.next → (((sC.new (.map [] 0)).new (.map [] 0)).new v).get [] n = sC.get [] n := fun n v h => by
    rw [get_new, get_new, get_new]
    have e1 : (n == ((sC.new (.map [] 0)).new (.map [] 0)).next) = false := beq_eq_false_iff_ne.2 (by show n ≠ sC.next + 1 + 1; omega)
    have e2 : (n == (sC.new (.map [] 0)).next) = false := beq_eq_false_iff_ne.2 (by show n ≠ sC.next + 1; omega)
    have e3 : (n == sC.next) = false := beq_eq_false_iff_ne.2 (by omega)
    rw [e1, e2, e3]; rfl
  unfold k9_r3 k9_b3
  refine WD.hush (v := .agg [vb]) (lc := lc) (s1 := s.top) (fr1 := ⟨e.set 33 (some (.agg [vb])), 132, lc⟩) (fun _ h => by cases h) rfl (Nat.le_refl _) rfl (fun mk => by simp only [p_load, ev_tmp, load_loc, retV_ok, Option.bind_some, cond_true, QM_P, List.length_cons, List.length_nil, cut, List.take, List.drop, beq_self_eq_true, Nat.zero_add, nat_beq, rd_24, h3, b3]) rfl (put_some.2 ⟨by decide, rfl⟩) (fun rs1 k1 => ?_)
  rw [least_top hm]
  refine WD.call (g := 23) (args := [.agg [vb]]) (v := .map s.next) (s1 := s1) (fr1 := ⟨(e.set 33 (some (.agg [vb]))).set 34 (some (.map s.next)), 132, lc⟩) k1 (by decide) rfl (by omega) rfl (fun b => by simp) (by simp only [callee, nth_set, ev_tmp, ev_func, evc_eq, evcs_nil, evcs_cons, Option.bind_some, clean_agg, cond_true, List.nil_append, List.cons_append, beq_self_eq_true]) r1 l1.ci (put_some.2 ⟨by decide, rfl⟩) (fun rs2 k2 => ?_)
  refine WD.hush (v := .agg [vo]) (lc := lc) (s1 := sA.top) (fr1 := ⟨((e.set 33 (some (.agg [vb]))).set 34 (some (.map s.next))).set 35 (some (.agg [vo])), 132, lc⟩) k2 rfl (Nat.le_refl _) rfl (fun mk => by simp only [nth_set, p_load, ev_tmp, load_loc, retV_ok, Option.bind_some, cond_true, cond_false, QM_P, List.length_cons, List.length_nil, cut, List.take, List.drop, beq_self_eq_true, Nat.zero_add, Nat.reduceBEq, nat_beq, rd_24, h4, b4]; rfl) rfl (put_some.2 ⟨by decide, rfl⟩) (fun rs3 k3 => ?_)
  rw [show (s.least s1).least sA.top = sA from least_top hA]
  refine WD.call (g := 23) (args := [.agg [vo]]) (v := .map sA.next) (s1 := s2) (fr1 := ⟨(((e.set 33 (some (.agg [vb]))).set 34 (some (.map s.next))).set 35 (some (.agg [vo]))).set 36 (some (.map sA.next)), 132, lc⟩) k3 (by decide) rfl (by omega) rfl (fun b => by simp) (by simp only [callee, nth_set, ev_tmp, ev_func, evc_eq, evcs_nil, evcs_cons, Option.bind_some, clean_agg, cond_true, cond_false, List.nil_append, List.cons_append, beq_self_eq_true, Nat.reduceBEq]) r2 l2.ci (put_some.2 ⟨by decide, rfl⟩) (fun rs4 k4 => ?_)
  refine WD.hush (v := .agg [vt]) (lc := lc) (s1 := sB.top) (fr1 := ⟨((((e.set 33 (some (.agg [vb]))).set 34 (some (.map s.next))).set 35 (some (.agg [vo]))).set 36 (some (.map sA.next))).set 37 (some (.agg [vt])), 132, lc⟩) k4 rfl (Nat.le_refl _) rfl (fun mk => by simp only [nth_set, p_load, ev_tmp, load_loc, retV_ok, Option.bind_some, cond_true, cond_false, QM_P, List.length_cons, List.length_nil, cut, List.take, List.drop, beq_self_eq_true, Nat.zero_add, Nat.reduceBEq, nat_beq, rd_24, h5, b5]; rfl) rfl (put_some.2 ⟨by decide, rfl⟩) (fun rs5 k5 => ?_)
  rw [show (sA.least s2).least sB.top = sB from least_top hB]
  refine WD.call (g := 23) (args := [.agg [vt]]) (v := .map sB.next) (s1 := s3) (fr1 := ⟨(((((e.set 33 (some (.agg [vb]))).set 34 (some (.map s.next))).set 35 (some (.agg [vo]))).set 36 (some (.map sA.next))).set 37 (some (.agg [vt]))).set 38 (some (.map sB.next)), 132, lc⟩) k5 (by decide) rfl (by omega) rfl (fun b => by simp) (by simp only [callee, nth_set, ev_tmp, ev_func, evc_eq, evcs_nil, evcs_cons, Option.bind_some, clean_agg, cond_true, cond_false, List.nil_append, List.cons_append, beq_self_eq_true, Nat.reduceBEq]) r3 l3.ci (put_some.2 ⟨by decide, rfl⟩) (fun rs6 k6 => ?_)
  refine WD.hush (v := .map sC.next) (lc := lc) (s1 := sC.top.new (.map [] 0)) (fr1 := ⟨((((((e.set 33 (some (.agg [vb]))).set 34 (some (.map s.next))).set 35 (some (.agg [vo]))).set 36 (some (.map sA.next))).set 37 (some (.agg [vt]))).set 38 (some (.map sB.next))).set 39 (some (.map sC.next)), 132, lc⟩) k6 rfl (Nat.le_refl _) rfl (fun mk => by simp only [p_makeMap, retVS_some, QM_P, mm_none]; rfl) rfl (put_some.2 ⟨by decide, rfl⟩) (fun rs7 k7 => ?_)
  rw [show (sB.least s3).least (sC.top.new (.map [] 0)) = sC.new (.map [] 0) from least_new hC _]
  have hD : (sC.new (.map [] 0)).minw ≤ (sC.new (.map [] 0)).next := Nat.le_succ_of_le hC
  refine WD.hush (v := .map (sC.next + 1)) (lc := lc) (s1 := (sC.new (.map [] 0)).top.new (.map [] 0)) (fr1 := ⟨(((((((e.set 33 (some (.agg [vb]))).set 34 (some (.map s.next))).set 35 (some (.agg [vo]))).set 36 (some (.map sA.next))).set 37 (some (.agg [vt]))).set 38 (some (.map sB.next))).set 39 (some (.map sC.next))).set 40 (some (.map (sC.next + 1))), 132, lc⟩) k7 rfl (Nat.le_refl _) rfl (fun mk => by simp only [p_makeMap, retVS_some, QM_P, mm_none]; rfl) rfl (put_some.2 ⟨by decide, rfl⟩) (fun rs8 k8 => ?_)
  rw [show (sC.new (.map [] 0)).least ((sC.new (.map [] 0)).top.new (.map [] 0)) = (sC.new (.map [] 0)).new (.map [] 0) from least_new hD _]
  have hE : ((sC.new (.map [] 0)).new (.map [] 0)).minw ≤ ((sC.new (.map [] 0)).new (.map [] 0)).next := Nat.le_succ_of_le hD
  refine WD.full (v := .agg [.map s.next, .map sA.next, .map sB.next, .map sC.next, .map (sC.next + 1)]) (lc := lc) (s1 := ((sC.new (.map [] 0)).new (.map [] 0)).top) (fr1 := ⟨((((((((e.set 33 (some (.agg [vb]))).set 34 (some (.map s.next))).set 35 (some (.agg [vo]))).set 36 (some (.map sA.next))).set 37 (some (.agg [vt]))).set 38 (some (.map sB.next))).set 39 (some (.map sC.next))).set 40 (some (.map (sC.next + 1)))).set 41 (some (.agg [.map s.next, .map sA.next, .map sB.next, .map sC.next, .map (sC.next + 1)])), 132, lc⟩) k8 (by decide) rfl (Nat.le_refl _) rfl ?_ rfl (put_some.2 ⟨by decide, rfl⟩) (fun rs9 k9 => ?_)
  · simp only [nth_set, p_build, ev_tmp, evc_eq, cells_agg, Option.bind_some, clean_map, cond_true, cond_false, QM_P, List.length_cons, List.length_nil, writeCells, List.drop_succ_cons, List.nil_append, List.cons_append, beq_self_eq_true, Nat.zero_add, Nat.reduceBEq, Nat.reduceAdd, Nat.reduceLeDiff, nat_beq, nat_ble, bd_65, zr_65, fillA, cells_map]; rfl
  rw [least_top hE]
  refine WD.fullL (v := .ptr (sC.next + 2) 0) (lc := lc) (s1 := ((sC.new (.map [] 0)).new (.map [] 0)).top.new (.cells [.map s.next, .map sA.next, .map sB.next, .map sC.next, .map (sC.next + 1)])) (fr1 := ⟨(((((((((e.set 33 (some (.agg [vb]))).set 34 (some (.map s.next))).set 35 (some (.agg [vo]))).set 36 (some (.map sA.next))).set 37 (some (.agg [vt]))).set 38 (some (.map sB.next))).set 39 (some (.map sC.next))).set 40 (some (.map (sC.next + 1)))).set 41 (some (.agg [.map s.next, .map sA.next, .map sB.next, .map sC.next, .map (sC.next + 1)]))).set 42 (some (.ptr (sC.next + 2) 0)), 132, lc⟩) (fun r hr => (k9 r hr).1) (by decide) rfl ?_ rfl (put_some.2 ⟨by decide, rfl⟩) (fun rs10 k10 => ?_)
  · simp only [nth_set, p_box, ev_tmp, evc_eq, boxA_heap, hintOf_some, cells_agg, Option.bind_some, clean_agg, cond_true, cond_false, QM_hint, beq_self_eq_true, Nat.reduceBEq, hint_9_42, boxA_heap]; rfl
  rw [least_new hE]
  have hF := Nat.le_succ_of_le hE
  refine WD.fullL (v := .ptr (sC.next + 2) 0) (lc := lc) (s1 := (((sC.new (.map [] 0)).new (.map [] 0)).new (.cells [.map s.next, .map sA.next, .map sB.next, .map sC.next, .map (sC.next + 1)])).top) (fr1 := ⟨((((((((((e.set 33 (some (.agg [vb]))).set 34 (some (.map s.next))).set 35 (some (.agg [vo]))).set 36 (some (.map sA.next))).set 37 (some (.agg [vt]))).set 38 (some (.map sB.next))).set 39 (some (.map sC.next))).set 40 (some (.map (sC.next + 1)))).set 41 (some (.agg [.map s.next, .map sA.next, .map sB.next, .map sC.next, .map (sC.next + 1)]))).set 42 (some (.ptr (sC.next + 2) 0))).set 8 (some (.ptr (sC.next + 2) 0)), 132, lc⟩) k10 (by decide) rfl ?_ rfl (put_some.2 ⟨by decide, rfl⟩) (fun rs11 k11 => ?_)
  · simp only [nth_set, p_assign, ev_tmp, retV_ok, cond_true, cond_false, beq_self_eq_true, Nat.reduceBEq]
  rw [least_top hF]
  refine WD.nil (hk _ _ s.next sA.next sB.next sC.next (sC.next + 1) (sC.next + 2) ⟨rfl, nA, nB, nC, rfl, rfl, rfl, hF, ?_, ⟨?_, ?_, ?_, ?_, ?_, ?_⟩, ?_, ?_, ?_⟩ (by simp only [nth_set, Nat.reduceBEq, cond_true, cond_false, *]) (by simp only [nth_set, Nat.reduceBEq, cond_false, *]) (by simp only [nth_set, Nat.reduceBEq, cond_false, *]))
  · exact (l3.ci.trans (l2.ci.trans l1.ci) : _)
  · rw [get_new, show (sC.next + 2 == ((sC.new (.map [] 0)).new (.map [] 0)).next) = true from beq_self_eq_true _]; rfl
  · rw [gF _ _ (by omega), gC _ (by omega), gB _ (by omega)]; exact l1.map
  · rw [gF _ _ (by omega), gC _ (by omega)]; exact l2.map
  · rw [gF _ _ (by omega)]; exact l3.map
  · rw [get_new, get_new, get_new]
    have e1 : (sC.next == ((sC.new (.map [] 0)).new (.map [] 0)).next) = false := beq_eq_false_iff_ne.2 (by show sC.next ≠ sC.next + 1 + 1; omega)
    have e2 : (sC.next == (sC.new (.map [] 0)).next) = false := beq_eq_false_iff_ne.2 (by show sC.next ≠ sC.next + 1; omega)
    rw [e1, e2, beq_self_eq_true]; rfl
  · rw [get_new, get_new]
    have e1 : (sC.next + 1 == ((sC.new (.map [] 0)).new (.map [] 0)).next) = false := beq_eq_false_iff_ne.2 (by show sC.next + 1 ≠ sC.next + 1 + 1; omega)
    have e2 : (sC.next + 1 == (sC.new (.map [] 0)).next) = true := beq_self_eq_true _
    rw [e1, e2]; rfl
  · intro i q hq
    have hi : i < b.length := by
      rcases Nat.lt_or_ge i b.length with h | h
      · exact h
      · rw [List.getElem?_eq_none h] at hq; cases hq
    rw [gF _ _ (by omega), gC _ (by omega), gB _ (by omega)]; exact l1.obj i q hq
  · intro i q hq
    have hi : i < o.length := by
      rcases Nat.lt_or_ge i o.length with h | h
      · exact h
      · rw [List.getElem?_eq_none h] at hq; cases hq
    rw [gF _ _ (by omega), gC _ (by omega)]; exact l2.obj i q hq
  · intro i q hq
    have hi : i < t.length := by
      rcases Nat.lt_or_ge i t.length with h | h
      · exact h
      · rw [List.getElem?_eq_none h] at hq; cases hq
    rw [gF _ _ (by omega)]; exact l3.obj i q hq
end
end Go.Proofs.YtbfmdojdemckbaaGreat
/- merge.Merge where no name is in conflict and nothing is missing -/
namespace Go.Proofs.YtbfmdojdemckbaaGreat
open Go.Ag
theorem ents_entKeys : ∀ (U : List (Bytes × AVal)) (n : Nat), entKeys (ents n U) = some (U.map (·.1))
  | [], _ => rfl
  | (k, v) :: U, n => by simp only [ents, entKeys, ents_entKeys U (n + 1), Option.bind_some, List.map_cons]
theorem ents_borns : ∀ (U : List (Bytes × AVal)) (n : Nat), (ents n U).map (·.born) = List.range' n U.length
  | [], _ => rfl
  | (k, v) :: U, n => by simp only [ents, List.map_cons, ents_borns U (n + 1), List.length_cons, List.range'_succ]
theorem ents_length : ∀ (U : List (Bytes × AVal)) (n : Nat), (ents n U).length = U.length
  | [], _ => rfl
  | (k, v) :: U, n => by simp only [ents, List.length_cons, ents_length U (n + 1)]
theorem distB_of : ∀ {l : List Bytes}, l.Nodup → distB l = true
  | [], _ => rfl
  | k :: l, h => by
    rw [List.nodup_cons] at h
    simp only [distB, Bool.and_eq_true, Bool.not_eq_true', List.any_eq_false, beq_iff_eq]
    exact ⟨fun x hx e => h.1 (e ▸ hx), distB_of h.2⟩
theorem distN_of : ∀ {l : List Nat}, l.Nodup → distN l = true
  | [], _ => rfl
  | k :: l, h => by
    rw [List.nodup_cons] at h
    simp only [distN, Bool.and_eq_true, Bool.not_eq_true', List.any_eq_false]
    exact ⟨fun x hx e => h.1 (by have := Nat.eq_of_beq_eq_true e; subst this; exact hx), distN_of h.2⟩
theorem allB_of : ∀ {l : List Bytes}, (∀ k ∈ l, k.length < 4294967296) → allB l = true
  | [], _ => rfl
  | k :: l, h => by
    simp only [allB, Bool.and_eq_true]
    exact ⟨Nat.ble_eq_true_of_le (h k (by simp)), allB_of fun x hx => h x (by simp [hx])⟩
theorem allN_of {c : Nat} : ∀ {l : List Nat}, (∀ k ∈ l, k < c) → allN c l = true
  | [], _ => rfl
  | k :: l, h => by
    simp only [allN, Bool.and_eq_true]
    exact ⟨Nat.ble_eq_true_of_le (h k (by simp)), allN_of fun x hx => h x (by simp [hx])⟩
theorem fit_of {U : List (Bytes × AVal)} (hl : U.length < 4294967296) (hk : ∀ k ∈ U.map (·.1), k.length < 4294967296) (hn : (U.map (·.1)).Nodup) : fitEs (ents 0 U) U.length (U.map (·.1)) = true := by
  unfold fitEs
  rw [ents_length, ents_borns]
  have h1 : Nat.blt U.length 4294967296 = true := Nat.ble_eq_true_of_le hl
  have h2 := allB_of hk
  have h3 := distB_of hn
  have h4 : allN U.length (List.range' 0 U.length) = true := allN_of fun k hk => by
    have := List.mem_range'_1.1 hk; omega
  have h5 : distN (List.range' 0 U.length) = true := distN_of List.nodup_range'
  rw [h1, h2, h3, h4, h5]; rfl
theorem listV_isL (l : List Bytes) : IsL 1 strV (listV (l.map strV)) l := by
  cases l with
  | nil => exact .inl ⟨rfl, rfl⟩
  | cons a l => exact .inr ⟨.no, rfl⟩
theorem cleanU_roz (l : List AVal) : (AVal.roz l).clean = true := rfl
section
variable {sp : FuncId → Option (List AVal → Option AVal)} {ch : Nat → Nat}
theorem sort_run (h25 : sp 25 = none) {s : St} {m : Nat} {U : List (Bytes × AVal)} (hs : s.get [] m = some (.map (ents 0 U) U.length)) (hl : U.length < 4294967296) (hk : ∀ k ∈ U.map (·.1), k.length < 4294967296) (hn : (U.map (·.1)).Nodup) :
    RunC (QM sp ch) 25 [.func (.func 49) [] [.roz [.map m]]] s (listV ((sortB (U.map (·.1))).map strV)) s := by
  refine RunC.specH (sp := sortSp) h25 rfl ?_
  have h1 : sortSp [.func (.func 49) [] [.roz [.map m]]] = .ask m fun
    | .map es clock => .ret ((entKeys es).bind fun ks => bif fitEs es clock ks then some (listV ((sortB ks).map strV)) else none)
    | _ => .ret none := rfl
  rw [h1]
  simp only [runRd, hs, Option.bind_some, ents_entKeys, fit_of hl hk hn, cond_true]
theorem none_run (h28 : sp 28 = none) {s : St} {n m : Nat} (h1 : s.get [] n = some (.cells [.map m])) (h2 : s.get [] m = some (.map [] 0)) : RunC (QM sp ch) 28 [.func (.func 52) [] [.ptr n 0], .func (.func 30) [] []] s .nils s := by
  refine RunC.specH (sp := sfSp) h28 rfl ?_
  simp only [sfSp, runRd, h1, h2, Option.bind_some]
theorem bad_run (h29 : sp 29 = none) (m : Nat) (s : St) : RunC (QM sp ch) 29 [.map m] s (.func (.func 52) [] [.ptr s.next 0]) (s.new (.cells [.map m])) := by
  refine RunC.of2 k29_func k29_code k29_tmps k29_res h29 ?_
  unfold k29
  refine W.sreg ?_
  unfold k29_r0
  simp only [frame0, ofArgs, WP_nil, WP_always, stepK_some, nth_set, p_assign, p_box, ev_tmp, ev_const, evc_eq, boxA_heap, retV_ok, hintOf_some, Option.bind_some, clean_map, cond_true, QM_hint, List.length_cons, List.length_nil, beq_self_eq_true, true_and, Nat.zero_add, Nat.reduceLT, Nat.reduceLeDiff, nat_ble, decide_true, hint_29_1, boxA_heap, cells_map, ofValue, ofScal]
  refine W.sreg ?_
  unfold k29_r1
  simp only [WP_nil, WP_always, stepK_some, nth_set, p_assign, p_makeFunc, ev_tmp, evc_eq, evcs_nil, evcs_cons, retV_ok, Option.bind_some, clean_ptr, cond_true, cond_false, beq_self_eq_true, true_and, Nat.reduceBEq, Nat.reduceLT, makeFuncA]
  exact W.ret ⟨rfl, .inr rfl, res_tmp (by simp only [nth_set, Nat.reduceBEq, cond_true, cond_false, *]) rfl⟩
end
end Go.Proofs.YtbfmdojdemckbaaGreat
/- merge.Merge, whole -/
namespace Go.Proofs.YtbfmdojdemckbaaGreat
open Go.Ag
theorem bs_66 {e : Env} {x y z : Operand} {a b c : Nat} (hx : ev e x = some (.map a)) (hy : ev e y = some (.map b)) (hz : ev e z = some (.map c)) (s : St) : buildSliceA Tryz.prog 66 3 [(0, x), (1, y), (2, z)] false e s = some (.list 1 [.map a, .map b, .map c] .full, s) := by
  simp only [buildSliceA, el_66, Option.bind_some, fillA, evc, hx, hy, hz, AVal.clean, cond_true, repCells, AVal.cells, List.length_cons, List.length_nil, writeCells, Nat.zero_mul, Nat.zero_add, Nat.reduceAdd, Nat.reduceMul, chunk, cut]
  rfl
theorem res_cell24 {Q : Prog} (hP : Q.P = Tryz.prog) {e : Env} {n : Nat} {lc : Ag.Loc} {s : St} {t u : Tmp} {ov w : AVal} (h : nth e t = .lref t 1 0) (hl : lc.get t 1 = some [ov]) (hu : nth e u = w) (hw : w.clean = true) : ∃ vs, resultsA Q [] ⟨e, n, lc⟩ s [.cell t 24, .tmp u] = some vs ∧ packA vs = .tup [.agg [ov], w] := by
  refine ⟨[.agg [ov], w], ?_, rfl⟩
  simp only [resultsA, resultA, h, hP, load_loc, hl, Option.bind_some, rd_24, cut, List.drop_zero, List.take, nat_beq, List.length_cons, List.length_nil, beq_self_eq_true, cond_true, clean_agg, evc, ev, hu, hw]
theorem objAt_some {k : Bytes} : ∀ {l : List Obj} {q : Obj}, objAt k l = some q → q ∈ l ∧ q.id = k
  | [], _, h => by cases h
  | o :: r, q, h => by
    simp only [objAt] at h
    cases hb : k == o.id with
    | true =>
      rw [hb] at h
      injection h with h; subst h
      have : k = o.id := by simpa using hb
      exact ⟨by simp, this.symm⟩
    | false =>
      rw [hb] at h
      obtain ⟨h1, h2⟩ := objAt_some h
      exact ⟨by simp [h1], h2⟩
theorem ptrs_length : ∀ (l : List Obj) (p : Nat), (ptrs p l).length = l.length
  | [], _ => rfl
  | o :: l, p => by simp only [ptrs, List.length_cons, ptrs_length l (p + 1)]
theorem ptrs_look {k : Bytes} : ∀ {l : List Obj} {p : Nat} {q : Obj}, objAt k l = some q → ∃ v, (k, v) ∈ ptrs p l
  | [], _, _, h => by cases h
  | o :: l, p, q, h => by
    simp only [objAt] at h
    cases hb : k == o.id with
    | true =>
      have : k = o.id := by simpa using hb
      subst this
      exact ⟨_, by simp [ptrs]; exact .inl rfl⟩
    | false =>
      rw [hb] at h
      obtain ⟨v, hv⟩ := ptrs_look (p := p + 1) h
      exact ⟨v, by simp [ptrs, hv]⟩
theorem outO_mem {b o t : List Obj} {k : Bytes} {q : Obj} (h : outO b o t k = some q) : (q ∈ o ∧ objAt k o = some q ∨ q ∈ t ∧ objAt k t = some q) ∧ q.id = k := by
  unfold outO at h
  cases h1 : optEq (objAt k o) (objAt k t) with
  | true =>
    rw [h1] at h
    have h2 := objAt_some h
    exact ⟨.inl ⟨h2.1, h⟩, h2.2⟩
  | false =>
    rw [h1] at h
    cases h3 : optEq (objAt k t) (objAt k b) with
    | true =>
      rw [h3] at h
      have h2 := objAt_some h
      exact ⟨.inl ⟨h2.1, h⟩, h2.2⟩
    | false =>
      rw [h3] at h
      have h2 := objAt_some h
      exact ⟨.inr ⟨h2.1, h⟩, h2.2⟩
theorem mem_look : ∀ {U : List (Bytes × AVal)} {k : Bytes}, k ∈ U.map (·.1) → ∃ v, look k U = some v
  | [], _, h => by cases h
  | (a, u) :: U, k, h => by
    simp only [look]
    cases hb : k == a with
    | true => exact ⟨u, rfl⟩
    | false =>
      have hne : k ≠ a := by simpa using hb
      simp only [List.map_cons, List.mem_cons] at h
      exact mem_look (h.resolve_left hne)
theorem look_mem : ∀ {U : List (Bytes × AVal)} {k : Bytes} {v : AVal}, look k U = some v → k ∈ U.map (·.1)
  | [], _, _, h => by cases h
  | (a, u) :: U, k, v, h => by
    simp only [look] at h
    cases hb : k == a with
    | true =>
      have : k = a := by simpa using hb
      simp [this]
    | false =>
      rw [hb] at h
      simp only [List.map_cons, List.mem_cons]
      exact .inr (look_mem h)
/-- what the merging of three maps asks for -/
structure Calm (b o t : List Obj) : Prop where
  vb : mapValid b = true
  vo : mapValid o = true
  vt : mapValid t = true
  gb : ∀ q ∈ b, q.Good
  go : ∀ q ∈ o, q.Good
  gt : ∀ q ∈ t, q.Good
  lb : b.length ≤ 64
  lo : o.length ≤ 64
  lt : t.length ≤ 64
  nb : (b.map (·.id)).Nodup
  no : (o.map (·.id)).Nodup
  nt : (t.map (·.id)).Nodup
  ko : ∀ q ∈ o, q.id.length < 4294967296
  kt : ∀ q ∈ t, q.id.length < 4294967296
  tame : ∀ k, (optEq (objAt k o) (objAt k t) || optEq (objAt k t) (objAt k b) || optEq (objAt k o) (objAt k b)) = true
  full : ∀ k q, outO b o t k = some q → ∀ r ∈ q.refs, outO b o t r ≠ none
def outG (b o t : List Obj) (k : Bytes) : Obj := (outO b o t k).getD zeroObj
section
variable {sp : FuncId → Option (List AVal → Option AVal)} {ch : Nat → Nat}
theorem merge_run (h9 : sp 9 = none) (h13 : sp 13 = some mapSp) (h23 : sp 23 = none) (h24 : sp 24 = none) (h43 : sp 43 = none) (h16 : sp 16 = some osameSp) (h26 : sp 26 = some keysSp) (h25 : sp 25 = none) (h27 : sp 27 = none) (h28 : sp 28 = none) (h29 : sp 29 = none)
    {vb vo vt : AVal} {b o t : List Obj} (hb : IsL 6 Obj.val vb b) (ho : IsL 6 Obj.val vo o) (ht : IsL 6 Obj.val vt t) (hc : Calm b o t) {s : St} (hm : s.minw ≤ s.next) :
    ∃ v s', RunC (QM sp ch) 9 [.agg [vb], .agg [vo], .agg [vt]] s v s' ∧ (∃ ov x K, v = .tup [.agg [ov], .nils] ∧ K.Nodup ∧ (∀ k, k ∈ K ↔ outO b o t k ≠ none) ∧ OutI x s' ov ((sortB K).map (outG b o t)) ∧ s'.ci ≤ s.ci + 192) := by
  have cb := hb.clean
  have co := ho.clean
  have ct := ht.clean
  have hsm : small = 9223372036854775808 := rfl
  have hvb := mapSp_of hb hc.gb (by have := hc.lb; omega)
  have hvo := mapSp_of ho hc.go (by have := hc.lo; omega)
  have hvt := mapSp_of ht hc.gt (by have := hc.lt; omega)
  rw [hc.vb] at hvb
  rw [hc.vo] at hvo
  rw [hc.vt] at hvt
  refine RunC.ofEx k9_func k9_code k9_tmps k9_res h9 ?_
  unfold k9
  refine W.sreg ?_
  unfold k9_r0
  simp only [frame0, ofArgs, WP_nil, WP_always, stepK_some, nth_set, gen_nil, gen_set', p_assign, p_alloc, p_box, ev_tmp, ev_const, evc_eq, boxA_loc, retV_ok, hintOf_some, cells_agg, Option.bind_some, clean_agg, cond_true, cond_false, QM_P, QM_hint, List.length_cons, List.length_nil, beq_self_eq_true, true_and, Nat.zero_add, Nat.reduceBEq, Nat.reduceLT, Nat.reduceAdd, Nat.reduceLeDiff, nat_ble, decide_true, zr_24, hint_9_3, hint_9_4, hint_9_5, hint_9_6, ofValue, ofScal]
  refine W.seq (W.sreg ?_)
  unfold k9_r1
  simp only [WP_nil, WP_always, WP_when, stepK_some, whenK_true, wantV_ff, nth_set, loc_set', p_move, p_pick, p_load, p_un, p_call, callee_func, ev_tmp, ev_const, evc_eq, evcs_nil, evcs_cons, ofValue_bool, load_loc, pick_eq, pickV_false, retV_ok, un_not, Option.bind_some, clean_bool, clean_agg, cond_true, cond_false, QM_P, QM_spec, List.length_cons, List.length_nil, cut, List.take, List.drop, Bool.not_true, beq_self_eq_true, true_and, Nat.zero_add, Nat.reduceBEq, Nat.reduceLT, nat_beq, rd_24, h13, hvb, hvo, hvt]
  refine W.cond (t := false) (by simp only [ev_tmp, nth_set, Nat.reduceBEq, cond_true, cond_false, *]) (W.skip ?_)
  simp only [next_normal]
  refine W.seq (W.drawD (maps_run h23 hb ho ht (by have := hc.lb; omega) (by have := hc.lo; omega) (by have := hc.lt; omega) hm (by simp only [nth_set, Nat.reduceBEq, cond_true, cond_false, *]) ?_ ?_ (by simp only [nth_set, Nat.reduceBEq, cond_true, cond_false, *]) ?_ ?_ (by simp only [nth_set, Nat.reduceBEq, cond_true, cond_false, *]) ?_ ?_ ?_))
  · simp only [gen_nil, gen_set', Nat.reduceBEq, cond_true, cond_false]
  · simp only [loc_set', Nat.reduceBEq, cond_true, cond_false]
  · simp only [gen_nil, gen_set', Nat.reduceBEq, cond_true, cond_false]
  · simp only [loc_set', Nat.reduceBEq, cond_true, cond_false]
  · simp only [gen_nil, gen_set', Nat.reduceBEq, cond_true, cond_false]
  · simp only [loc_set', Nat.reduceBEq, cond_true, cond_false]
  intro e1 s1 mb mo mt mu md x M h8 h6 _
  simp only [next_normal]
  have eB : addPtr [] (mb + 1) b = ptrs (mb + 1) b := by simpa using addPtr_eq b [] (mb + 1) (fun _ _ => rfl) hc.nb
  have eO : addPtr [] (mo + 1) o = ptrs (mo + 1) o := by simpa using addPtr_eq o [] (mo + 1) (fun _ _ => rfl) hc.no
  have eT : addPtr [] (mt + 1) t = ptrs (mt + 1) t := by simpa using addPtr_eq t [] (mt + 1) (fun _ _ => rfl) hc.nt
  have mg := M.mg
  rw [eB, eO, eT] at mg
  have q1 := M.emb
  have q2 := M.emo
  have q3 := M.emt
  have q4 := M.emu
  have q5 := M.emd
  have q6 := M.ex
  have q7 := M.next
  have ctx : Ctx s1 mu (ptrs (mb + 1) b) (ptrs (mo + 1) o) (ptrs (mt + 1) t) b o t := ⟨ptrs_pv b _ M.ob hc.gb (by omega), ptrs_pv o _ M.oo hc.go (by omega), ptrs_pv t _ M.ot hc.gt (by omega), hc.tame⟩
  have rs : Rs s1 s1 x mb mo mt mu md (ptrs (mb + 1) b) (ptrs (mo + 1) o) (ptrs (mt + 1) t) [] b o t := ⟨mg, fun _ _ => rfl, M.minw, ⟨by omega, by omega, by omega, by omega, by omega, by omega⟩, fun k v h => (by cases h), List.nodup_nil⟩
  have h6 : nth e1 6 = .lref 6 1 0 := h6.trans (by simp only [nth_set, Nat.reduceBEq, cond_true, cond_false, *])
  have hx : s1.top.get [] x = _ := mg.hx
  have hbs : ∀ e s, nth e 46 = .map mb → nth e 50 = .map mo → nth e 54 = .map mt → buildSliceA Tryz.prog 66 3 [(0, .tmp 46), (1, .tmp 50), (2, .tmp 54)] false e s = some (.list 1 [.map mb, .map mo, .map mt] .full, s) := fun e s p q r => bs_66 (by rw [ev_tmp, p]) (by rw [ev_tmp, q]) (by rw [ev_tmp, r]) s
  refine W.seq (W.sdrawQ M.minw ?_)
  unfold k9_r4
  simp only [WQ_nil, WQ_always, stepQ_some, isStore, nth_set, p_move, p_buildSlice, p_load, p_fieldAddr, p_nilCheck, p_builtin, ev_tmp, ev_const, evc_eq, evcs_nil, evcs_cons, ofValue_int, retV_ok, retVS_some, bl_len, hintOf_some, Option.bind_some, clean_list, cond_true, cond_false, QM_P, QM_hint, List.length_cons, List.length_nil, List.drop, List.head?_cons, beq_self_eq_true, true_and, Nat.zero_add, Nat.add_zero, Nat.reduceBEq, Nat.reduceLT, Nat.reduceAdd, nat_beq, rd_61, fa_65_0_p, fa_65_1_p, fa_65_2_p, ln_66_l, hint_9_55, hint_9_56, h8, nil_ptr, load_ptr, hx, loadO_cells, hbs]
  refine W.block ?_
  refine (out_loop h24 h43 h16 ctx (ms := [(mb, ptrs (mb + 1) b), (mo, ptrs (mo + 1) o), (mt, ptrs (mt + 1) t)]) (rt := .full) (by simp) ?_ _ [] _ _ [] rfl rs (by simp only [nth_set, Nat.reduceBEq, cond_false, *]) (by simp only [nth_set, Nat.reduceBEq, cond_true, cond_false, List.map_cons, List.map_nil]) (by simp only [nth_set, Nat.reduceBEq, cond_true, cond_false]; rfl) (by simp only [nth_set, Nat.reduceBEq, cond_true, cond_false]; rfl)).mono ?_
  · intro p hp
    simp only [List.mem_cons, List.not_mem_nil, or_false] at hp
    rcases hp with rfl | rfl | rfl
    · exact ⟨by show mb < mu; omega, by rw [ptrs_length]; exact hc.lb, mg.hb⟩
    · exact ⟨by show mo < mu; omega, by rw [ptrs_length]; exact hc.lo, mg.ho⟩
    · exact ⟨by show mt < mu; omega, by rw [ptrs_length]; exact hc.lt, mg.ht⟩
  rintro y fr s2 ⟨rfl, e2, rfl, ⟨g6, g8⟩, U, rs2, _, full2, len2, ci2⟩
  have g6 : nth e2 6 = .lref 6 1 0 := g6.trans (by simp only [nth_set, Nat.reduceBEq, cond_true, cond_false, *])
  have g8 : nth e2 8 = .ptr x 0 := g8.trans (by simp only [nth_set, Nat.reduceBEq, cond_false, *])
  show W (QM sp ch) 9 _ _ _ _
  -- what the merged map holds
  have hmem : ∀ k, outO b o t k ≠ none → ∃ p q, outO b o t k = some q ∧ outA (ptrs (mo + 1) o) (ptrs (mt + 1) t) b o t k = .ptr p 0 ∧ p < mu ∧ s1.get [] p = some (.cells (Obj.cells q)) ∧ q.Good := by
    intro k hk
    have h := ctx.out k
    generalize outA (ptrs (mo + 1) o) (ptrs (mt + 1) t) b o t k = va at h
    generalize outO b o t k = qa at h hk
    cases h with
    | nil => exact absurd rfl hk
    | at_ a1 a2 a3 => exact ⟨_, _, rfl, rfl, a1, a2, a3⟩
  have hnil : ∀ k, outA (ptrs (mo + 1) o) (ptrs (mt + 1) t) b o t k ≠ .nilp → outO b o t k ≠ none := by
    intro k hk
    have h := ctx.out k
    generalize outA (ptrs (mo + 1) o) (ptrs (mt + 1) t) b o t k = va at h hk
    generalize outO b o t k = qa at h
    cases h with
    | nil => exact absurd rfl hk
    | at_ a1 a2 a3 => intro hc; cases hc
  have hU : ∀ k, outO b o t k ≠ none → look k U = some (outA (ptrs (mo + 1) o) (ptrs (mt + 1) t) b o t k) := by
    intro k hk
    obtain ⟨p, q, a1, a2, _⟩ := hmem k hk
    have hne : outA (ptrs (mo + 1) o) (ptrs (mt + 1) t) b o t k ≠ .nilp := by rw [a2]; intro hc; cases hc
    rcases (outO_mem a1).1 with ⟨_, a3⟩ | ⟨_, a3⟩
    · obtain ⟨v, hv⟩ := ptrs_look (p := mo + 1) a3
      exact full2 (mo, ptrs (mo + 1) o) (by simp) k v hv hne
    · obtain ⟨v, hv⟩ := ptrs_look (p := mt + 1) a3
      exact full2 (mt, ptrs (mt + 1) t) (by simp) k v hv hne
  have hK : ∀ k, k ∈ U.map (·.1) ↔ outO b o t k ≠ none := by
    intro k
    constructor
    · intro hk
      obtain ⟨v, hv⟩ := mem_look hk
      obtain ⟨a1, a2⟩ := rs2.val k v hv
      rw [a1] at a2
      exact hnil k a2
    · intro hk
      exact look_mem (hU k hk)
  have hat : ∀ k, outO b o t k ≠ none → at_ k U = outA (ptrs (mo + 1) o) (ptrs (mt + 1) t) b o t k := fun k hk => by
    show (look k U).getD .nilp = _
    rw [hU k hk]; rfl
  have hshort : ∀ k ∈ U.map (·.1), k.length < 4294967296 := by
    intro k hk
    obtain ⟨p, q, a1, _⟩ := hmem k ((hK k).1 hk)
    obtain ⟨a3, a4⟩ := outO_mem a1
    subst a4
    rcases a3 with ⟨a3, _⟩ | ⟨a3, _⟩
    · exact hc.ko q a3
    · exact hc.kt q a3
  have hUl : U.length ≤ 192 := by simpa using len2
  have hKl : (sortB (U.map (·.1))).length ≤ 192 := by rw [(sortB_perm _).length_eq, List.length_map]; exact hUl
  have hsK : ∀ k, k ∈ sortB (U.map (·.1)) → outO b o t k ≠ none := fun k hk => (hK k).1 ((sortB_perm _).mem_iff.1 hk)
  have hids : ∀ id ∈ sortB (U.map (·.1)), ∃ p ob, at_ id U = .ptr p 0 ∧ s2.get [] p = some (.cells (Obj.cells ob)) ∧ ob.Good ∧ ∀ r ∈ ob.refs, ∃ p, at_ r U = .ptr p 0 := by
    intro id hid
    obtain ⟨p, q, a1, a2, a3, a4, a5⟩ := hmem id (hsK id hid)
    refine ⟨p, q, (hat id (hsK id hid)).trans a2, (rs2.low p a3).trans a4, a5, fun r hr => ?_⟩
    have hrn := hc.full id q a1 r hr
    obtain ⟨p2, q2, b1, b2, _⟩ := hmem r hrn
    exact ⟨p2, (hat r hrn).trans b2⟩
  have hids2 : ∀ id ∈ sortB (U.map (·.1)), ∃ p, p ≤ x ∧ at_ id U = .ptr p 0 ∧ s2.get [] p = some (.cells (outG b o t id).cells) ∧ (outG b o t id).Good := by
    intro id hid
    obtain ⟨p, q, a1, a2, a3, a4, a5⟩ := hmem id (hsK id hid)
    have hg : outG b o t id = q := by show (outO b o t id).getD zeroObj = q; rw [a1]; rfl
    rw [hg]
    exact ⟨p, by omega, (hat id (hsK id hid)).trans a2, (rs2.low p a3).trans a4, a5⟩
  have hx2 := rs2.mg.hx
  have hv := listV_isL (sortB (U.map (·.1)))
  have hvl := fun mk s => hv.len ln_37_n ln_37_l mk s
  have hvc := hv.clean
  have hsort := sort_run (ch := ch) h25 rs2.mg.hu (by omega) hshort rs2.nd
  refine W.seq (W.seq (W.region (WL_split 5 ?_)))
  unfold k9_r14
  simp only [WP_nil, WP_always, stepK_some, nth_set, p_move, p_load, p_fieldAddr, p_nilCheck, p_call, callee_func, ev_tmp, evc_eq, evcs_nil, evcs_cons, retV_ok, Option.bind_some, clean_map, cond_true, cond_false, QM_P, QM_spec, List.take, List.drop, List.head?_cons, beq_self_eq_true, true_and, Nat.zero_add, Nat.reduceBEq, Nat.reduceLT, rd_61, fa_65_3_p, g8, nil_ptr, load_ptr, hx2, loadO_cells, h26, keysSp]
  refine WL_call (g := 25) (args := [.func (.func 49) [] [.roz [.map mu]]]) ?_ hsort (by decide) ?_
  · simp only [callee, nth_set, ev_tmp, ev_func, evc_eq, evcs_nil, evcs_cons, Option.bind_some, clean_func, cond_true, cond_false, List.nil_append, List.cons_append, beq_self_eq_true, Nat.reduceBEq]
  refine WL_WP ?_
  simp only [WP_nil, WP_always, stepK_some, nth_set, p_move, p_builtin, ev_tmp, ev_const, evc_eq, evcs_nil, evcs_cons, ofValue_int, retV_ok, retVS_some, bl_len, hintOf_some, Option.bind_some, cond_true, cond_false, QM_P, QM_hint, beq_self_eq_true, true_and, Nat.reduceBEq, Nat.reduceLT, nat_beq, hint_9_85, hvc, hvl, next_normal]
  refine W.block ?_
  refine (all_need h27 rs2.mg hv (by omega) hids (sortB (U.map (·.1))) [] _ rfl (by simp only [nth_set, Nat.reduceBEq, cond_false, *]) (by simp only [nth_set, Nat.reduceBEq, cond_true, cond_false, *]) (by simp only [nth_set, Nat.reduceBEq, cond_true, cond_false, *]) (by simp only [nth_set, Nat.reduceBEq, cond_true, cond_false]; rfl)).mono ?_
  rintro y fr s2' ⟨rfl, rfl, e3, rfl, f6, f8⟩
  have f6 : nth e3 6 = .lref 6 1 0 := f6.trans (by simp only [nth_set, Nat.reduceBEq, cond_true, cond_false, *])
  have f8 : nth e3 8 = .ptr x 0 := f8.trans (by simp only [nth_set, Nat.reduceBEq, cond_false, *])
  show W (QM sp ch) 9 _ _ _ _
  refine W.sreg ?_
  unfold k9_r19
  simp only [WP_nil, WP_always, stepK_some, gen_nil, gen_set', p_alloc, boxA_loc, hintOf_some, cells_agg, Option.bind_some, cond_false, QM_P, QM_hint, true_and, Nat.zero_add, Nat.reduceBEq, Nat.reduceLT, zr_24, hint_9_15]
  refine W.seq (W.seq (W.region (WL_split 5 ?_)))
  unfold k9_r20
  simp only [WP_nil, WP_always, stepK_some, nth_set, p_move, p_load, p_fieldAddr, p_nilCheck, p_call, callee_func, ev_tmp, evc_eq, evcs_nil, evcs_cons, retV_ok, Option.bind_some, clean_map, cond_true, cond_false, QM_P, QM_spec, List.take, List.drop, List.head?_cons, beq_self_eq_true, true_and, Nat.zero_add, Nat.reduceBEq, Nat.reduceLT, rd_61, fa_65_3_p, f8, nil_ptr, load_ptr, hx2, loadO_cells, h26, keysSp]
  refine WL_call (g := 25) (args := [.func (.func 49) [] [.roz [.map mu]]]) ?_ hsort (by decide) ?_
  · simp only [callee, nth_set, ev_tmp, ev_func, evc_eq, evcs_nil, evcs_cons, Option.bind_some, clean_func, cond_true, cond_false, List.nil_append, List.cons_append, beq_self_eq_true, Nat.reduceBEq]
  refine WL_WP ?_
  simp only [WP_nil, WP_always, stepK_some, nth_set, p_move, p_builtin, ev_tmp, ev_const, evc_eq, evcs_nil, evcs_cons, ofValue_int, retV_ok, retVS_some, bl_len, hintOf_some, Option.bind_some, cond_true, cond_false, QM_P, QM_hint, beq_self_eq_true, true_and, Nat.reduceBEq, Nat.reduceLT, nat_beq, hint_9_105, hvc, hvl, next_normal]
  refine W.block ?_
  refine (lay_loop rs2.mg (by omega) hv (by omega) (outG b o t) hids2 (sortB (U.map (·.1))) [] _ _ _ .nils rfl rs2.minw rs2.ord.2.2.2.2.2 (fun _ _ => rfl) (.inl ⟨rfl, rfl⟩) ⟨by simp only [nth_set, Nat.reduceBEq, cond_false, *], by simp only [nth_set, Nat.reduceBEq, cond_true, cond_false, *], ?_, ?_, by simp only [nth_set, Nat.reduceBEq, cond_true, cond_false, *], ?_, ?_⟩ (by simp only [nth_set, Nat.reduceBEq, cond_true, cond_false, *]) (by simp only [nth_set, Nat.reduceBEq, cond_true, cond_false, *]) (by simp only [nth_set, Nat.reduceBEq, cond_true, cond_false]; rfl)).mono ?_
  · simp only [gen_nil, gen_set', Nat.reduceBEq, cond_true, cond_false]
  · simp only [loc_set', Nat.reduceBEq, cond_true, cond_false]
  · simp only [gen_nil, gen_set', Nat.reduceBEq, cond_true, cond_false]
  · simp only [loc_set', Nat.reduceBEq, cond_true, cond_false]
  rintro y fr s3 ⟨rfl, e4, lc4, ov, rfl, m3, x3, low3, hO, ⟨d8, d6, dg6, db6, d15, dg15, db15⟩, ci3⟩
  show W (QM sp ch) 9 _ _ _ _
  have hmdx : md ≤ x := by omega
  have hx3 : s3.get [] x = _ := (low3 x (Nat.le_refl _)).trans hx2
  have hd3 : s3.get [] md = some (.map [] 0) := (low3 md hmdx).trans rs2.mg.hd
  have hnew : (s3.new (.cells [.map md])).get [] s3.next = some (.cells [.map md]) := by rw [get_new, beq_self_eq_true]; rfl
  have hmd : (s3.new (.cells [.map md])).get [] md = some (.map [] 0) := by rw [get_new, beq_eq_false_iff_ne.2 (by omega : md ≠ s3.next)]; exact hd3
  refine W.seq (W.region (WL_split 4 ?_))
  unfold k9_r25
  simp only [WP_nil, WP_always, stepK_some, nth_set, p_move, p_load, p_fieldAddr, p_nilCheck, ev_tmp, retV_ok, Option.bind_some, cond_true, cond_false, QM_P, List.take, List.drop, List.head?_cons, beq_self_eq_true, true_and, Nat.zero_add, Nat.reduceBEq, Nat.reduceLT, rd_63, fa_65_4_p, d8, nil_ptr, load_ptr, hx3, loadO_cells]
  refine WL_call (g := 29) (args := [.map md]) ?_ (bad_run h29 md s3) (by decide) ?_
  · simp only [callee, nth_set, ev_tmp, ev_func, evc_eq, evcs_nil, evcs_cons, Option.bind_some, clean_map, cond_true, cond_false, List.nil_append, List.cons_append, beq_self_eq_true, Nat.reduceBEq]
  refine WL_call (g := 28) (args := [.func (.func 52) [] [.ptr s3.next 0], .func (.func 30) [] []]) ?_ (none_run h28 hnew hmd) (by decide) ?_
  · simp only [callee, nth_set, ev_tmp, ev_func, evc_eq, evcs_nil, evcs_cons, Option.bind_some, clean_func, cond_true, cond_false, List.nil_append, List.cons_append, beq_self_eq_true, Nat.reduceBEq]
  refine WL_WP ?_
  have hoc := hO.clean
  simp only [WP_nil, WP_always, stepK_some, nth_set, p_assign, ev_tmp, retV_ok, cond_true, cond_false, beq_self_eq_true, true_and, Nat.reduceBEq, Nat.reduceLT, next_normal]
  refine W.sreg ?_
  unfold k9_r26
  simp only [WP_nil, WP_always, WP_always0, stepK_some, stepK0_some, nth_set, p_move, p_assign, p_load, p_store, ev_tmp, evc_eq, load_loc, retV_ok, cells_agg, store_loc, Option.bind_some, clean_agg, cond_true, cond_false, QM_P, List.length_cons, List.length_nil, cut, writeCells, List.take, List.drop, List.nil_append, List.cons_append, beq_self_eq_true, true_and, Nat.zero_add, Nat.reduceBEq, Nat.reduceLT, Nat.reduceLeDiff, Bool.and_true, nat_beq, nat_blt, nat_ble, decide_true, rd_24, sz_24, d15, db15, d6, db6]
  refine W.ret ⟨.inr rfl, .tup [.agg [ov], .nils], res_cell24 rfl (ov := ov) (w := .nils) (by simp only [nth_set, Nat.reduceBEq, cond_false, *]) ?_ (by simp only [nth_set, Nat.reduceBEq, cond_true, cond_false, *]) rfl, ov, x, U.map (·.1), rfl, rs2.nd, hK, ?_, ?_⟩
  · simp only [loc_set', Nat.reduceBEq, cond_true]
  · rcases hO with ⟨rfl, h⟩ | ⟨a1, k, a2, a3, a4, a5⟩
    · exact .inl ⟨rfl, h⟩
    · refine .inr ⟨a1, k, a2, ?_, a4, Nat.lt_succ_of_lt a5⟩
      rw [get_new, beq_eq_false_iff_ne.2 (by omega : k ≠ s3.next)]; exact a3
  · have w1 : s3.ci = s2'.ci := ci3
    have w2 : s2'.ci ≤ s1.ci + 192 := by simpa using ci2
    have w3 := M.ci
    show s3.ci ≤ s.ci + 192
    omega
end
end Go.Proofs.YtbfmdojdemckbaaGreat
/- merge.Merge's contract where no name is in conflict -/
namespace Go.Proofs.YtbfmdojdemckbaaGreat
open Go.Ag
/-- one level for all choices -/
theorem uniform {B : Nat} (hB : 0 < B) : ∀ (K : Nat) (p : (Nat → Nat) → Nat → Prop), (∀ ch n m, n ≤ m → p ch n → p ch m) → (∀ ch, (∀ i, ch i < B) → (∀ i, K ≤ i → ch i = 0) → ∃ n, p ch n) → ∃ N, ∀ ch, (∀ i, ch i < B) → (∀ i, K ≤ i → ch i = 0) → p ch N
  | 0, p, _, h => by
    obtain ⟨n, hn⟩ := h (fun _ => 0) (fun _ => hB) (fun _ _ => rfl)
    refine ⟨n, fun ch _ hz => ?_⟩
    have : ch = fun _ => 0 := funext fun i => hz i (Nat.zero_le _)
    rw [this]; exact hn
  | K + 1, p, hp, h => by
    have step : ∀ c, c < B → ∃ N, ∀ ch : Nat → Nat, (∀ i, ch i < B) → (∀ i, K ≤ i → ch i = 0) → p (fun i => if i = K then c else ch i) N := fun c hc => by
      refine uniform hB K (fun ch n => p (fun i => if i = K then c else ch i) n) (fun ch n m hnm hq => hp _ n m hnm hq) (fun ch h1 h2 => h _ (fun i => ?_) (fun i hi => ?_))
      · show (if i = K then c else ch i) < B
        split
        · exact hc
        · exact h1 i
      · show (if i = K then c else ch i) = 0
        rw [if_neg (by omega)]; exact h2 i (by omega)
    have all : ∀ m, m ≤ B → ∃ N, ∀ c, c < m → ∀ ch : Nat → Nat, (∀ i, ch i < B) → (∀ i, K ≤ i → ch i = 0) → p (fun i => if i = K then c else ch i) N := by
      intro m
      induction m with
      | zero => exact fun _ => ⟨0, fun c hc => by omega⟩
      | succ m ih =>
        intro hm
        obtain ⟨N1, h1⟩ := ih (by omega)
        obtain ⟨N2, h2⟩ := step m (by omega)
        refine ⟨max N1 N2, fun c hc ch a1 a2 => ?_⟩
        by_cases hcm : c < m
        · exact hp _ _ _ (Nat.le_max_left _ _) (h1 c hcm ch a1 a2)
        · have : c = m := by omega
          subst this
          exact hp _ _ _ (Nat.le_max_right _ _) (h2 ch a1 a2)
    obtain ⟨N, hN⟩ := all B (Nat.le_refl _)
    refine ⟨N, fun ch h1 h2 => ?_⟩
    have := hN (ch K) (h1 K) (fun i => if i < K then ch i else 0) (fun i => by
      show (if i < K then ch i else 0) < B
      split
      · exact h1 i
      · exact hB) (fun i hi => by
      show (if i < K then ch i else 0) = 0
      rw [if_neg (by omega)])
    have he : (fun i => if i = K then ch K else (fun i => if i < K then ch i else 0) i) = ch := by
      funext i
      show (if i = K then ch K else if i < K then ch i else 0) = ch i
      by_cases h3 : i = K
      · rw [if_pos h3, h3]
      · rw [if_neg h3]
        by_cases h4 : i < K
        · rw [if_pos h4]
        · rw [if_neg h4, h2 i (by omega)]
    rw [he] at this
    exact this

theorem frzL_self {g : AVal → Option AVal} : ∀ {l : List AVal}, (∀ v ∈ l, g v = some v) → frzL g l = some l
  | [], _ => rfl
  | v :: l, h => by
    have ih := frzL_self (g := g) (l := l) fun u hu => h u (by simp [hu])
    simp only [frzL, h v (by simp), ih, Option.bind_some]
theorem frz_list (h : Trie AObj) {k n : Nat} {xs : List AVal} {r : Right} (hp : pureV (.list n xs r) = true) (hx : ∀ v ∈ xs, frz h k v = some v) : frz h (k + 1) (.list n xs r) = some (.list n xs r) := by
  simp only [frz, frzL_self hx, Option.bind_some]
  cases r with
  | own m => simp [pureV] at hp
  | _ => rfl
theorem frz_obj (h : Trie AObj) {o : Obj} (ho : o.Good) (k : Nat) : frz h (k + 4) o.val = some o.val := by
  have hr : frz h (k + 3) o.refsV = some o.refsV := by
    have hp := ho.pr
    rcases ho.refs with ⟨e, _⟩ | ⟨r, e⟩
    · rw [e]; rfl
    · rw [e] at hp ⊢
      refine frz_list h hp fun v hv => ?_
      obtain ⟨s, _, rfl⟩ := List.mem_map.1 hv
      rfl
  have ht : frz h (k + 3) o.tagsV = some o.tagsV := by
    have hp := ho.pt
    rcases ho.tags with ⟨e, _⟩ | ⟨r, e⟩
    · rw [e]; rfl
    · rw [e] at hp ⊢
      refine frz_list h hp fun v hv => ?_
      obtain ⟨s, _, rfl⟩ := List.mem_map.1 hv
      rfl
  show (frzL (frz h (k + 3)) o.cells).bind (fun r => some (AVal.agg r)) = _
  rw [frzL_self (l := o.cells) fun v hv => ?_]
  · rfl
  · simp only [Obj.cells, List.mem_cons, List.not_mem_nil, or_false] at hv
    rcases hv with rfl | rfl | rfl | rfl | rfl | rfl
    · rfl
    · rfl
    · rfl
    · rfl
    · exact hr
    · exact ht
def listO : List Obj → AVal
  | [] => .nils
  | l => .list 6 (l.map Obj.val) .no
theorem listO_isL (l : List Obj) : IsL 6 Obj.val (listO l) l := by
  cases l with
  | nil => exact .inl ⟨rfl, rfl⟩
  | cons a l => exact .inr ⟨.no, rfl⟩
theorem frz_out {x : Nat} {s : St} {ov : AVal} {l : List Obj} (hO : OutI x s ov l) (hg : ∀ o ∈ l, o.Good) : Frz s.heap (.tup [.agg [ov], .nils]) (.tup [.agg [listO l], .nils]) := by
  refine ⟨8, ?_⟩
  have h1 : frz s.heap 6 ov = some (listO l) := by
    rcases hO with ⟨rfl, rfl⟩ | ⟨hne, k, rfl, _⟩
    · rfl
    · show (frzL (frz s.heap 5) (l.map Obj.val)).bind (fun ys => some (AVal.list 6 ys .no)) = _
      rw [frzL_self fun v hv => ?_]
      · cases l with
        | nil => exact absurd rfl hne
        | cons a l => rfl
      · obtain ⟨o, ho, rfl⟩ := List.mem_map.1 hv
        exact frz_obj _ (hg o ho) 1
  show ((frzL (frz s.heap 7) [.agg [ov], .nils])).bind (fun r => some (AVal.tup r)) = _
  have h2 : frz s.heap 7 (.agg [ov]) = some (.agg [listO l]) := by
    show (frzL (frz s.heap 6) [ov]).bind (fun r => some (AVal.agg r)) = _
    simp only [frzL, h1, Option.bind_some]
  have h3 : frz s.heap 7 .nils = some .nils := rfl
  simp only [frzL, h2, h3, Option.bind_some]

/- the result's names, each once -/
def uniq : List Bytes → List Bytes
  | [] => []
  | k :: l => bif l.contains k then uniq l else k :: uniq l
theorem mem_uniq {x : Bytes} : ∀ {l : List Bytes}, x ∈ uniq l ↔ x ∈ l
  | [] => Iff.rfl
  | k :: l => by
    simp only [uniq]
    cases h : l.contains k with
    | true =>
      rw [List.contains_iff_mem] at h
      simp only [cond_true, mem_uniq, List.mem_cons]
      exact ⟨.inr, fun h' => h'.elim (fun e => e ▸ h) id⟩
    | false => simp only [cond_false, List.mem_cons, mem_uniq]
theorem uniq_nodup : ∀ l : List Bytes, (uniq l).Nodup
  | [] => .nil
  | k :: l => by
    simp only [uniq]
    cases h : l.contains k with
    | true => exact uniq_nodup l
    | false =>
      refine List.nodup_cons.2 ⟨fun hm => ?_, uniq_nodup l⟩
      have := List.contains_iff_mem.2 (mem_uniq.1 hm)
      rw [h] at this; cases this
def outKeys (b o t : List Obj) : List Bytes := uniq (((o ++ t).map (·.id)).filter fun k => (outO b o t k).isSome)
theorem mem_outKeys {b o t : List Obj} {k : Bytes} : k ∈ outKeys b o t ↔ outO b o t k ≠ none := by
  unfold outKeys
  rw [mem_uniq, List.mem_filter]
  constructor
  · rintro ⟨_, h⟩ e
    rw [e] at h; cases h
  · intro h
    cases e : outO b o t k with
    | none => exact absurd e h
    | some q =>
      refine ⟨?_, rfl⟩
      obtain ⟨h1, h2⟩ := outO_mem e
      rw [List.mem_map]
      rcases h1 with ⟨h1, _⟩ | ⟨h1, _⟩
      · exact ⟨q, by simp [h1], h2⟩
      · exact ⟨q, by simp [h1], h2⟩
def merged (b o t : List Obj) : List Obj := (sortB (outKeys b o t)).map (outG b o t)
theorem sortB_congr {l r : List Bytes} (h : l.Perm r) : sortB l = sortB r := by
  rw [← sortB_eq, ← sortB_eq]; exact Go.mergeSort_of_perm h
theorem outG_good {b o t : List Obj} (hc : Calm b o t) {k : Bytes} (hk : outO b o t k ≠ none) : (outG b o t k).Good := by
  cases e : outO b o t k with
  | none => exact absurd e hk
  | some q =>
    have : outG b o t k = q := by show (outO b o t k).getD zeroObj = q; rw [e]; rfl
    rw [this]
    rcases (outO_mem e).1 with ⟨h, _⟩ | ⟨h, _⟩
    · exact hc.go q h
    · exact hc.gt q h
theorem merged_good {b o t : List Obj} (hc : Calm b o t) : ∀ q ∈ merged b o t, q.Good := by
  intro q hq
  obtain ⟨k, hk, rfl⟩ := List.mem_map.1 hq
  exact outG_good hc (mem_outKeys.1 ((sortB_perm _).mem_iff.1 hk))

def MT : Tbl := [(13, mapSp), (16, osameSp), (26, keysSp)]
theorem MT_ok : TblOk MT := .cons mapSp_ok (.cons osameSp_ok (.cons keysSp_ok .nil))
noncomputable def QMT : Prog := QM (fun f => tblGet f MT) (fun _ => 0)
theorem goodM : Ag.Good QMT where
  mixed := mixed_ok
  spec f sp hsp args v hv G hp w xs wr hx := MT_ok _ (tblGet_mem hsp) args v hv G hp w xs wr hx
  specH f sp h args v G hp w xs wr hx hv := by
    have h : (bif Nat.beq f 25 then some sortSp else bif Nat.beq f 28 then some sfSp else none) = some sp := h
    cases hb : Nat.beq f 25 with
    | true =>
      have := Nat.eq_of_beq_eq_true hb
      subst this
      rw [hb] at h
      injection h with h; subst h
      exact sortSp_ok wr hx hv
    | false =>
      rw [hb] at h
      cases hb2 : Nat.beq f 28 with
      | true =>
        have := Nat.eq_of_beq_eq_true hb2
        subst this
        rw [hb2] at h
        injection h with h; subst h
        exact sfSp_ok wr hx hv
      | false => rw [hb2] at h; cases h
  names f fn hf := by
    have hf : Tryz.prog.funcs[f]? = some fn := hf
    have := List.all_eq_true.1 names_ok fn (by
      rw [← Array.getElem?_toList] at hf
      exact List.mem_of_getElem? hf)
    simpa using this
theorem merge_level {vb vo vt : AVal} {b o t : List Obj} (hb : IsL 6 Obj.val vb b) (ho : IsL 6 Obj.val vo o) (ht : IsL 6 Obj.val vt t) (hc : Calm b o t) :
    ∃ N, ∀ ch, Inb QMT ch → ∃ v s', (lvl (QMT.at ch) N).call 9 [.agg [vb], .agg [vo], .agg [vt]] [] s0 = some (v, s') ∧ Frz s'.heap v (.tup [.agg [listO (merged b o t)], .nils]) := by
  have h := uniform (B := 64) (by omega) 192 (fun ch n => ∃ v s', (lvl (QMT.at ch) n).call 9 [.agg [vb], .agg [vo], .agg [vt]] [] s0 = some (v, s') ∧ Frz s'.heap v (.tup [.agg [listO (merged b o t)], .nils]) ∧ s'.ci ≤ 192)
    (fun ch n m hnm ⟨v, s', h1, h2, h3⟩ => ⟨v, s', (lvl_le (QMT.at ch) hnm).call _ _ _ _ _ h1, h2, h3⟩) (fun ch _ _ => by
      obtain ⟨v, s', ⟨n, h1⟩, ov, x, K, rfl, h2, h3, h4, h5⟩ := merge_run (sp := fun f => tblGet f MT) (ch := ch) rfl rfl rfl rfl rfl rfl rfl rfl rfl rfl rfl hb ho ht hc (s := s0) (Nat.le_refl _)
      have hp : K.Perm (outKeys b o t) := (List.perm_ext_iff_of_nodup h2 (uniq_nodup _)).2 fun k => (h3 k).trans mem_outKeys.symm
      rw [sortB_congr hp] at h4
      refine ⟨n, _, s', h1, frz_out h4 (merged_good hc), ?_⟩
      have : s0.ci = 0 := rfl
      omega)
  obtain ⟨N, hN⟩ := h
  refine ⟨N, fun ch hi => ?_⟩
  obtain ⟨v, s', h1, h2, h3⟩ := hN (fun i => if i < 192 then ch i else 0) (fun i => by
    show (if i < 192 then ch i else 0) < 64
    split
    · exact hi i
    · omega) (fun i hi => by
    show (if i < 192 then ch i else 0) = 0
    rw [if_neg (by omega)])
  refine ⟨v, s', (lvl_ch QMT N).call 9 _ [] _ s0 v s' h1 ch (fun i hi => ?_), h2⟩
  show ch i = if i < 192 then ch i else 0
  rw [if_pos (by omega)]
open Classical in
noncomputable def mergeSp : Sp
  | [u, v, w] => (asMap u).bind fun b => (asMap v).bind fun o => (asMap w).bind fun t => if Calm b o t then some (.tup [.agg [listO (merged b o t)], .nils]) else none
  | _ => none
theorem mergeSp_of {vb vo vt : AVal} {b o t : List Obj} (hb : IsL 6 Obj.val vb b) (ho : IsL 6 Obj.val vo o) (ht : IsL 6 Obj.val vt t) (hc : Calm b o t) : mergeSp [.agg [vb], .agg [vo], .agg [vt]] = some (.tup [.agg [listO (merged b o t)], .nils]) := by
  have hsm : small = 9223372036854775808 := rfl
  have h1 := hc.lb
  have h2 := hc.lo
  have h3 := hc.lt
  simp only [mergeSp, asMap_of hb hc.gb (by omega), asMap_of ho hc.go (by omega), asMap_of ht hc.gt (by omega), Option.bind_some, if_pos hc]
theorem mergeSp_ok : SpecOk Tryz.prog 9 mergeSp := by
  intro args x hv G h w xs wr hx
  unfold mergeSp at hv
  split at hv
  · rename_i a1 a2 a3
    simp only [Option.bind_eq_some_iff] at hv
    obtain ⟨b, h1, o, h2, t, h3, hv⟩ := hv
    split at hv
    · rename_i hc
      injection hv with hv; subst hv
      obtain ⟨vb, rfl, hb, hgb, _⟩ := asMap_inv h1
      obtain ⟨vo, rfl, ho, hgo, _⟩ := asMap_inv h2
      obtain ⟨vt, rfl, ht, hgt, _⟩ := asMap_inv h3
      obtain ⟨t1, vb', w1, hb'⟩ := objs_top hb hgb
      obtain ⟨t2, vo', w2, ho'⟩ := objs_top ho hgo
      obtain ⟨t3, vt', w3, ht'⟩ := objs_top ht hgt
      have hw : weaks [.agg [vb], .agg [vo], .agg [vt]] = [.agg [vb'], .agg [vo'], .agg [vt']] := by simp only [weaks, w1, w2, w3]
      obtain ⟨N, hN⟩ := merge_level hb' ho' ht' hc
      exact spec_of_eval2 (Q := QMT) (n := N) goodM (fun _ => Nat.zero_lt_succ 63) (args := [.agg [vb], .agg [vo], .agg [vt]]) (by simp only [tops, t1, t2, t3, Bool.and_self]) (fun ch hi => by rw [hw]; exact hN ch hi) G h w xs wr hx
    · cases hv
  · cases hv
end Go.Proofs.YtbfmdojdemckbaaGreat
