/- Contracts of slices.Equal and object.Same. -/
import Derived.Test.YtbfmdojdemckbaaGreatZ6
/- slices.Equal, object.Same -/
namespace Go.Proofs.YtbfmdojdemckbaaGreat
open Go.Ag
theorem tag_beq (o q : Tag) : (o == q) = (bif o.1 == q.1 then bif o.2 == q.2 then true else false else false) := by
  obtain ⟨a, b⟩ := o
  obtain ⟨c, d⟩ := q
  show ((a == c) && (b == d)) = _
  cases a == c <;> cases b == d <;> rfl

/- slices.Equal of strings -/
theorem eq37_loop {sp : FuncId → Option (List AVal → Option AVal)} {v u : AVal} {l r : List Bytes} (hl : IsL 1 strV v l) (hu : IsL 1 strV u r) (hlen2 : l.length = r.length) (hsmall : l.length < small) {s : St} (hm : s.minw ≤ s.next) {lc : Ag.Loc} : ∀ (rest rest2 pre pre2 : List Bytes) (e : Env), l = pre ++ rest → r = pre2 ++ rest2 → pre.length = pre2.length →
    nth e 0 = v → nth e 1 = u → nth e 12 = .int .i64 (l.length : Nat) → nth e 13 = .int .i64 (pre.length : Nat) →
    W (QS sp) 37 (.loop k37_l0) ⟨e, 26, lc⟩ s fun x fr s' => s' = s ∧ fr.size = 26 ∧ ((x = .exit 0 ∧ (rest == rest2) = true) ∨ (x = .ret ∧ nth fr.env 4 = .bool false ∧ (rest == rest2) = false)) := by
  intro rest
  have hcl := hl.clean
  have hcu := hu.clean
  have hsm : small = 9223372036854775808 := rfl
  induction rest with
  | nil =>
    intro rest2 pre pre2 e hpre hpre2 hpp h0 h1 h12 h13
    have hl' : l.length = pre.length := by rw [hpre]; simp
    have h2 : rest2 = [] := by
      have : r.length = pre2.length + rest2.length := by rw [hpre2]; simp
      exact List.eq_nil_of_length_eq_zero (by omega)
    subst h2
    refine W.loop1 ?_
    unfold k37_l0
    refine W.seq (W.reg ?_)
    unfold k37_r4
    simp only [WP_nil, WP_always, stepK_some, p_bin, ev_tmp, evc_eq, retV_ok, bi_lss, Option.bind_some, clean_int, cond_true, QS_P, ilt_nat, beq_self_eq_true, and_true, true_and, Nat.reduceLT, decide_false, h12, h13, hl', Nat.lt_irrefl, next_normal]
    refine W.seq (W.cond (t := false) (by simp only [ev_tmp, nth_set, Nat.reduceBEq, cond_true, *]) ?_)
    exact W.exit ⟨rfl, rfl, .inl rfl⟩
  | cons o rest ih =>
    intro rest2 pre pre2 e hpre hpre2 hpp h0 h1 h12 h13
    have hlt : pre.length < l.length := by rw [hpre]; simp
    have hat : l[pre.length]? = some o := by rw [hpre]; simp
    cases rest2 with
    | nil =>
      have : r.length = pre2.length := by rw [hpre2]; simp
      omega
    | cons q rest2 =>
    have hat2 : r[pre.length]? = some q := by rw [hpre2, hpp]; simp
    have hia := fun lc => hl.at ia_37_l hat lc .i64
    have hiu := fun lc => hu.at ia_37_l hat2 lc .i64
    have hwr : IntKind.i64.wrap ((pre.length : Int) + 1) = ((pre.length + 1 : Nat) : Int) := by rw [wrap64_small (by omega) (by omega)]; omega
    refine W.loop1 ?_
    unfold k37_l0
    refine W.seq (W.reg ?_)
    unfold k37_r4
    simp only [WP_nil, WP_always, stepK_some, p_bin, ev_tmp, evc_eq, retV_ok, bi_lss, Option.bind_some, clean_int, cond_true, QS_P, ilt_nat, true_and, Nat.reduceLT, decide_true, h12, h13, hlt, next_normal]
    refine W.seq (W.cond (t := true) (by simp only [ev_tmp, nth_set, Nat.reduceBEq, cond_true, *]) (W.skip ?_))
    simp only [next_normal]
    refine W.seq (W.block (W.sreg ?_))
    unfold k37_r5
    simp only [WP_nil, WP_always, stepK_some, nth_set, p_move, p_assign, ev_tmp, retV_ok, cond_true, cond_false, beq_self_eq_true, true_and, Nat.reduceBEq, Nat.reduceLT, h13]
    refine W.seq (W.drawQ hm ?_)
    unfold k37_r6
    simp only [WQ_nil, WQ_always, stepQ_some, isStore, nth_set, p_move, p_load, p_bin, p_indexAddr, ev_tmp, evc_eq, load_ro, retV_ok, bs_neq, cells_str, Option.bind_some, clean_str, cond_true, cond_false, QS_P, List.drop, List.head?_cons, beq_self_eq_true, true_and, Nat.reduceBEq, Nat.reduceLT, rd_9, h0, h1, hia, hiu, strV, next_normal]
    cases hb : o == q with
    | false =>
      refine W.cond (t := true) (by simp only [ev_tmp, nth_set, Nat.reduceBEq, cond_true, cond_false, Bool.not_false]) (W.sreg ?_)
      unfold k37_r7
      simp only [WP_nil, WP_always, stepK_some, p_assign, ev_const, ofValue_bool, retV_ok, Bool.not_false, true_and, Nat.reduceLT]
      refine W.ret ⟨rfl, rfl, .inr ⟨rfl, by simp only [nth_set, Nat.reduceBEq, cond_true, cond_false, *], ?_⟩⟩
      simp only [List.cons_beq_cons, hb, Bool.false_and]
    | true =>
      refine W.cond (t := false) (by simp only [ev_tmp, nth_set, Nat.reduceBEq, cond_true, cond_false, Bool.not_true]) (W.skip ?_)
      simp only [block_normal, next_normal]
      refine W.reg ?_
      unfold k37_r8
      simp only [WP_nil, WP_always, stepK_some, nth_set, p_move, p_bin, ev_tmp, ev_const, evc_eq, ofValue_int, retV_ok, bi_add, Option.bind_some, clean_int, cond_true, cond_false, QS_P, Bool.not_true, beq_self_eq_true, true_and, Nat.reduceBEq, Nat.reduceLT, h13, hwr, next_normal]
      refine (ih rest2 (pre ++ [o]) (pre2 ++ [q]) _ (by rw [hpre]; simp) (by rw [hpre2]; simp) (by simp [hpp]) (by simp only [nth_set, Nat.reduceBEq, cond_false, *]) (by simp only [nth_set, Nat.reduceBEq, cond_false, *]) (by simp only [nth_set, Nat.reduceBEq, cond_false, *]) (by simp only [nth_set, Nat.reduceBEq, cond_true, cond_false, List.length_append, List.length_cons, List.length_nil])).mono ?_
      simp only [List.cons_beq_cons, hb, Bool.true_and]
      exact fun _ _ _ h => h
theorem eq37_run {sp : FuncId → Option (List AVal → Option AVal)} (h0 : sp 37 = none) {v u : AVal} {l r : List Bytes} (hl : IsL 1 strV v l) (hu : IsL 1 strV u r) (hsmall : l.length < small) {s : St} (hm : s.minw ≤ s.next) : RunC (QS sp) 37 [v, u] s (.bool (l == r)) s := by
  have hlen := fun mk s => hl.len ln_37_n ln_37_l mk s
  have hlen2 := fun mk s => hu.len ln_37_n ln_37_l mk s
  have hcl := hl.clean
  have hcu := hu.clean
  refine RunC.of2 k37_func k37_code k37_tmps k37_res h0 ?_
  unfold k37
  refine W.sreg ?_
  unfold k37_r0
  simp only [frame0, ofArgs, WP_nil, WP_always, stepK_some, p_assign, ev_const, ofValue_bool, retV_ok, cond_true, List.length_cons, List.length_nil, true_and, Nat.zero_add, Nat.reduceLT, Nat.reduceAdd, Nat.reduceLeDiff, nat_ble, decide_true]
  refine W.seq (W.sreg ?_)
  unfold k37_r1
  simp only [WP_nil, WP_always, stepK_some, nth_set, p_move, p_bin, p_builtin, ev_tmp, evc_eq, evcs_nil, evcs_cons, retV_ok, retVS_some, bi_neq, bl_len, hintOf_some, Option.bind_some, clean_int, cond_true, cond_false, QS_P, QS_hint, beq_self_eq_true, true_and, Nat.reduceBEq, Nat.reduceLT, nat_beq, hint_37_7, hint_37_9, hcl, hcu, hlen, hlen2, ieq_nat]
  cases hb : l.length == r.length with
  | false =>
    refine W.cond (t := true) (by simp only [ev_tmp, nth_set, Nat.reduceBEq, cond_true, cond_false, Bool.not_false]) (W.sreg ?_)
    unfold k37_r2
    simp only [WP_nil, WP_always, stepK_some, p_assign, ev_const, ofValue_bool, retV_ok, Bool.not_false, true_and, Nat.reduceLT]
    refine W.ret ⟨rfl, .inr rfl, res_tmp ?_ rfl⟩
    have : (l == r) = false := beq_eq_false_iff_ne.2 fun e => by subst e; simp at hb
    simp only [nth_set, Nat.reduceBEq, cond_true, cond_false, this]
  | true =>
    have hll : l.length = r.length := by simpa using hb
    refine W.cond (t := false) (by simp only [ev_tmp, nth_set, Nat.reduceBEq, cond_true, cond_false, Bool.not_true]) (W.skip ?_)
    simp only [next_normal]
    refine W.seq (W.sseq (W.reg ?_))
    unfold k37_r3
    simp only [WP_nil, WP_always, stepK_some, nth_set, p_move, p_builtin, ev_tmp, ev_const, evc_eq, evcs_nil, evcs_cons, ofValue_int, retV_ok, retVS_some, bl_len, hintOf_some, Option.bind_some, cond_true, cond_false, QS_P, QS_hint, Bool.not_true, beq_self_eq_true, true_and, Nat.reduceBEq, Nat.reduceLT, nat_beq, hint_37_12, hcl, hlen, next_normal]
    refine W.block ?_
    refine (eq37_loop hl hu hll hsmall hm l r [] [] _ rfl rfl rfl (by simp only [nth_set, Nat.reduceBEq, cond_true, cond_false, *]) (by simp only [nth_set, Nat.reduceBEq, cond_true, cond_false, *]) (by simp only [nth_set, Nat.reduceBEq, cond_true, cond_false, *]) (by simp only [nth_set, Nat.reduceBEq, cond_true, cond_false]; rfl)).mono ?_
    rintro x ⟨e, sz, lc⟩ s' ⟨rfl, hs, ⟨rfl, hok⟩ | ⟨rfl, h4, hok⟩⟩
    · have hs : sz = 26 := hs
      subst hs
      show W (QS sp) 37 _ _ _ _
      refine W.sreg ?_
      unfold k37_r9
      simp only [WP_nil, WP_always, stepK_some, p_assign, ev_const, ofValue_bool, retV_ok, true_and, Nat.reduceLT]
      refine W.ret ⟨rfl, .inr rfl, res_tmp ?_ rfl⟩
      simp only [nth_set, Nat.reduceBEq, cond_true, hok]
    · exact ⟨rfl, .inr rfl, res_tmp (by rw [h4, hok]) rfl⟩
def eq37Sp : Sp
  | [a, b] => bif pures [a, b] then (asL 1 asStr a).bind fun l => (asL 1 asStr b).bind fun r => bif Nat.blt l.length small then some (.bool (l == r)) else none else none
  | _ => none
theorem eq37Sp_of {v u : AVal} {l r : List Bytes} (hl : IsL 1 strV v l) (hu : IsL 1 strV u r) (hv : pureV v = true) (hu2 : pureV u = true) (hs : l.length < small) : eq37Sp [v, u] = some (.bool (l == r)) := by
  have q1 : Nat.blt l.length small = true := Nat.ble_eq_true_of_le hs
  simp only [eq37Sp, pures, hv, hu2, Bool.and_self, cond_true, isL_asL asStr_strV hl, isL_asL asStr_strV hu, Option.bind_some, q1]
theorem eq37Sp_ok : SpecOk Tryz.prog 37 eq37Sp := by
  intro args x hv G h w xs wr hx
  unfold eq37Sp at hv
  split at hv
  · rename_i a b
    obtain ⟨hp, hv⟩ := bif_none hv
    simp only [Option.bind_eq_some_iff] at hv
    obtain ⟨l, h1, r, h2, hv⟩ := hv
    obtain ⟨hs, hv⟩ := bif_none hv
    injection hv with hv; subst hv
    have hl := asL_isL (fun v a => asStr_enc) h1
    have hr := asL_isL (fun v a => asStr_enc) h2
    exact spec_of_run (Q := QT []) (good_of .nil) (fun _ => Nat.zero_lt_succ 1) (args := [a, b]) (v := .bool (l == r)) (s' := s0) (tops_pure hp) (by rw [weaks_pure hp]; exact eq37_run (sp := fun f => tblGet f []) rfl hl hr (Nat.le_of_ble_eq_true hs) (Nat.le_refl _)) rfl ⟨1, rfl⟩ G h w xs wr hx
  · cases hv

/- slices.Equal of tags -/
theorem eq38_loop {sp : FuncId → Option (List AVal → Option AVal)} {v u : AVal} {l r : List Tag} (hl : IsL 2 tagV v l) (hu : IsL 2 tagV u r) (hlen2 : l.length = r.length) (hsmall : l.length < small) {s : St} (hm : s.minw ≤ s.next) {lc : Ag.Loc} : ∀ (rest rest2 pre pre2 : List Tag) (e : Env), l = pre ++ rest → r = pre2 ++ rest2 → pre.length = pre2.length →
    nth e 0 = v → nth e 1 = u → nth e 12 = .int .i64 (l.length : Nat) → nth e 13 = .int .i64 (pre.length : Nat) →
    W (QS sp) 38 (.loop k38_l0) ⟨e, 26, lc⟩ s fun x fr s' => s' = s ∧ fr.size = 26 ∧ ((x = .exit 0 ∧ (rest == rest2) = true) ∨ (x = .ret ∧ nth fr.env 4 = .bool false ∧ (rest == rest2) = false)) := by
  intro rest
  have hcl := hl.clean
  have hcu := hu.clean
  have hsm : small = 9223372036854775808 := rfl
  induction rest with
  | nil =>
    intro rest2 pre pre2 e hpre hpre2 hpp h0 h1 h12 h13
    have hl' : l.length = pre.length := by rw [hpre]; simp
    have h2 : rest2 = [] := by
      have : r.length = pre2.length + rest2.length := by rw [hpre2]; simp
      exact List.eq_nil_of_length_eq_zero (by omega)
    subst h2
    refine W.loop1 ?_
    unfold k38_l0
    refine W.seq (W.reg ?_)
    unfold k38_r4
    simp only [WP_nil, WP_always, stepK_some, p_bin, ev_tmp, evc_eq, retV_ok, bi_lss, Option.bind_some, clean_int, cond_true, QS_P, ilt_nat, beq_self_eq_true, and_true, true_and, Nat.reduceLT, decide_false, h12, h13, hl', Nat.lt_irrefl, next_normal]
    refine W.seq (W.cond (t := false) (by simp only [ev_tmp, nth_set, Nat.reduceBEq, cond_true, *]) ?_)
    exact W.exit ⟨rfl, rfl, .inl rfl⟩
  | cons o rest ih =>
    intro rest2 pre pre2 e hpre hpre2 hpp h0 h1 h12 h13
    have hlt : pre.length < l.length := by rw [hpre]; simp
    have hat : l[pre.length]? = some o := by rw [hpre]; simp
    cases rest2 with
    | nil =>
      have : r.length = pre2.length := by rw [hpre2]; simp
      omega
    | cons q rest2 =>
    have hat2 : r[pre.length]? = some q := by rw [hpre2, hpp]; simp
    have hia := fun lc => hl.at ia_38_l hat lc .i64
    have hiu := fun lc => hu.at ia_38_l hat2 lc .i64
    have hwr : IntKind.i64.wrap ((pre.length : Int) + 1) = ((pre.length + 1 : Nat) : Int) := by rw [wrap64_small (by omega) (by omega)]; omega
    refine W.loop1 ?_
    unfold k38_l0
    refine W.seq (W.reg ?_)
    unfold k38_r4
    simp only [WP_nil, WP_always, stepK_some, p_bin, ev_tmp, evc_eq, retV_ok, bi_lss, Option.bind_some, clean_int, cond_true, QS_P, ilt_nat, true_and, Nat.reduceLT, decide_true, h12, h13, hlt, next_normal]
    refine W.seq (W.cond (t := true) (by simp only [ev_tmp, nth_set, Nat.reduceBEq, cond_true, *]) (W.skip ?_))
    simp only [next_normal]
    refine W.seq (W.block (W.sreg ?_))
    unfold k38_r5
    simp only [WP_nil, WP_always, stepK_some, nth_set, p_move, p_assign, ev_tmp, retV_ok, cond_true, cond_false, beq_self_eq_true, true_and, Nat.reduceBEq, Nat.reduceLT, h13]
    refine W.seq (W.drawQ hm ?_)
    unfold k38_r6
    simp only [WQ_nil, WQ_always, stepQ_some, isStore, nth_set, p_move, p_load, p_bin, p_indexAddr, ev_tmp, evc_eq, load_ro, retV_ok, cells_agg, Option.bind_some, clean_agg, cond_true, cond_false, QS_P, List.length_cons, List.length_nil, cut, List.take, List.drop, List.take_succ_cons, beq_self_eq_true, true_and, Nat.zero_add, Nat.reduceBEq, Nat.reduceLT, Nat.reduceAdd, nat_beq, rd_51, h0, h1, hia, hiu, tagV, next_normal, tg_neq]
    cases hb : (bif o.1 == q.1 then bif o.2 == q.2 then true else false else false) with
    | false =>
      have hq : (o == q) = false := by rw [tag_beq, hb]
      refine W.cond (t := true) (by simp only [ev_tmp, nth_set, Nat.reduceBEq, cond_true, cond_false, Bool.not_false]) (W.sreg ?_)
      unfold k38_r7
      simp only [WP_nil, WP_always, stepK_some, p_assign, ev_const, ofValue_bool, retV_ok, Bool.not_false, true_and, Nat.reduceLT]
      refine W.ret ⟨rfl, rfl, .inr ⟨rfl, by simp only [nth_set, Nat.reduceBEq, cond_true, cond_false, *], ?_⟩⟩
      simp only [List.cons_beq_cons, hq, Bool.false_and]
    | true =>
      have hq : (o == q) = true := by rw [tag_beq, hb]
      refine W.cond (t := false) (by simp only [ev_tmp, nth_set, Nat.reduceBEq, cond_true, cond_false, Bool.not_true]) (W.skip ?_)
      simp only [block_normal, next_normal]
      refine W.reg ?_
      unfold k38_r8
      simp only [WP_nil, WP_always, stepK_some, nth_set, p_move, p_bin, ev_tmp, ev_const, evc_eq, ofValue_int, retV_ok, bi_add, Option.bind_some, clean_int, cond_true, cond_false, QS_P, Bool.not_true, beq_self_eq_true, true_and, Nat.reduceBEq, Nat.reduceLT, h13, hwr, next_normal]
      refine (ih rest2 (pre ++ [o]) (pre2 ++ [q]) _ (by rw [hpre]; simp) (by rw [hpre2]; simp) (by simp [hpp]) (by simp only [nth_set, Nat.reduceBEq, cond_false, *]) (by simp only [nth_set, Nat.reduceBEq, cond_false, *]) (by simp only [nth_set, Nat.reduceBEq, cond_false, *]) (by simp only [nth_set, Nat.reduceBEq, cond_true, cond_false, List.length_append, List.length_cons, List.length_nil])).mono ?_
      simp only [List.cons_beq_cons, hq, Bool.true_and]
      exact fun _ _ _ h => h
theorem eq38_run {sp : FuncId → Option (List AVal → Option AVal)} (h0 : sp 38 = none) {v u : AVal} {l r : List Tag} (hl : IsL 2 tagV v l) (hu : IsL 2 tagV u r) (hsmall : l.length < small) {s : St} (hm : s.minw ≤ s.next) : RunC (QS sp) 38 [v, u] s (.bool (l == r)) s := by
  have hlen := fun mk s => hl.len ln_38_n ln_38_l mk s
  have hlen2 := fun mk s => hu.len ln_38_n ln_38_l mk s
  have hcl := hl.clean
  have hcu := hu.clean
  refine RunC.of2 k38_func k38_code k38_tmps k38_res h0 ?_
  unfold k38
  refine W.sreg ?_
  unfold k38_r0
  simp only [frame0, ofArgs, WP_nil, WP_always, stepK_some, p_assign, ev_const, ofValue_bool, retV_ok, cond_true, List.length_cons, List.length_nil, true_and, Nat.zero_add, Nat.reduceLT, Nat.reduceAdd, Nat.reduceLeDiff, nat_ble, decide_true]
  refine W.seq (W.sreg ?_)
  unfold k38_r1
  simp only [WP_nil, WP_always, stepK_some, nth_set, p_move, p_bin, p_builtin, ev_tmp, evc_eq, evcs_nil, evcs_cons, retV_ok, retVS_some, bi_neq, bl_len, hintOf_some, Option.bind_some, clean_int, cond_true, cond_false, QS_P, QS_hint, beq_self_eq_true, true_and, Nat.reduceBEq, Nat.reduceLT, nat_beq, hint_38_7, hint_38_9, hcl, hcu, hlen, hlen2, ieq_nat]
  cases hb : l.length == r.length with
  | false =>
    refine W.cond (t := true) (by simp only [ev_tmp, nth_set, Nat.reduceBEq, cond_true, cond_false, Bool.not_false]) (W.sreg ?_)
    unfold k38_r2
    simp only [WP_nil, WP_always, stepK_some, p_assign, ev_const, ofValue_bool, retV_ok, Bool.not_false, true_and, Nat.reduceLT]
    refine W.ret ⟨rfl, .inr rfl, res_tmp ?_ rfl⟩
    have : (l == r) = false := beq_eq_false_iff_ne.2 fun e => by subst e; simp at hb
    simp only [nth_set, Nat.reduceBEq, cond_true, cond_false, this]
  | true =>
    have hll : l.length = r.length := by simpa using hb
    refine W.cond (t := false) (by simp only [ev_tmp, nth_set, Nat.reduceBEq, cond_true, cond_false, Bool.not_true]) (W.skip ?_)
    simp only [next_normal]
    refine W.seq (W.sseq (W.reg ?_))
    unfold k38_r3
    simp only [WP_nil, WP_always, stepK_some, nth_set, p_move, p_builtin, ev_tmp, ev_const, evc_eq, evcs_nil, evcs_cons, ofValue_int, retV_ok, retVS_some, bl_len, hintOf_some, Option.bind_some, cond_true, cond_false, QS_P, QS_hint, Bool.not_true, beq_self_eq_true, true_and, Nat.reduceBEq, Nat.reduceLT, nat_beq, hint_38_12, hcl, hlen, next_normal]
    refine W.block ?_
    refine (eq38_loop hl hu hll hsmall hm l r [] [] _ rfl rfl rfl (by simp only [nth_set, Nat.reduceBEq, cond_true, cond_false, *]) (by simp only [nth_set, Nat.reduceBEq, cond_true, cond_false, *]) (by simp only [nth_set, Nat.reduceBEq, cond_true, cond_false, *]) (by simp only [nth_set, Nat.reduceBEq, cond_true, cond_false]; rfl)).mono ?_
    rintro x ⟨e, sz, lc⟩ s' ⟨rfl, hs, ⟨rfl, hok⟩ | ⟨rfl, h4, hok⟩⟩
    · have hs : sz = 26 := hs
      subst hs
      show W (QS sp) 38 _ _ _ _
      refine W.sreg ?_
      unfold k38_r9
      simp only [WP_nil, WP_always, stepK_some, p_assign, ev_const, ofValue_bool, retV_ok, true_and, Nat.reduceLT]
      refine W.ret ⟨rfl, .inr rfl, res_tmp ?_ rfl⟩
      simp only [nth_set, Nat.reduceBEq, cond_true, hok]
    · exact ⟨rfl, .inr rfl, res_tmp (by rw [h4, hok]) rfl⟩
def eq38Sp : Sp
  | [a, b] => bif pures [a, b] then (asL 2 asTag a).bind fun l => (asL 2 asTag b).bind fun r => bif Nat.blt l.length small then some (.bool (l == r)) else none else none
  | _ => none
theorem eq38Sp_of {v u : AVal} {l r : List Tag} (hl : IsL 2 tagV v l) (hu : IsL 2 tagV u r) (hv : pureV v = true) (hu2 : pureV u = true) (hs : l.length < small) : eq38Sp [v, u] = some (.bool (l == r)) := by
  have q1 : Nat.blt l.length small = true := Nat.ble_eq_true_of_le hs
  simp only [eq38Sp, pures, hv, hu2, Bool.and_self, cond_true, isL_asL asTag_tagV hl, isL_asL asTag_tagV hu, Option.bind_some, q1]
theorem eq38Sp_ok : SpecOk Tryz.prog 38 eq38Sp := by
  intro args x hv G h w xs wr hx
  unfold eq38Sp at hv
  split at hv
  · rename_i a b
    obtain ⟨hp, hv⟩ := bif_none hv
    simp only [Option.bind_eq_some_iff] at hv
    obtain ⟨l, h1, r, h2, hv⟩ := hv
    obtain ⟨hs, hv⟩ := bif_none hv
    injection hv with hv; subst hv
    have hl := asL_isL (fun v a => asTag_enc) h1
    have hr := asL_isL (fun v a => asTag_enc) h2
    exact spec_of_run (Q := QT []) (good_of .nil) (fun _ => Nat.zero_lt_succ 1) (args := [a, b]) (v := .bool (l == r)) (s' := s0) (tops_pure hp) (by rw [weaks_pure hp]; exact eq38_run (sp := fun f => tblGet f []) rfl hl hr (Nat.le_of_ble_eq_true hs) (Nat.le_refl _)) rfl ⟨1, rfl⟩ G h w xs wr hx
  · cases hv

/- object.Same -/
def objEq (o q : Obj) : Bool := bif o.id == q.id then bif ieq o.kind q.kind then bif (bif ieq o.x q.x then bif ieq o.y q.y then true else false else false) then bif o.refs == q.refs then o.tags == q.tags else false else false else false else false
theorem objEq_iff (o q : Obj) : objEq o q = true ↔ o.Eqv q := by
  unfold objEq
  constructor
  · intro h
    cases h1 : o.id == q.id with
    | false => rw [h1] at h; cases h
    | true =>
    rw [h1] at h
    cases h2 : ieq o.kind q.kind with
    | false => rw [h2] at h; cases h
    | true =>
    rw [h2] at h
    cases h3 : ieq o.x q.x with
    | false => rw [h3] at h; cases h
    | true =>
    rw [h3] at h
    cases h4 : ieq o.y q.y with
    | false => rw [h4] at h; cases h
    | true =>
    rw [h4] at h
    cases h5 : o.refs == q.refs with
    | false => rw [h5] at h; cases h
    | true =>
    rw [h5] at h
    simp only [cond_true] at h
    simp only [ieq, beq_iff_eq] at h1 h2 h3 h4 h5 h
    exact ⟨h1.symm, h2.symm, h3.symm, h4.symm, h5.symm, h.symm⟩
  · rintro ⟨h1, h2, h3, h4, h5, h6⟩
    simp only [h1, h2, h3, h4, h5, h6, ieq, beq_self_eq_true, cond_true]
theorem osame_run {sp : FuncId → Option (List AVal → Option AVal)} (h16 : sp 16 = none) (h37 : sp 37 = some eq37Sp) (h38 : sp 38 = some eq38Sp) {o q : Obj} (ho : o.Good) (hq : q.Good) (s : St) : RunC (QS sp) 16 [o.val, q.val] s (.bool (objEq o q)) s := by
  have rcl := ho.refs.clean
  have tcl := ho.tags.clean
  have rcq := hq.refs.clean
  have tcq := hq.tags.clean
  have e1 := eq37Sp_of ho.refs hq.refs ho.pr hq.pr ho.reflen
  have e2 := eq38Sp_of ho.tags hq.tags ho.pt hq.pt ho.taglen
  refine RunC.of2 k16_func k16_code k16_tmps k16_res h16 ?_
  unfold k16
  refine W.sreg ?_
  unfold k16_r0
  simp only [frame0, ofArgs, WP_nil, WP_always, stepK_some, nth_set, gen_nil, gen_set', p_assign, p_box, ev_tmp, ev_const, evc_eq, ofValue_bool, boxA_loc, retV_ok, hintOf_some, cells_agg, Option.bind_some, clean_agg, cond_true, cond_false, QS_hint, List.length_cons, List.length_nil, beq_self_eq_true, true_and, Nat.zero_add, Nat.reduceBEq, Nat.reduceLT, Nat.reduceAdd, Nat.reduceLeDiff, nat_ble, decide_true, hint_16_2, hint_16_3, Obj.val]
  refine W.sreg ?_
  unfold k16_r1
  have fin : ∀ e' lc', nth e' 4 = .bool (objEq o q) → W (QS sp) 16 .ret ⟨e', 38, lc'⟩ s fun x fr' s1 => s1 = s ∧ (x = .normal ∨ x = .ret) ∧ ∃ vs, resultsA (QS sp) [] fr' s1 [.tmp 4] = some vs ∧ packA vs = .bool (objEq o q) := fun e' lc' h => W.ret ⟨rfl, .inr rfl, res_tmp h rfl⟩
  cases h1 : o.id == q.id with
  | false =>
    simp only [WP_nil, WP_always, WP_when, stepK_some, whenK_false, wantV_ft, nth_set, gen_nil, gen_set', loc_set', p_move, p_assign, p_pick, p_load, p_bin, p_fieldAddr, ev_tmp, ev_const, evc_eq, ofValue_bool, load_loc, pick_eq, pickV_false, retV_ok, bs_eql, Option.bind_some, clean_str, cond_true, cond_false, QS_P, List.drop, List.head?_cons, beq_self_eq_true, true_and, Nat.add_zero, Nat.reduceBEq, Nat.reduceLT, nat_beq, rd_9, fa_40_0_l, Obj.cells, h1]
    exact fin _ _ (by simp only [nth_set, Nat.reduceBEq, cond_true, cond_false, objEq, h1])
  | true =>
  cases h2 : ieq o.kind q.kind with
  | false =>
    simp only [WP_nil, WP_always, WP_when, stepK_some, whenK_true, whenK_false, wantV_tt, wantV_ft, nth_set, gen_nil, gen_set', loc_set', p_move, p_assign, p_pick, p_load, p_bin, p_fieldAddr, ev_tmp, ev_const, evc_eq, ofValue_bool, load_loc, pick_eq, pickV_true, pickV_false, retV_ok, bi_eql, bs_eql, Option.bind_some, clean_int, clean_str, cond_true, cond_false, QS_P, List.drop, List.head?_cons, beq_self_eq_true, true_and, Nat.zero_add, Nat.add_zero, Nat.reduceBEq, Nat.reduceLT, nat_beq, rd_3, rd_9, fa_40_0_l, fa_40_1_l, Obj.cells, h1, h2]
    exact fin _ _ (by simp only [nth_set, Nat.reduceBEq, cond_true, cond_false, objEq, h1, h2])
  | true =>
  cases h3 : (bif ieq o.x q.x then bif ieq o.y q.y then true else false else false) with
  | false =>
    simp only [WP_nil, WP_always, WP_when, stepK_some, whenK_true, whenK_false, wantV_tt, wantV_ft, nth_set, gen_nil, gen_set', loc_set', p_move, p_assign, p_pick, p_load, p_bin, p_fieldAddr, ev_tmp, ev_const, evc_eq, ofValue_bool, load_loc, pick_eq, pickV_true, pickV_false, retV_ok, bi_eql, bs_eql, Option.bind_some, clean_int, clean_str, clean_agg, cond_true, cond_false, QS_P, List.length_cons, List.length_nil, cut, List.take, List.drop, List.head?_cons, List.take_succ_cons, beq_self_eq_true, true_and, Nat.zero_add, Nat.add_zero, Nat.reduceBEq, Nat.reduceLT, Nat.reduceAdd, nat_beq, rd_3, rd_9, rd_36, fa_40_0_l, fa_40_1_l, fa_40_2_l, Obj.cells, h1, h2, pt_eql, h3]
    exact fin _ _ (by simp only [nth_set, Nat.reduceBEq, cond_true, cond_false, objEq, h1, h2, h3])
  | true =>
  cases h4 : o.refs == q.refs with
  | false =>
    simp only [WP_nil, WP_always, WP_when, stepK_some, whenK_true, whenK_false, wantV_tt, wantV_ft, nth_set, gen_nil, gen_set', loc_set', p_move, p_assign, p_pick, p_load, p_bin, p_fieldAddr, p_call, callee_func, ev_tmp, ev_const, evc_eq, evcs_nil, evcs_cons, ofValue_bool, load_loc, pick_eq, pickV_true, pickV_false, retV_ok, bi_eql, bs_eql, Option.bind_some, clean_int, clean_str, clean_agg, cond_true, cond_false, QS_P, QS_spec, List.length_cons, List.length_nil, cut, List.take, List.drop, List.head?_cons, List.take_succ_cons, beq_self_eq_true, true_and, Nat.zero_add, Nat.add_zero, Nat.reduceBEq, Nat.reduceLT, Nat.reduceAdd, nat_beq, rd_3, rd_9, rd_36, rd_37, fa_40_0_l, fa_40_1_l, fa_40_2_l, fa_40_3_l, Obj.cells, rcl, rcq, h1, h2, pt_eql, h3, h37, e1, h4]
    exact fin _ _ (by simp only [nth_set, Nat.reduceBEq, cond_true, cond_false, objEq, h1, h2, h3, h4])
  | true =>
    simp only [WP_nil, WP_always, WP_when, stepK_some, whenK_true, wantV_tt, nth_set, gen_nil, gen_set', loc_set', p_move, p_assign, p_pick, p_load, p_bin, p_fieldAddr, p_call, callee_func, ev_tmp, ev_const, evc_eq, evcs_nil, evcs_cons, ofValue_bool, load_loc, pick_eq, pickV_true, retV_ok, bi_eql, bs_eql, Option.bind_some, clean_int, clean_str, clean_agg, cond_true, cond_false, QS_P, QS_spec, List.length_cons, List.length_nil, cut, List.take, List.drop, List.head?_cons, List.take_succ_cons, beq_self_eq_true, true_and, Nat.zero_add, Nat.add_zero, Nat.reduceBEq, Nat.reduceLT, Nat.reduceAdd, nat_beq, rd_3, rd_9, rd_36, rd_37, rd_38, fa_40_0_l, fa_40_1_l, fa_40_2_l, fa_40_3_l, fa_40_4_l, Obj.cells, rcl, tcl, rcq, tcq, h1, h2, pt_eql, h3, h37, e1, h4, h38, e2]
    exact fin _ _ (by simp only [nth_set, Nat.reduceBEq, cond_true, cond_false, objEq, h1, h2, h3, h4])
def osameSp : Sp
  | [a, b] => (asObj a).bind fun o => (asObj b).bind fun q => some (.bool (objEq o q))
  | _ => none
theorem osameSp_of {o q : Obj} (h : o.Good) (h2 : q.Good) : osameSp [o.val, q.val] = some (.bool (objEq o q)) := by
  simp only [osameSp, asObj_val h, asObj_val h2, Option.bind_some]
def V1 : Tbl := [(37, eq37Sp), (38, eq38Sp)]
theorem V1_ok : TblOk V1 := .cons eq37Sp_ok (.cons eq38Sp_ok .nil)
theorem osameSp_ok : SpecOk Tryz.prog 16 osameSp := by
  intro args u hv G h w xs wr hx
  unfold osameSp at hv
  split at hv
  · simp only [Option.bind_eq_some_iff, Option.some.injEq] at hv
    obtain ⟨o, ho, q, hq, rfl⟩ := hv
    obtain ⟨rfl, hg⟩ := asObj_inv ho
    obtain ⟨rfl, hg2⟩ := asObj_inv hq
    have hp : pures [o.val, q.val] = true := by simp only [pures, hg.pure, hg2.pure, Bool.and_self]
    exact spec_of_run (Q := QT V1) (good_of V1_ok) (fun _ => Nat.zero_lt_succ 1) (args := [o.val, q.val]) (v := .bool (objEq o q)) (s' := s0) (tops_pure hp) (by rw [weaks_pure hp]; exact osame_run (sp := fun f => tblGet f V1) rfl rfl rfl hg hg2 s0) rfl ⟨1, rfl⟩ G h w xs wr hx
  · cases hv
end Go.Proofs.YtbfmdojdemckbaaGreat
