/- Contracts of object.Valid and atlas.Valid. -/
import Derived.Test.YtbfmdojdemckbaaGreatZ3
/- object.Valid's closure; slices.IndexFunc and ContainsFunc with it -/
namespace Go.Proofs.YtbfmdojdemckbaaGreat
open Go.Ag

def wrongAt (kind : Int) (last : Bytes) (seen : List Bytes) (r : Bytes) : Bool := ((ieq kind 2 && (r == last)) || (ieq kind 3 && seen.contains r)) || !nameOk r

/-- the names that the closure holds -/
structure Clo (s : St) (o : Obj) (po pl ps m : Nat) (last : Bytes) (seen : List Bytes) : Prop where
  ho : s.get [] po = some (.cells o.cells)
  hl : s.get [] pl = some (.cells [.str last])
  hs : s.get [] ps = some (.cells [.map m])
  hm : s.get [] m = some (.map (ents 0 (setM seen)) (setM seen).length)
  d1 : (pl == m) = false
  d2 : (po == m) = false
  d3 : (po == pl) = false
  d4 : (ps == m) = false
  d5 : (ps == pl) = false
  d6 : (m == pl) = false

noncomputable def Clo.next (s : St) (pl m : Nat) (seen : List Bytes) (r : Bytes) : St := (s.put m (some (.map (ents 0 (setM (addK r seen))) (setM (addK r seen)).length))).put pl (some (.cells [.str r]))
theorem Clo.after {s : St} {o : Obj} {po pl ps m : Nat} {last : Bytes} {seen : List Bytes} (c : Clo s o po pl ps m last seen) (r : Bytes) : Clo (Clo.next s pl m seen r) o po pl ps m r (addK r seen) := by
  refine ⟨?_, ?_, ?_, ?_, c.d1, c.d2, c.d3, c.d4, c.d5, c.d6⟩ <;> simp only [Clo.next, get_put, c.d1, c.d2, c.d3, c.d4, c.d5, c.d6, beq_self_eq_true, cond_true, cond_false, c.ho, c.hs]

section
variable {sp : FuncId → Option (List AVal → Option AVal)} (h94 : sp 58 = some nameSp)
include h94
theorem wrong_run (h97 : sp 61 = none) {s : St} {o : Obj} {po pl ps m : Nat} {last : Bytes} {seen : List Bytes} (c : Clo s o po pl ps m last seen) {r : Bytes} (hr : r.length < small) :
    RunC (QS sp) 61 [.str r, .ptr po 0, .ptr pl 0, .ptr ps 0] s (.bool (wrongAt o.kind last seen r)) (Clo.next s pl m seen r) := by
  have hns := nameSp_str hr
  have hlk := lookup_ents eq_9 mp_109 zr_4 c.hm r
  rw [look_setD] at hlk
  have hup := update_ents eq_9 mp_109 c.hm r (.bool true)
  rw [ins_set] at hup
  have ho := c.ho
  have hl := c.hl
  have hs := c.hs
  have d1 := c.d1
  refine RunC.of2 k61_func k61_code k61_tmps k61_res h97 ?_
  unfold k61
  refine W.sreg ?_
  unfold k61_r0
  simp only [frame0, ofArgs, WP_nil, WP_always, stepK_some, p_assign, ev_const, ofValue_bool, retV_ok, cond_true, List.length_cons, List.length_nil, true_and, Nat.zero_add, Nat.reduceLT, Nat.reduceAdd, Nat.reduceLeDiff, nat_ble, decide_true]
  refine W.sreg ?_
  unfold k61_r1
  have two : ∀ e b, nth e 0 = .str r → nth e 1 = .ptr po 0 → nth e 2 = .ptr pl 0 → nth e 3 = .ptr ps 0 → nth e 6 = .bool b → b = ((ieq o.kind 2 && (r == last)) || (ieq o.kind 3 && seen.contains r)) → W (QS sp) 61 (.seq (.region k61_r2) (.seq (.region k61_r3) .ret)) ⟨e, 34, []⟩ s fun x fr' s1 => s1 = Clo.next s pl m seen r ∧ (x = .normal ∨ x = .ret) ∧ ∃ vs, resultsA (QS sp) [] fr' s1 [.tmp 5] = some vs ∧ packA vs = .bool (wrongAt o.kind last seen r) := by
    intro e b h0 h1 h2 h3 h6 hb
    refine W.sreg ?_
    unfold k61_r2
    simp only [WP_nil, WP_always, WP_always0, stepK_some, stepK0_some, nth_set, p_move, p_load, p_store, p_update, ev_tmp, ev_const, evc_eq, ofValue_bool, retV_ok, retS_some, cells_str, Option.bind_some, clean_bool, clean_str, clean_map, cond_true, cond_false, QS_P, List.length_cons, List.length_nil, writeCells, List.take, List.drop, List.head?_cons, List.drop_succ_cons, List.nil_append, List.append_nil, beq_self_eq_true, true_and, Nat.zero_add, Nat.reduceBEq, Nat.reduceLT, Nat.reduceLeDiff, Bool.and_true, nat_beq, nat_blt, nat_ble, decide_true, rd_109, sz_9, load_ptr, loadO_cells, store_ptr', storeO_cells, get_put, h0, h2, h3, hs, hl, hup, d1]
    refine W.sreg ?_
    unfold k61_r3
    cases b with
    | true =>
      simp only [WP_nil, WP_always, WP_when, stepK_some, whenK_false, wantV_tf, nth_set, p_move, p_assign, p_pick, ev_tmp, ev_const, ofValue_bool, pick_eq, pickV_true, retV_ok, Option.bind_some, cond_true, cond_false, beq_self_eq_true, true_and, Nat.reduceBEq, Nat.reduceLT, h6]
      refine W.ret ⟨rfl, .inr rfl, res_tmp ?_ rfl⟩
      simp only [nth_set, Nat.reduceBEq, cond_true, cond_false, *]
      simp only [wrongAt, ← hb, Bool.true_or]
    | false =>
      simp only [WP_nil, WP_always, WP_when, stepK_some, whenK_true, wantV_ff, nth_set, p_move, p_assign, p_pick, p_un, p_call, callee_func, ev_tmp, ev_const, evc_eq, evcs_nil, evcs_cons, ofValue_bool, pick_eq, pickV_false, retV_ok, un_not, Option.bind_some, clean_bool, clean_str, cond_true, cond_false, QS_spec, beq_self_eq_true, true_and, Nat.reduceBEq, Nat.reduceLT, h0, h6, h94, hns]
      refine W.ret ⟨rfl, .inr rfl, res_tmp ?_ rfl⟩
      simp only [nth_set, Nat.reduceBEq, cond_true, cond_false, *]
      simp only [wrongAt, ← hb, Bool.false_or]
  cases hk2 : ieq o.kind 2 with
  | true =>
    cases he : r == last with
    | true =>
      simp only [WP_nil, WP_always, WP_when, stepK_some, whenK_true, whenK_false, wantV_tt, wantV_tf, wantV_undef, nth_set, p_move, p_assign, p_pick, p_load, p_bin, p_fieldAddr, ev_tmp, ev_const, evc_eq, ofValue_bool, ofValue_int, pick_eq, pickV_true, retV_ok, bi_eql, bs_eql, Option.bind_some, clean_int, clean_str, cond_true, cond_false, QS_P, List.drop, List.head?_cons, beq_self_eq_true, true_and, Nat.zero_add, Nat.reduceBEq, Nat.reduceLT, rd_3, rd_9, fa_40_1_p, load_ptr, loadO_cells, ho, hl, Obj.cells, hk2, he]
      refine two _ true ?_ ?_ ?_ ?_ ?_ (by simp only [hk2, he, Bool.and_self, Bool.true_or]) <;> simp only [nth_set, Nat.reduceBEq, cond_true, cond_false, *]
    | false =>
      cases hk3 : ieq o.kind 3 with
      | true =>
        simp only [WP_nil, WP_always, WP_when, stepK_some, whenK_true, wantV_tt, wantV_ff, nth_set, p_move, p_assign, p_pick, p_load, p_bin, p_fieldAddr, p_lookup, ev_tmp, ev_const, evc_eq, ofValue_bool, ofValue_int, pick_eq, pickV_true, pickV_false, retV_ok, bi_eql, bs_eql, Option.bind_some, clean_int, clean_str, clean_map, cond_true, cond_false, QS_P, List.drop, List.head?_cons, beq_self_eq_true, true_and, Nat.zero_add, Nat.reduceBEq, Nat.reduceLT, rd_3, rd_9, rd_109, fa_40_1_p, load_ptr, loadO_cells, ho, hs, hl, Obj.cells, hk2, he, hk3, hlk]
        refine two _ (seen.contains r) ?_ ?_ ?_ ?_ ?_ (by simp only [hk2, he, hk3, Bool.and_false, Bool.false_or, Bool.true_and]) <;> simp only [nth_set, Nat.reduceBEq, cond_true, cond_false, *]
      | false =>
        simp only [WP_nil, WP_always, WP_when, stepK_some, whenK_true, whenK_false, wantV_tt, wantV_ft, wantV_ff, nth_set, p_move, p_assign, p_pick, p_load, p_bin, p_fieldAddr, ev_tmp, ev_const, evc_eq, ofValue_bool, ofValue_int, pick_eq, pickV_true, pickV_false, retV_ok, bi_eql, bs_eql, Option.bind_some, clean_int, clean_str, cond_true, cond_false, QS_P, List.drop, List.head?_cons, beq_self_eq_true, true_and, Nat.zero_add, Nat.reduceBEq, Nat.reduceLT, rd_3, rd_9, fa_40_1_p, load_ptr, loadO_cells, ho, hl, Obj.cells, hk2, he, hk3]
        refine two _ false ?_ ?_ ?_ ?_ ?_ (by simp only [hk2, he, hk3, Bool.and_false, Bool.false_or, Bool.false_and]) <;> simp only [nth_set, Nat.reduceBEq, cond_true, cond_false, *]
  | false =>
    cases hk3 : ieq o.kind 3 with
    | true =>
      simp only [WP_nil, WP_always, WP_when, stepK_some, whenK_true, whenK_false, wantV_tt, wantV_ft, wantV_ff, nth_set, p_move, p_assign, p_pick, p_load, p_bin, p_fieldAddr, p_lookup, ev_tmp, ev_const, evc_eq, ofValue_bool, ofValue_int, pick_eq, pickV_true, pickV_false, retV_ok, bi_eql, Option.bind_some, clean_int, clean_str, clean_map, cond_true, cond_false, QS_P, List.drop, List.head?_cons, beq_self_eq_true, true_and, Nat.zero_add, Nat.reduceBEq, Nat.reduceLT, rd_3, rd_109, fa_40_1_p, load_ptr, loadO_cells, ho, hs, Obj.cells, hk2, hk3, hlk]
      refine two _ (seen.contains r) ?_ ?_ ?_ ?_ ?_ (by simp only [hk2, hk3, Bool.false_and, Bool.false_or, Bool.true_and]) <;> simp only [nth_set, Nat.reduceBEq, cond_true, cond_false, *]
    | false =>
      simp only [WP_nil, WP_always, WP_when, stepK_some, whenK_true, whenK_false, wantV_ft, wantV_ff, nth_set, p_move, p_assign, p_pick, p_load, p_bin, p_fieldAddr, ev_tmp, ev_const, evc_eq, ofValue_bool, ofValue_int, pick_eq, pickV_false, retV_ok, bi_eql, Option.bind_some, clean_int, cond_true, cond_false, QS_P, List.drop, List.head?_cons, beq_self_eq_true, true_and, Nat.zero_add, Nat.reduceBEq, Nat.reduceLT, rd_3, fa_40_1_p, load_ptr, loadO_cells, ho, Obj.cells, hk2, hk3]
      refine two _ false ?_ ?_ ?_ ?_ ?_ (by simp only [hk2, hk3, Bool.false_or, Bool.false_and]) <;> simp only [nth_set, Nat.reduceBEq, cond_true, cond_false, *]
end
end Go.Proofs.YtbfmdojdemckbaaGreat
/- slices.IndexFunc, ContainsFunc with object.Valid's closure -/
namespace Go.Proofs.YtbfmdojdemckbaaGreat
open Go.Ag

theorem RunC.ofEx {Q : Prog} {f : FuncId} {fn : Func} {sc : SC} {n : Nat} {rs : List ResultVar} {args : List AVal} {s : St} {R : AVal → St → Prop} (hf : Q.P.funcs[f]? = some fn) (hc : fn.body.map compile = some sc) (hn : fn.ntmps = n) (hr : fn.results.toList = rs) (hsp : Q.spec f = none)
    (h : W Q f sc (frame0 n args) s fun x fr' s1 => (x = .normal ∨ x = .ret) ∧ ∃ v, (∃ vs, resultsA Q [] fr' s1 rs = some vs ∧ packA vs = v) ∧ R v s1) (hH : Q.specH f = none := by rfl) : ∃ v s', RunC Q f args s v s' ∧ R v s' := by
  obtain ⟨x, fr', s1, h1, h2, v, h3, h4⟩ := h
  exact ⟨v, s1, RunC.of2 hf hc hn hr hsp ⟨x, fr', s1, h1, rfl, h2, h3⟩ hH, h4⟩

def anyWrong (kind : Int) : Bytes → List Bytes → List Bytes → Bool
  | _, _, [] => false
  | last, seen, r :: rs => wrongAt kind last seen r || anyWrong kind r (addK r seen) rs

def cloV (po pl ps : Nat) : AVal := .func (.func 61) [] [.ptr po 0, .ptr pl 0, .ptr ps 0]
theorem clean_clo (po pl ps : Nat) : (cloV po pl ps).clean = true := rfl

section
variable {sp : FuncId → Option (List AVal → Option AVal)} (h94 : sp 58 = some nameSp) (h97 : sp 61 = none)
include h94 h97
theorem idx_loop {v : AVal} {l : List Bytes} (hl : IsL 1 strV v l) (hk : ∀ r ∈ l, r.length < small) (hsmall : l.length < small) {o : Obj} {po pl ps m : Nat} : ∀ (rest pre : List Bytes) (e : Env) (lc : Ag.Loc) (s : St) (last : Bytes) (seen : List Bytes), l = pre ++ rest → Clo s o po pl ps m last seen →
    nth e 0 = v → nth e 1 = cloV po pl ps → nth e 7 = .int .i64 (l.length : Nat) → nth e 8 = .int .i64 (pre.length : Nat) →
    W (QS sp) 90 (.loop k90_l0) ⟨e, 19, lc⟩ s fun x fr s' => (∃ last' seen', Clo s' o po pl ps m last' seen') ∧ s'.ci = s.ci ∧ fr.size = 19 ∧ ((x = .exit 0 ∧ anyWrong o.kind last seen rest = false) ∨ (x = .ret ∧ (∃ i : Nat, nth fr.env 4 = .int .i64 (i : Int)) ∧ anyWrong o.kind last seen rest = true)) := by
  intro rest
  induction rest with
  | nil =>
    intro pre e lc s last seen hpre c h0 h1 h7 h8
    have hlen : l.length = pre.length := by rw [hpre]; simp
    refine W.loop1 ?_
    unfold k90_l0
    refine W.sreg ?_
    unfold k90_r2
    simp only [WP_nil, WP_always, stepK_some, p_bin, ev_tmp, evc_eq, retV_ok, bi_lss, Option.bind_some, clean_int, cond_true, QS_P, ilt_nat, true_and, Nat.reduceLT, decide_false, h7, h8, hlen, Nat.lt_irrefl]
    refine W.seq (W.cond (t := false) (by simp only [ev_tmp, nth_set, Nat.reduceBEq, cond_true, *]) ?_)
    exact W.exit ⟨⟨last, seen, c⟩, rfl, rfl, .inl ⟨rfl, rfl⟩⟩
  | cons r rest ih =>
    intro pre e lc s last seen hpre c h0 h1 h7 h8
    have hlt : pre.length < l.length := by rw [hpre]; simp
    have hat : l[pre.length]? = some r := by rw [hpre]; simp
    have hia := fun lc => hl.at ia_37_l hat lc .i64
    have hcl := hl.clean
    have hr := hk r (List.mem_of_getElem? hat)
    have hsm : small = 9223372036854775808 := rfl
    have hwr : IntKind.i64.wrap ((pre.length : Int) + 1) = ((pre.length + 1 : Nat) : Int) := by rw [wrap64_small (by omega) (by omega)]; omega
    refine W.loop1 ?_
    unfold k90_l0
    refine W.sreg ?_
    unfold k90_r2
    simp only [WP_nil, WP_always, stepK_some, p_bin, ev_tmp, evc_eq, retV_ok, bi_lss, Option.bind_some, clean_int, cond_true, QS_P, ilt_nat, true_and, Nat.reduceLT, decide_true, h7, h8, hlt]
    refine W.seq (W.cond (t := true) (by simp only [ev_tmp, nth_set, Nat.reduceBEq, cond_true, *]) (W.skip ?_))
    refine W.seq (W.block ?_)
    refine W.sreg ?_
    unfold k90_r3
    simp only [WP_nil, WP_always, stepK_some, nth_set, p_move, p_assign, ev_tmp, retV_ok, cond_true, cond_false, beq_self_eq_true, true_and, Nat.reduceBEq, Nat.reduceLT, h8]
    refine W.seq (W.region (WL_split 5 ?_))
    unfold k90_r4
    simp only [WP_nil, WP_always, stepK_some, nth_set, p_move, p_load, p_indexAddr, ev_tmp, load_ro, retV_ok, cells_str, Option.bind_some, cond_true, cond_false, QS_P, List.take, List.drop, List.head?_cons, beq_self_eq_true, true_and, Nat.reduceBEq, Nat.reduceLT, rd_9, h0, h1, hia, strV]
    refine WL_call (g := 61) (args := [.str r, .ptr po 0, .ptr pl 0, .ptr ps 0]) ?_ (wrong_run h94 h97 c hr) (by decide) ?_
    · simp only [callee, cloV, nth_set, ev_tmp, evc_eq, evcs_nil, evcs_cons, Option.bind_some, clean_str, cond_true, cond_false, List.nil_append, List.cons_append, beq_self_eq_true, Nat.reduceBEq]
    refine WL_WP ?_
    simp only [WP_nil, next_normal]
    cases hw : wrongAt o.kind last seen r with
    | true =>
      refine W.cond (t := true) (by simp only [ev_tmp, nth_set, Nat.reduceBEq, cond_true, cond_false]) (W.sreg ?_)
      unfold k90_r5
      simp only [WP_nil, WP_always, stepK_some, nth_set, p_move, p_assign, ev_tmp, retV_ok, cond_true, cond_false, beq_self_eq_true, true_and, Nat.reduceBEq, Nat.reduceLT]
      refine W.ret ⟨⟨_, _, c.after r⟩, rfl, rfl, .inr ⟨rfl, ⟨pre.length, ?_⟩, by simp [anyWrong, hw]⟩⟩
      simp only [nth_set, Nat.reduceBEq, cond_true, cond_false, *]
    | false =>
      refine W.cond (t := false) (by simp only [ev_tmp, nth_set, Nat.reduceBEq, cond_true, cond_false]) (W.skip ?_)
      simp only [block_normal, next_normal]
      refine W.reg ?_
      unfold k90_r6
      simp only [WP_nil, WP_always, stepK_some, nth_set, p_move, p_bin, ev_tmp, ev_const, evc_eq, ofValue_int, retV_ok, bi_add, Option.bind_some, clean_int, cond_true, cond_false, QS_P, beq_self_eq_true, true_and, Nat.reduceBEq, Nat.reduceLT, h8, hwr, next_normal]
      refine (ih (pre ++ [r]) _ _ _ r (addK r seen) (by rw [hpre]; simp) (c.after r) (by simp only [nth_set, Nat.reduceBEq, cond_false, *]) (by simp only [nth_set, Nat.reduceBEq, cond_false, *]) (by simp only [nth_set, Nat.reduceBEq, cond_false, *]) (by simp only [nth_set, Nat.reduceBEq, cond_true, cond_false, List.length_append, List.length_cons, List.length_nil])).mono ?_
      simp only [anyWrong, hw, Bool.false_or]
      exact fun _ _ _ h => h

theorem idx_run (h157 : sp 90 = none) {v : AVal} {l : List Bytes} (hl : IsL 1 strV v l) (hk : ∀ r ∈ l, r.length < small) (hsmall : l.length < small) {o : Obj} {po pl ps m : Nat} {s : St} {last : Bytes} {seen : List Bytes} (c : Clo s o po pl ps m last seen) :
    ∃ u s', RunC (QS sp) 90 [v, cloV po pl ps] s u s' ∧ ((∃ last' seen', Clo s' o po pl ps m last' seen') ∧ s'.ci = s.ci ∧ ∃ z : Int, u = .int .i64 z ∧ ile 0 z = anyWrong o.kind last seen l) := by
  have hlen := fun mk s => hl.len ln_37_n ln_37_l mk s
  have hcl := hl.clean
  refine RunC.ofEx k90_func k90_code k90_tmps k90_res h157 ?_
  unfold k90
  refine W.sreg ?_
  unfold k90_r0
  simp only [frame0, ofArgs, WP_nil, WP_always, stepK_some, p_assign, ev_const, ofValue_int, retV_ok, cond_true, List.length_cons, List.length_nil, true_and, Nat.zero_add, Nat.reduceLT, Nat.reduceAdd, Nat.reduceLeDiff, nat_ble, decide_true]
  refine W.seq (W.sreg ?_)
  unfold k90_r1
  simp only [WP_nil, WP_always, stepK_some, nth_set, p_move, p_builtin, ev_tmp, ev_const, evc_eq, evcs_nil, evcs_cons, ofValue_int, retV_ok, retVS_some, bl_len, hintOf_some, Option.bind_some, cond_true, cond_false, QS_P, QS_hint, beq_self_eq_true, true_and, Nat.reduceBEq, Nat.reduceLT, nat_beq, hcl, hlen]
  refine W.block ?_
  refine (idx_loop h94 h97 hl hk hsmall l [] _ _ s last seen rfl c (by simp only [nth_set, Nat.reduceBEq, cond_true, cond_false, *]) (by simp only [nth_set, Nat.reduceBEq, cond_true, cond_false, *]) (by simp only [nth_set, Nat.reduceBEq, cond_true, cond_false, *]) (by simp only [nth_set, Nat.reduceBEq, cond_true, cond_false]; rfl)).mono ?_
  rintro x ⟨e, sz, lc⟩ s' ⟨hc, hci, hs, ⟨rfl, hok⟩ | ⟨rfl, ⟨i, h4⟩, hok⟩⟩
  · have hs : sz = 19 := hs
    subst hs
    show W (QS sp) 90 _ _ _ _
    refine W.sreg ?_
    unfold k90_r7
    simp only [WP_nil, WP_always, stepK_some, p_assign, ev_const, ofValue_int, retV_ok, true_and, Nat.reduceLT]
    refine W.ret ⟨.inr rfl, .int .i64 (-1), res_tmp ?_ rfl, hc, hci, -1, rfl, by rw [hok]; rfl⟩
    simp only [nth_set, Nat.reduceBEq, cond_true, *]
  · exact ⟨.inr rfl, .int .i64 i, res_tmp h4 rfl, hc, hci, i, rfl, by rw [hok]; simp [ile]⟩

theorem has_run (h157 : sp 90 = none) (h98 : sp 62 = none) {v : AVal} {l : List Bytes} (hl : IsL 1 strV v l) (hk : ∀ r ∈ l, r.length < small) (hsmall : l.length < small) {o : Obj} {po pl ps m : Nat} {s : St} {last : Bytes} {seen : List Bytes} (c : Clo s o po pl ps m last seen) :
    ∃ u s', RunC (QS sp) 62 [v, cloV po pl ps] s u s' ∧ ((∃ last' seen', Clo s' o po pl ps m last' seen') ∧ s'.ci = s.ci ∧ u = .bool (anyWrong o.kind last seen l)) := by
  obtain ⟨u, s1, hr, hc, hci, z, rfl, hz⟩ := idx_run h94 h97 h157 hl hk hsmall c
  have hcl := hl.clean
  refine RunC.ofEx k62_func k62_code k62_tmps k62_res h98 ?_
  unfold k62
  refine W.sreg ?_
  unfold k62_r0
  simp only [frame0, ofArgs, WP_nil, WP_always, stepK_some, p_assign, ev_const, ofValue_bool, retV_ok, cond_true, List.length_cons, List.length_nil, true_and, Nat.zero_add, Nat.reduceLT, Nat.reduceAdd, Nat.reduceLeDiff, nat_ble, decide_true]
  refine W.seq (W.region (WL_split 2 ?_))
  unfold k62_r1
  simp only [WP_nil, WP_always, stepK_some, nth_set, p_move, ev_tmp, retV_ok, cond_true, cond_false, List.take, List.drop, beq_self_eq_true, true_and, Nat.reduceBEq, Nat.reduceLT]
  refine WL_call (g := 90) ?_ hr (by decide) ?_
  · simp only [callee, hcl, clean_clo, nth_set, ev_tmp, ev_func, evc_eq, evcs_nil, evcs_cons, Option.bind_some, cond_true, cond_false, List.nil_append, List.cons_append, beq_self_eq_true, Nat.reduceBEq]
  refine WL_WP ?_
  simp only [WP_nil, WP_always, stepK_some, nth_set, p_assign, p_bin, ev_tmp, ev_const, evc_eq, ofValue_int, retV_ok, bi_geq, Option.bind_some, clean_int, cond_true, cond_false, QS_P, beq_self_eq_true, true_and, Nat.reduceBEq, Nat.reduceLT, hz, next_normal]
  refine W.ret ⟨.inr rfl, _, res_tmp (v := .bool (anyWrong o.kind last seen l)) ?_ rfl, hc, hci, rfl⟩
  simp only [nth_set, Nat.reduceBEq, cond_true, cond_false, *]
end
end Go.Proofs.YtbfmdojdemckbaaGreat
/- object.Valid -/
namespace Go.Proofs.YtbfmdojdemckbaaGreat
open Go.Ag

def headBad (o : Obj) : Bool := (wordOf o.kind == []) || !nameOk o.id || !tagValid o.tags || decide (o.refs.length < leastOf o.kind) || decide (2000 < o.refs.length)
def zeroAt (o : Obj) : Bool := ieq o.x 0 && ieq o.y 0
def objValid (o : Obj) : Bool := bif headBad o then false else bif anyWrong o.kind [] [] o.refs then false else bif ieq o.kind 1 then (o.refs.length == 0) && onGrid o.x o.y else bif ieq o.kind 5 then (o.refs.length == 3) && zeroAt o else zeroAt o

theorem agg_eql (P : Program) (t : TypeId) (a b : List AVal) : binA P .eql t (.agg a) (.agg b) = (eqA P t (.agg a) (.agg b)).bind fun b => some (.bool b) := rfl
theorem agg_neq (P : Program) (t : TypeId) (a b : List AVal) : binA P .neq t (.agg a) (.agg b) = (eqA P t (.agg a) (.agg b)).bind fun b => some (.bool !b) := rfl
theorem pt_eql (a b c d : Int) : binA Tryz.prog .eql 36 (.agg [.int .i64 a, .int .i64 b]) (.agg [.int .i64 c, .int .i64 d]) = some (.bool (bif ieq a c then bif ieq b d then true else false else false)) := by
  have h : eqA Tryz.prog 36 (.agg [.int .i64 a, .int .i64 b]) (.agg [.int .i64 c, .int .i64 d]) = (some (ieq a c)).bind fun r => bif r then (some (ieq b d)).bind fun r => bif r then some true else some false else some false := by kernel_rfl
  rw [agg_eql, h]
  cases ieq a c <;> cases ieq b d <;> rfl
theorem pt_zero (a b : Int) : (bif ieq a 0 then bif ieq b 0 then true else false else false) = (ieq a 0 && ieq b 0) := by
  cases ieq a 0 <;> cases ieq b 0 <;> rfl
theorem word_kind {k : Int} (h : (wordOf k == []) = false) : (ile 0 k && ilt k 6) = true := by
  by_cases h1 : 0 ≤ k ∧ k < 6
  · simp [ile, ilt, h1.1, h1.2]
  · have hw : wordOf k = [] := by
      simp only [wordOf, ieq_ne (show k ≠ 1 by omega), ieq_ne (show k ≠ 2 by omega), ieq_ne (show k ≠ 3 by omega), ieq_ne (show k ≠ 4 by omega), ieq_ne (show k ≠ 5 by omega), cond_false]
    rw [hw] at h; cases h
theorem get_top (s : St) (mk : Mask) (n : Nat) : s.top.get mk n = s.get mk n := rfl
theorem leastSp_of {k : Int} (h : (ile 0 k && ilt k 6) = true) : leastSp [.int .i64 k] = some (.int .i64 (leastOf k : Nat)) := by
  simp only [leastSp, h, cond_true]

section
variable {sp : FuncId → Option (List AVal → Option AVal)} (h93 : sp 57 = some wordSp) (h94 : sp 58 = some nameSp) (h95 : sp 59 = some tagSp) (h96 : sp 60 = some leastSp) (h99 : sp 63 = some onSp) (h97 : sp 61 = none) (h98 : sp 62 = none) (h157 : sp 90 = none)
include h93 h94 h95 h96 h99 h97 h98 h157

theorem objv_run (h48 : sp 36 = none) {o : Obj} (ho : o.Ok) : ∃ v s', RunC (QS sp) 36 [o.val] s0 v s' ∧ (v = .bool (objValid o) ∧ s'.ci = 0) := by
  have hns := nameSp_str ho.id
  have hts := tagSp_of ho.tags ho.taglen ho.key
  have hws : wordSp [.int .i64 o.kind] = some (.str (wordOf o.kind)) := rfl
  have hlen := fun mk s => ho.refs.len ln_37_n ln_37_l mk s
  have hcr := ho.refs.clean
  have hct := ho.tags.clean
  refine RunC.ofEx k36_func k36_code k36_tmps k36_res h48 ?_
  unfold k36
  refine W.sreg ?_
  unfold k36_r0
  simp only [frame0, ofArgs, WP_nil, WP_always, stepK_some, nth_set, p_assign, p_box, ev_tmp, ev_const, evc_eq, ofValue_bool, boxA_heap, retV_ok, hintOf_some, cells_agg, Option.bind_some, clean_agg, cond_true, QS_hint, List.length_cons, List.length_nil, beq_self_eq_true, true_and, Nat.zero_add, Nat.reduceLT, Nat.reduceLeDiff, nat_ble, decide_true, hint_36_1, Obj.val]
  have hn0 : s0.next = 0 := rfl
  have hs1 : ∃ s1, s0.new (.cells o.cells) = s1 ∧ s1.get [] 0 = some (.cells o.cells) ∧ s1.minw ≤ s1.next ∧ s1.next = 1 ∧ s1.ci = 0 := ⟨_, rfl, by rw [get_new]; rfl, Nat.zero_le _, rfl, rfl⟩
  obtain ⟨s1, e1, g1, m1, n1, c1⟩ := hs1
  rw [e1, hn0]
  refine W.seq (W.sdrawQ m1 ?_)
  have fin : ∀ e lc, nth e 36 = .bool true → W (QS sp) 36 (.cond (Operand.tmp 36) (.seq (.region k36_r2) .ret) .skip) ⟨e, 72, lc⟩ s1 fun x fr s' => x = .ret ∧ s' = s1 ∧ nth fr.env 2 = .bool false := by
    intro e lc h
    refine W.cond (t := true) (by simp only [ev_tmp, h]) (W.sreg ?_)
    unfold k36_r2
    simp only [WP_nil, WP_always, stepK_some, p_assign, ev_const, ofValue_bool, retV_ok, true_and, Nat.reduceLT]
    exact W.ret ⟨rfl, rfl, by simp only [nth_set, Nat.reduceBEq, cond_true, *]⟩
  unfold k36_r1
  cases hb1 : wordOf o.kind == [] with
  | true =>
    simp only [WQ_nil, WQ_always, WQ_when, stepQ_some, whenQ_false, isStore, wantV_tf, nth_set, p_move, p_pick, p_load, p_bin, p_fieldAddr, p_call, callee_func, ev_tmp, ev_const, evc_eq, evcs_nil, evcs_cons, ofValue_bool, ofValue_str, pick_eq, pickV_true, retV_ok, bs_eql, Option.bind_some, clean_int, clean_str, cond_true, cond_false, QS_P, QS_spec, List.drop, List.head?_cons, beq_self_eq_true, true_and, Nat.zero_add, Nat.reduceBEq, Nat.reduceLT, rd_3, fa_40_1_p, load_ptr, loadO_cells, get_top, g1, Obj.cells, h93, hws, hb1]
    refine (fin _ _ ?_).mono ?_
    · simp only [nth_set, Nat.reduceBEq, cond_true, cond_false, *]
    · rintro x fr s' ⟨rfl, rfl, h⟩
      exact ⟨.inr rfl, _, res_tmp h rfl, by simp [objValid, headBad, hb1], c1⟩
  | false =>
  have hk := word_kind hb1
  have hls := leastSp_of hk
  cases hb2 : nameOk o.id with
  | false =>
    simp only [WQ_nil, WQ_always, WQ_when, stepQ_some, whenQ_true, whenQ_false, isStore, wantV_tf, wantV_ff, nth_set, p_move, p_pick, p_load, p_bin, p_un, p_fieldAddr, p_call, callee_func, ev_tmp, ev_const, evc_eq, evcs_nil, evcs_cons, ofValue_bool, ofValue_str, pick_eq, pickV_true, pickV_false, retV_ok, bs_eql, un_not, Option.bind_some, clean_bool, clean_int, clean_str, cond_true, cond_false, QS_P, QS_spec, List.drop, List.head?_cons, Bool.not_false, beq_self_eq_true, true_and, Nat.zero_add, Nat.add_zero, Nat.reduceBEq, Nat.reduceLT, rd_3, rd_9, fa_40_0_p, fa_40_1_p, load_ptr, loadO_cells, get_top, g1, Obj.cells, h93, hws, hb1, h94, hns, hb2]
    refine (fin _ _ ?_).mono ?_
    · simp only [nth_set, Nat.reduceBEq, cond_true, cond_false, *]
    · rintro x fr s' ⟨rfl, rfl, h⟩
      exact ⟨.inr rfl, _, res_tmp h rfl, by simp [objValid, headBad, hb2], c1⟩
  | true =>
  cases hb3 : tagValid o.tags with
  | false =>
    simp only [WQ_nil, WQ_always, WQ_when, stepQ_some, whenQ_true, whenQ_false, isStore, wantV_tf, wantV_ff, nth_set, p_move, p_pick, p_load, p_bin, p_un, p_fieldAddr, p_call, callee_func, ev_tmp, ev_const, evc_eq, evcs_nil, evcs_cons, ofValue_bool, ofValue_str, pick_eq, pickV_true, pickV_false, retV_ok, bs_eql, un_not, Option.bind_some, clean_bool, clean_int, clean_str, cond_true, cond_false, QS_P, QS_spec, List.drop, List.head?_cons, Bool.not_true, Bool.not_false, beq_self_eq_true, true_and, Nat.zero_add, Nat.add_zero, Nat.reduceBEq, Nat.reduceLT, rd_3, rd_9, rd_38, fa_40_0_p, fa_40_1_p, fa_40_4_p, load_ptr, loadO_cells, get_top, g1, Obj.cells, h93, hws, hb1, h94, hns, hb2, h95, hts, hct, hb3]
    refine (fin _ _ ?_).mono ?_
    · simp only [nth_set, Nat.reduceBEq, cond_true, cond_false, *]
    · rintro x fr s' ⟨rfl, rfl, h⟩
      exact ⟨.inr rfl, _, res_tmp h rfl, by simp [objValid, headBad, hb3], c1⟩
  | true =>
  cases hb4 : decide (o.refs.length < leastOf o.kind) with
  | true =>
    simp only [WQ_nil, WQ_always, WQ_when, stepQ_some, whenQ_true, whenQ_false, isStore, wantV_tf, wantV_ff, nth_set, p_move, p_pick, p_load, p_bin, p_un, p_fieldAddr, p_builtin, p_call, callee_func, ev_tmp, ev_const, evc_eq, evcs_nil, evcs_cons, ofValue_bool, ofValue_str, pick_eq, pickV_true, pickV_false, retV_ok, retVS_some, bi_lss, bs_eql, un_not, bl_len, hintOf_some, Option.bind_some, clean_bool, clean_int, clean_str, cond_true, cond_false, QS_P, QS_hint, QS_spec, List.drop, List.head?_cons, ilt_nat, Bool.not_true, beq_self_eq_true, true_and, Nat.zero_add, Nat.add_zero, Nat.reduceBEq, Nat.reduceLT, nat_beq, rd_3, rd_9, rd_37, rd_38, fa_40_0_p, fa_40_1_p, fa_40_3_p, fa_40_4_p, load_ptr, loadO_cells, get_top, g1, Obj.cells, h93, hws, hb1, h94, hns, hb2, h95, hts, hct, hb3, hcr, hlen, h96, hls, hb4]
    refine (fin _ _ ?_).mono ?_
    · simp only [nth_set, Nat.reduceBEq, cond_true, cond_false, *]
    · rintro x fr s' ⟨rfl, rfl, h⟩
      exact ⟨.inr rfl, _, res_tmp h rfl, by simp [objValid, headBad, hb4], c1⟩
  | false =>
  have hil : ilt 2000 (o.refs.length : Nat) = decide (2000 < o.refs.length) := ilt_nat 2000 _
  cases hb5 : decide (2000 < o.refs.length) with
  | true =>
    simp only [WQ_nil, WQ_always, WQ_when, stepQ_some, whenQ_true, isStore, wantV_ff, nth_set, p_move, p_pick, p_load, p_bin, p_un, p_fieldAddr, p_builtin, p_call, callee_func, ev_tmp, ev_const, evc_eq, evcs_nil, evcs_cons, ofValue_bool, ofValue_int, ofValue_str, pick_eq, pickV_false, retV_ok, retVS_some, bi_lss, bi_gtr, bs_eql, un_not, bl_len, hintOf_some, Option.bind_some, clean_bool, clean_int, clean_str, cond_true, cond_false, QS_P, QS_hint, QS_spec, List.drop, List.head?_cons, ilt_nat, Bool.not_true, beq_self_eq_true, true_and, Nat.zero_add, Nat.add_zero, Nat.reduceBEq, Nat.reduceLT, nat_beq, rd_3, rd_9, rd_37, rd_38, fa_40_0_p, fa_40_1_p, fa_40_3_p, fa_40_4_p, load_ptr, loadO_cells, get_top, g1, Obj.cells, h93, hws, hb1, h94, hns, hb2, h95, hts, hct, hb3, hcr, hlen, h96, hls, hb4, hil, hb5]
    refine (fin _ _ ?_).mono ?_
    · simp only [nth_set, Nat.reduceBEq, cond_true, cond_false, *]
    · rintro x fr s' ⟨rfl, rfl, h⟩
      exact ⟨.inr rfl, _, res_tmp h rfl, by simp [objValid, headBad, hb5], c1⟩
  | false =>
  have hgood : headBad o = false := by simp only [headBad, hb1, hb2, hb3, hb4, hb5]; rfl
  simp only [WQ_nil, WQ_always, WQ_when, stepQ_some, whenQ_true, isStore, wantV_ff, nth_set, p_move, p_pick, p_load, p_bin, p_un, p_fieldAddr, p_builtin, p_call, callee_func, ev_tmp, ev_const, evc_eq, evcs_nil, evcs_cons, ofValue_bool, ofValue_int, ofValue_str, pick_eq, pickV_false, retV_ok, retVS_some, bi_lss, bi_gtr, bs_eql, un_not, bl_len, hintOf_some, Option.bind_some, clean_bool, clean_int, clean_str, cond_true, cond_false, QS_P, QS_hint, QS_spec, List.drop, List.head?_cons, ilt_nat, Bool.not_true, beq_self_eq_true, true_and, Nat.zero_add, Nat.add_zero, Nat.reduceBEq, Nat.reduceLT, nat_beq, rd_3, rd_9, rd_37, rd_38, fa_40_0_p, fa_40_1_p, fa_40_3_p, fa_40_4_p, load_ptr, loadO_cells, get_top, g1, Obj.cells, h93, hws, hb1, h94, hns, hb2, h95, hts, hct, hb3, hcr, hlen, h96, hls, hb4, hil, hb5]
  refine W.cond (t := false) (by simp only [ev_tmp, nth_set, Nat.reduceBEq, cond_true, cond_false, *]) (W.skip ?_)
  simp only [next_normal]
  refine W.sreg ?_
  unfold k36_r3
  simp only [WP_nil, WP_always, WP_always0, stepK_some, stepK0_some, nth_set, p_alloc, p_store, p_makeMap, ev_tmp, evc_eq, boxA_heap, retVS_some, hintOf_some, Option.bind_some, clean_map, cond_true, cond_false, QS_P, QS_hint, List.length_cons, List.length_nil, writeCells, List.take, List.drop, List.drop_succ_cons, List.nil_append, List.append_nil, beq_self_eq_true, true_and, Nat.zero_add, Nat.reduceBEq, Nat.reduceLT, Nat.reduceAdd, Nat.reduceLeDiff, Bool.and_true, nat_beq, nat_blt, nat_ble, decide_true, sz_109, zr_109, hint_36_3, makeMapA, store_ptr', get_new, next_new, n1, storeO_cells, AVal.cells]
  refine W.sreg ?_
  unfold k36_r4
  simp only [WP_nil, WP_always, WP_always0, stepK_some, stepK0_some, nth_set, p_alloc, p_store, ev_tmp, ev_const, evc_eq, ofValue_str, boxA_heap, hintOf_some, cells_str, Option.bind_some, clean_str, cond_true, cond_false, QS_P, QS_hint, List.length_cons, List.length_nil, writeCells, List.take, List.drop, List.drop_succ_cons, List.nil_append, List.append_nil, beq_self_eq_true, true_and, Nat.zero_add, Nat.reduceBEq, Nat.reduceLT, Nat.reduceAdd, Nat.reduceLeDiff, Bool.and_true, nat_beq, nat_blt, nat_ble, decide_true, sz_9, zr_9, hint_36_4, store_ptr', get_new, get_put, next_new, next_put, n1, storeO_cells]
  refine W.sreg ?_
  unfold k36_r5
  simp only [WP_nil, WP_always, stepK_some, nth_set, p_assign, p_makeFunc, ev_tmp, evc_eq, evcs_nil, evcs_cons, retV_ok, Option.bind_some, clean_ptr, cond_true, cond_false, beq_self_eq_true, true_and, Nat.reduceBEq, Nat.reduceLT, makeFuncA]
  have hs2 : ∃ s2, ((((s1.new (.map [] 0)).new (.cells [.nilm])).put 2 (some (.cells [.map 1]))).new (.cells [.str []])).put 3 (some (.cells [.str []])) = s2 ∧ Clo s2 o 0 3 2 1 [] [] ∧ s2.ci = 0 := by
    refine ⟨_, rfl, ⟨?_, ?_, ?_, ?_, rfl, rfl, rfl, rfl, rfl, rfl⟩, c1⟩ <;> simp only [get_new, get_put, next_new, next_put, n1, g1, Nat.reduceBEq, Nat.reduceAdd, cond_true, cond_false] <;> rfl
  obtain ⟨s2, e2, hclo, c2⟩ := hs2
  rw [e2]
  obtain ⟨u, s3, hr, ⟨last3, seen3, c3⟩, hci3, rfl⟩ := has_run h94 h97 h157 h98 ho.refs ho.ref ho.reflen hclo
  have g2 := hclo.ho
  have g3 := c3.ho
  have hci3 : s3.ci = 0 := hci3.trans c2
  have harg : AVal.func (.func 61) [] [.ptr 0 0, .ptr 3 0, .ptr 2 0] = cloV 0 3 2 := rfl
  rw [harg]
  refine W.seq (W.seq (W.region (WL_split 3 ?_)))
  unfold k36_r6
  simp only [WP_nil, WP_always, stepK_some, nth_set, p_move, p_load, p_fieldAddr, ev_tmp, retV_ok, Option.bind_some, cond_true, cond_false, QS_P, List.take, List.drop, List.head?_cons, beq_self_eq_true, true_and, Nat.zero_add, Nat.reduceBEq, Nat.reduceLT, rd_37, fa_40_3_p, load_ptr, loadO_cells, g2, Obj.cells]
  refine WL_call (g := 62) ?_ hr (by decide) ?_
  · simp only [callee_func, hcr, clean_clo, nth_set, callee_func, ev_tmp, evc_eq, evcs_nil, evcs_cons, Option.bind_some, cond_true, cond_false, beq_self_eq_true, Nat.reduceBEq]
  refine WL_WP ?_
  simp only [WP_nil, next_normal]
  cases hw : anyWrong o.kind [] [] o.refs with
  | true =>
    refine W.cond (t := true) (by simp only [ev_tmp, nth_set, Nat.reduceBEq, cond_true, cond_false]) (W.sreg ?_)
    unfold k36_r7
    simp only [WP_nil, WP_always, stepK_some, p_assign, ev_const, ofValue_bool, retV_ok, true_and, Nat.reduceLT]
    refine W.ret ⟨.inr rfl, _, res_tmp (v := .bool false) ?_ rfl, ?_, hci3⟩
    · simp only [nth_set, Nat.reduceBEq, cond_true, cond_false, *]
    · simp [objValid, hgood, hw]
  | false =>
  refine W.cond (t := false) (by simp only [ev_tmp, nth_set, Nat.reduceBEq, cond_true, cond_false]) (W.skip ?_)
  simp only [next_normal]
  refine W.seq (W.sreg ?_)
  unfold k36_r8
  simp only [WP_nil, WP_always, stepK_some, nth_set, p_load, p_fieldAddr, ev_tmp, retV_ok, Option.bind_some, cond_true, cond_false, QS_P, List.drop, List.head?_cons, beq_self_eq_true, true_and, Nat.zero_add, Nat.reduceBEq, Nat.reduceLT, rd_3, fa_40_1_p, load_ptr, loadO_cells, g3, Obj.cells]
  refine W.block (W.sreg ?_)
  unfold k36_r9
  simp only [WP_nil, WP_always, stepK_some, nth_set, p_assign, p_bin, ev_tmp, ev_const, evc_eq, ofValue_int, retV_ok, bi_eql, Option.bind_some, clean_int, cond_true, cond_false, QS_P, beq_self_eq_true, true_and, Nat.reduceBEq, Nat.reduceLT]
  have e0 : ieq (o.refs.length : Int) 0 = (o.refs.length == 0) := ieq_nat _ 0
  have e3 : ieq (o.refs.length : Int) 3 = (o.refs.length == 3) := ieq_nat _ 3
  cases hk1 : ieq o.kind 1 with
  | true =>
    refine W.cond (t := true) (by simp only [ev_tmp, nth_set, Nat.reduceBEq, cond_true, cond_false, *]) (W.sreg ?_)
    unfold k36_r10
    have hon : onSp [.agg [.int .i64 o.x, .int .i64 o.y]] = some (.bool (onGrid o.x o.y)) := rfl
    cases hz : o.refs.length == 0 with
    | true =>
      simp only [WP_nil, WP_always, WP_when, stepK_some, whenK_true, wantV_tt, nth_set, p_move, p_assign, p_pick, p_load, p_bin, p_fieldAddr, p_builtin, p_call, callee_func, ev_tmp, ev_const, evc_eq, evcs_nil, evcs_cons, ofValue_bool, ofValue_int, pick_eq, pickV_true, retV_ok, retVS_some, bi_eql, bl_len, hintOf_some, Option.bind_some, clean_int, clean_agg, cond_true, cond_false, QS_P, QS_hint, QS_spec, List.length_cons, List.length_nil, cut, List.take, List.drop, List.head?_cons, List.take_succ_cons, beq_self_eq_true, true_and, Nat.zero_add, Nat.reduceBEq, Nat.reduceLT, Nat.reduceAdd, nat_beq, rd_37, rd_36, fa_40_2_p, fa_40_3_p, load_ptr, loadO_cells, g3, Obj.cells, hcr, hlen, e0, hz, h99, hon]
      refine W.ret ⟨.inr rfl, _, res_tmp (v := .bool (onGrid o.x o.y)) ?_ rfl, ?_, hci3⟩
      · simp only [nth_set, Nat.reduceBEq, cond_true, cond_false, *]
      · simp [objValid, hgood, hw, hk1, hz]
    | false =>
      simp only [WP_nil, WP_always, WP_when, stepK_some, whenK_false, wantV_ft, nth_set, p_move, p_assign, p_pick, p_load, p_bin, p_fieldAddr, p_builtin, ev_tmp, ev_const, evc_eq, evcs_nil, evcs_cons, ofValue_bool, ofValue_int, pick_eq, pickV_false, retV_ok, retVS_some, bi_eql, bl_len, hintOf_some, Option.bind_some, clean_int, cond_true, cond_false, QS_P, QS_hint, List.drop, List.head?_cons, beq_self_eq_true, true_and, Nat.zero_add, Nat.reduceBEq, Nat.reduceLT, nat_beq, rd_37, fa_40_3_p, load_ptr, loadO_cells, g3, Obj.cells, hcr, hlen, e0, hz]
      refine W.ret ⟨.inr rfl, _, res_tmp (v := .bool false) ?_ rfl, ?_, hci3⟩
      · simp only [nth_set, Nat.reduceBEq, cond_true, cond_false, *]
      · simp [objValid, hgood, hw, hk1, hz]
  | false =>
    refine W.cond (t := false) (by simp only [ev_tmp, nth_set, Nat.reduceBEq, cond_true, cond_false, *]) (W.sreg ?_)
    unfold k36_r11
    simp only [WP_nil, WP_always, stepK_some, nth_set, p_assign, p_bin, ev_tmp, ev_const, evc_eq, ofValue_int, retV_ok, bi_eql, Option.bind_some, clean_int, cond_true, cond_false, QS_P, beq_self_eq_true, true_and, Nat.reduceBEq, Nat.reduceLT]
    cases hk5 : ieq o.kind 5 with
    | true =>
      refine W.cond (t := true) (by simp only [ev_tmp, nth_set, Nat.reduceBEq, cond_true, cond_false, *]) (W.sreg ?_)
      unfold k36_r12
      cases hz : o.refs.length == 3 with
      | true =>
        simp only [WP_nil, WP_always, WP_when, stepK_some, whenK_true, wantV_tt, nth_set, p_move, p_assign, p_pick, p_build, p_load, p_bin, p_fieldAddr, p_builtin, ev_tmp, ev_const, evc_eq, evcs_nil, evcs_cons, ofValue_bool, ofValue_int, pick_eq, pickV_true, retV_ok, retVS_some, bi_eql, bl_len, hintOf_some, cells_agg, Option.bind_some, clean_int, clean_agg, cond_true, cond_false, QS_P, QS_hint, List.length_cons, List.length_nil, cut, List.take, List.drop, List.head?_cons, List.take_succ_cons, beq_self_eq_true, true_and, Nat.zero_add, Nat.reduceBEq, Nat.reduceLT, Nat.reduceAdd, nat_beq, bd_36, rd_37, rd_36, zr_36, fa_40_2_p, fa_40_3_p, load_ptr, loadO_cells, g3, Obj.cells, hcr, hlen, e3, hz, fillA, pt_eql, pt_zero]
        refine W.ret ⟨.inr rfl, _, res_tmp (v := .bool (ieq o.x 0 && ieq o.y 0)) ?_ rfl, ?_, hci3⟩
        · simp only [nth_set, Nat.reduceBEq, cond_true, cond_false, *]
        · simp [objValid, hgood, hw, hk1, hk5, hz, zeroAt]
      | false =>
        simp only [WP_nil, WP_always, WP_when, stepK_some, whenK_false, wantV_ft, nth_set, p_move, p_assign, p_pick, p_load, p_bin, p_fieldAddr, p_builtin, ev_tmp, ev_const, evc_eq, evcs_nil, evcs_cons, ofValue_bool, ofValue_int, pick_eq, pickV_false, retV_ok, retVS_some, bi_eql, bl_len, hintOf_some, Option.bind_some, clean_int, cond_true, cond_false, QS_P, QS_hint, List.drop, List.head?_cons, beq_self_eq_true, true_and, Nat.zero_add, Nat.reduceBEq, Nat.reduceLT, nat_beq, rd_37, fa_40_3_p, load_ptr, loadO_cells, g3, Obj.cells, hcr, hlen, e3, hz]
        refine W.ret ⟨.inr rfl, _, res_tmp (v := .bool false) ?_ rfl, ?_, hci3⟩
        · simp only [nth_set, Nat.reduceBEq, cond_true, cond_false, *]
        · simp [objValid, hgood, hw, hk1, hk5, hz]
    | false =>
      refine W.cond (t := false) (by simp only [ev_tmp, nth_set, Nat.reduceBEq, cond_true, cond_false, *]) (W.skip ?_)
      simp only [block_normal, next_normal]
      refine W.sreg ?_
      unfold k36_r13
      simp only [WP_nil, WP_always, stepK_some, nth_set, p_assign, p_build, p_load, p_bin, p_fieldAddr, ev_tmp, evc_eq, retV_ok, cells_agg, Option.bind_some, clean_agg, cond_true, cond_false, QS_P, List.length_cons, List.length_nil, cut, List.take, List.drop, List.take_succ_cons, beq_self_eq_true, true_and, Nat.zero_add, Nat.reduceBEq, Nat.reduceLT, Nat.reduceAdd, nat_beq, bd_36, rd_36, zr_36, fa_40_2_p, load_ptr, loadO_cells, g3, Obj.cells, fillA, pt_eql, pt_zero]
      refine W.ret ⟨.inr rfl, _, res_tmp (v := .bool (ieq o.x 0 && ieq o.y 0)) ?_ rfl, ?_, hci3⟩
      · simp only [nth_set, Nat.reduceBEq, cond_true, cond_false, *]
      · simp [objValid, hgood, hw, hk1, hk5, zeroAt]
end

/- decoding objects -/
def smallStrs : List Bytes → Bool
  | [] => true
  | t :: l => Nat.blt t.length small && smallStrs l
theorem smallStrs_mem : ∀ {l : List Bytes}, smallStrs l = true → ∀ t ∈ l, t.length < small
  | [], _, _, h => by cases h
  | a :: l, h, t, ht => by
    simp only [smallStrs, Bool.and_eq_true] at h
    rcases List.mem_cons.1 ht with rfl | ht
    · exact Nat.le_of_ble_eq_true h.1
    · exact smallStrs_mem h.2 t ht
theorem smallStrs_of : ∀ {l : List Bytes}, (∀ t ∈ l, t.length < small) → smallStrs l = true
  | [], _ => rfl
  | a :: l, h => by
    simp only [smallStrs, Bool.and_eq_true]
    exact ⟨Nat.ble_eq_true_of_le (h a (by simp)), smallStrs_of fun t ht => h t (by simp [ht])⟩

def mkObj (id : Bytes) (k x y : Int) (rv tv : AVal) (rs : List Bytes) (ts : List Tag) : Option Obj :=
  bif pureV rv && pureV tv && Nat.blt id.length small && Nat.blt rs.length small && smallStrs rs && Nat.blt ts.length small && smallTags ts then some ⟨id, k, x, y, rv, tv, rs, ts⟩ else none
def asObj : AVal → Option Obj
  | .agg [.str id, .int .i64 k, .int .i64 x, .int .i64 y, rv, tv] => (asL 1 asStr rv).bind fun rs => (asL 2 asTag tv).bind fun ts => mkObj id k x y rv tv rs ts
  | _ => none

structure Obj.Good (o : Obj) : Prop extends o.Ok where
  pr : pureV o.refsV = true
  pt : pureV o.tagsV = true

theorem asObj_inv {v : AVal} {o : Obj} (h : asObj v = some o) : v = o.val ∧ o.Good := by
  unfold asObj at h
  split at h
  · simp only [Option.bind_eq_some_iff] at h
    obtain ⟨rs, h1, ts, h2, h⟩ := h
    unfold mkObj at h
    obtain ⟨h3, h⟩ := bif_none h
    simp only [Bool.and_eq_true] at h3
    obtain ⟨⟨⟨⟨⟨⟨p1, p2⟩, p3⟩, p4⟩, p5⟩, p6⟩, p7⟩ := h3
    injection h with h
    subst h
    exact ⟨rfl, ⟨⟨asL_isL (fun v a => asStr_enc) h1, asL_isL (fun v a => asTag_enc) h2, Nat.le_of_ble_eq_true p3, Nat.le_of_ble_eq_true p4, smallStrs_mem p5, Nat.le_of_ble_eq_true p6, smallTags_mem p7⟩, p1, p2⟩⟩
  · cases h
theorem asObj_val {o : Obj} (h : o.Good) : asObj o.val = some o := by
  show ((asL 1 asStr o.refsV).bind fun rs => (asL 2 asTag o.tagsV).bind fun ts => mkObj o.id o.kind o.x o.y o.refsV o.tagsV rs ts) = _
  rw [isL_asL asStr_strV h.refs, Option.bind_some, isL_asL asTag_tagV h.tags, Option.bind_some]
  unfold mkObj
  have q1 : Nat.blt o.id.length small = true := Nat.ble_eq_true_of_le h.id
  have q2 : Nat.blt o.refs.length small = true := Nat.ble_eq_true_of_le h.reflen
  have q3 : Nat.blt o.tags.length small = true := Nat.ble_eq_true_of_le h.taglen
  rw [h.pr, h.pt, q1, q2, q3, smallStrs_of h.ref, smallTags_of h.key]
  rfl
theorem Obj.Good.pure {o : Obj} (h : o.Good) : pureV o.val = true := by
  simp only [Obj.val, Obj.cells, pureV, pures, h.pr, h.pt, Bool.and_self]

mutual
theorem top_pure : ∀ {v : AVal}, pureV v = true → topP v = true
  | .agg cs, h => by simp only [topP]; exact tops_pure (by simpa only [pureV] using h)
  | .tup cs, h => by simp only [topP]; exact tops_pure (by simpa only [pureV] using h)
  | .list _ xs r, h => by
    simp only [pureV, Bool.and_eq_true] at h
    simp only [topP]; exact h.1
  | .bool _, _ => rfl
  | .int _ _, _ => rfl
  | .str _, _ => rfl
  | .nilp, _ => rfl
  | .ptr _ _, h => by simp [pureV] at h
  | .lref _ _ _, h => by simp [pureV] at h
  | .ro cs, h => by simpa only [topP] using h
  | .nils, _ => rfl
  | .arr _ _ _ _ _, h => by simp [pureV] at h
  | .nilm, _ => rfl
  | .map _, h => by simp [pureV] at h
  | .nilf, _ => rfl
  | .func _ _ _, h => by simpa only [topP] using h
  | .nili, _ => rfl
  | .iface _ _, h => by simpa only [topP] using h
theorem tops_pure : ∀ {l : List AVal}, pures l = true → tops l = true
  | [], _ => rfl
  | v :: l, h => by
    simp only [pures, Bool.and_eq_true] at h
    simp only [tops, top_pure h.1, tops_pure h.2, Bool.and_self]
end

def objSp : Sp
  | [v] => (asObj v).bind fun o => some (.bool (objValid o))
  | _ => none
theorem objSp_of {o : Obj} (h : o.Good) : objSp [o.val] = some (.bool (objValid o)) := by
  show (asObj o.val).bind _ = _
  rw [asObj_val h]; rfl
theorem objSp_ok : SpecOk Tryz.prog 36 objSp := by
  intro args u hv G h w xs wr hx
  unfold objSp at hv
  split at hv
  · rename_i v
    simp only [Option.bind_eq_some_iff, Option.some.injEq] at hv
    obtain ⟨o, ho, rfl⟩ := hv
    obtain ⟨rfl, hg⟩ := asObj_inv ho
    obtain ⟨v, s', hr, rfl, hci⟩ := objv_run (sp := fun f => tblGet f T4) rfl rfl rfl rfl rfl rfl rfl rfl rfl hg.toOk
    have hw : weaks [o.val] = [o.val] := weaks_pure (by simp only [pures, hg.pure, Bool.and_self])
    refine spec_of_run (Q := QT T4) (good_of T4_ok) (fun _ => Nat.zero_lt_succ 1) (args := [o.val]) (v := .bool (objValid o)) (s' := s') ?_ (by rw [hw]; exact hr) hci ⟨1, rfl⟩ G h w xs wr hx
    exact tops_pure (by simp only [pures, hg.pure, Bool.and_self])
  · cases hv
end Go.Proofs.YtbfmdojdemckbaaGreat
/- atlas.Valid -/
namespace Go.Proofs.YtbfmdojdemckbaaGreat
open Go.Ag

def objsOk : Bytes → List Obj → Bool
  | _, [] => true
  | last, o :: r => bif !objValid o || Ag.leBytes o.id last then false else objsOk o.id r
def mapValid (l : List Obj) : Bool := objsOk [] l && decide (l.length ≤ 1000000)

section
variable {sp : FuncId → Option (List AVal → Option AVal)} (h48 : sp 36 = some objSp)
include h48
theorem map_loop {v : AVal} {l : List Obj} (hl : IsL 6 Obj.val v l) (hk : ∀ o ∈ l, o.Good) (hsmall : l.length < small) {s : St} : ∀ (rest pre : List Obj) (e : Env) (lc : Ag.Loc) (last : Bytes), l = pre ++ rest →
    nth e 1 = .lref 1 1 0 → lc.gen 1 = 1 → lc.get 1 1 = some [v] → nth e 7 = v → nth e 8 = .int .i64 (l.length : Nat) → nth e 9 = .int .i64 (pre.length : Nat) → nth e 3 = .str last →
    W (QS sp) 13 (.loop k13_l0) ⟨e, 29, lc⟩ s fun x fr s' => s' = s ∧ fr.size = 29 ∧ ((x = .exit 0 ∧ nth fr.env 1 = .lref 1 1 0 ∧ fr.loc.gen 1 = 1 ∧ fr.loc.get 1 1 = some [v] ∧ objsOk last rest = true) ∨ (x = .ret ∧ nth fr.env 2 = .bool false ∧ objsOk last rest = false)) := by
  intro rest
  induction rest with
  | nil =>
    intro pre e lc last hpre h1 hg hb h7 h8 h9 h3
    have hlen : l.length = pre.length := by rw [hpre]; simp
    refine W.loop1 ?_
    unfold k13_l0
    refine W.sreg ?_
    unfold k13_r3
    simp only [WP_nil, WP_always, stepK_some, p_bin, ev_tmp, evc_eq, retV_ok, bi_lss, Option.bind_some, clean_int, cond_true, QS_P, ilt_nat, true_and, Nat.reduceLT, decide_false, h8, h9, hlen, Nat.lt_irrefl]
    refine W.seq (W.cond (t := false) (by simp only [ev_tmp, nth_set, Nat.reduceBEq, cond_true, *]) ?_)
    refine W.exit ⟨rfl, rfl, .inl ⟨rfl, ?_, hg, hb, rfl⟩⟩
    simp only [nth_set, Nat.reduceBEq, cond_false, *]
  | cons o rest ih =>
    intro pre e lc last hpre h1 hg hb h7 h8 h9 h3
    have hlt : pre.length < l.length := by rw [hpre]; simp
    have hat : l[pre.length]? = some o := by rw [hpre]; simp
    have hia := fun lc => hl.at ia_22_l hat lc .i64
    have hcl := hl.clean
    have hos := objSp_of (hk o (List.mem_of_getElem? hat))
    have hsm : small = 9223372036854775808 := rfl
    have hwr : IntKind.i64.wrap ((pre.length : Int) + 1) = ((pre.length + 1 : Nat) : Int) := by rw [wrap64_small (by omega) (by omega)]; omega
    simp only [Obj.val, Obj.cells] at hos
    refine W.loop1 ?_
    unfold k13_l0
    refine W.sreg ?_
    unfold k13_r3
    simp only [WP_nil, WP_always, stepK_some, p_bin, ev_tmp, evc_eq, retV_ok, bi_lss, Option.bind_some, clean_int, cond_true, QS_P, ilt_nat, true_and, Nat.reduceLT, decide_true, h8, h9, hlt]
    refine W.seq (W.cond (t := true) (by simp only [ev_tmp, nth_set, Nat.reduceBEq, cond_true, *]) (W.skip ?_))
    simp only [next_normal]
    refine W.seq (W.block ?_)
    refine W.sreg ?_
    unfold k13_r4
    simp only [WP_nil, WP_always, WP_always0, stepK_some, stepK0_some, nth_set, loc_set', loc_set_set, p_alloc, p_load, p_store, p_indexAddr, ev_tmp, evc_eq, boxA_loc, load_ro, retV_ok, hintOf_some, cells_agg, store_loc, Option.bind_some, clean_agg, cond_true, cond_false, QS_P, QS_hint, List.length_cons, List.length_nil, cut, writeCells, List.take, List.drop, List.take_succ_cons, List.nil_append, List.cons_append, beq_self_eq_true, true_and, Nat.zero_add, Nat.reduceBEq, Nat.reduceLT, Nat.reduceAdd, Nat.reduceLeDiff, Bool.and_true, nat_beq, nat_blt, nat_ble, decide_true, rd_40, sz_40, zr_40, hint_13_5, h7, h9, hia, Obj.val, Obj.cells]
    refine W.seq (W.sreg ?_)
    unfold k13_r5
    have fin : ∀ e' lc', nth e' 21 = .bool true → W (QS sp) 13 (.cond (Operand.tmp 21) (.seq (.region k13_r6) .ret) .skip) ⟨e', 29, lc'⟩ s fun x fr s' => x = .ret ∧ s' = s ∧ fr.size = 29 ∧ nth fr.env 2 = .bool false := by
      intro e' lc' h
      refine W.cond (t := true) (by simp only [ev_tmp, h]) (W.sreg ?_)
      unfold k13_r6
      simp only [WP_nil, WP_always, stepK_some, p_assign, ev_const, ofValue_bool, retV_ok, true_and, Nat.reduceLT]
      exact W.ret ⟨rfl, rfl, rfl, by simp only [nth_set, Nat.reduceBEq, cond_true, *]⟩
    cases hb1 : objValid o with
    | false =>
      simp only [WP_nil, WP_always, WP_when, stepK_some, whenK_false, wantV_tf, nth_set, loc_set', p_move, p_pick, p_load, p_un, p_call, callee_func, ev_tmp, ev_const, evc_eq, evcs_nil, evcs_cons, ofValue_bool, load_loc, pick_eq, pickV_true, retV_ok, un_not, Option.bind_some, clean_bool, clean_agg, cond_true, cond_false, QS_P, QS_spec, List.length_cons, List.length_nil, cut, List.take, List.drop, Bool.not_false, beq_self_eq_true, true_and, Nat.zero_add, Nat.reduceBEq, Nat.reduceLT, Nat.reduceAdd, nat_beq, rd_40, h48, hos, hb1]
      refine (fin _ _ ?_).mono ?_
      · simp only [nth_set, Nat.reduceBEq, cond_true, cond_false, *]
      · rintro x fr s' ⟨rfl, rfl, hs, h⟩
        exact ⟨rfl, hs, .inr ⟨rfl, h, by simp [objsOk, hb1]⟩⟩
    | true =>
    cases hb2 : Ag.leBytes o.id last with
    | true =>
      simp only [WP_nil, WP_always, WP_when, stepK_some, whenK_true, wantV_ff, nth_set, gen_set', loc_set', p_move, p_pick, p_load, p_bin, p_un, p_fieldAddr, p_call, callee_func, ev_tmp, ev_const, evc_eq, evcs_nil, evcs_cons, ofValue_bool, load_loc, pick_eq, pickV_false, retV_ok, bs_leq, un_not, Option.bind_some, clean_bool, clean_str, clean_agg, cond_true, cond_false, QS_P, QS_spec, List.length_cons, List.length_nil, cut, List.take, List.drop, List.head?_cons, Bool.not_true, beq_self_eq_true, true_and, Nat.zero_add, Nat.add_zero, Nat.reduceBEq, Nat.reduceLT, Nat.reduceAdd, nat_beq, rd_9, rd_40, fa_40_0_l, h48, hos, hb1, hb2, h3]
      refine (fin _ _ ?_).mono ?_
      · simp only [nth_set, Nat.reduceBEq, cond_true, cond_false, *]
      · rintro x fr s' ⟨rfl, rfl, hs, h⟩
        exact ⟨rfl, hs, .inr ⟨rfl, h, by simp [objsOk, hb2]⟩⟩
    | false =>
      simp only [WP_nil, WP_always, WP_when, stepK_some, whenK_true, wantV_ff, nth_set, gen_set', loc_set', p_move, p_pick, p_load, p_bin, p_un, p_fieldAddr, p_call, callee_func, ev_tmp, ev_const, evc_eq, evcs_nil, evcs_cons, ofValue_bool, load_loc, pick_eq, pickV_false, retV_ok, bs_leq, un_not, Option.bind_some, clean_bool, clean_str, clean_agg, cond_true, cond_false, QS_P, QS_spec, List.length_cons, List.length_nil, cut, List.take, List.drop, List.head?_cons, Bool.not_true, beq_self_eq_true, true_and, Nat.zero_add, Nat.add_zero, Nat.reduceBEq, Nat.reduceLT, Nat.reduceAdd, nat_beq, rd_9, rd_40, fa_40_0_l, h48, hos, hb1, hb2, h3]
      refine W.cond (t := false) (by simp only [ev_tmp, nth_set, Nat.reduceBEq, cond_true, cond_false, *]) (W.skip ?_)
      simp only [next_normal]
      refine W.reg ?_
      unfold k13_r7
      simp only [WP_nil, WP_always, stepK_some, nth_set, gen_set', loc_set', p_assign, p_load, p_fieldAddr, ev_tmp, load_loc, retV_ok, Option.bind_some, cond_true, cond_false, QS_P, List.drop, List.head?_cons, beq_self_eq_true, true_and, Nat.add_zero, Nat.reduceBEq, Nat.reduceLT, nat_beq, rd_9, fa_40_0_l, next_normal, block_normal]
      refine W.reg ?_
      unfold k13_r8
      simp only [WP_nil, WP_always, stepK_some, nth_set, p_move, p_bin, ev_tmp, ev_const, evc_eq, ofValue_int, retV_ok, bi_add, Option.bind_some, clean_int, cond_true, cond_false, QS_P, beq_self_eq_true, true_and, Nat.reduceBEq, Nat.reduceLT, h9, hwr, next_normal]
      refine (ih (pre ++ [o]) _ _ o.id (by rw [hpre]; simp) (by simp only [nth_set, Nat.reduceBEq, cond_false, *]) (by simp only [gen_set', Nat.reduceBEq, cond_false, hg]) (by simp only [loc_set', Nat.reduceBEq, cond_false, hb]) (by simp only [nth_set, Nat.reduceBEq, cond_false, *]) (by simp only [nth_set, Nat.reduceBEq, cond_false, *]) (by simp only [nth_set, Nat.reduceBEq, cond_true, cond_false, List.length_append, List.length_cons, List.length_nil]) (by simp only [nth_set, Nat.reduceBEq, cond_true, cond_false, *])).mono ?_
      simp only [objsOk, hb1, hb2, Bool.not_true, Bool.false_or, cond_false]
      exact fun _ _ _ h => h

theorem mapv_run (h23 : sp 13 = none) {v : AVal} {l : List Obj} (hl : IsL 6 Obj.val v l) (hk : ∀ o ∈ l, o.Good) (hsmall : l.length < small) (s : St) : RunC (QS sp) 13 [.agg [v]] s (.bool (mapValid l)) s := by
  have hlen := fun mk s => hl.len ln_22_n ln_22_l mk s
  have hcl := hl.clean
  refine RunC.of2 k13_func k13_code k13_tmps k13_res h23 ?_
  unfold k13
  refine W.sreg ?_
  unfold k13_r0
  simp only [frame0, ofArgs, WP_nil, WP_always, stepK_some, nth_set, gen_nil, p_assign, p_box, ev_tmp, ev_const, evc_eq, ofValue_bool, boxA_loc, retV_ok, hintOf_some, cells_agg, Option.bind_some, clean_agg, cond_true, QS_hint, List.length_cons, List.length_nil, beq_self_eq_true, true_and, Nat.zero_add, Nat.reduceLT, Nat.reduceLeDiff, nat_ble, decide_true, hint_13_1]
  refine W.sreg ?_
  unfold k13_r1
  simp only [WP_nil, WP_always, stepK_some, p_assign, ev_const, ofValue_str, retV_ok, true_and, Nat.reduceLT]
  refine W.seq (W.sreg ?_)
  unfold k13_r2
  simp only [WP_nil, WP_always, stepK_some, nth_set, gen_nil, gen_set', loc_set', p_move, p_load, p_fieldAddr, p_builtin, ev_tmp, ev_const, evc_eq, evcs_nil, evcs_cons, ofValue_int, load_loc, retV_ok, retVS_some, bl_len, hintOf_some, Option.bind_some, cond_true, cond_false, QS_P, QS_hint, List.drop, List.head?_cons, beq_self_eq_true, true_and, Nat.add_zero, Nat.reduceBEq, Nat.reduceLT, nat_beq, rd_22, fa_24_0_l, hcl, hlen]
  refine W.block ?_
  refine (map_loop h48 hl hk hsmall l [] _ _ [] rfl (by simp only [nth_set, Nat.reduceBEq, cond_true, cond_false, *]) (by simp only [gen_nil, gen_set', Nat.reduceBEq, cond_true]) (by simp only [loc_set', Nat.reduceBEq, cond_true]) (by simp only [nth_set, Nat.reduceBEq, cond_true, cond_false, *]) (by simp only [nth_set, Nat.reduceBEq, cond_true, cond_false, *]) (by simp only [nth_set, Nat.reduceBEq, cond_true, cond_false]; rfl) (by simp only [nth_set, Nat.reduceBEq, cond_true, cond_false, *])).mono ?_
  rintro x ⟨e, sz, lc⟩ s' ⟨rfl, hs, ⟨rfl, h1, hg, hb, hok⟩ | ⟨rfl, h2, hok⟩⟩
  · have hs : sz = 29 := hs
    subst hs
    have h1 : nth e 1 = .lref 1 1 0 := h1
    have hg : lc.gen 1 = 1 := hg
    have hb : lc.get 1 1 = some [v] := hb
    show W (QS sp) 13 _ _ _ _
    refine W.sreg ?_
    unfold k13_r9
    simp only [WP_nil, WP_always, stepK_some, nth_set, p_assign, p_load, p_bin, p_fieldAddr, p_builtin, ev_tmp, ev_const, evc_eq, evcs_nil, evcs_cons, ofValue_int, load_loc, retV_ok, retVS_some, bi_leq, bl_len, hintOf_some, Option.bind_some, clean_int, cond_true, cond_false, QS_P, QS_hint, List.drop, List.head?_cons, beq_self_eq_true, true_and, Nat.add_zero, Nat.reduceBEq, Nat.reduceLT, nat_beq, rd_22, fa_24_0_l, h1, hg, hb, hcl, hlen]
    refine W.ret ⟨rfl, .inr rfl, res_tmp ?_ rfl⟩
    simp only [nth_set, Nat.reduceBEq, cond_true, cond_false, mapValid, hok, Bool.true_and]
    exact congrArg AVal.bool (ile_nat l.length 1000000)
  · exact ⟨rfl, .inr rfl, res_tmp (by rw [h2]; simp [mapValid, hok]) rfl⟩
end

def asMap : AVal → Option (List Obj)
  | .agg [v] => (asL 6 asObj v).bind fun l => bif Nat.blt l.length small then some l else none
  | _ => none
theorem mapO_good : ∀ {xs : List AVal} {l : List Obj}, mapO asObj xs = some l → (∀ o ∈ l, o.Good)
  | [], l, h => by simp only [mapO, Option.some.injEq] at h; subst h; intro o ho; cases ho
  | x :: xs, l, h => by
    simp only [mapO, Option.bind_eq_some_iff, Option.some.injEq] at h
    obtain ⟨a, h1, r, h2, rfl⟩ := h
    intro o ho
    rcases List.mem_cons.1 ho with rfl | ho
    · exact (asObj_inv h1).2
    · exact mapO_good h2 o ho
theorem mapO_objs : ∀ {l : List Obj}, (∀ o ∈ l, o.Good) → mapO asObj (l.map Obj.val) = some l
  | [], _ => rfl
  | o :: l, h => by
    have ih := mapO_objs (l := l) fun o ho => h o (List.mem_cons_of_mem _ ho)
    simp only [List.map_cons, mapO, asObj_val (h o List.mem_cons_self), Option.bind_some, ih]
theorem asMap_inv {u : AVal} {l : List Obj} (h : asMap u = some l) : ∃ v, u = .agg [v] ∧ IsL 6 Obj.val v l ∧ (∀ o ∈ l, o.Good) ∧ l.length < small := by
  unfold asMap at h
  split at h
  · rename_i v
    simp only [Option.bind_eq_some_iff] at h
    obtain ⟨l', h1, h⟩ := h
    obtain ⟨h2, h⟩ := bif_none h
    injection h with h; subst h
    refine ⟨v, rfl, asL_isL (fun v a h => (asObj_inv h).1) h1, ?_, Nat.le_of_ble_eq_true h2⟩
    unfold asL at h1
    split at h1
    · injection h1 with h1; subst h1; intro o ho; cases ho
    · obtain ⟨_, h1⟩ := bif_none h1
      exact mapO_good h1
    · cases h1
  · cases h
theorem asMap_of {v : AVal} {l : List Obj} (h : IsL 6 Obj.val v l) (hg : ∀ o ∈ l, o.Good) (hs : l.length < small) : asMap (.agg [v]) = some l := by
  have : asL 6 asObj v = some l := by
    rcases h with ⟨rfl, rfl⟩ | ⟨r, rfl⟩
    · rfl
    · simp only [asL, mapO_objs hg, nat_beq, beq_self_eq_true, cond_true]
  have q : Nat.blt l.length small = true := Nat.ble_eq_true_of_le hs
  simp only [asMap, this, Option.bind_some, q, cond_true]
theorem pures_objs {l : List Obj} (hg : ∀ o ∈ l, o.Good) : pures (l.map Obj.val) = true := by
  rw [pures_all]
  intro v hv
  obtain ⟨o, ho, rfl⟩ := List.mem_map.1 hv
  exact (hg o ho).pure
theorem objs_top {v : AVal} {l : List Obj} (h : IsL 6 Obj.val v l) (hg : ∀ o ∈ l, o.Good) : topP (.agg [v]) = true ∧ ∃ v', weak (.agg [v]) = .agg [v'] ∧ IsL 6 Obj.val v' l := by
  rcases h with ⟨rfl, rfl⟩ | ⟨r, rfl⟩
  · exact ⟨rfl, .nils, rfl, .inl ⟨rfl, rfl⟩⟩
  · refine ⟨by simp only [topP, tops, pures_objs hg, Bool.and_self], .list 6 (l.map Obj.val) (match r with | .own _ => .no | r => r), ?_, .inr ⟨_, rfl⟩⟩
    simp only [weak, weaks, weaks_pure (pures_objs hg)]
    cases r <;> rfl

def mapSp : Sp
  | [v] => (asMap v).bind fun l => some (.bool (mapValid l))
  | _ => none
theorem mapSp_of {v : AVal} {l : List Obj} (h : IsL 6 Obj.val v l) (hg : ∀ o ∈ l, o.Good) (hs : l.length < small) : mapSp [.agg [v]] = some (.bool (mapValid l)) := by
  simp only [mapSp, asMap_of h hg hs, Option.bind_some]
def T5 : Tbl := (36, objSp) :: T4
theorem T5_ok : TblOk T5 := .cons objSp_ok T4_ok
theorem mapSp_ok : SpecOk Tryz.prog 13 mapSp := by
  intro args u hv G h w xs wr hx
  unfold mapSp at hv
  split at hv
  · rename_i v
    simp only [Option.bind_eq_some_iff, Option.some.injEq] at hv
    obtain ⟨l, hl, rfl⟩ := hv
    obtain ⟨v, rfl, hl, hg, hs⟩ := asMap_inv hl
    obtain ⟨ht, v', hw, hl'⟩ := objs_top hl hg
    have hw : weaks [.agg [v]] = [.agg [v']] := by simp only [weaks, hw]
    exact spec_of_run (Q := QT T5) (good_of T5_ok) (fun _ => Nat.zero_lt_succ 1) (args := [.agg [v]]) (v := .bool (mapValid l)) (s' := s0) (by simp only [tops, ht, Bool.and_self]) (by rw [hw]; exact mapv_run (sp := fun f => tblGet f T5) rfl rfl hl' hg hs s0) rfl ⟨1, rfl⟩ G h w xs wr hx
  · cases hv
end Go.Proofs.YtbfmdojdemckbaaGreat
