/- The walk of MergeOne; its arguments as values. -/
import Derived.Test.YtbfmdojdemckbaaGreatZ11
import Derived.Test.YtbfmdojdemckbaaGreatHd
import Derived.ProofKit
/- MergeOne -/
namespace Go.Proofs.YtbfmdojdemckbaaGreat
open Go.Ag
def few3 (a b c : List Obj) : Bool := bif few a 20 then bif few b 20 then few c 20 else false else false
theorem few_run8 {sp : FuncId → Option (List AVal → Option AVal)} (h8 : sp 8 = none) (h22 : sp 22 = some fewSp) {va vb vc : AVal} {a b c : List Obj} (ha : IsL 6 Obj.val va a) (hb : IsL 6 Obj.val vb b) (hc : IsL 6 Obj.val vc c) (ga : ∀ q ∈ a, q.Good) (gb : ∀ q ∈ b, q.Good) (gc : ∀ q ∈ c, q.Good) (sa : a.length < small) (sb : b.length < small) (sc : c.length < small) (s : St) :
    RunC (QS sp) 8 [.agg [va], .agg [vb], .agg [vc]] s (.bool (few3 a b c)) s := by
  have ca := ha.clean
  have cb := hb.clean
  have cc := hc.clean
  have fa := fewSp_of ha ga sa 20
  have fb := fewSp_of hb gb sb 20
  have fc := fewSp_of hc gc sc 20
  refine RunC.of2 k8_func k8_code k8_tmps k8_res h8 ?_
  unfold k8
  refine W.sreg ?_
  unfold k8_r0
  simp only [frame0, ofArgs, WP_nil, WP_always, stepK_some, nth_set, gen_nil, gen_set', p_assign, p_box, ev_tmp, ev_const, evc_eq, ofValue_bool, boxA_loc, retV_ok, hintOf_some, cells_agg, Option.bind_some, clean_agg, cond_true, cond_false, QS_hint, List.length_cons, List.length_nil, beq_self_eq_true, true_and, Nat.zero_add, Nat.reduceBEq, Nat.reduceLT, Nat.reduceAdd, Nat.reduceLeDiff, nat_ble, decide_true, hint_8_3, hint_8_4, hint_8_5]
  refine W.sreg ?_
  unfold k8_r1
  cases h1 : few a 20 with
  | false =>
    simp only [WP_nil, WP_always, WP_when, stepK_some, whenK_false, wantV_ft, nth_set, loc_set', p_move, p_assign, p_pick, p_load, p_call, callee_func, ev_tmp, ev_const, evc_eq, evcs_nil, evcs_cons, ofValue_bool, ofValue_int, load_loc, pick_eq, pickV_false, retV_ok, Option.bind_some, clean_int, clean_agg, cond_true, cond_false, QS_P, QS_spec, List.length_cons, List.length_nil, cut, List.take, List.drop, beq_self_eq_true, true_and, Nat.zero_add, Nat.reduceBEq, Nat.reduceLT, nat_beq, rd_24, h22, fa, h1]
    exact W.ret ⟨rfl, .inr rfl, res_tmp (by simp only [nth_set, Nat.reduceBEq, cond_true, cond_false, few3, h1]) rfl⟩
  | true =>
    cases h2 : few b 20 with
    | false =>
      simp only [WP_nil, WP_always, WP_when, stepK_some, whenK_true, whenK_false, wantV_tt, wantV_ft, nth_set, loc_set', p_move, p_assign, p_pick, p_load, p_call, callee_func, ev_tmp, ev_const, evc_eq, evcs_nil, evcs_cons, ofValue_bool, ofValue_int, load_loc, pick_eq, pickV_true, pickV_false, retV_ok, Option.bind_some, clean_int, clean_agg, cond_true, cond_false, QS_P, QS_spec, List.length_cons, List.length_nil, cut, List.take, List.drop, beq_self_eq_true, true_and, Nat.zero_add, Nat.reduceBEq, Nat.reduceLT, nat_beq, rd_24, h22, fa, h1, fb, h2]
      exact W.ret ⟨rfl, .inr rfl, res_tmp (by simp only [nth_set, Nat.reduceBEq, cond_true, cond_false, few3, h1, h2]) rfl⟩
    | true =>
      simp only [WP_nil, WP_always, WP_when, stepK_some, whenK_true, wantV_tt, nth_set, loc_set', p_move, p_assign, p_pick, p_load, p_call, callee_func, ev_tmp, ev_const, evc_eq, evcs_nil, evcs_cons, ofValue_bool, ofValue_int, load_loc, pick_eq, pickV_true, retV_ok, Option.bind_some, clean_int, clean_agg, cond_true, cond_false, QS_P, QS_spec, List.length_cons, List.length_nil, cut, List.take, List.drop, beq_self_eq_true, true_and, Nat.zero_add, Nat.reduceBEq, Nat.reduceLT, nat_beq, rd_24, h22, fa, h1, fb, h2, fc]
      exact W.ret ⟨rfl, .inr rfl, res_tmp (by simp only [nth_set, Nat.reduceBEq, cond_true, cond_false, few3, h1, h2]) rfl⟩
def few3Sp : Sp
  | [u, v, w] => (asMap u).bind fun a => (asMap v).bind fun b => (asMap w).bind fun c => some (.bool (few3 a b c))
  | _ => none
theorem few3Sp_of {va vb vc : AVal} {a b c : List Obj} (ha : IsL 6 Obj.val va a) (hb : IsL 6 Obj.val vb b) (hc : IsL 6 Obj.val vc c) (ga : ∀ q ∈ a, q.Good) (gb : ∀ q ∈ b, q.Good) (gc : ∀ q ∈ c, q.Good) (sa : a.length < small) (sb : b.length < small) (sc : c.length < small) : few3Sp [.agg [va], .agg [vb], .agg [vc]] = some (.bool (few3 a b c)) := by
  simp only [few3Sp, asMap_of ha ga sa, asMap_of hb gb sb, asMap_of hc gc sc, Option.bind_some]
def FT : Tbl := [(22, fewSp)]
theorem FT_ok : TblOk FT := .cons fewSp_ok .nil
theorem few3Sp_ok : SpecOk Tryz.prog 8 few3Sp := by
  intro args x hv G h w xs wr hx
  unfold few3Sp at hv
  split at hv
  · simp only [Option.bind_eq_some_iff, Option.some.injEq] at hv
    obtain ⟨a, h1, b, h2, c, h3, rfl⟩ := hv
    obtain ⟨va, rfl, ha, ga, sa⟩ := asMap_inv h1
    obtain ⟨vb, rfl, hb, gb, sb⟩ := asMap_inv h2
    obtain ⟨vc, rfl, hc, gc, sc⟩ := asMap_inv h3
    obtain ⟨t1, va', w1, ha'⟩ := objs_top ha ga
    obtain ⟨t2, vb', w2, hb'⟩ := objs_top hb gb
    obtain ⟨t3, vc', w3, hc'⟩ := objs_top hc gc
    have hw : weaks [.agg [va], .agg [vb], .agg [vc]] = [.agg [va'], .agg [vb'], .agg [vc']] := by simp only [weaks, w1, w2, w3]
    exact spec_of_run (Q := QT FT) (good_of FT_ok) (fun _ => Nat.zero_lt_succ 1) (args := [.agg [va], .agg [vb], .agg [vc]]) (v := .bool (few3 a b c)) (s' := s0) (by simp only [tops, t1, t2, t3, Bool.and_self]) (by rw [hw]; exact few_run8 (sp := fun f => tblGet f FT) rfl rfl ha' hb' hc' ga gb gc sa sb sc s0) rfl ⟨1, rfl⟩ G h w xs wr hx
  · cases hv
theorem few_len {l : List Obj} (h : few l 20 = true) : l.length ≤ 64 := by
  unfold few at h
  cases hb : ilt 20 (l.length : Nat) with
  | true => rw [hb] at h; cases h
  | false =>
    have : ¬ 20 < l.length := by
      rw [show (20 : Int) = ((20 : Nat) : Int) from rfl, ilt_nat] at hb
      exact of_decide_eq_false hb
    omega
noncomputable def LT : Tbl := [(7, headSp), (8, few3Sp), (12, cloSp), (13, mapSp), (9, mergeSp), (10, same12Sp)]
theorem LT_ok : TblOk LT := .cons headSp_ok (.cons few3Sp_ok (.cons cloSp_ok (.cons mapSp_ok (.cons mergeSp_ok (.cons same12Sp_ok .nil)))))
theorem law_run {sp : FuncId → Option (List AVal → Option AVal)} (h4 : sp 4 = none) (h7 : sp 7 = some headSp) (h8 : sp 8 = some few3Sp) (h12 : sp 12 = some cloSp) (h13 : sp 13 = some mapSp) (h9 : sp 9 = some mergeSp) (h10 : sp 10 = some same12Sp)
    {vb vo : AVal} {b o : List Obj} (hb : IsL 6 Obj.val vb b) (ho : IsL 6 Obj.val vo o) (gb : ∀ q ∈ b, q.Good) (go : ∀ q ∈ o, q.Good) (sb : b.length < small) (so : o.length < small) (s : St) :
    RunC (QS sp) 4 [.agg [vb], .agg [vo]] s (.bool true) s := by
  have cb := hb.clean
  have co := ho.clean
  have hhd : headSp [] = some (.bool true) := rfl
  have hfew := few3Sp_of hb ho hb gb go gb sb so sb
  have hclo := cloSp_of ho go so
  have hval := mapSp_of hb gb sb
  refine RunC.of2 k4_func k4_code k4_tmps k4_res h4 ?_
  unfold k4
  refine W.sreg ?_
  unfold k4_r0
  simp only [frame0, ofArgs, WP_nil, WP_always, stepK_some, nth_set, gen_nil, gen_set', p_assign, p_box, ev_tmp, ev_const, evc_eq, ofValue_bool, boxA_loc, retV_ok, hintOf_some, cells_agg, Option.bind_some, clean_agg, cond_true, cond_false, QS_hint, List.length_cons, List.length_nil, beq_self_eq_true, true_and, Nat.zero_add, Nat.reduceBEq, Nat.reduceLT, Nat.reduceAdd, Nat.reduceLeDiff, nat_ble, decide_true, hint_4_2, hint_4_3]
  refine W.sreg ?_
  unfold k4_r1
  simp only [WP_nil, WP_always, stepK_some, nth_set, p_assign, p_call, callee_func, ev_tmp, evcs_nil, retV_ok, Option.bind_some, cond_true, cond_false, QS_spec, beq_self_eq_true, true_and, Nat.reduceBEq, Nat.reduceLT, h7, hhd]
  refine W.seq (W.sreg ?_)
  unfold k4_r2
  have done : ∀ e' lc', nth e' 27 = .bool true → nth e' 5 = .bool true → W (QS sp) 4 (.cond (Operand.tmp 27) (.seq (.region k4_r3) .ret) .skip) ⟨e', 81, lc'⟩ s fun x fr s' => x = .ret ∧ s' = s ∧ nth fr.env 4 = .bool true := by
    intro e' lc' h27 h5
    refine W.cond (t := true) (by simp only [ev_tmp, h27]) (W.sreg ?_)
    unfold k4_r3
    simp only [WP_nil, WP_always, stepK_some, nth_set, p_move, p_assign, ev_tmp, retV_ok, cond_true, beq_self_eq_true, true_and, Nat.reduceLT, h5]
    exact W.ret ⟨rfl, rfl, by simp only [nth_set, Nat.reduceBEq, cond_true, cond_false, *]⟩
  cases h1 : few3 b o b with
  | false =>
    simp only [WP_nil, WP_always, WP_when, stepK_some, whenK_false, wantV_tf, nth_set, loc_set', p_move, p_pick, p_load, p_un, p_call, callee_func, ev_tmp, ev_const, evc_eq, evcs_nil, evcs_cons, ofValue_bool, load_loc, pick_eq, pickV_true, retV_ok, un_not, Option.bind_some, clean_bool, clean_agg, cond_true, cond_false, QS_P, QS_spec, List.length_cons, List.length_nil, cut, List.take, List.drop, Bool.not_false, beq_self_eq_true, true_and, Nat.zero_add, Nat.reduceBEq, Nat.reduceLT, nat_beq, rd_24, h8, hfew, h1]
    refine (done _ _ (by simp only [nth_set, Nat.reduceBEq, cond_true, cond_false, *]) (by simp only [nth_set, Nat.reduceBEq, cond_true, cond_false, *])).mono ?_
    rintro x fr s' ⟨rfl, rfl, h⟩
    exact ⟨rfl, .inr rfl, res_tmp h rfl⟩
  | true =>
  cases h2 : closedL o with
  | false =>
    simp only [WP_nil, WP_always, WP_when, stepK_some, whenK_true, whenK_false, wantV_tf, wantV_ff, nth_set, loc_set', p_move, p_pick, p_load, p_un, p_call, callee_func, ev_tmp, ev_const, evc_eq, evcs_nil, evcs_cons, ofValue_bool, load_loc, pick_eq, pickV_true, pickV_false, retV_ok, un_not, Option.bind_some, clean_bool, clean_agg, cond_true, cond_false, QS_P, QS_spec, List.length_cons, List.length_nil, cut, List.take, List.drop, Bool.not_true, Bool.not_false, beq_self_eq_true, true_and, Nat.zero_add, Nat.reduceBEq, Nat.reduceLT, nat_beq, rd_24, h8, hfew, h1, h12, hclo, h2]
    refine (done _ _ (by simp only [nth_set, Nat.reduceBEq, cond_true, cond_false, *]) (by simp only [nth_set, Nat.reduceBEq, cond_true, cond_false, *])).mono ?_
    rintro x fr s' ⟨rfl, rfl, h⟩
    exact ⟨rfl, .inr rfl, res_tmp h rfl⟩
  | true =>
  cases h3 : mapValid b with
  | false =>
    simp only [WP_nil, WP_always, WP_when, stepK_some, whenK_true, wantV_ff, nth_set, loc_set', p_move, p_pick, p_load, p_un, p_call, callee_func, ev_tmp, ev_const, evc_eq, evcs_nil, evcs_cons, ofValue_bool, load_loc, pick_eq, pickV_false, retV_ok, un_not, Option.bind_some, clean_bool, clean_agg, cond_true, cond_false, QS_P, QS_spec, List.length_cons, List.length_nil, cut, List.take, List.drop, Bool.not_true, Bool.not_false, beq_self_eq_true, true_and, Nat.zero_add, Nat.reduceBEq, Nat.reduceLT, nat_beq, rd_24, h8, hfew, h1, h12, hclo, h2, h13, hval, h3]
    refine (done _ _ (by simp only [nth_set, Nat.reduceBEq, cond_true, cond_false, *]) (by simp only [nth_set, Nat.reduceBEq, cond_true, cond_false, *])).mono ?_
    rintro x fr s' ⟨rfl, rfl, h⟩
    exact ⟨rfl, .inr rfl, res_tmp h rfl⟩
  | true =>
  simp only [WP_nil, WP_always, WP_when, stepK_some, whenK_true, wantV_ff, nth_set, loc_set', p_move, p_pick, p_load, p_un, p_call, callee_func, ev_tmp, ev_const, evc_eq, evcs_nil, evcs_cons, ofValue_bool, load_loc, pick_eq, pickV_false, retV_ok, un_not, Option.bind_some, clean_bool, clean_agg, cond_true, cond_false, QS_P, QS_spec, List.length_cons, List.length_nil, cut, List.take, List.drop, Bool.not_true, beq_self_eq_true, true_and, Nat.zero_add, Nat.reduceBEq, Nat.reduceLT, nat_beq, rd_24, h8, hfew, h1, h12, hclo, h2, h13, hval, h3]
  refine W.cond (t := false) (by simp only [ev_tmp, nth_set, Nat.reduceBEq, cond_true, cond_false, *]) (W.skip ?_)
  simp only [next_normal]
  obtain ⟨hvo, hrefs⟩ := closed_facts h2
  have hfb : few b 20 = true ∧ few o 20 = true := by
    unfold few3 at h1
    cases e1 : few b 20 with
    | false => rw [e1] at h1; cases h1
    | true =>
      rw [e1] at h1
      cases e2 : few o 20 with
      | false => rw [e2] at h1; cases h1
      | true => exact ⟨rfl, rfl⟩
  have mb : MapOk b := ⟨h3, gb, few_len hfb.1⟩
  have mo : MapOk o := ⟨hvo, go, few_len hfb.2⟩
  have c1 := calm_of (side1 b o) mb mo mb hrefs
  have c2 := calm_of (side2 b o) mb mb mo hrefs
  have c3 := calm_of (side3 b o) mb mo mo hrefs
  have m1 := mergeSp_of hb ho hb c1
  have m2 := mergeSp_of hb hb ho c2
  have m3 := mergeSp_of hb ho ho c3
  have l1 := merged_eqv (side1 b o) hvo
  have l2 := merged_eqv (side2 b o) hvo
  have l3 := merged_eqv (side3 b o) hvo
  have i1 := listO_isL (merged b o b)
  have i2 := listO_isL (merged b b o)
  have i3 := listO_isL (merged b o o)
  have s1 := same12Sp_of i1 ho l1 (merged_good c1) go (by rw [← l1.len]; exact so)
  have s2 := same12Sp_of i2 ho l2 (merged_good c2) go (by rw [← l2.len]; exact so)
  have s3 := same12Sp_of i3 ho l3 (merged_good c3) go (by rw [← l3.len]; exact so)
  have k1 := i1.clean
  have k2 := i2.clean
  have k3 := i3.clean
  have j1 := i1.scal
  have j2 := i2.scal
  have j3 := i3.scal
  refine W.sreg ?_
  unfold k4_r4
  simp only [WP_nil, WP_always, WP_always0, stepK_some, stepK0_some, nth_set, gen_nil, gen_set', loc_set', loc_set_set, p_move, p_assign, p_alloc, p_load, p_store, p_extract, p_call, callee_func, ev_tmp, evc_eq, evcs_nil, evcs_cons, boxA_loc, load_loc, retV_ok, hintOf_some, cells_agg, store_loc, Option.bind_some, clean_agg, cond_true, cond_false, QS_P, QS_hint, QS_spec, List.length_cons, List.length_nil, cut, writeCells, List.take, List.drop, List.nil_append, List.cons_append, beq_self_eq_true, true_and, Nat.zero_add, Nat.reduceBEq, Nat.reduceLT, Nat.reduceLeDiff, Bool.and_true, nat_beq, nat_blt, nat_ble, decide_true, rd_24, sz_24, zr_24, hint_4_6, h9, m1, extractA, List.getElem?_cons_zero, List.getElem?_cons_succ]
  refine W.sreg ?_
  unfold k4_r5
  simp only [WP_nil, WP_always, WP_always0, stepK_some, stepK0_some, nth_set, gen_nil, gen_set', loc_set', loc_set_set, p_move, p_assign, p_alloc, p_load, p_store, p_extract, p_call, callee_func, ev_tmp, evc_eq, evcs_nil, evcs_cons, boxA_loc, load_loc, retV_ok, hintOf_some, cells_agg, store_loc, Option.bind_some, clean_agg, cond_true, cond_false, QS_P, QS_hint, QS_spec, List.length_cons, List.length_nil, cut, writeCells, List.take, List.drop, List.nil_append, List.cons_append, beq_self_eq_true, true_and, Nat.zero_add, Nat.reduceBEq, Nat.reduceLT, Nat.reduceLeDiff, Bool.and_true, nat_beq, nat_blt, nat_ble, decide_true, rd_24, sz_24, zr_24, hint_4_8, h9, m2, extractA, List.getElem?_cons_zero, List.getElem?_cons_succ]
  refine W.sreg ?_
  unfold k4_r6
  simp only [WP_nil, WP_always, WP_always0, stepK_some, stepK0_some, nth_set, gen_nil, gen_set', loc_set', loc_set_set, p_move, p_assign, p_alloc, p_load, p_store, p_extract, p_call, callee_func, ev_tmp, evc_eq, evcs_nil, evcs_cons, boxA_loc, load_loc, retV_ok, hintOf_some, cells_agg, store_loc, Option.bind_some, clean_agg, cond_true, cond_false, QS_P, QS_hint, QS_spec, List.length_cons, List.length_nil, cut, writeCells, List.take, List.drop, List.nil_append, List.cons_append, beq_self_eq_true, true_and, Nat.zero_add, Nat.reduceBEq, Nat.reduceLT, Nat.reduceLeDiff, Bool.and_true, nat_beq, nat_blt, nat_ble, decide_true, rd_24, sz_24, zr_24, hint_4_10, h9, m3, extractA, List.getElem?_cons_zero, List.getElem?_cons_succ]
  refine W.sreg ?_
  unfold k4_r7
  have z0 : ieq ((0 : Nat) : Int) 0 = true := rfl
  simp only [WP_nil, WP_always, WP_when, stepK_some, whenK_true, wantV_tt, nth_set, loc_set', p_move, p_assign, p_pick, p_load, p_bin, p_builtin, p_call, callee_func, ev_tmp, ev_const, evc_eq, evcs_nil, evcs_cons, ofValue_bool, ofValue_int, load_loc, pick_eq, pickV_true, retV_ok, retVS_some, bi_eql, bl_len, hintOf_some, Option.bind_some, clean_int, clean_agg, clean_nils, cond_true, cond_false, QS_P, QS_hint, QS_spec, List.length_cons, List.length_nil, cut, List.take, List.drop, beq_self_eq_true, true_and, Nat.zero_add, Nat.reduceBEq, Nat.reduceLT, nat_beq, rd_24, ln_27_n, h10, s1, s2, s3, z0]
  exact W.ret ⟨rfl, .inr rfl, res_tmp (by simp only [nth_set, Nat.reduceBEq, cond_true, cond_false, *]) rfl⟩
end Go.Proofs.YtbfmdojdemckbaaGreat
/- From the data that the arguments read as to the evaluator's values. -/
namespace Go.Proofs.YtbfmdojdemckbaaGreat
open Go.Ag

def scalOf : Value → Option AVal
  | .bool b => some (.bool b)
  | .int k n => some (.int k n)
  | .string s => some (.str s.data.toList)
  | .slice none 0 0 => some .nils
  | _ => none
theorem str_eta (s : ByteArray) : (⟨⟨s.data.toList⟩⟩ : ByteArray) = s := rfl
theorem scalOf_VR {G : Gh} {x : Value} {v : AVal} (h : scalOf x = some v) : v.scal = true ∧ VR G v x := by
  unfold scalOf at h
  split at h
  · injection h with h; subst h; exact ⟨rfl, .bool _⟩
  · injection h with h; subst h; exact ⟨rfl, .int _ _⟩
  · injection h with h; subst h; exact ⟨rfl, .str _⟩
  · injection h with h; subst h; exact ⟨rfl, .nils⟩
  · cases h
def cellS (W : World) (b o : Nat) : Option AVal := (W.cell? ⟨b, o, none⟩).bind scalOf

open Classical in
noncomputable def pick (P : AVal → Prop) : Option AVal := if h : ∃ v, P v then some (Classical.choose h) else none
theorem pick_spec {P : AVal → Prop} {v : AVal} (h : pick P = some v) : P v := by
  unfold pick at h
  split at h
  · rename_i e
    injection h with h; subst h
    exact Classical.choose_spec e
  · cases h
theorem pick_of {P : AVal → Prop} {v : AVal} (h : P v) : ∃ u, pick P = some u ∧ P u := by
  have e : ∃ v, P v := ⟨v, h⟩
  exact ⟨Classical.choose e, by unfold pick; rw [dif_pos e], Classical.choose_spec e⟩

def RefsAt (W : World) (x : Value) (v : AVal) : Prop := ∃ (a : Addr) (len cap : Nat) (strs : List Bytes), x = .slice (some a) len cap ∧ v = .list 1 (strs.map strV) .no ∧ (cap = 0 ∨ a.spot = none) ∧ strs.length = len ∧ len ≤ cap ∧ len < small ∧ (∀ s ∈ strs, s.length < small) ∧
  ∀ (i : Nat) (s : Bytes), strs[i]? = some s → W.cell? ⟨a.block, a.off + i, none⟩ = some (.string ⟨⟨s⟩⟩)
def TagsAt (W : World) (x : Value) (v : AVal) : Prop := ∃ (a : Addr) (len cap : Nat) (tags : List Tag), x = .slice (some a) len cap ∧ v = .list 2 (tags.map tagV) .no ∧ (cap = 0 ∨ a.spot = none) ∧ tags.length = len ∧ len ≤ cap ∧ len < small ∧ (∀ t ∈ tags, t.1.length < small) ∧
  ∀ (i : Nat) (t : Tag), tags[i]? = some t → W.cell? ⟨a.block, a.off + (i * 2 + 0), none⟩ = some (.string ⟨⟨t.1⟩⟩) ∧ W.cell? ⟨a.block, a.off + (i * 2 + 1), none⟩ = some (.string ⟨⟨t.2⟩⟩)

/-- a slice in a row of objects: what it is of shows in the cell ahead of it -/
noncomputable def slicesAt (W : World) (b o : Nat) : Option AVal :=
  (W.cell? ⟨b, o, none⟩).bind fun x => match W.cell? ⟨b, o - 1, none⟩ with
    | some (.int _ _) => pick (RefsAt W x)
    | some (.slice _ _ _) => pick (TagsAt W x)
    | _ => none
noncomputable def ghost (W : World) : Gh where
  at_ _ := none
  dim _ := none
  ro b o := (cellS W b o).or (slicesAt W b o)

theorem ghost_str {W : World} {b o : Nat} {s : Bytes} (h : W.cell? ⟨b, o, none⟩ = some (.string ⟨⟨s⟩⟩)) : (ghost W).ro b o = some (.str s) := by
  show (cellS W b o).or _ = _
  have : cellS W b o = some (.str s) := by
    simp only [cellS, h, Option.bind_some]; rfl
  rw [this]; rfl
theorem flat_strV : ∀ l : List Bytes, flat (l.map strV) = l.map strV
  | [] => rfl
  | a :: l => by simp only [List.map_cons, flat, flat_strV l]; rfl
theorem refs_VR {W : World} {x : Value} {v : AVal} (h : RefsAt W x v) : VR (ghost W) v x := by
  obtain ⟨d, len, cap, strs, rfl, rfl, hsp, hl, hc, _, _, hcell⟩ := h
  rw [← hl] at hc ⊢
  have hm : (strs.map strV).length = strs.length := by simp
  rw [← hm]
  refine .list hsp Nat.one_pos ?_ (by rw [hm]; exact hc) ?_ trivial
  · intro y hy
    obtain ⟨s, _, rfl⟩ := List.mem_map.1 hy
    rfl
  · intro i y hy
    rw [flat_strV, List.getElem?_map] at hy
    cases e : strs[i]? with
    | none => rw [e] at hy; cases hy
    | some s =>
      rw [e] at hy
      simp only [Option.map_some, Option.some.injEq] at hy
      subst hy
      exact ghost_str (hcell i s e)
theorem nthL_get : ∀ {l : List AVal} {i : Nat} {v : AVal}, l[i]? = some v → nthL l i = v
  | [], _, _, h => by simp at h
  | _ :: _, 0, _, h => by simpa [nthL] using h
  | _ :: l, i + 1, v, h => nthL_get (l := l) (i := i) (by simpa using h)
/-- an element's cell in a row -/
theorem flat_at {sz : Nat} {xs : List AVal} (hsz : ∀ x ∈ xs, x.cells.length = sz) {i : Nat} {y : AVal} (h : (flat xs)[i]? = some y) : ∃ v, xs[i / sz]? = some v ∧ v.cells[i % sz]? = some y ∧ i = i / sz * sz + i % sz := by
  have hlt : i < (flat xs).length := by
    rcases Nat.lt_or_ge i (flat xs).length with h1 | h1
    · exact h1
    · rw [List.getElem?_eq_none h1] at h; cases h
  rw [flat_length hsz] at hlt
  have hpos : 0 < sz := by
    rcases Nat.eq_zero_or_pos sz with h0 | h0
    · subst h0; omega
    · exact h0
  have hj : i / sz < xs.length := (Nat.div_lt_iff_lt_mul hpos).2 hlt
  have hi : i % sz < sz := Nat.mod_lt _ hpos
  have e : i = i / sz * sz + i % sz := by rw [Nat.mul_comm]; exact (Nat.div_add_mod i sz).symm
  have hg := flat_get hsz hj hi
  rw [← e, h] at hg
  refine ⟨xs[i / sz], List.getElem?_eq_getElem hj, ?_, e⟩
  rw [nthL_get (List.getElem?_eq_getElem hj)] at hg
  exact hg.symm
theorem tags_VR {W : World} {x : Value} {v : AVal} (h : TagsAt W x v) : VR (ghost W) v x := by
  obtain ⟨d, len, cap, tags, rfl, rfl, hsp, hl, hc, _, _, hcell⟩ := h
  rw [← hl] at hc ⊢
  have hm : (tags.map tagV).length = tags.length := by simp
  have hsz : ∀ y ∈ tags.map tagV, y.cells.length = 2 := by
    intro y hy
    obtain ⟨s, _, rfl⟩ := List.mem_map.1 hy
    rfl
  rw [← hm]
  refine .list hsp (Nat.succ_pos 1) hsz (by rw [hm]; exact hc) ?_ trivial
  intro i y hy
  obtain ⟨u, h1, h2, h3⟩ := flat_at hsz hy
  rw [List.getElem?_map] at h1
  cases e : tags[i / 2]? with
  | none => rw [e] at h1; cases h1
  | some t =>
    rw [e] at h1
    simp only [Option.map_some, Option.some.injEq] at h1
    subst h1
    obtain ⟨c0, c1⟩ := hcell _ t e
    have hm2 : i % 2 = 0 ∨ i % 2 = 1 := by omega
    rcases hm2 with hm2 | hm2
    · rw [hm2] at h2 h3
      simp only [tagV, AVal.cells, List.getElem?_cons_zero, Option.some.injEq] at h2
      subst h2
      rw [h3]
      exact ghost_str c0
    · rw [hm2] at h2 h3
      simp only [tagV, AVal.cells, List.getElem?_cons_succ, List.getElem?_cons_zero, Option.some.injEq] at h2
      subst h2
      rw [h3]
      exact ghost_str c1
theorem ghost_wr (W : World) : WR (ghost W) .nil W where
  obj m o h := by cases h
  sep m k x y h := absurd rfl h
  ro b o v h := by
    have h : (cellS W b o).or (slicesAt W b o) = some v := h
    cases e : cellS W b o with
    | some u =>
      rw [e] at h
      simp only [Option.some_or, Option.some.injEq] at h
      subst h
      unfold cellS at e
      rw [Option.bind_eq_some_iff] at e
      obtain ⟨x, h1, h2⟩ := e
      obtain ⟨h3, h4⟩ := scalOf_VR (G := ghost W) h2
      exact ⟨h3, x, h1, h4⟩
    | none =>
      rw [e] at h
      simp only [Option.none_or] at h
      unfold slicesAt at h
      rw [Option.bind_eq_some_iff] at h
      obtain ⟨x, h1, h2⟩ := h
      split at h2
      · have h2 := pick_spec h2
        have hs : v.scal = true := by obtain ⟨_, _, _, _, _, rfl, _⟩ := h2; rfl
        exact ⟨hs, x, h1, refs_VR h2⟩
      · have h2 := pick_spec h2
        have hs : v.scal = true := by obtain ⟨_, _, _, _, _, rfl, _⟩ := h2; rfl
        exact ⟨hs, x, h1, tags_VR h2⟩
      · cases h2
  apart m ob x i v h := by cases h
  dim b d h := by cases h
  below m x h := by cases h

/- opening -/
section
variable {H : Type} {enc : TypeId × Value → H} {W : World} {held : Bool}
theorem u_3 : Tryz.prog.underlying 3 = some (.int .i64) := by kernel_rfl
theorem c_9 : Tryz.prog.cellsOf 9 = 1 := by kernel_rfl
theorem c_3 : Tryz.prog.cellsOf 3 = 1 := by kernel_rfl
theorem c_37 : Tryz.prog.cellsOf 37 = 1 := by kernel_rfl
theorem c_38 : Tryz.prog.cellsOf 38 = 1 := by kernel_rfl
theorem c_36 : Tryz.prog.cellsOf 36 = 2 := by kernel_rfl
theorem c_51 : Tryz.prog.cellsOf 51 = 2 := by kernel_rfl
theorem c_40 : Tryz.prog.cellsOf 40 = 6 := by kernel_rfl
theorem c_24 : Tryz.prog.cellsOf 24 = 1 := by kernel_rfl
theorem c_22 : Tryz.prog.cellsOf 22 = 1 := by kernel_rfl
theorem u_37 : Tryz.prog.underlying 37 = some (.slice 9) := by kernel_rfl
theorem u_38 : Tryz.prog.underlying 38 = some (.slice 51) := by kernel_rfl
theorem u_22 : Tryz.prog.underlying 22 = some (.slice 40) := by kernel_rfl

theorem spot_of_cell {a : Addr} {v : Value} (h : W.cell? a = some v) : a.spot = none := by
  unfold World.cell? at h
  split at h
  · split at h
    · cases h
    · rename_i hs
      cases e : a.spot with
      | none => rfl
      | some _ => rw [e] at hs; simp at hs
  · cases h
theorem add_none {a : Addr} (h : a.spot = none) (i : Nat) : a.add i = ⟨a.block, a.off + i, none⟩ := by
  obtain ⟨b, o, sp⟩ := a
  simp only at h; subst h
  exact add_mk b o i
theorem maxLen_small {n : Nat} (h : n ≤ maxLen) : n < small := by
  have h1 : maxLen = 9223372036854775807 := by decide
  have h2 : small = 9223372036854775808 := rfl
  omega

theorem str_small {s : ByteArray} (h : s.size ≤ maxLen) : s.data.toList.length < small := by
  have e : s.data.toList.length = s.size := Array.length_toList
  rw [e]; exact maxLen_small h
theorem len1 {α : Type} {l : List α} (h : l.length = 1) : ∃ a, l = [a] := by
  match l, h with
  | [a], _ => exact ⟨a, rfl⟩
theorem len2 {α : Type} {l : List α} (h : l.length = 2) : ∃ a b, l = [a, b] := by
  match l, h with
  | [a, b], _ => exact ⟨a, b, rfl⟩
theorem len5 {α : Type} {l : List α} (h : l.length = 5) : ∃ a b c d e, l = [a, b, c, d, e] := by
  match l, h with
  | [a, b, c, d, e], _ => exact ⟨a, b, c, d, e, rfl⟩
theorem len6 {α : Type} {l : List α} (h : l.length = 6) : ∃ a b c d e f, l = [a, b, c, d, e, f] := by
  match l, h with
  | [a, b, c, d, e, f], _ => exact ⟨a, b, c, d, e, f, rfl⟩
theorem open_refs {fuel : Nat} {cs : List Value} {x : DataW H × List MemPlace} (h : DataW.trod enc Tryz.prog W 0 (fun _ => true) held fuel 37 cs = some x) : ∃ v, cs = [v] ∧ (v = .slice none 0 0 ∨ ∃ u, RefsAt W v u) := by
  rcases Go.ChangeShapes.open_strings u_37 u_9 c_9 h with ⟨rfl, _⟩ | ⟨a, len, cap, ss, rfl, _, hl, hm, hss, _, hcell, hsz⟩
  · exact ⟨_, rfl, .inl rfl⟩
  · simp only [if_true] at hss
    refine ⟨_, rfl, .inr ⟨_, a, len, cap, (ss.take len).map (fun s => s.data.toList), rfl, rfl, ?_, ?_, hl, maxLen_small (Nat.le_trans hl hm), ?_, ?_⟩⟩
    · rcases Nat.eq_zero_or_pos cap with h0 | h0
      · exact .inl h0
      · refine .inr (spot_of_cell (W := W) (v := .string (ss.getD 0 ByteArray.empty)) ?_)
        have := hcell 0 (by omega)
        exact this
    · rw [List.length_map, List.length_take, hss]; omega
    · intro s hs
      obtain ⟨b, hb, rfl⟩ := List.mem_map.1 hs
      have := hsz b (List.mem_of_mem_take hb)
      exact str_small this
    · intro i s hi
      rw [List.getElem?_map] at hi
      cases e : (ss.take len)[i]? with
      | none => rw [e] at hi; cases hi
      | some b =>
        rw [e] at hi
        simp only [Option.map_some, Option.some.injEq] at hi
        subst hi
        rw [List.getElem?_take] at e
        split at e
        · have hlt := (List.getElem?_eq_some_iff.1 e).1
          have hc := hcell i hlt
          have hsp : a.spot = none := spot_of_cell (W := W) (v := .string (ss.getD 0 ByteArray.empty)) (hcell 0 (by omega))
          rw [add_none hsp, List.getD_eq_getElem?_getD, e] at hc
          exact hc
        · cases e

theorem two_strings {fuel : Nat} {cs : List Value} {x : DataW H × List MemPlace} (h : DataW.trod enc Tryz.prog W 0 (fun _ => true) held fuel 51 cs = some x) : ∃ k v : Bytes, cs = [.string ⟨⟨k⟩⟩, .string ⟨⟨v⟩⟩] ∧ k.length < small := by
  obtain ⟨y0, y1, n, _, hl, h0, h1⟩ := Go.ChangeShapes.trod_struct2 Tryz.underlying51 h
  rw [c_51] at hl
  obtain ⟨a, b, rfl⟩ := len2 hl
  rw [c_9] at h0 h1
  obtain ⟨s, e0, _, hs⟩ := DataW.trod_string u_9 h0
  obtain ⟨r, e1, _, hr⟩ := DataW.trod_string u_9 h1
  simp only [List.drop_zero, List.take_succ_cons, List.take_zero, List.cons.injEq, and_true] at e0
  simp only [List.drop_succ_cons, List.drop_zero, List.take_succ_cons, List.take_zero, List.cons.injEq, and_true] at e1
  subst e0; subst e1
  exact ⟨s.data.toList, r.data.toList, rfl, str_small hs⟩
theorem two_ints {fuel : Nat} {cs : List Value} {x : DataW H × List MemPlace} (h : DataW.trod enc Tryz.prog W 0 (fun _ => true) held fuel 36 cs = some x) : ∃ k v : Int, cs = [.int .i64 k, .int .i64 v] := by
  obtain ⟨y0, y1, n, _, hl, h0, h1⟩ := Go.ChangeShapes.trod_struct2 Tryz.underlying36 h
  rw [c_36] at hl
  obtain ⟨a, b, rfl⟩ := len2 hl
  rw [c_3] at h0 h1
  obtain ⟨s, e0, _, _⟩ := DataW.trod_int u_3 h0
  obtain ⟨r, e1, _, _⟩ := DataW.trod_int u_3 h1
  simp only [List.drop_zero, List.take_succ_cons, List.take_zero, List.cons.injEq, and_true] at e0
  simp only [List.drop_succ_cons, List.drop_zero, List.take_succ_cons, List.take_zero, List.cons.injEq, and_true] at e1
  subst e0; subst e1
  exact ⟨s, r, rfl⟩

theorem list_of {α : Type} {P : Nat → α → Prop} : ∀ (n : Nat), (∀ i, i < n → ∃ o, P i o) → ∃ l : List α, l.length = n ∧ ∀ (i : Nat) o, l[i]? = some o → P i o
  | 0, _ => ⟨[], rfl, fun i o h => by simp at h⟩
  | n + 1, h => by
    obtain ⟨l, h1, h2⟩ := list_of n fun i hi => h i (by omega)
    obtain ⟨o, ho⟩ := h n (by omega)
    refine ⟨l ++ [o], by simp [h1], fun i p hp => ?_⟩
    rcases Nat.lt_or_ge i l.length with hi | hi
    · rw [List.getElem?_append_left hi] at hp
      exact h2 i p hp
    · rw [List.getElem?_append_right hi] at hp
      have : i - l.length = 0 := by
        rcases Nat.eq_zero_or_pos (i - l.length) with h | h
        · exact h
        · rw [List.getElem?_eq_none (by simp; omega)] at hp; cases hp
      rw [this] at hp
      simp only [List.getElem?_cons_zero, Option.some.injEq] at hp
      subst hp
      have : i = n := by omega
      subst this; exact ho

/-- an element of a slice: its cells, its reading -/
theorem elem_at {e : TypeId} {c n i : Nat} {a : Addr} {elems : List (DataW H × List MemPlace)} (hc : Tryz.prog.cellsOf e = c) (hi : i < elems.length) (hsp : a.spot = none)
    (h : (W.cells? 0 (a.add (i * Tryz.prog.cellsOf e)) (Tryz.prog.cellsOf e)).bind (DataW.trod enc Tryz.prog W 0 (fun _ => true) held n e) = elems[i]?) :
    ∃ cs y, DataW.trod enc Tryz.prog W 0 (fun _ => true) held n e cs = some y ∧ cs.length = c ∧ ∀ j, j < c → W.cell? ⟨a.block, a.off + (i * c + j), none⟩ = cs[j]? := by
  rw [hc, List.getElem?_eq_getElem hi, Option.bind_eq_some_iff] at h
  obtain ⟨cs, h1, h2⟩ := h
  obtain ⟨_, hl, hcell⟩ := World.cells?_some h1
  refine ⟨cs, _, h2, hl, fun j hj => ?_⟩
  rw [← hcell j hj, add_none hsp, add_mk, Nat.add_assoc]
/-- a slice with places is not a part of a map's entry -/
theorem slice_spot {e : TypeId} {n len cap : Nat} {a : Addr} {elems rest : List (DataW H × List MemPlace)} (hpos : 0 < Tryz.prog.cellsOf e) (hlen : elems.length = len) (_hle : len ≤ cap)
    (hel : ∀ i, i < len → (W.cells? 0 (a.add (i * Tryz.prog.cellsOf e)) (Tryz.prog.cellsOf e)).bind (DataW.trod enc Tryz.prog W 0 (fun _ => true) held n e) = elems[i]?)
    (hsp : rest.length = cap - len ∧ ∀ j, j < cap - len → (W.cells? 0 (a.add ((len + j) * Tryz.prog.cellsOf e)) (Tryz.prog.cellsOf e)).bind (DataW.trod enc Tryz.prog W 0 (fun _ => true) held n e) = rest[j]?) : cap = 0 ∨ a.spot = none := by
  rcases Nat.eq_zero_or_pos cap with h0 | h0
  · exact .inl h0
  · refine .inr ?_
    have key : ∀ o : Option (DataW H × List MemPlace), o.isSome = true → (W.cells? 0 (a.add (0 * Tryz.prog.cellsOf e)) (Tryz.prog.cellsOf e)).bind (DataW.trod enc Tryz.prog W 0 (fun _ => true) held n e) = o → a.spot = none := by
      intro o ho h
      cases o with
      | none => cases ho
      | some y =>
        rw [Option.bind_eq_some_iff] at h
        obtain ⟨cs, h1, _⟩ := h
        obtain ⟨_, hl, hcell⟩ := World.cells?_some h1
        have := hcell 0 hpos
        rw [Nat.zero_mul] at this
        have hx : (a.add 0).add 0 = a := rfl
        rw [hx, List.getElem?_eq_getElem (by omega)] at this
        exact spot_of_cell this
    rcases Nat.eq_zero_or_pos len with h1 | h1
    · have := hsp.2 0 (by omega)
      rw [h1] at this
      refine key _ ?_ this
      rw [List.getElem?_eq_getElem (by omega)]; rfl
    · refine key _ ?_ (hel 0 h1)
      rw [List.getElem?_eq_getElem (by omega)]; rfl

theorem open_tags {fuel : Nat} {cs : List Value} {x : DataW H × List MemPlace} (h : DataW.trod enc Tryz.prog W 0 (fun _ => true) held fuel 38 cs = some x) : ∃ v, cs = [v] ∧ (v = .slice none 0 0 ∨ ∃ u, TagsAt W v u) := by
  rcases DataW.trod_slice u_38 h with ⟨rfl, _⟩ | ⟨a, len, cap, elems, rest, n, _, rfl, _, _, hl, hm, hlen, hel, hsp, _⟩
  · exact ⟨_, rfl, .inl rfl⟩
  · have hspot := slice_spot (by rw [c_51]; omega) hlen hl hel (hsp rfl)
    obtain ⟨tags, t1, t2⟩ := list_of (P := fun i (t : Tag) => t.1.length < small ∧ W.cell? ⟨a.block, a.off + (i * 2 + 0), none⟩ = some (.string ⟨⟨t.1⟩⟩) ∧ W.cell? ⟨a.block, a.off + (i * 2 + 1), none⟩ = some (.string ⟨⟨t.2⟩⟩)) len fun i hi => by
      have hs : a.spot = none := by
        rcases hspot with h0 | h0
        · omega
        · exact h0
      obtain ⟨cs, y, q1, q2, q3⟩ := elem_at c_51 (by omega) hs (hel i hi)
      obtain ⟨k, v, rfl, hk⟩ := two_strings q1
      exact ⟨(k, v), hk, q3 0 (by omega), q3 1 (by omega)⟩
    refine ⟨_, rfl, .inr ⟨_, a, len, cap, tags, rfl, rfl, hspot, t1, hl, maxLen_small (Nat.le_trans hl hm), ?_, fun i t hi => (t2 i t hi).2⟩⟩
    intro t ht
    obtain ⟨i, hi⟩ := List.getElem?_of_mem ht
    exact (t2 i t hi).1

/-- an object in a row of them -/
theorem open_obj {fuel : Nat} {cs : List Value} {x : DataW H × List MemPlace} (h : DataW.trod enc Tryz.prog W 0 (fun _ => true) held fuel 40 cs = some x) :
    ∃ (id : Bytes) (k px py : Int) (rv tv : Value), cs = [.string ⟨⟨id⟩⟩, .int .i64 k, .int .i64 px, .int .i64 py, rv, tv] ∧ id.length < small ∧ (rv = .slice none 0 0 ∨ ∃ u, RefsAt W rv u) ∧ (tv = .slice none 0 0 ∨ ∃ u, TagsAt W tv u) := by
  obtain ⟨xs, n, _, _, hl, hlen, hf⟩ := DataW.trod_struct Tryz.underlying40 h
  rw [c_40] at hl
  obtain ⟨a, b, c, d, e, f, rfl⟩ := len6 hl
  obtain ⟨y0, y1, y2, y3, y4, rfl⟩ := len5 (l := xs) hlen
  have h0 : DataW.trod enc Tryz.prog W 0 (fun _ => true) held n 9 (([a, b, c, d, e, f].drop 0).take (Tryz.prog.cellsOf 9)) = some y0 := hf 0 _ rfl
  have h1 : DataW.trod enc Tryz.prog W 0 (fun _ => true) held n 3 (([a, b, c, d, e, f].drop 1).take (Tryz.prog.cellsOf 3)) = some y1 := hf 1 _ rfl
  have h2 : DataW.trod enc Tryz.prog W 0 (fun _ => true) held n 36 (([a, b, c, d, e, f].drop 2).take (Tryz.prog.cellsOf 36)) = some y2 := hf 2 _ rfl
  have h3 : DataW.trod enc Tryz.prog W 0 (fun _ => true) held n 37 (([a, b, c, d, e, f].drop 4).take (Tryz.prog.cellsOf 37)) = some y3 := hf 3 _ rfl
  have h4 : DataW.trod enc Tryz.prog W 0 (fun _ => true) held n 38 (([a, b, c, d, e, f].drop 5).take (Tryz.prog.cellsOf 38)) = some y4 := hf 4 _ rfl
  rw [c_9] at h0
  rw [c_3] at h1
  rw [c_36] at h2
  rw [c_37] at h3
  rw [c_38] at h4
  obtain ⟨s, e0, _, hs⟩ := DataW.trod_string u_9 h0
  obtain ⟨k, e1, _, _⟩ := DataW.trod_int u_3 h1
  obtain ⟨px, py, e2⟩ := two_ints h2
  obtain ⟨rv, e3, hr⟩ := open_refs h3
  obtain ⟨tv, e4, ht⟩ := open_tags h4
  simp only [List.drop_zero, List.drop_succ_cons, List.take_succ_cons, List.take_zero, List.cons.injEq, and_true] at e0 e1 e2 e3 e4
  obtain ⟨rfl, rfl⟩ := e2
  subst e0; subst e1; subst e3; subst e4
  exact ⟨s.data.toList, k, px, py, _, _, rfl, str_small hs, hr, ht⟩

theorem refs_is {x : Value} {v : AVal} (h : RefsAt W x v) : ∃ strs : List Bytes, IsL 1 strV v strs ∧ strs.length < small ∧ (∀ s ∈ strs, s.length < small) ∧ pureV v = true := by
  obtain ⟨_, _, _, strs, _, rfl, _, hl, _, h1, h2, _⟩ := h
  refine ⟨strs, .inr ⟨_, rfl⟩, by omega, h2, ?_⟩
  simp only [pureV, pures_map strV_pure strs, Bool.and_self]
theorem tags_is {x : Value} {v : AVal} (h : TagsAt W x v) : ∃ tags : List Tag, IsL 2 tagV v tags ∧ tags.length < small ∧ (∀ t ∈ tags, t.1.length < small) ∧ pureV v = true := by
  obtain ⟨_, _, _, tags, _, rfl, _, hl, _, h1, h2, _⟩ := h
  refine ⟨tags, .inr ⟨_, rfl⟩, by omega, h2, ?_⟩
  simp only [pureV, pures_map tagV_pure tags, Bool.and_self]

theorem ghost_scal {b o : Nat} {x : Value} {v : AVal} (h : W.cell? ⟨b, o, none⟩ = some x) (hs : scalOf x = some v) : (ghost W).ro b o = some v := by
  show (cellS W b o).or _ = _
  have : cellS W b o = some v := by simp only [cellS, h, Option.bind_some, hs]
  rw [this]; rfl
theorem ghost_refs {a : Addr} {i : Nat} {x : Value} {u : AVal} {k : IntKind} {z : Int} (hp : W.cell? ⟨a.block, a.off + (i * 6 + 3), none⟩ = some (.int k z)) (h : W.cell? ⟨a.block, a.off + (i * 6 + 4), none⟩ = some x) (hu : RefsAt W x u) : ∃ v, (ghost W).ro a.block (a.off + (i * 6 + 4)) = some v ∧ RefsAt W x v := by
  obtain ⟨v, h1, h2⟩ := pick_of hu
  refine ⟨v, ?_, h2⟩
  show (cellS W _ _).or _ = _
  have e : cellS W a.block (a.off + (i * 6 + 4)) = none := by
    obtain ⟨d, len, cap, _, rfl, _⟩ := hu
    simp only [cellS, h, Option.bind_some]; rfl
  have e2 : a.off + (i * 6 + 4) - 1 = a.off + (i * 6 + 3) := by omega
  rw [e, Option.none_or, slicesAt, h, e2, hp]
  exact h1
theorem ghost_tags {a : Addr} {i : Nat} {x : Value} {u : AVal} {y : Option Addr} {p q : Nat} (hp : W.cell? ⟨a.block, a.off + (i * 6 + 4), none⟩ = some (.slice y p q)) (h : W.cell? ⟨a.block, a.off + (i * 6 + 5), none⟩ = some x) (hu : TagsAt W x u) : ∃ v, (ghost W).ro a.block (a.off + (i * 6 + 5)) = some v ∧ TagsAt W x v := by
  obtain ⟨v, h1, h2⟩ := pick_of hu
  refine ⟨v, ?_, h2⟩
  show (cellS W _ _).or _ = _
  have e : cellS W a.block (a.off + (i * 6 + 5)) = none := by
    obtain ⟨d, len, cap, _, rfl, _⟩ := hu
    simp only [cellS, h, Option.bind_some]; rfl
  have e2 : a.off + (i * 6 + 5) - 1 = a.off + (i * 6 + 4) := by omega
  rw [e, Option.none_or, slicesAt, h, e2, hp]
  exact h1

/-- a slice of objects -/
theorem open_objs {fuel : Nat} {cs : List Value} {x : DataW H × List MemPlace} (h : DataW.trod enc Tryz.prog W 0 (fun _ => true) held fuel 22 cs = some x) :
    ∃ (val : Value) (v : AVal) (l : List Obj), cs = [val] ∧ VR (ghost W) v val ∧ v.scal = true ∧ IsL 6 Obj.val v l ∧ (∀ o ∈ l, o.Good) ∧ l.length < small := by
  rcases DataW.trod_slice u_22 h with ⟨rfl, _⟩ | ⟨a, len, cap, elems, rest, n, _, rfl, _, _, hl, hm, hlen, hel, hsp, _⟩
  · refine ⟨_, .nils, [], rfl, .nils, rfl, .inl ⟨rfl, rfl⟩, (fun o ho => by cases ho), by decide⟩
  · have hspot := slice_spot (by rw [c_40]; omega) hlen hl hel (hsp rfl)
    obtain ⟨l, t1, t2⟩ := list_of (P := fun i (o : Obj) => o.Good ∧ ∀ (j : Nat) v, o.cells[j]? = some v → (ghost W).ro a.block (a.off + (i * 6 + j)) = some v) len fun i hi => by
      have hs : a.spot = none := by
        rcases hspot with h0 | h0
        · omega
        · exact h0
      obtain ⟨cs, y, q1, q2, q3⟩ := elem_at c_40 (by omega) hs (hel i hi)
      obtain ⟨id, k, px, py, rv, tv, rfl, hid, hr, ht⟩ := open_obj q1
      have p0 := q3 0 (by omega)
      have p1 := q3 1 (by omega)
      have p2 := q3 2 (by omega)
      have p3 := q3 3 (by omega)
      have p4 := q3 4 (by omega)
      have p5 := q3 5 (by omega)
      simp only [List.getElem?_cons_zero, List.getElem?_cons_succ] at p0 p1 p2 p3 p4 p5
      have R : ∃ (v : AVal) (strs : List Bytes), (ghost W).ro a.block (a.off + (i * 6 + 4)) = some v ∧ IsL 1 strV v strs ∧ strs.length < small ∧ (∀ s ∈ strs, s.length < small) ∧ pureV v = true := by
        rcases hr with rfl | ⟨u, hu⟩
        · exact ⟨.nils, [], ghost_scal p4 rfl, .inl ⟨rfl, rfl⟩, by decide, (fun s hs => by cases hs), rfl⟩
        · obtain ⟨v, g1, g2⟩ := ghost_refs p3 p4 hu
          obtain ⟨strs, g3⟩ := refs_is g2
          exact ⟨v, strs, g1, g3⟩
      have hsl : ∃ y p q, rv = .slice y p q := by
        rcases hr with rfl | ⟨u, hu⟩
        · exact ⟨_, _, _, rfl⟩
        · obtain ⟨d, len, cap, _, rfl, _⟩ := hu; exact ⟨_, _, _, rfl⟩
      have T : ∃ (v : AVal) (tags : List Tag), (ghost W).ro a.block (a.off + (i * 6 + 5)) = some v ∧ IsL 2 tagV v tags ∧ tags.length < small ∧ (∀ s ∈ tags, s.1.length < small) ∧ pureV v = true := by
        rcases ht with rfl | ⟨u, hu⟩
        · exact ⟨.nils, [], ghost_scal p5 rfl, .inl ⟨rfl, rfl⟩, by decide, (fun s hs => by cases hs), rfl⟩
        · obtain ⟨y, p, q, rfl⟩ := hsl
          obtain ⟨v, g1, g2⟩ := ghost_tags p4 p5 hu
          obtain ⟨tags, g3⟩ := tags_is g2
          exact ⟨v, tags, g1, g3⟩
      obtain ⟨rV, strs, r1, r2, r3, r4, r5⟩ := R
      obtain ⟨tV, tags, s1, s2, s3, s4, s5⟩ := T
      refine ⟨⟨id, k, px, py, rV, tV, strs, tags⟩, ⟨⟨r2, s2, hid, r3, r4, s3, s4⟩, r5, s5⟩, ?_⟩
      intro j v hv
      match j, hv with
      | 0, hv => simp only [Obj.cells, List.getElem?_cons_zero, Option.some.injEq] at hv; subst hv; exact ghost_str p0
      | 1, hv => simp only [Obj.cells, List.getElem?_cons_succ, List.getElem?_cons_zero, Option.some.injEq] at hv; subst hv; exact ghost_scal p1 rfl
      | 2, hv => simp only [Obj.cells, List.getElem?_cons_succ, List.getElem?_cons_zero, Option.some.injEq] at hv; subst hv; exact ghost_scal p2 rfl
      | 3, hv => simp only [Obj.cells, List.getElem?_cons_succ, List.getElem?_cons_zero, Option.some.injEq] at hv; subst hv; exact ghost_scal p3 rfl
      | 4, hv => simp only [Obj.cells, List.getElem?_cons_succ, List.getElem?_cons_zero, Option.some.injEq] at hv; subst hv; exact r1
      | 5, hv => simp only [Obj.cells, List.getElem?_cons_succ, List.getElem?_cons_zero, Option.some.injEq] at hv; subst hv; exact s1
      | j + 6, hv => simp [Obj.cells] at hv
    have hg : ∀ o ∈ l, o.Good := fun o ho => by
      obtain ⟨i, hi⟩ := List.getElem?_of_mem ho
      exact (t2 i o hi).1
    refine ⟨_, .list 6 (l.map Obj.val) .no, l, rfl, ?_, rfl, .inr ⟨_, rfl⟩, hg, by rw [t1]; exact maxLen_small (Nat.le_trans hl hm)⟩
    have hm2 : (l.map Obj.val).length = len := by simp [t1]
    have hsz : ∀ y ∈ l.map Obj.val, y.cells.length = 6 := by
      intro y hy
      obtain ⟨o, _, rfl⟩ := List.mem_map.1 hy
      rfl
    have : VR (ghost W) (.list 6 (l.map Obj.val) .no) (.slice (some a) (l.map Obj.val).length cap) := by
      refine .list hspot (by omega) hsz (by rw [hm2]; exact hl) ?_ trivial
      intro i y hy
      obtain ⟨u, h1, h2, h3⟩ := flat_at hsz hy
      rw [List.getElem?_map] at h1
      cases e : l[i / 6]? with
      | none => rw [e] at h1; cases h1
      | some o =>
        rw [e] at h1
        simp only [Option.map_some, Option.some.injEq] at h1
        subst h1
        rw [h3]
        exact (t2 _ o e).2 _ _ h2
    rw [hm2] at this
    exact this

theorem open_map {v : Value} {d : DataW H} {ps : List MemPlace} (hv : ∃ cs, v = .agg cs) (h : DataW.Trod enc Tryz.prog W 0 (fun _ => true) held 24 v d ps) :
    ∃ (x : AVal) (l : List Obj), VR (ghost W) (.agg [x]) v ∧ IsL 6 Obj.val x l ∧ (∀ o ∈ l, o.Good) ∧ l.length < small := by
  obtain ⟨fuel, h⟩ := h
  obtain ⟨cs, rfl⟩ := hv
  obtain ⟨y0, n, _, hl, h0⟩ := Go.ChangeShapes.trod_struct1 Tryz.underlying24 h
  rw [c_22] at h0
  have hcs : (Value.agg cs).cells.toList = cs.toList := rfl
  rw [hcs] at h0 hl
  rw [c_24] at hl
  obtain ⟨val, x, l, e, h1, hsc, h2, h3, h4⟩ := open_objs h0
  have hc : cs = #[val] := by
    obtain ⟨cl⟩ := cs
    obtain ⟨c, rfl⟩ := len1 (l := cl) hl
    simp only [List.drop_zero, List.take_succ_cons, List.take_zero, List.cons.injEq, and_true] at e
    subst e; rfl
  subst hc
  refine ⟨x, l, .agg ?_ (.cons h1 .nil), h2, h3, h4⟩
  simp only [scals, List.all_cons, hsc, List.all_nil, Bool.and_self]
end
end Go.Proofs.YtbfmdojdemckbaaGreat
