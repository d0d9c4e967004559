/- The walk of merge.Merge: the maps, the objects, the loops over names. -/
import Derived.Test.YtbfmdojdemckbaaGreatZ8
import Derived.Test.YtbfmdojdemckbaaGreatZ7
/- merge: the maps of objects, the comparing of objects -/
namespace Go.Proofs.YtbfmdojdemckbaaGreat
open Go.Ag
noncomputable def QM (sp : FuncId → Option (List AVal → Option AVal)) (ch : Nat → Nat) : Prog := { P := Tryz.prog, hint := hintF, spec := sp, ch := ch, kmax := fun _ => 64, specH := fun f => bif Nat.beq f 25 then some sortSp else bif Nat.beq f 28 then some sfSp else none }
theorem QM_P (sp : FuncId → Option (List AVal → Option AVal)) (ch : Nat → Nat) : (QM sp ch).P = Tryz.prog := rfl
theorem QM_hint (sp : FuncId → Option (List AVal → Option AVal)) (ch : Nat → Nat) : (QM sp ch).hint = hintF := rfl
theorem QM_spec (sp : FuncId → Option (List AVal → Option AVal)) (ch : Nat → Nat) : (QM sp ch).spec = sp := rfl

noncomputable def mmK (s : St) : AVal → Option (AVal × St)
  | .int _ _ => some (.map s.next, s.new (.map [] 0))
  | _ => none
theorem mmK_int (s : St) (k : IntKind) (n : Int) : mmK s (.int k n) = some (.map s.next, s.new (.map [] 0)) := rfl
theorem mm_61 (e : Env) (x : Operand) (s : St) : makeMapA Tryz.prog 61 e (some x) s = (ev e x).bind (mmK s) := by
  have h : Tryz.prog.underlying 61 = some (.map 9 67) := by kernel_rfl
  simp only [makeMapA, h, Option.bind_some]
  rfl
def zeroObj : Obj := ⟨[], 0, 0, 0, .nils, .nils, [], []⟩
/-- pointers to objects by their names -/
def addPtr : List (Bytes × AVal) → Nat → List Obj → List (Bytes × AVal)
  | L, _, [] => L
  | L, p, o :: r => addPtr (insM o.id (.ptr p 0) L) (p + 1) r
noncomputable def objSt (s : St) (o : Obj) (m : Nat) (L : List (Bytes × AVal)) : St :=
  ((s.new (.cells zeroObj.cells)).put s.next (some (.cells o.cells))).put m (some (.map (ents 0 (insM o.id (.ptr s.next 0) L)) (insM o.id (.ptr s.next 0) L).length))

/-- objects that have been laid behind a state -/
structure Laid (s s' : St) (m k : Nat) (rest : List Obj) (L : List (Bytes × AVal)) : Prop where
  next : s'.next = k + rest.length
  ci : s'.ci = s.ci
  minw : s'.minw = s.minw
  old : ∀ n, n < k → n ≠ m → s'.get [] n = s.get [] n
  map : s'.get [] m = some (.map (ents 0 L) L.length)
  obj : ∀ (i : Nat) (o : Obj), rest[i]? = some o → s'.get [] (k + i) = some (.cells o.cells)

section
variable {sp : FuncId → Option (List AVal → Option AVal)} {ch : Nat → Nat}
theorem objects_loop {v : AVal} {l : List Obj} (hl : IsL 6 Obj.val v l) (hsmall : l.length < small) {m : Nat} : ∀ (rest pre : List Obj) (e : Env) (lc : Ag.Loc) (s : St) (L : List (Bytes × AVal)), l = pre ++ rest → m < s.next → s.minw ≤ m →
    s.get [] m = some (.map (ents 0 L) L.length) → nth e 3 = .map m → nth e 11 = v → nth e 12 = .int .i64 (l.length : Nat) → nth e 13 = .int .i64 (pre.length : Nat) →
    W (QM sp ch) 23 (.loop k23_l0) ⟨e, 22, lc⟩ s fun x fr s' => x = .exit 0 ∧ fr.size = 22 ∧ nth fr.env 3 = .map m ∧ Laid s s' m s.next rest (addPtr L s.next rest) := by
  intro rest
  have hcl := hl.clean
  have hsm : small = 9223372036854775808 := rfl
  induction rest with
  | nil =>
    intro pre e lc s L hpre hm hmw hs h3 h11 h12 h13
    have hl : l.length = pre.length := by rw [hpre]; simp
    refine W.loop1 ?_
    unfold k23_l0
    refine W.sreg ?_
    unfold k23_r3
    simp only [WP_nil, WP_always, stepK_some, p_bin, ev_tmp, evc_eq, retV_ok, bi_lss, Option.bind_some, clean_int, cond_true, QM_P, ilt_nat, true_and, Nat.reduceLT, decide_false, h12, h13, hl, Nat.lt_irrefl]
    refine W.seq (W.cond (t := false) (by simp only [ev_tmp, nth_set, Nat.reduceBEq, cond_true, *]) ?_)
    refine W.exit ⟨rfl, rfl, ?_, rfl, rfl, rfl, fun _ _ _ => rfl, hs, fun i o h => by simp at h⟩
    simp only [nth_set, Nat.reduceBEq, cond_false, *]
  | cons o rest ih =>
    intro pre e lc s L hpre hm hmw hs h3 h11 h12 h13
    have hlt : pre.length < l.length := by rw [hpre]; simp
    have hat : l[pre.length]? = some o := by rw [hpre]; simp
    have hia := fun lc => hl.at ia_22_l hat lc .i64
    have hwr : IntKind.i64.wrap ((pre.length : Int) + 1) = ((pre.length + 1 : Nat) : Int) := by rw [wrap64_small (by omega) (by omega)]; omega
    have hne : (m == s.next) = false := beq_eq_false_iff_ne.2 (by omega)
    have hs1 : ((s.new (.cells zeroObj.cells)).put s.next (some (.cells o.cells))).get [] m = some (.map (ents 0 L) L.length) := by
      rw [get_put, get_new, hne]; exact hs
    have hup := update_ents eq_9 mp_61 hs1 o.id (.ptr s.next 0)
    simp only [Obj.cells, zeroObj] at hup
    have hS : W (QM sp ch) 23 (.loop k23_l0) ⟨e, 22, lc⟩ s = W (QM sp ch) 23 (.loop k23_l0) ⟨e, 22, lc⟩ s := rfl
    refine W.loop1 ?_
    unfold k23_l0
    refine W.sreg ?_
    unfold k23_r3
    simp only [WP_nil, WP_always, stepK_some, p_bin, ev_tmp, evc_eq, retV_ok, bi_lss, Option.bind_some, clean_int, cond_true, QM_P, ilt_nat, true_and, Nat.reduceLT, decide_true, h12, h13, hlt]
    refine W.seq (W.cond (t := true) (by simp only [ev_tmp, nth_set, Nat.reduceBEq, cond_true, *]) (W.skip ?_))
    simp only [next_normal]
    refine W.seq (W.block (W.sreg ?_))
    unfold k23_r4
    simp only [WP_nil, WP_always, WP_always0, stepK_some, stepK0_some, nth_set, p_alloc, p_load, p_store, p_indexAddr, ev_tmp, evc_eq, boxA_heap, load_ro, retV_ok, hintOf_some, cells_agg, Option.bind_some, clean_agg, cond_true, cond_false, QM_P, QM_hint, List.length_cons, List.length_nil, cut, writeCells, List.take, List.drop, List.drop_succ_cons, List.take_succ_cons, List.nil_append, List.append_nil, beq_self_eq_true, true_and, Nat.zero_add, Nat.reduceBEq, Nat.reduceLT, Nat.reduceAdd, Nat.reduceLeDiff, Bool.and_true, nat_beq, nat_blt, nat_ble, decide_true, rd_40, sz_40, zr_40, hint_23_5, h11, h13, hia, Obj.val, Obj.cells, store_ptr', storeO_cells, get_new]
    refine W.reg ?_
    unfold k23_r5
    simp only [WP_nil, WP_always, WP_always0, stepK_some, stepK0_some, nth_set, p_move, p_load, p_fieldAddr, p_update, ev_tmp, evc_eq, retV_ok, retS_some, Option.bind_some, clean_str, clean_ptr, clean_map, cond_true, cond_false, QM_P, List.drop, List.head?_cons, beq_self_eq_true, true_and, Nat.add_zero, Nat.reduceBEq, Nat.reduceLT, rd_9, fa_40_0_p, h3, load_ptr, loadO_cells, get_put, hup, block_normal, next_normal]
    refine W.reg ?_
    unfold k23_r6
    simp only [WP_nil, WP_always, stepK_some, nth_set, p_move, p_bin, ev_tmp, ev_const, evc_eq, ofValue_int, retV_ok, bi_add, Option.bind_some, clean_int, cond_true, cond_false, QM_P, beq_self_eq_true, true_and, Nat.reduceBEq, Nat.reduceLT, h13, hwr, next_normal]
    have hst : ((s.new (.cells zeroObj.cells)).put s.next (some (.cells o.cells))).put m (some (.map (ents 0 (insM o.id (.ptr s.next 0) L)) (insM o.id (.ptr s.next 0) L).length)) = objSt s o m L := rfl
    simp only [Obj.cells, zeroObj] at hst
    rw [hst]
    have hn : (objSt s o m L).next = s.next + 1 := rfl
    have hg : ∀ n, (objSt s o m L).get [] n = bif n == m then some (.map (ents 0 (insM o.id (.ptr s.next 0) L)) (insM o.id (.ptr s.next 0) L).length) else bif n == s.next then some (.cells o.cells) else s.get [] n := by
      intro n
      simp only [objSt, get_put, get_new]
      cases n == m <;> cases n == s.next <;> rfl
    have hmin : (objSt s o m L).minw = s.minw := by
      simp only [objSt, St.put, St.new]
      have h1 : Nat.ble s.minw s.next = true := Nat.ble_eq_true_of_le (by omega)
      have h2 : Nat.ble s.minw m = true := Nat.ble_eq_true_of_le hmw
      simp only [h1, h2, cond_true]
    refine (ih (pre ++ [o]) _ _ (objSt s o m L) (insM o.id (.ptr s.next 0) L) (by rw [hpre]; simp) (by rw [hn]; omega) (by rw [hmin]; exact hmw) (by rw [hg]; simp) (by simp only [nth_set, Nat.reduceBEq, cond_false, *]) (by simp only [nth_set, Nat.reduceBEq, cond_false, *]) (by simp only [nth_set, Nat.reduceBEq, cond_false, *]) (by simp only [nth_set, Nat.reduceBEq, cond_true, cond_false, List.length_append, List.length_cons, List.length_nil])).mono ?_
    rintro x fr s' ⟨rfl, h1, h2, a1, a2, a3, a4, a5, a6⟩
    rw [hn] at a1 a4 a5 a6
    refine ⟨rfl, h1, h2, by rw [a1, List.length_cons]; omega, a2, a3.trans hmin, fun n h3 h4 => ?_, a5, fun i q hq => ?_⟩
    · rw [a4 n (by omega) h4, hg, beq_eq_false_iff_ne.2 h4, beq_eq_false_iff_ne.2 (by omega : n ≠ s.next)]; rfl
    · cases i with
      | zero =>
        simp only [List.getElem?_cons_zero, Option.some.injEq] at hq
        subst hq
        rw [Nat.add_zero, a4 s.next (by omega) (by omega), hg, beq_eq_false_iff_ne.2 (by omega : s.next ≠ m)]
        simp
      | succ i =>
        rw [show s.next + (i + 1) = s.next + 1 + i by omega]
        exact a6 i q (by simpa using hq)

theorem objects_run (h23 : sp 23 = none) {v : AVal} {l : List Obj} (hl : IsL 6 Obj.val v l) (hsmall : l.length < small) (s : St) (hm : s.minw ≤ s.next) : ∃ s', RunC (QM sp ch) 23 [.agg [v]] s (.map s.next) s' ∧ Laid s s' s.next (s.next + 1) l (addPtr [] (s.next + 1) l) := by
  have hlen := fun mk s => hl.len ln_22_n ln_22_l mk s
  have hcl := hl.clean
  have key : ∃ u s', RunC (QM sp ch) 23 [.agg [v]] s u s' ∧ (u = .map s.next ∧ Laid s s' s.next (s.next + 1) l (addPtr [] (s.next + 1) l)) := by
    refine RunC.ofEx k23_func k23_code k23_tmps k23_res h23 ?_
    unfold k23
    refine W.sreg ?_
    unfold k23_r0
    simp only [frame0, ofArgs, WP_nil, WP_always, stepK_some, nth_set, gen_nil, p_assign, p_box, ev_tmp, ev_const, evc_eq, boxA_loc, retV_ok, hintOf_some, cells_agg, Option.bind_some, clean_agg, cond_true, QM_hint, List.length_cons, List.length_nil, beq_self_eq_true, true_and, Nat.zero_add, Nat.reduceLT, Nat.reduceLeDiff, nat_ble, decide_true, hint_23_1, ofValue, ofScal]
    refine W.sreg ?_
    unfold k23_r1
    simp only [WP_nil, WP_always, stepK_some, nth_set, gen_nil, gen_set', loc_set', p_assign, p_load, p_fieldAddr, p_makeMap, p_builtin, ev_tmp, evc_eq, evcs_nil, evcs_cons, load_loc, retV_ok, retVS_some, bl_len, hintOf_some, Option.bind_some, cond_true, cond_false, QM_P, QM_hint, List.drop, List.head?_cons, beq_self_eq_true, true_and, Nat.add_zero, Nat.reduceBEq, Nat.reduceLT, nat_beq, rd_22, fa_24_0_l, hint_23_8, hcl, hlen, mm_61, mmK_int]
    refine W.seq (W.sreg ?_)
    unfold k23_r2
    simp only [WP_nil, WP_always, stepK_some, nth_set, gen_nil, gen_set', loc_set', p_move, p_load, p_fieldAddr, p_builtin, ev_tmp, ev_const, evc_eq, evcs_nil, evcs_cons, ofValue_int, load_loc, retV_ok, retVS_some, bl_len, hintOf_some, Option.bind_some, cond_true, cond_false, QM_P, QM_hint, List.drop, List.head?_cons, beq_self_eq_true, true_and, Nat.add_zero, Nat.reduceBEq, Nat.reduceLT, nat_beq, rd_22, fa_24_0_l, hint_23_12, hcl, hlen]
    refine W.block ?_
    refine (objects_loop hl hsmall (m := s.next) l [] _ _ (s.new (.map [] 0)) [] rfl (by show s.next < s.next + 1; omega) hm ?_ (by simp only [nth_set, Nat.reduceBEq, cond_true, cond_false, *]) (by simp only [nth_set, Nat.reduceBEq, cond_true, cond_false, *]) (by simp only [nth_set, Nat.reduceBEq, cond_true, cond_false, *]) (by simp only [nth_set, Nat.reduceBEq, cond_true, cond_false]; rfl)).mono ?_
    · rw [get_new, beq_self_eq_true]; rfl
    rintro x ⟨e, sz, lc⟩ s' ⟨rfl, hs, h3, a1, a2, a3, a4, a5, a6⟩
    have hs : sz = 22 := hs
    subst hs
    have h3 : nth e 3 = .map s.next := h3
    show W (QM sp ch) 23 _ _ _ _
    refine W.sreg ?_
    unfold k23_r7
    simp only [WP_nil, WP_always, stepK_some, nth_set, p_move, p_assign, ev_tmp, retV_ok, cond_true, beq_self_eq_true, true_and, Nat.reduceLT, h3]
    refine W.ret ⟨.inr rfl, .map s.next, res_tmp ?_ rfl, rfl, a1, a2, a3, fun n h4 h5 => ?_, a5, a6⟩
    · simp only [nth_set, Nat.reduceBEq, cond_true, cond_false, *]
    · rw [a4 n h4 h5, get_new, beq_eq_false_iff_ne.2 h5]; rfl
  obtain ⟨u, s', h1, rfl, h2⟩ := key
  exact ⟨s', h1, h2⟩
end
end Go.Proofs.YtbfmdojdemckbaaGreat
/- merge.same, merger.merge where no conflict is -/
namespace Go.Proofs.YtbfmdojdemckbaaGreat
open Go.Ag
/-- a pointer to an object, or none -/
inductive PV (s : St) : AVal → Option Obj → Prop
  | nil : PV s .nilp none
  | at_ {p : Nat} {o : Obj} : s.get [] p = some (.cells o.cells) → o.Good → PV s (.ptr p 0) (some o)
def optEq : Option Obj → Option Obj → Bool
  | none, none => true
  | some o, some q => objEq o q
  | _, _ => false
theorem pe_nn : binA Tryz.prog .eql 67 .nilp .nilp = some (.bool true) := by kernel_rfl
theorem pe_pn (n o : Nat) : binA Tryz.prog .eql 67 (.ptr n o) .nilp = some (.bool false) := by kernel_rfl
theorem pe_np (n o : Nat) : binA Tryz.prog .eql 67 .nilp (.ptr n o) = some (.bool false) := by kernel_rfl
theorem pq_nn : binA Tryz.prog .neq 67 .nilp .nilp = some (.bool false) := by kernel_rfl
theorem pq_pn (n o : Nat) : binA Tryz.prog .neq 67 (.ptr n o) .nilp = some (.bool true) := by kernel_rfl
theorem ofValue_nilp : ofValue (.pointer none) = some .nilp := rfl
theorem clean_nilp : (AVal.nilp).clean = true := rfl
theorem nil_ptr (lc : Ag.Loc) (n o : Nat) : nilCheckA lc (.ptr n o) = some (.ptr n o) := rfl
theorem get_top' (s : St) (mk : Mask) (n : Nat) : s.top.get mk n = s.get mk n := rfl
section
variable {sp : FuncId → Option (List AVal → Option AVal)} {ch : Nat → Nat}
theorem same43_run (h43 : sp 43 = none) (h16 : sp 16 = some osameSp) {s : St} (hm : s.minw ≤ s.next) {a b : AVal} {p q : Option Obj} (ha : PV s a p) (hb : PV s b q) : RunC (QM sp ch) 43 [a, b] s (.bool (optEq p q)) s := by
  refine RunC.of2 k43_func k43_code k43_tmps k43_res h43 ?_
  unfold k43
  refine W.sreg ?_
  unfold k43_r0
  simp only [frame0, ofArgs, WP_nil, WP_always, stepK_some, p_assign, ev_const, ofValue_bool, retV_ok, cond_true, List.length_cons, List.length_nil, true_and, Nat.zero_add, Nat.reduceLT, Nat.reduceAdd, Nat.reduceLeDiff, nat_ble, decide_true]
  refine W.seq (W.sreg ?_)
  unfold k43_r1
  cases ha with
  | nil =>
    cases hb with
    | nil =>
      simp only [WP_nil, WP_always, WP_when, stepK_some, whenK_false, wantV_tf, nth_set, p_move, p_pick, p_bin, ev_tmp, ev_const, evc_eq, ofValue_bool, pick_eq, pickV_true, retV_ok, Option.bind_some, cond_true, cond_false, QM_P, beq_self_eq_true, true_and, Nat.reduceBEq, Nat.reduceLT, ofValue_nilp, clean_nilp, pe_nn]
      refine W.cond (t := true) (by simp only [ev_tmp, nth_set, Nat.reduceBEq, cond_true, cond_false, *]) (W.sreg ?_)
      unfold k43_r2
      simp only [WP_nil, WP_always, stepK_some, nth_set, p_move, p_assign, p_bin, ev_tmp, evc_eq, retV_ok, Option.bind_some, cond_true, cond_false, QM_P, beq_self_eq_true, true_and, Nat.reduceBEq, Nat.reduceLT, clean_nilp, pe_nn]
      exact W.ret ⟨rfl, .inr rfl, res_tmp (by simp only [nth_set, Nat.reduceBEq, cond_true, cond_false, optEq]) rfl⟩
    | at_ h1 h2 =>
      simp only [WP_nil, WP_always, WP_when, stepK_some, whenK_false, wantV_tf, nth_set, p_move, p_pick, p_bin, ev_tmp, ev_const, evc_eq, ofValue_bool, pick_eq, pickV_true, retV_ok, Option.bind_some, cond_true, cond_false, QM_P, beq_self_eq_true, true_and, Nat.reduceBEq, Nat.reduceLT, ofValue_nilp, clean_nilp, pe_nn]
      refine W.cond (t := true) (by simp only [ev_tmp, nth_set, Nat.reduceBEq, cond_true, cond_false, *]) (W.sreg ?_)
      unfold k43_r2
      simp only [WP_nil, WP_always, stepK_some, nth_set, p_move, p_assign, p_bin, ev_tmp, evc_eq, retV_ok, Option.bind_some, clean_ptr, cond_true, cond_false, QM_P, beq_self_eq_true, true_and, Nat.reduceBEq, Nat.reduceLT, clean_nilp, pe_np]
      exact W.ret ⟨rfl, .inr rfl, res_tmp (by simp only [nth_set, Nat.reduceBEq, cond_true, cond_false, optEq]) rfl⟩
  | at_ h1 h2 =>
    cases hb with
    | nil =>
      simp only [WP_nil, WP_always, WP_when, stepK_some, whenK_true, wantV_ff, nth_set, p_move, p_pick, p_bin, ev_tmp, ev_const, evc_eq, ofValue_bool, pick_eq, pickV_false, retV_ok, Option.bind_some, clean_ptr, cond_true, cond_false, QM_P, beq_self_eq_true, true_and, Nat.reduceBEq, Nat.reduceLT, ofValue_nilp, clean_nilp, pe_nn, pe_pn]
      refine W.cond (t := true) (by simp only [ev_tmp, nth_set, Nat.reduceBEq, cond_true, cond_false, *]) (W.sreg ?_)
      unfold k43_r2
      simp only [WP_nil, WP_always, stepK_some, nth_set, p_move, p_assign, p_bin, ev_tmp, evc_eq, retV_ok, Option.bind_some, clean_ptr, cond_true, cond_false, QM_P, beq_self_eq_true, true_and, Nat.reduceBEq, Nat.reduceLT, clean_nilp, pe_pn]
      exact W.ret ⟨rfl, .inr rfl, res_tmp (by simp only [nth_set, Nat.reduceBEq, cond_true, cond_false, optEq]) rfl⟩
    | at_ h3 h4 =>
      have hos := osameSp_of h2 h4
      simp only [Obj.val, Obj.cells] at hos
      simp only [Obj.cells] at h1 h3
      simp only [WP_nil, WP_always, WP_when, stepK_some, whenK_true, wantV_ff, nth_set, p_move, p_pick, p_bin, ev_tmp, ev_const, evc_eq, ofValue_bool, pick_eq, pickV_false, retV_ok, Option.bind_some, clean_ptr, cond_true, cond_false, QM_P, beq_self_eq_true, true_and, Nat.reduceBEq, Nat.reduceLT, ofValue_nilp, clean_nilp, pe_pn]
      refine W.cond (t := false) (by simp only [ev_tmp, nth_set, Nat.reduceBEq, cond_true, cond_false, *]) (W.skip ?_)
      simp only [next_normal]
      refine W.sdrawQ hm ?_
      unfold k43_r3
      simp only [WQ_nil, WQ_always, stepQ_some, isStore, nth_set, p_move, p_assign, p_load, p_nilCheck, p_call, callee_func, ev_tmp, evc_eq, evcs_nil, evcs_cons, retV_ok, Option.bind_some, clean_agg, cond_true, cond_false, QM_P, QM_spec, List.length_cons, List.length_nil, cut, List.take, List.drop, List.take_succ_cons, beq_self_eq_true, true_and, Nat.zero_add, Nat.reduceBEq, Nat.reduceLT, Nat.reduceAdd, nat_beq, rd_40, nil_ptr, load_ptr, get_top', h1, h3, loadO_cells, h16, hos]
      exact W.ret ⟨rfl, .inr rfl, res_tmp (by simp only [nth_set, Nat.reduceBEq, cond_true, cond_false, optEq]) rfl⟩

/-- the merger's maps -/
structure Mg (s : St) (x mb mo mt mu md : Nat) (B O T U : List (Bytes × AVal)) : Prop where
  hx : s.get [] x = some (.cells [.map mb, .map mo, .map mt, .map mu, .map md])
  hb : s.get [] mb = some (.map (ents 0 B) B.length)
  ho : s.get [] mo = some (.map (ents 0 O) O.length)
  ht : s.get [] mt = some (.map (ents 0 T) T.length)
  hu : s.get [] mu = some (.map (ents 0 U) U.length)
  hd : s.get [] md = some (.map [] 0)
def at_ (k : Bytes) (L : List (Bytes × AVal)) : AVal := (look k L).getD .nilp
theorem look_61 {s : St} {m : Nat} {L : List (Bytes × AVal)} {c : Nat} (hs : s.get [] m = some (.map (ents 0 L) c)) (k : Bytes) : lookupA Tryz.prog [] 61 (.map m) (.str k) false s = some (at_ k L) := lookup_ents eq_9 mp_61 zr_67 hs k
theorem PV.clean {s : St} {a : AVal} {p : Option Obj} (h : PV s a p) : a.clean = true := by cases h <;> rfl
def pickM (vo vt : AVal) (pb po pt : Option Obj) : AVal := bif optEq po pt then vo else bif optEq pt pb then vo else vt
theorem merge24_run (h24 : sp 24 = none) (h43 : sp 43 = none) (h16 : sp 16 = some osameSp) {s : St} (hm : s.minw ≤ s.next) {x mb mo mt mu md : Nat} {B O T U : List (Bytes × AVal)} (M : Mg s x mb mo mt mu md B O T U) {id : Bytes} {pb po pt : Option Obj}
    (hb : PV s (at_ id B) pb) (ho : PV s (at_ id O) po) (ht : PV s (at_ id T) pt) (htame : (optEq po pt || optEq pt pb || optEq po pb) = true) : RunC (QM sp ch) 24 [.ptr x 0, .str id] s (pickM (at_ id O) (at_ id T) pb po pt) s := by
  have hx : s.top.get [] x = _ := M.hx
  have lb := look_61 (s := s.top) M.hb id
  have lo := look_61 (s := s.top) M.ho id
  have lt := look_61 (s := s.top) M.ht id
  have cb := hb.clean
  have co := ho.clean
  have ct := ht.clean
  refine RunC.of2 k24_func k24_code k24_tmps k24_res h24 ?_
  unfold k24
  refine W.sreg ?_
  unfold k24_r0
  simp only [frame0, ofArgs, WP_nil, WP_always, stepK_some, p_assign, ev_const, retV_ok, cond_true, List.length_cons, List.length_nil, true_and, Nat.zero_add, Nat.reduceLT, Nat.reduceAdd, Nat.reduceLeDiff, nat_ble, decide_true, ofValue_nilp]
  refine W.sdrawQ hm ?_
  unfold k24_r1
  simp only [WQ_nil, WQ_always, stepQ_some, isStore, nth_set, p_move, p_assign, p_load, p_fieldAddr, p_lookup, p_nilCheck, ev_tmp, evc_eq, retV_ok, Option.bind_some, clean_str, clean_map, cond_true, cond_false, QM_P, List.drop, List.head?_cons, beq_self_eq_true, true_and, Nat.zero_add, Nat.add_zero, Nat.reduceBEq, Nat.reduceLT, rd_61, fa_65_0_p, fa_65_1_p, fa_65_2_p, nil_ptr, load_ptr, hx, loadO_cells, lb, lo, lt]
  refine W.seq (W.block (W.seq (W.seq ?_)))
  refine W.region (WL_split 2 ?_)
  unfold k24_r2
  simp only [WP_nil, WP_always, stepK_some, nth_set, p_move, ev_tmp, retV_ok, cond_true, cond_false, List.take, List.drop, beq_self_eq_true, true_and, Nat.reduceBEq, Nat.reduceLT]
  refine WL_call (g := 43) (args := [at_ id O, at_ id T]) ?_ (same43_run h43 h16 hm ho ht) (by decide) ?_
  · simp only [callee, nth_set, ev_tmp, ev_func, evc_eq, evcs_nil, evcs_cons, Option.bind_some, cond_true, cond_false, List.nil_append, List.cons_append, beq_self_eq_true, Nat.reduceBEq, co, ct]
  refine WL_WP ?_
  simp only [WP_nil, WP_always, stepK_some, nth_set, p_assign, ev_tmp, retV_ok, cond_true, cond_false, beq_self_eq_true, true_and, Nat.reduceBEq, Nat.reduceLT, next_normal]
  have last : ∀ (e' : Env) (lc' : Ag.Loc), nth e' 26 = .bool true → nth e' 6 = at_ id O → pickM (at_ id O) (at_ id T) pb po pt = at_ id O → W (QM sp ch) 24 (.seq (.region k24_r4) .ret) ⟨e', 83, lc'⟩ s fun x fr s1 => x = .ret ∧ s1 = s ∧ nth fr.env 4 = pickM (at_ id O) (at_ id T) pb po pt := by
    intro e' lc' _ h6 hp
    refine W.sreg ?_
    unfold k24_r4
    simp only [WP_nil, WP_always, stepK_some, nth_set, p_move, p_assign, ev_tmp, retV_ok, cond_true, beq_self_eq_true, true_and, Nat.reduceLT, h6]
    exact W.ret ⟨rfl, rfl, by simp only [nth_set, Nat.reduceBEq, cond_true, cond_false, hp]⟩
  cases h1 : optEq po pt with
  | true =>
    refine W.cond (t := true) (by simp only [ev_tmp, nth_set, Nat.reduceBEq, cond_true, cond_false]) (W.skip ?_)
    simp only [next_normal]
    refine W.cond (t := true) (by simp only [ev_tmp, nth_set, Nat.reduceBEq, cond_true, cond_false]) ?_
    refine (last _ _ (by simp only [nth_set, Nat.reduceBEq, cond_true, cond_false]) (by simp only [nth_set, Nat.reduceBEq, cond_true, cond_false, *]) (by simp only [pickM, h1, cond_true])).mono ?_
    rintro x fr s' ⟨rfl, rfl, h⟩
    exact ⟨rfl, .inr rfl, res_tmp h (by simp only [pickM, h1, cond_true, co])⟩
  | false =>
    refine W.cond (t := false) (by simp only [ev_tmp, nth_set, Nat.reduceBEq, cond_true, cond_false]) ?_
    refine W.region (WL_split 2 ?_)
    unfold k24_r3
    simp only [WP_nil, WP_always, stepK_some, nth_set, p_move, ev_tmp, retV_ok, cond_true, cond_false, List.take, List.drop, beq_self_eq_true, true_and, Nat.reduceBEq, Nat.reduceLT]
    refine WL_call (g := 43) (args := [at_ id T, at_ id B]) ?_ (same43_run h43 h16 hm ht hb) (by decide) ?_
    · simp only [callee, nth_set, ev_tmp, ev_func, evc_eq, evcs_nil, evcs_cons, Option.bind_some, cond_true, cond_false, List.nil_append, List.cons_append, beq_self_eq_true, Nat.reduceBEq, cb, ct]
    refine WL_WP ?_
    simp only [WP_nil, WP_always, stepK_some, nth_set, p_assign, ev_tmp, retV_ok, cond_true, cond_false, beq_self_eq_true, true_and, Nat.reduceBEq, Nat.reduceLT, next_normal]
    cases h2 : optEq pt pb with
    | true =>
      refine W.cond (t := true) (by simp only [ev_tmp, nth_set, Nat.reduceBEq, cond_true, cond_false]) ?_
      refine (last _ _ (by simp only [nth_set, Nat.reduceBEq, cond_true, cond_false]) (by simp only [nth_set, Nat.reduceBEq, cond_true, cond_false, *]) (by simp only [pickM, h1, h2, cond_true, cond_false])).mono ?_
      rintro x fr s' ⟨rfl, rfl, h⟩
      exact ⟨rfl, .inr rfl, res_tmp h (by simp only [pickM, h1, h2, cond_true, cond_false, co])⟩
    | false =>
      have h3 : optEq po pb = true := by
        rw [h1, h2, Bool.or_self, Bool.false_or] at htame; exact htame
      refine W.cond (t := false) (by simp only [ev_tmp, nth_set, Nat.reduceBEq, cond_true, cond_false]) ?_
      refine W.seq (W.region (WL_split 2 ?_))
      unfold k24_r5
      simp only [WP_nil, WP_always, stepK_some, nth_set, p_move, ev_tmp, retV_ok, cond_true, cond_false, List.take, List.drop, beq_self_eq_true, true_and, Nat.reduceBEq, Nat.reduceLT]
      refine WL_call (g := 43) (args := [at_ id O, at_ id B]) ?_ (same43_run h43 h16 hm ho hb) (by decide) ?_
      · simp only [callee, nth_set, ev_tmp, ev_func, evc_eq, evcs_nil, evcs_cons, Option.bind_some, cond_true, cond_false, List.nil_append, List.cons_append, beq_self_eq_true, Nat.reduceBEq, cb, co]
      refine WL_WP ?_
      simp only [WP_nil, WP_always, stepK_some, nth_set, p_assign, ev_tmp, retV_ok, cond_true, cond_false, beq_self_eq_true, true_and, Nat.reduceBEq, Nat.reduceLT, h3]
      refine W.cond (t := true) (by simp only [ev_tmp, nth_set, Nat.reduceBEq, cond_true, cond_false, *]) (W.sreg ?_)
      unfold k24_r6
      simp only [WP_nil, WP_always, stepK_some, nth_set, p_move, p_assign, ev_tmp, retV_ok, cond_true, cond_false, beq_self_eq_true, true_and, Nat.reduceBEq, Nat.reduceLT]
      exact W.ret ⟨rfl, .inr rfl, res_tmp (by simp only [nth_set, Nat.reduceBEq, cond_true, cond_false, pickM, h1, h2]) (by simp only [pickM, h1, h2, cond_false, ct])⟩
end
end Go.Proofs.YtbfmdojdemckbaaGreat
/- ranges over maps, one step after the other -/
namespace Go.Proofs.YtbfmdojdemckbaaGreat
open Go.Ag
section
variable {Q : Prog} {f : FuncId} {e : Env} {sz : Nat} {lc : Ag.Loc} {s : St} {d : Option Tmp} {g : SG} {mk : Mask}
theorem p_range (t : TypeId) (x : Operand) : plainS Q f ⟨d, .range t x, g⟩ mk ⟨e, sz, lc⟩ s = (evc e x).bind fun x => retVS (rangeA Q.P mk t x s) lc := rfl
theorem p_next (x : Operand) (b : Bool) : plainS Q f ⟨d, .next x b, g⟩ mk ⟨e, sz, lc⟩ s = (evc e x).bind fun it => retVS (nextA mk Q.ch Q.kmax it b s) lc := rfl
theorem p_entry (x : Operand) : plainS Q f ⟨d, .entry x, g⟩ mk ⟨e, sz, lc⟩ s = (evc e x).bind fun it => retV (entryA mk it s) lc s := rfl
end
theorem range_61 {s : St} {m c : Nat} {es : List Ent} (hs : s.get [] m = some (.map es c)) : rangeA Tryz.prog [] 61 (.map m) s = some (.ptr s.next 0, s.new (.iter (some m) c [] c)) := by
  have h : Tryz.prog.underlying 61 = some (.map 9 67) := by kernel_rfl
  simp only [rangeA, h, Option.bind_some, hs]
theorem ents_born : ∀ (L : List (Bytes × AVal)) (n : Nat) (e : Ent), e ∈ ents n L → n ≤ e.born ∧ e.born < n + L.length
  | [], n, e, h => by cases h
  | (a, v) :: L, n, e, h => by
    rcases List.mem_cons.1 h with rfl | h
    · exact ⟨Nat.le_refl _, by simp only [List.length_cons]; omega⟩
    · have := ents_born L (n + 1) e h
      simp only [List.length_cons]; omega
theorem ents_key : ∀ (L : List (Bytes × AVal)) (n : Nat) (e : Ent), e ∈ ents n L → ∃ k v, e.key = .str k ∧ e.val = v ∧ (k, v) ∈ L
  | [], n, e, h => by cases h
  | (a, v) :: L, n, e, h => by
    rcases List.mem_cons.1 h with rfl | h
    · exact ⟨a, v, rfl, rfl, by simp⟩
    · obtain ⟨k, u, h1, h2, h3⟩ := ents_key L (n + 1) e h
      exact ⟨k, u, h1, h2, by simp [h3]⟩
theorem ents_mem : ∀ (L : List (Bytes × AVal)) (n : Nat) (k : Bytes) (v : AVal), (k, v) ∈ L → ∃ e ∈ ents n L, e.key = .str k
  | [], n, k, v, h => by cases h
  | (a, u) :: L, n, k, v, h => by
    rcases List.mem_cons.1 h with h | h
    · cases h; exact ⟨_, List.mem_cons_self, rfl⟩
    · obtain ⟨e, h1, h2⟩ := ents_mem L (n + 1) k v h
      exact ⟨e, List.mem_cons_of_mem _ h1, h2⟩
theorem findBorn_ents : ∀ (L : List (Bytes × AVal)) (n : Nat) (e : Ent), e ∈ ents n L → findBorn e.born (ents n L) = some e
  | [], n, e, h => by cases h
  | (a, v) :: L, n, e, h => by
    simp only [ents, findBorn]
    rcases List.mem_cons.1 h with rfl | h
    · simp
    · have h1 := ents_born L (n + 1) e h
      have : Nat.beq n e.born = false := by
        rw [nat_beq]; exact beq_eq_false_iff_ne.2 (by omega)
      rw [this]
      exact findBorn_ents L (n + 1) e h
theorem mem_unseen {seen : List Nat} {es : List Ent} {e : Ent} : e ∈ unseen seen es ↔ e ∈ es ∧ e.born ∉ seen := by
  simp only [unseen, List.mem_filter, Bool.not_eq_true', List.any_eq_false]
  constructor
  · rintro ⟨h1, h2⟩
    exact ⟨h1, fun hm => h2 _ hm (by simp)⟩
  · rintro ⟨h1, h2⟩
    refine ⟨h1, fun b hb hc => h2 ?_⟩
    have := Nat.eq_of_beq_eq_true hc
    subst this; exact hb
theorem unseen_less {seen : List Nat} : ∀ {es : List Ent} {e : Ent}, e ∈ unseen seen es → (unseen (seen ++ [e.born]) es).length < (unseen seen es).length := by
  intro es e h
  have hsub : ∀ es : List Ent, unseen (seen ++ [e.born]) es = (unseen seen es).filter fun x => !Nat.beq x.born e.born := by
    intro es
    simp only [unseen, List.filter_filter]
    congr 1
    funext x
    simp only [List.any_append, List.any_cons, List.any_nil, Bool.or_false]
    cases seen.any (Nat.beq x.born) <;> simp
  rw [hsub]
  refine Nat.lt_of_le_of_ne (List.length_filter_le _ _) fun hc => ?_
  have := List.length_filter_eq_length_iff.1 hc e h
  simp at this
/-- a range's state -/
structure It (s : St) (it m : Nat) (L : List (Bytes × AVal)) (seen : List Nat) : Prop where
  hi : s.get [] it = some (.iter (some m) L.length seen L.length)
  hm : s.get [] m = some (.map (ents 0 L) L.length)
theorem It.calm {s : St} {it m : Nat} {L : List (Bytes × AVal)} {seen : List Nat} (c : It s it m L seen) (ch kmax : Nat → Nat) : nextA [] ch kmax (.ptr it 0) false s = nextIn ch kmax it m L.length seen L.length (unseen seen (ents 0 L)) s := by
  simp only [nextA, c.hi, c.hm, Option.bind_some, cond_false]
  have : (!seen.isEmpty && !(ents 0 L).isEmpty && (ents 0 L).all fun e => Nat.ble L.length e.born) = false := by
    cases L with
    | nil => simp [ents]
    | cons x L =>
      obtain ⟨a, v⟩ := x
      have : ((ents 0 ((a, v) :: L)).all fun e => Nat.ble ((a, v) :: L).length e.born) = false := by
        simp only [ents, List.all_cons, List.length_cons]
        have : Nat.ble (L.length + 1) 0 = false := rfl
        rw [this]; rfl
      rw [this, Bool.and_false]
  rw [this]; rfl
theorem It.done {s : St} {it m : Nat} {L : List (Bytes × AVal)} {seen : List Nat} (c : It s it m L seen) (ch kmax : Nat → Nat) (h : unseen seen (ents 0 L) = []) : nextA [] ch kmax (.ptr it 0) false s = some (.tup [.bool false], s) := by
  rw [c.calm, h]; rfl
theorem It.step {s : St} {it m : Nat} {L : List (Bytes × AVal)} {seen : List Nat} (c : It s it m L seen) (ch kmax : Nat → Nat) (hk : ∀ i, L.length ≤ kmax i) (h : unseen seen (ents 0 L) ≠ []) :
    ∃ e s', e ∈ unseen seen (ents 0 L) ∧ nextA [] ch kmax (.ptr it 0) false s = some (.tup [.bool true, e.key, e.val], s') ∧ (∀ n, s'.get [] n = (s.put it (some (.iter (some m) L.length (seen ++ [e.born]) L.length))).get [] n) ∧ s'.next = s.next ∧ s'.minw = (s.put it none).minw ∧ s'.ci ≤ s.ci + 1 := by
  rw [c.calm]
  have hall : ∀ e ∈ unseen seen (ents 0 L), Nat.blt e.born L.length = true := fun e he => by
    have := ents_born L 0 e (mem_unseen.1 he).1
    exact Nat.ble_eq_true_of_le (by omega)
  have hlen : (unseen seen (ents 0 L)).length ≤ L.length := by
    have h1 : (unseen seen (ents 0 L)).length ≤ (ents 0 L).length := List.length_filter_le _ _
    have h2 : ∀ (L : List (Bytes × AVal)) n, (ents n L).length = L.length := by
      intro L
      induction L with
      | nil => intro n; rfl
      | cons x L ih => intro n; obtain ⟨a, v⟩ := x; simp only [ents, List.length_cons, ih]
    rw [h2] at h1; exact h1
  cases hu : unseen seen (ents 0 L) with
  | nil => exact absurd hu h
  | cons e r =>
    rw [hu] at hall hlen
    have hb : ((e :: r).all fun e => Nat.blt e.born L.length) = true := List.all_eq_true.2 hall
    cases r with
    | nil =>
      refine ⟨e, (stepTo it m L.length L.length seen e s).2, by simp, ?_, fun n => rfl, rfl, rfl, Nat.le_succ _⟩
      simp only [nextIn, hb, cond_true]; rfl
    | cons e2 r =>
      have hkm : Nat.ble (e :: e2 :: r).length (kmax s.ci) = true := Nat.ble_eq_true_of_le (Nat.le_trans hlen (hk _))
      have hlt : ch s.ci % (e :: e2 :: r).length < (e :: e2 :: r).length := Nat.mod_lt _ (by simp)
      refine ⟨(e :: e2 :: r)[ch s.ci % (e :: e2 :: r).length], { (stepTo it m L.length L.length seen (e :: e2 :: r)[ch s.ci % (e :: e2 :: r).length] s).2 with ci := s.ci + 1 }, List.getElem_mem _, ?_, fun n => rfl, rfl, rfl, Nat.le_refl _⟩
      simp only [nextIn, hb, cond_true, hkm, List.getElem?_eq_getElem hlt, Option.bind_some]
      rfl
theorem It.entry {s : St} {it m : Nat} {L : List (Bytes × AVal)} {seen : List Nat} {e : Ent} (c : It s it m L (seen ++ [e.born])) (he : e ∈ ents 0 L) : entryA [] (.ptr it 0) s = some (.tup [e.key, e.val]) := by
  simp only [entryA, c.hi, c.hm, Option.bind_some, nat_beq, beq_self_eq_true, cond_true, List.getLast?_append, List.getLast?_singleton, Option.some_or, findBorn_ents L 0 e he]
end Go.Proofs.YtbfmdojdemckbaaGreat
/- merge.Merge: the loop over the names of one map -/
namespace Go.Proofs.YtbfmdojdemckbaaGreat
open Go.Ag
def ptrs : Nat → List Obj → List (Bytes × AVal)
  | _, [] => []
  | p, o :: r => (o.id, .ptr p 0) :: ptrs (p + 1) r
def objAt (k : Bytes) : List Obj → Option Obj
  | [] => none
  | o :: r => bif k == o.id then some o else objAt k r
theorem look_app (k : Bytes) : ∀ (L R : List (Bytes × AVal)), look k (L ++ R) = (look k L).or (look k R)
  | [], R => rfl
  | (a, v) :: L, R => by
    simp only [List.cons_append, look]
    cases k == a with
    | true => rfl
    | false => exact look_app k L R
theorem addPtr_eq : ∀ (l : List Obj) (L : List (Bytes × AVal)) (p : Nat), (∀ o ∈ l, look o.id L = none) → (l.map (·.id)).Nodup → addPtr L p l = L ++ ptrs p l
  | [], L, p, _, _ => by simp [addPtr, ptrs]
  | o :: r, L, p, h, hn => by
    simp only [List.map_cons, List.nodup_cons] at hn
    simp only [addPtr, ptrs]
    rw [ins_none (h o (by simp)), addPtr_eq r _ (p + 1) (fun q hq => ?_) hn.2, List.append_assoc]
    · rfl
    · rw [look_app, h q (by simp [hq])]
      have : (q.id == o.id) = false := beq_eq_false_iff_ne.2 fun e => hn.1 (by rw [← e]; exact List.mem_map.2 ⟨q, hq, rfl⟩)
      simp only [look, this, Option.none_or, cond_false]

inductive PVl (s : St) (lim : Nat) : AVal → Option Obj → Prop
  | nil : PVl s lim .nilp none
  | at_ {p : Nat} {o : Obj} : p < lim → s.get [] p = some (.cells o.cells) → o.Good → PVl s lim (.ptr p 0) (some o)
theorem PVl.pv {s s' : St} {lim : Nat} {a : AVal} {q : Option Obj} (h : PVl s lim a q) (hs : ∀ n, n < lim → s'.get [] n = s.get [] n) : PV s' a q := by
  cases h with
  | nil => exact .nil
  | at_ h1 h2 h3 => exact .at_ ((hs _ h1).trans h2) h3
theorem ptrs_pv {s : St} {lim : Nat} : ∀ (l : List Obj) (p : Nat), (∀ (i : Nat) (o : Obj), l[i]? = some o → s.get [] (p + i) = some (.cells o.cells)) → (∀ o ∈ l, o.Good) → p + l.length ≤ lim → ∀ k, PVl s lim (at_ k (ptrs p l)) (objAt k l)
  | [], p, _, _, _, k => .nil
  | o :: r, p, h, hg, hl, k => by
    simp only [List.length_cons] at hl
    simp only [at_, ptrs, look, objAt]
    cases k == o.id with
    | true => exact .at_ (by omega) (h 0 o rfl) (hg o (by simp))
    | false => exact ptrs_pv r (p + 1) (fun i q hq => by rw [show p + 1 + i = p + (i + 1) by omega]; exact h (i + 1) q (by simpa using hq)) (fun q hq => hg q (by simp [hq])) (by omega) k

def outA (O T : List (Bytes × AVal)) (b o t : List Obj) (k : Bytes) : AVal := pickM (at_ k O) (at_ k T) (objAt k b) (objAt k o) (objAt k t)
def outO (b o t : List Obj) (k : Bytes) : Option Obj := bif optEq (objAt k o) (objAt k t) then objAt k o else bif optEq (objAt k t) (objAt k b) then objAt k o else objAt k t
/-- what is merged: no name is in conflict -/
structure Ctx (s1 : St) (mu : Nat) (B O T : List (Bytes × AVal)) (b o t : List Obj) : Prop where
  pb : ∀ k, PVl s1 mu (at_ k B) (objAt k b)
  po : ∀ k, PVl s1 mu (at_ k O) (objAt k o)
  pt : ∀ k, PVl s1 mu (at_ k T) (objAt k t)
  tame : ∀ k, (optEq (objAt k o) (objAt k t) || optEq (objAt k t) (objAt k b) || optEq (objAt k o) (objAt k b)) = true
theorem Ctx.out {s1 : St} {mu : Nat} {B O T : List (Bytes × AVal)} {b o t : List Obj} (c : Ctx s1 mu B O T b o t) (k : Bytes) : PVl s1 mu (outA O T b o t k) (outO b o t k) := by
  unfold outA outO pickM
  cases optEq (objAt k o) (objAt k t) with
  | true => exact c.po k
  | false =>
    cases optEq (objAt k t) (objAt k b) with
    | true => exact c.po k
    | false => exact c.pt k
/-- the state between rounds -/
structure Rs (s1 s : St) (x mb mo mt mu md : Nat) (B O T U : List (Bytes × AVal)) (b o t : List Obj) : Prop where
  mg : Mg s x mb mo mt mu md B O T U
  low : ∀ n, n < mu → s.get [] n = s1.get [] n
  minw : s.minw ≤ s.next
  ord : mb < mu ∧ mo < mu ∧ mt < mu ∧ mu < md ∧ md < x ∧ x < s.next
  val : ∀ k v, look k U = some v → v = outA O T b o t k ∧ v ≠ .nilp
  nd : (U.map (·.1)).Nodup
theorem minw_put (s : St) (n : Nat) (o : Option AObj) (h : s.minw ≤ s.next) : (s.put n o).minw ≤ (s.put n o).next := by
  show (bif Nat.ble s.minw n then s.minw else n) ≤ s.next
  cases hb : Nat.ble s.minw n with
  | true => exact h
  | false =>
    have : ¬ s.minw ≤ n := fun hc => by rw [Nat.ble_eq_true_of_le hc] at hb; cases hb
    simp only [cond_false]; omega
theorem ins_keys (k : Bytes) (v : AVal) : ∀ (L : List (Bytes × AVal)) (a : Bytes), a ∈ (insM k v L).map (·.1) ↔ a = k ∨ a ∈ L.map (·.1)
  | [], a => by simp [insM]
  | (b, u) :: L, a => by
    simp only [insM]
    cases h : k == b with
    | true =>
      have : k = b := by simpa using h
      subst this
      simp
    | false =>
      simp only [cond_false, List.map_cons, List.mem_cons, ins_keys k v L a]
      constructor
      · rintro (h | h | h) <;> simp [h]
      · rintro (h | h | h) <;> simp [h]
theorem ins_nodup {k : Bytes} {v : AVal} : ∀ {L : List (Bytes × AVal)}, (L.map (·.1)).Nodup → ((insM k v L).map (·.1)).Nodup
  | [], _ => by simp [insM]
  | (b, u) :: L, h => by
    simp only [List.map_cons, List.nodup_cons] at h
    simp only [insM]
    cases hb : k == b with
    | true =>
      have : k = b := by simpa using hb
      subst this
      simp only [cond_true, List.map_cons, List.nodup_cons]; exact h
    | false =>
      have hne : k ≠ b := by simpa using hb
      simp only [cond_false, List.map_cons, List.nodup_cons, ins_keys]
      exact ⟨fun hc => hc.elim (fun e => hne e.symm) h.1, ins_nodup h.2⟩
theorem ins_len (k : Bytes) (v : AVal) : ∀ L : List (Bytes × AVal), (insM k v L).length ≤ L.length + 1
  | [] => Nat.le_refl _
  | (b, u) :: L => by
    simp only [insM]
    have := ins_len k v L
    cases k == b <;> simp only [cond_true, cond_false, List.length_cons] <;> omega
section
variable {s1 s s' : St} {x mb mo mt mu md it : Nat} {B O T U : List (Bytes × AVal)} {b o t : List Obj}
theorem Rs.put_it (r : Rs s1 s x mb mo mt mu md B O T U b o t) (hit : x < it) {ob : AObj} (hg : ∀ n, s'.get [] n = (s.put it (some ob)).get [] n) (hn : s'.next = s.next) (hw : s'.minw = (s.put it none).minw) : Rs s1 s' x mb mo mt mu md B O T U b o t := by
  obtain ⟨o1, o2, o3, o4, o5, o6⟩ := r.ord
  have key : ∀ n, n < it → s'.get [] n = s.get [] n := fun n h => by
    rw [hg, get_put, beq_eq_false_iff_ne.2 (by omega : n ≠ it)]; rfl
  refine ⟨⟨?_, ?_, ?_, ?_, ?_, ?_⟩, fun n h => ?_, ?_, ⟨o1, o2, o3, o4, o5, by omega⟩, r.val, r.nd⟩
  · rw [key _ hit]; exact r.mg.hx
  · rw [key _ (by omega)]; exact r.mg.hb
  · rw [key _ (by omega)]; exact r.mg.ho
  · rw [key _ (by omega)]; exact r.mg.ht
  · rw [key _ (by omega)]; exact r.mg.hu
  · rw [key _ (by omega)]; exact r.mg.hd
  · rw [key _ (by omega)]; exact r.low n h
  · rw [hw, hn]; exact minw_put s it none r.minw
theorem Rs.put_mu (r : Rs s1 s x mb mo mt mu md B O T U b o t) {k : Bytes} (hk : outA O T b o t k ≠ .nilp) : Rs s1 (s.put mu (some (.map (ents 0 (insM k (outA O T b o t k) U)) (insM k (outA O T b o t k) U).length))) x mb mo mt mu md B O T (insM k (outA O T b o t k) U) b o t := by
  obtain ⟨o1, o2, o3, o4, o5, o6⟩ := r.ord
  have key : ∀ n ob, n ≠ mu → (s.put mu ob).get [] n = s.get [] n := fun n ob h => by
    rw [get_put, beq_eq_false_iff_ne.2 h]; rfl
  refine ⟨⟨?_, ?_, ?_, ?_, ?_, ?_⟩, fun n h => ?_, minw_put s mu _ r.minw, ⟨o1, o2, o3, o4, o5, o6⟩, fun j v h => ?_, ins_nodup r.nd⟩
  · rw [key _ _ (by omega)]; exact r.mg.hx
  · rw [key _ _ (by omega)]; exact r.mg.hb
  · rw [key _ _ (by omega)]; exact r.mg.ho
  · rw [key _ _ (by omega)]; exact r.mg.ht
  · rw [get_put, beq_self_eq_true]; rfl
  · rw [key _ _ (by omega)]; exact r.mg.hd
  · rw [key _ _ (by omega)]; exact r.low n h
  · rw [look_ins] at h
    cases hb : j == k with
    | true =>
      rw [hb] at h
      have : j = k := by simpa using hb
      subst this
      injection h with h
      subst h; exact ⟨rfl, hk⟩
    | false => rw [hb] at h; exact r.val j v h
theorem It.put_mu {m : Nat} {L : List (Bytes × AVal)} {seen : List Nat} {ob : Option AObj} (c : It s it m L seen) (h1 : it ≠ mu) (h2 : m ≠ mu) : It (s.put mu ob) it m L seen := by
  constructor
  · rw [get_put, beq_eq_false_iff_ne.2 h1]; exact c.hi
  · rw [get_put, beq_eq_false_iff_ne.2 h2]; exact c.hm
end
section
variable {sp : FuncId → Option (List AVal → Option AVal)} {ch : Nat → Nat} (h24 : sp 24 = none) (h43 : sp 43 = none) (h16 : sp 16 = some osameSp)
  {s1 : St} {x mb mo mt mu md it m : Nat} {B O T L : List (Bytes × AVal)} {b o t : List Obj} (c : Ctx s1 mu B O T b o t) (hL : L.length ≤ 64) (hit : x < it) (hm : m < mu)
include h24 h43 h16 c hL hit hm
theorem in_loop {lc : Ag.Loc} : ∀ (n : Nat) (seen : List Nat) (e : Env) (s : St) (U : List (Bytes × AVal)), (unseen seen (ents 0 L)).length ≤ n → Rs s1 s x mb mo mt mu md B O T U b o t → It s it m L seen → nth e 62 = .ptr it 0 → nth e 8 = .ptr x 0 →
    W (QM sp ch) 9 (.loop k9_l0) ⟨e, 132, lc⟩ s fun y fr s' => y = .exit 2 ∧ ∃ e', fr = ⟨e', 132, lc⟩ ∧ (nth e' 6 = nth e 6 ∧ nth e' 8 = nth e 8 ∧ nth e' 55 = nth e 55 ∧ nth e' 56 = nth e 56 ∧ nth e' 57 = nth e 57) ∧
      ∃ U', Rs s1 s' x mb mo mt mu md B O T U' b o t ∧ (∀ k v, look k U = some v → look k U' = some v) ∧ (∀ en ∈ unseen seen (ents 0 L), ∀ k, en.key = .str k → outA O T b o t k ≠ .nilp → look k U' = some (outA O T b o t k)) ∧ U'.length ≤ U.length + n ∧ s'.ci ≤ s.ci + n := by
  intro n
  induction n with
  | zero =>
    intro seen e s U hn r i h62 h8
    have h0 : unseen seen (ents 0 L) = [] := List.eq_nil_of_length_eq_zero (Nat.le_zero.1 hn)
    have hd := i.done ch (fun _ => 64) h0
    have hQc : (QM sp ch).ch = ch := rfl
    have hQk : (QM sp ch).kmax = fun _ => 64 := rfl
    refine W.loop1 ?_
    unfold k9_l0
    refine W.sreg ?_
    unfold k9_r8
    simp only [WP_nil, WP_always, stepK_some, nth_set, p_extract, ev_tmp, evc_eq, retV_ok, retVS_some, Option.bind_some, clean_ptr, cond_true, beq_self_eq_true, true_and, Nat.add_zero, Nat.reduceLT, p_next, h62, hQc, hQk, hd, extractA, List.getElem?_cons_zero]
    refine W.seq (W.cond (t := false) (by simp only [ev_tmp, nth_set, Nat.reduceBEq, cond_true, cond_false, *]) ?_)
    refine W.exit ⟨rfl, _, rfl, ⟨by simp only [nth_set, Nat.reduceBEq, cond_false, *], by simp only [nth_set, Nat.reduceBEq, cond_false, *], by simp only [nth_set, Nat.reduceBEq, cond_false, *], by simp only [nth_set, Nat.reduceBEq, cond_false, *], by simp only [nth_set, Nat.reduceBEq, cond_false, *]⟩, U, r, fun _ _ h => h, fun en hen => ?_, Nat.le_refl _, Nat.le_refl _⟩
    rw [h0] at hen; cases hen
  | succ n ih =>
    intro seen e s U hn r i h62 h8
    by_cases h0 : unseen seen (ents 0 L) = []
    · have hd := i.done ch (fun _ => 64) h0
      have hQc : (QM sp ch).ch = ch := rfl
      have hQk : (QM sp ch).kmax = fun _ => 64 := rfl
      refine W.loop1 ?_
      unfold k9_l0
      refine W.sreg ?_
      unfold k9_r8
      simp only [WP_nil, WP_always, stepK_some, nth_set, p_extract, ev_tmp, evc_eq, retV_ok, retVS_some, Option.bind_some, clean_ptr, cond_true, beq_self_eq_true, true_and, Nat.reduceLT, p_next, h62, hQc, hQk, hd, extractA, List.getElem?_cons_zero]
      refine W.seq (W.cond (t := false) (by simp only [ev_tmp, nth_set, Nat.reduceBEq, cond_true, cond_false, *]) ?_)
      refine W.exit ⟨rfl, _, rfl, ⟨by simp only [nth_set, Nat.reduceBEq, cond_false, *], by simp only [nth_set, Nat.reduceBEq, cond_false, *], by simp only [nth_set, Nat.reduceBEq, cond_false, *], by simp only [nth_set, Nat.reduceBEq, cond_false, *], by simp only [nth_set, Nat.reduceBEq, cond_false, *]⟩, U, r, fun _ _ h => h, fun en hen => ?_, by omega, by omega⟩
      rw [h0] at hen; cases hen
    · obtain ⟨en, s2, hen, hnx, hg, hnn, hw, hci⟩ := i.step ch (fun _ => 64) (fun _ => hL) h0
      have hQc : (QM sp ch).ch = ch := rfl
      have hQk : (QM sp ch).kmax = fun _ => 64 := rfl
      have r2 := r.put_it hit hg hnn hw
      have hmem := (mem_unseen.1 hen).1
      obtain ⟨k, v, hkey, _, _⟩ := ents_key L 0 en hmem
      obtain ⟨q1, q2, q3, q4, q5, q6⟩ := r.ord
      have i2 : It s2 it m L (seen ++ [en.born]) := ⟨by rw [hg, get_put, beq_self_eq_true]; rfl, by rw [hg, get_put, beq_eq_false_iff_ne.2 (by omega : m ≠ it)]; exact i.hm⟩
      have hent := i2.entry hmem
      have hless := unseen_less hen
      rw [hkey] at hnx hent
      have hpv := c.out k
      have hcall := merge24_run (ch := ch) h24 h43 h16 r2.minw r2.mg ((c.pb k).pv r2.low) ((c.po k).pv r2.low) ((c.pt k).pv r2.low) (c.tame k)
      refine W.loop1 ?_
      unfold k9_l0
      refine W.sreg ?_
      unfold k9_r8
      simp only [WP_nil, WP_always, stepK_some, nth_set, p_extract, ev_tmp, evc_eq, retV_ok, retVS_some, Option.bind_some, clean_ptr, cond_true, beq_self_eq_true, true_and, Nat.reduceLT, p_next, h62, hQc, hQk, hnx, extractA, List.getElem?_cons_zero]
      refine W.seq (W.cond (t := true) (by simp only [ev_tmp, nth_set, Nat.reduceBEq, cond_true, cond_false, *]) (W.skip ?_))
      simp only [next_normal]
      refine W.block (W.sreg ?_)
      unfold k9_r9
      simp only [WP_nil, WP_always, stepK_some, nth_set, p_assign, p_extract, ev_tmp, evc_eq, retV_ok, Option.bind_some, clean_ptr, cond_true, cond_false, beq_self_eq_true, true_and, Nat.reduceBEq, Nat.reduceLT, p_entry, h62, hent, extractA, List.getElem?_cons_zero]
      refine W.seq (W.region (WL_split 2 ?_))
      unfold k9_r10
      simp only [WP_nil, WP_always, stepK_some, nth_set, p_move, ev_tmp, retV_ok, cond_true, cond_false, List.take, List.drop, beq_self_eq_true, true_and, Nat.reduceBEq, Nat.reduceLT, h8]
      refine WL_call (g := 24) (args := [.ptr x 0, .str k]) ?_ hcall (by decide) ?_
      · simp only [callee, nth_set, ev_tmp, ev_func, evc_eq, evcs_nil, evcs_cons, Option.bind_some, clean_str, clean_ptr, cond_true, cond_false, List.nil_append, List.cons_append, beq_self_eq_true, Nat.reduceBEq]
      refine WL_WP ?_
      simp only [WP_nil, WP_always, stepK_some, nth_set, p_assign, ev_tmp, retV_ok, cond_true, cond_false, beq_self_eq_true, true_and, Nat.reduceBEq, Nat.reduceLT, next_normal]
      have hfold : pickM (at_ k O) (at_ k T) (objAt k b) (objAt k o) (objAt k t) = outA O T b o t k := rfl
      rw [hfold]
      refine W.sreg ?_
      unfold k9_r11
      generalize hq : outO b o t k = qq at hpv
      generalize hv : outA O T b o t k = vv at hpv ⊢
      cases hpv with
      | nil =>
        simp only [WP_nil, WP_always, stepK_some, nth_set, p_move, p_bin, ev_tmp, ev_const, evc_eq, retV_ok, Option.bind_some, cond_true, cond_false, QM_P, beq_self_eq_true, true_and, Nat.reduceBEq, Nat.reduceLT, ofValue_nilp, clean_nilp, pq_nn]
        refine W.cond (t := false) (by simp only [ev_tmp, nth_set, Nat.reduceBEq, cond_true, cond_false, *]) (W.skip ?_)
        simp only [block_normal, next_normal]
        refine (ih (seen ++ [en.born]) _ s2 U (by omega) r2 i2 (by simp only [nth_set, Nat.reduceBEq, cond_false, *]) (by simp only [nth_set, Nat.reduceBEq, cond_false, *])).mono ?_
        rintro y fr s' ⟨rfl, e', rfl, ⟨g1, g2, g3, g4, g5⟩, U', r', u1, u2, u3, u4⟩
        refine ⟨rfl, e', rfl, ⟨g1.trans (by simp only [nth_set, Nat.reduceBEq, cond_false, *]), g2.trans (by simp only [nth_set, Nat.reduceBEq, cond_false, *]), g3.trans (by simp only [nth_set, Nat.reduceBEq, cond_false, *]), g4.trans (by simp only [nth_set, Nat.reduceBEq, cond_false, *]), g5.trans (by simp only [nth_set, Nat.reduceBEq, cond_false, *])⟩, U', r', u1, fun e2 he2 k2 hk2 ho2 => ?_, by omega, by omega⟩
        by_cases hb : e2.born = en.born
        · have h1 := findBorn_ents L 0 e2 (mem_unseen.1 he2).1
          have h2 := findBorn_ents L 0 en hmem
          rw [hb, h2] at h1
          replace h1 := Option.some.inj h1
          rw [← h1, hkey] at hk2
          replace hk2 := AVal.str.inj hk2
          subst hk2
          exact absurd hv ho2
        · exact u2 e2 (mem_unseen.2 ⟨(mem_unseen.1 he2).1, fun hc => by
            rcases List.mem_append.1 hc with hc | hc
            · exact (mem_unseen.1 he2).2 hc
            · exact hb (by simpa using hc)⟩) k2 hk2 ho2
      | at_ p1 p2 p3 =>
        rename_i p ob
        have hne : outA O T b o t k ≠ .nilp := by rw [hv]; intro hc; cases hc
        have hup := update_ents eq_9 mp_61 r2.mg.hu k (outA O T b o t k)
        have r3 := r2.put_mu hne
        rw [hv] at hup r3
        have i3 := i2.put_mu (mu := mu) (ob := some (.map (ents 0 (insM k (.ptr p 0) U)) (insM k (.ptr p 0) U).length)) (by omega) (by omega)
        have hx2 := r2.mg.hx
        simp only [WP_nil, WP_always, stepK_some, nth_set, p_move, p_bin, ev_tmp, ev_const, evc_eq, retV_ok, Option.bind_some, clean_ptr, cond_true, cond_false, QM_P, beq_self_eq_true, true_and, Nat.reduceBEq, Nat.reduceLT, ofValue_nilp, clean_nilp, pq_pn]
        refine W.cond (t := true) (by simp only [ev_tmp, nth_set, Nat.reduceBEq, cond_true, cond_false, *]) (W.reg ?_)
        unfold k9_r12
        simp only [WP_nil, WP_always, WP_always0, stepK_some, stepK0_some, nth_set, p_move, p_load, p_fieldAddr, p_update, p_nilCheck, ev_tmp, evc_eq, retV_ok, retS_some, Option.bind_some, clean_str, clean_ptr, clean_map, cond_true, cond_false, QM_P, List.drop, List.head?_cons, beq_self_eq_true, true_and, Nat.zero_add, Nat.reduceBEq, Nat.reduceLT, rd_61, fa_65_3_p, h8, nil_ptr, load_ptr, hx2, loadO_cells, hup, block_normal, next_normal]
        refine (ih (seen ++ [en.born]) _ _ (insM k (.ptr p 0) U) (by omega) r3 i3 (by simp only [nth_set, Nat.reduceBEq, cond_false, *]) (by simp only [nth_set, Nat.reduceBEq, cond_false, *])).mono ?_
        rintro y fr s' ⟨rfl, e', rfl, ⟨g1, g2, g3, g4, g5⟩, U', r', u1, u2, u3, u4⟩
        have hlen := ins_len k (.ptr p 0) U
        have u4 : s'.ci ≤ s2.ci + n := u4
        have hself : look k U' = some (.ptr p 0) := u1 k _ (by rw [look_ins, beq_self_eq_true]; rfl)
        refine ⟨rfl, e', rfl, ⟨g1.trans (by simp only [nth_set, Nat.reduceBEq, cond_false, *]), g2.trans (by simp only [nth_set, Nat.reduceBEq, cond_false, *]), g3.trans (by simp only [nth_set, Nat.reduceBEq, cond_false, *]), g4.trans (by simp only [nth_set, Nat.reduceBEq, cond_false, *]), g5.trans (by simp only [nth_set, Nat.reduceBEq, cond_false, *])⟩, U', r', fun j v hj => ?_, fun e2 he2 k2 hk2 ho2 => ?_, by omega, by omega⟩
        · cases hjk : j == k with
          | true =>
            have : j = k := by simpa using hjk
            subst this
            rw [(r.val j v hj).1, hv]; exact hself
          | false => exact u1 j v (by rw [look_ins, hjk]; exact hj)
        · by_cases hb : e2.born = en.born
          · have h1 := findBorn_ents L 0 e2 (mem_unseen.1 he2).1
            have h2 := findBorn_ents L 0 en hmem
            rw [hb, h2] at h1
            replace h1 := Option.some.inj h1
            rw [← h1, hkey] at hk2
            replace hk2 := AVal.str.inj hk2
            subst hk2
            rw [hv]; exact hself
          · exact u2 e2 (mem_unseen.2 ⟨(mem_unseen.1 he2).1, fun hc => by
              rcases List.mem_append.1 hc with hc | hc
              · exact (mem_unseen.1 he2).2 hc
              · exact hb (by simpa using hc)⟩) k2 hk2 ho2
end
end Go.Proofs.YtbfmdojdemckbaaGreat
/- merge.Merge: the loop over the three maps; merger.need where nothing is needed -/
namespace Go.Proofs.YtbfmdojdemckbaaGreat
open Go.Ag
theorem cells_map (n : Nat) : (AVal.map n).cells = [.map n] := rfl
theorem nthL_at {xs : List AVal} {i : Nat} {v : AVal} (h : xs[i]? = some v) : nthL xs i = v := by
  induction xs generalizing i with
  | nil => simp at h
  | cons a xs ih =>
    cases i with
    | zero => simp at h; subst h; rfl
    | succ i => exact ih (by simpa using h)
section
variable {sp : FuncId → Option (List AVal → Option AVal)} {ch : Nat → Nat} (h24 : sp 24 = none) (h43 : sp 43 = none) (h16 : sp 16 = some osameSp)
  {s1 : St} {x mb mo mt mu md : Nat} {B O T : List (Bytes × AVal)} {b o t : List Obj} (c : Ctx s1 mu B O T b o t)
include h24 h43 h16 c
theorem out_loop {lc : Ag.Loc} {ms : List (Nat × List (Bytes × AVal))} {rt : Right} (hsm : ms.length ≤ 1000) (hms : ∀ p ∈ ms, p.1 < mu ∧ p.2.length ≤ 64 ∧ s1.get [] p.1 = some (.map (ents 0 p.2) p.2.length)) : ∀ (rest pre : List (Nat × List (Bytes × AVal))) (e : Env) (s : St) (U : List (Bytes × AVal)), ms = pre ++ rest → Rs s1 s x mb mo mt mu md B O T U b o t →
    nth e 8 = .ptr x 0 → nth e 55 = .list 1 (ms.map fun p => .map p.1) rt → nth e 56 = .int .i64 (ms.length : Nat) → nth e 57 = .int .i64 (pre.length : Nat) →
    W (QM sp ch) 9 (.loop k9_l1) ⟨e, 132, lc⟩ s fun y fr s' => y = .exit 0 ∧ ∃ e', fr = ⟨e', 132, lc⟩ ∧ (nth e' 6 = nth e 6 ∧ nth e' 8 = nth e 8) ∧
      ∃ U', Rs s1 s' x mb mo mt mu md B O T U' b o t ∧ (∀ k v, look k U = some v → look k U' = some v) ∧ (∀ p ∈ rest, ∀ k v, (k, v) ∈ p.2 → outA O T b o t k ≠ .nilp → look k U' = some (outA O T b o t k)) ∧ U'.length ≤ U.length + 64 * rest.length ∧ s'.ci ≤ s.ci + 64 * rest.length := by
  intro rest
  induction rest with
  | nil =>
    intro pre e s U hpre r h8 h55 h56 h57
    have hl : ms.length = pre.length := by rw [hpre]; simp
    refine W.loop1 ?_
    unfold k9_l1
    refine W.sreg ?_
    unfold k9_r5
    simp only [WP_nil, WP_always, stepK_some, p_bin, ev_tmp, evc_eq, retV_ok, bi_lss, Option.bind_some, clean_int, cond_true, QM_P, List.length_nil, ilt_nat, true_and, Nat.add_zero, Nat.reduceLT, Nat.reduceMul, decide_false, h56, h57, hl, Nat.lt_irrefl]
    refine W.seq (W.cond (t := false) (by simp only [ev_tmp, nth_set, Nat.reduceBEq, cond_true, *]) ?_)
    exact W.exit ⟨rfl, _, rfl, ⟨by simp only [nth_set, Nat.reduceBEq, cond_false, *], by simp only [nth_set, Nat.reduceBEq, cond_false, *]⟩, U, r, fun _ _ h => h, (fun p hp => by cases hp), Nat.le_refl _, Nat.le_refl _⟩
  | cons p rest ih =>
    intro pre e s U hpre r h8 h55 h56 h57
    obtain ⟨m, L⟩ := p
    have hlt : pre.length < ms.length := by rw [hpre]; simp
    have hat : (ms.map fun p => AVal.map p.1)[pre.length]? = some (.map m) := by rw [hpre]; simp
    obtain ⟨hm, hL, hs⟩ := hms (m, L) (by rw [hpre]; simp)
    have hm : m < mu := hm
    have hL : L.length ≤ 64 := hL
    have hs : s.get [] m = some (.map (ents 0 L) L.length) := (r.low m hm).trans hs
    have hr := range_61 hs
    have hn := nthL_at hat
    have hwr : IntKind.i64.wrap ((pre.length : Int) + 1) = ((pre.length + 1 : Nat) : Int) := by rw [wrap64_small (by omega) (by omega)]; omega
    obtain ⟨o1, o2, o3, o4, o5, o6⟩ := r.ord
    have hg2 : ∀ n, n < s.next → (s.new (.iter (some m) L.length [] L.length)).get [] n = s.get [] n := fun n h => by
      rw [get_new, beq_eq_false_iff_ne.2 (by omega : n ≠ s.next)]; rfl
    have r2 : Rs s1 (s.new (.iter (some m) L.length [] L.length)) x mb mo mt mu md B O T U b o t := by
      refine ⟨⟨?_, ?_, ?_, ?_, ?_, ?_⟩, fun n h => ?_, Nat.le_succ_of_le r.minw, ⟨o1, o2, o3, o4, o5, Nat.lt_succ_of_lt o6⟩, r.val, r.nd⟩
      · rw [hg2 _ (by omega)]; exact r.mg.hx
      · rw [hg2 _ (by omega)]; exact r.mg.hb
      · rw [hg2 _ (by omega)]; exact r.mg.ho
      · rw [hg2 _ (by omega)]; exact r.mg.ht
      · rw [hg2 _ (by omega)]; exact r.mg.hu
      · rw [hg2 _ (by omega)]; exact r.mg.hd
      · rw [hg2 _ (by omega)]; exact r.low n h
    have i2 : It (s.new (.iter (some m) L.length [] L.length)) s.next m L [] := ⟨by rw [get_new, beq_self_eq_true]; rfl, by rw [hg2 _ (by omega)]; exact hs⟩
    have hun : ∀ es : List Ent, unseen [] es = es := fun es => by simp [unseen]
    have hel : ∀ (L : List (Bytes × AVal)) n, (ents n L).length = L.length := by
      intro L
      induction L with
      | nil => intro n; rfl
      | cons x L ih => intro n; obtain ⟨a, v⟩ := x; simp only [ents, List.length_cons, ih]
    refine W.loop1 ?_
    unfold k9_l1
    refine W.sreg ?_
    unfold k9_r5
    simp only [WP_nil, WP_always, stepK_some, p_bin, ev_tmp, evc_eq, retV_ok, bi_lss, Option.bind_some, clean_int, cond_true, QM_P, List.length_cons, ilt_nat, true_and, Nat.reduceLT, decide_true, h56, h57, hlt]
    refine W.seq (W.cond (t := true) (by simp only [ev_tmp, nth_set, Nat.reduceBEq, cond_true, *]) (W.skip ?_))
    simp only [next_normal]
    refine W.seq (W.block (W.sreg ?_))
    unfold k9_r6
    simp only [WP_nil, WP_always, stepK_some, nth_set, p_assign, p_load, p_indexAddr, ev_tmp, load_ro, natOf_cast, retV_ok, Option.bind_some, cond_true, cond_false, QM_P, List.drop, List.head?_cons, beq_self_eq_true, true_and, Nat.reduceBEq, Nat.reduceLT, Bool.true_and, nat_beq, nat_blt, decide_true, rd_61, ia_66_l, h55, h57, List.length_map, hlt, hn, cells_map]
    refine W.sreg ?_
    unfold k9_r7
    simp only [WP_nil, WP_always, stepK_some, nth_set, p_move, ev_tmp, evc_eq, retV_ok, retVS_some, Option.bind_some, clean_map, cond_true, cond_false, QM_P, beq_self_eq_true, true_and, Nat.reduceBEq, Nat.reduceLT, p_range, hr]
    refine W.block ?_
    refine (in_loop h24 h43 h16 c hL (it := s.next) o6 hm 64 [] _ _ U (by rw [hun, hel]; exact hL) r2 i2 (by simp only [nth_set, Nat.reduceBEq, cond_true, cond_false, *]) (by simp only [nth_set, Nat.reduceBEq, cond_false, *])).mono ?_
    rintro y fr s' ⟨rfl, e', rfl, ⟨g1, g2, g3, g4, g5⟩, U', r', u1, u2, u3, u4⟩
    have g1 : nth e' 6 = nth e 6 := g1.trans (by simp only [nth_set, Nat.reduceBEq, cond_false, *])
    have g2 : nth e' 8 = .ptr x 0 := g2.trans (by simp only [nth_set, Nat.reduceBEq, cond_false, *])
    have g3 : nth e' 55 = .list 1 (ms.map fun p => .map p.1) rt := g3.trans (by simp only [nth_set, Nat.reduceBEq, cond_false, *])
    have g4 : nth e' 56 = .int .i64 (ms.length : Nat) := g4.trans (by simp only [nth_set, Nat.reduceBEq, cond_false, *])
    have g5 : nth e' 57 = .int .i64 (pre.length : Nat) := g5.trans (by simp only [nth_set, Nat.reduceBEq, cond_false, *])
    show W (QM sp ch) 9 _ _ _ _
    refine W.reg ?_
    unfold k9_r13
    simp only [WP_nil, WP_always, stepK_some, nth_set, p_move, p_bin, ev_tmp, ev_const, evc_eq, ofValue_int, retV_ok, bi_add, Option.bind_some, clean_int, cond_true, QM_P, beq_self_eq_true, true_and, Nat.reduceLT, g5, hwr, next_normal]
    refine (ih (pre ++ [(m, L)]) _ s' U' (by rw [hpre]; simp) r' (by simp only [nth_set, Nat.reduceBEq, cond_false, *]) (by simp only [nth_set, Nat.reduceBEq, cond_false, *]) (by simp only [nth_set, Nat.reduceBEq, cond_false, *]) (by simp only [nth_set, Nat.reduceBEq, cond_true, cond_false, List.length_append, List.length_cons, List.length_nil])).mono ?_
    rintro y fr s'' ⟨rfl, e'', rfl, ⟨q1, q2⟩, U'', r'', w1, w2, w3, w4⟩
    refine ⟨rfl, e'', rfl, ⟨q1.trans ?_, q2.trans ?_⟩, U'', r'', fun k v h => w1 k v (u1 k v h), fun p hp k v hkv ho => ?_, by first | omega | (simp only [List.length_cons]; omega), ?_⟩
    · simp only [nth_set, Nat.reduceBEq, cond_false, g1]
    · simp only [nth_set, Nat.reduceBEq, cond_false, g2, h8]
    rotate_left
    · have u4 : s'.ci ≤ s.ci + 64 := u4
      first | omega | (simp only [List.length_cons]; omega)
    · rcases List.mem_cons.1 hp with rfl | hp
      · obtain ⟨en, h1, h2⟩ := ents_mem L 0 k v hkv
        exact w1 k _ (u2 en (by rw [hun]; exact h1) k h2 ho)
      · exact w2 p hp k v hkv ho
end
section
variable {sp : FuncId → Option (List AVal → Option AVal)} {ch : Nat → Nat}
theorem need_loop {s : St} {x mb mo mt mu md : Nat} {B O T U : List (Bytes × AVal)} (M : Mg s x mb mo mt mu md B O T U) {ob : Obj} (hg : ob.Good) (hr : ∀ r ∈ ob.refs, ∃ p, at_ r U = .ptr p 0) {lc : Ag.Loc} : ∀ (rest pre : List Bytes) (e : Env), ob.refs = pre ++ rest →
    nth e 0 = .ptr x 0 → nth e 10 = ob.refsV → nth e 11 = .int .i64 (ob.refs.length : Nat) → nth e 12 = .int .i64 (pre.length : Nat) →
    W (QM sp ch) 27 (.loop k27_l0) ⟨e, 59, lc⟩ s fun y _fr s' => s' = s ∧ y = .exit 0 := by
  intro rest
  have hcl := hg.refs.clean
  have hsm : small = 9223372036854775808 := rfl
  have hrl := hg.reflen
  induction rest with
  | nil =>
    intro pre e hpre h0 h10 h11 h12
    have hl : ob.refs.length = pre.length := by rw [hpre]; simp
    refine W.loop1 ?_
    unfold k27_l0
    refine W.sreg ?_
    unfold k27_r1
    simp only [WP_nil, WP_always, stepK_some, p_bin, ev_tmp, evc_eq, retV_ok, bi_lss, Option.bind_some, clean_int, cond_true, QM_P, ilt_nat, true_and, Nat.reduceLT, decide_false, h11, h12, hl, Nat.lt_irrefl]
    refine W.seq (W.cond (t := false) (by simp only [ev_tmp, nth_set, Nat.reduceBEq, cond_true, *]) ?_)
    exact W.exit ⟨rfl, rfl⟩
  | cons r rest ih =>
    intro pre e hpre h0 h10 h11 h12
    have hlt : pre.length < ob.refs.length := by rw [hpre]; simp
    have hat : ob.refs[pre.length]? = some r := by rw [hpre]; simp
    have hia := fun lc => hg.refs.at ia_37_l hat lc .i64
    obtain ⟨p, hp⟩ := hr r (by rw [hpre]; simp)
    have hlk := look_61 M.hu r
    rw [hp] at hlk
    have hx := M.hx
    have hwr : IntKind.i64.wrap ((pre.length : Int) + 1) = ((pre.length + 1 : Nat) : Int) := by rw [wrap64_small (by omega) (by omega)]; omega
    refine W.loop1 ?_
    unfold k27_l0
    refine W.sreg ?_
    unfold k27_r1
    simp only [WP_nil, WP_always, stepK_some, p_bin, ev_tmp, evc_eq, retV_ok, bi_lss, Option.bind_some, clean_int, cond_true, QM_P, ilt_nat, true_and, Nat.reduceLT, decide_true, h11, h12, hlt]
    refine W.seq (W.cond (t := true) (by simp only [ev_tmp, nth_set, Nat.reduceBEq, cond_true, *]) (W.skip ?_))
    simp only [next_normal]
    refine W.seq (W.block (W.sreg ?_))
    unfold k27_r2
    simp only [WP_nil, WP_always, stepK_some, nth_set, p_assign, p_load, p_indexAddr, ev_tmp, load_ro, retV_ok, cells_str, Option.bind_some, cond_true, cond_false, QM_P, List.drop, List.head?_cons, beq_self_eq_true, true_and, Nat.reduceBEq, Nat.reduceLT, rd_9, h10, h12, hia, strV]
    refine W.seq (W.sseq (W.reg ?_))
    unfold k27_r3
    simp only [WP_nil, WP_always, stepK_some, nth_set, p_move, p_load, p_bin, p_fieldAddr, p_lookup, p_nilCheck, ev_tmp, ev_const, evc_eq, retV_ok, Option.bind_some, clean_str, clean_ptr, clean_map, cond_true, cond_false, QM_P, List.drop, List.head?_cons, beq_self_eq_true, true_and, Nat.zero_add, Nat.reduceBEq, Nat.reduceLT, rd_61, fa_65_3_p, h0, nil_ptr, load_ptr, hx, loadO_cells, hlk, ofValue_nilp, clean_nilp, pq_pn, next_normal]
    refine W.cond (t := true) (by simp only [ev_tmp, nth_set, Nat.reduceBEq, cond_true, cond_false, *]) (W.exit ?_)
    show W (QM sp ch) 27 _ _ _ _
    refine W.reg ?_
    unfold k27_r11
    simp only [WP_nil, WP_always, stepK_some, nth_set, p_move, p_bin, ev_tmp, ev_const, evc_eq, ofValue_int, retV_ok, bi_add, Option.bind_some, clean_int, cond_true, cond_false, QM_P, beq_self_eq_true, true_and, Nat.reduceBEq, Nat.reduceLT, h12, hwr, next_normal]
    exact ih (pre ++ [r]) _ (by rw [hpre]; simp) (by simp only [nth_set, Nat.reduceBEq, cond_false, *]) (by simp only [nth_set, Nat.reduceBEq, cond_false, *]) (by simp only [nth_set, Nat.reduceBEq, cond_false, *]) (by simp only [nth_set, Nat.reduceBEq, cond_true, cond_false, List.length_append, List.length_cons, List.length_nil])
theorem need_run (h27 : sp 27 = none) {s : St} {x mb mo mt mu md p : Nat} {B O T U : List (Bytes × AVal)} (M : Mg s x mb mo mt mu md B O T U) {ob : Obj} (hg : ob.Good) (hp : s.get [] p = some (.cells ob.cells)) (hr : ∀ r ∈ ob.refs, ∃ p, at_ r U = .ptr p 0) :
    RunC (QM sp ch) 27 [.ptr x 0, .ptr p 0] s (packA []) s := by
  have hcl := hg.refs.clean
  have hlen := fun mk s => hg.refs.len ln_37_n ln_37_l mk s
  simp only [Obj.cells] at hp
  refine RunC.of2 k27_func k27_code k27_tmps k27_res h27 ?_
  unfold k27
  refine W.sreg ?_
  unfold k27_r0
  simp only [frame0, ofArgs, WP_nil, WP_always, stepK_some, nth_set, p_move, p_load, p_fieldAddr, p_nilCheck, p_builtin, ev_tmp, ev_const, evc_eq, evcs_nil, evcs_cons, ofValue_int, retV_ok, retVS_some, bl_len, hintOf_some, Option.bind_some, cond_true, cond_false, QM_P, QM_hint, List.length_cons, List.length_nil, List.drop, List.head?_cons, beq_self_eq_true, true_and, Nat.zero_add, Nat.reduceBEq, Nat.reduceLT, Nat.reduceAdd, Nat.reduceLeDiff, nat_beq, nat_ble, decide_true, rd_37, fa_40_3_p, hint_27_11, nil_ptr, load_ptr, hp, loadO_cells, hcl, hlen]
  refine W.block ?_
  refine (need_loop M hg hr ob.refs [] _ rfl (by simp only [nth_set, Nat.reduceBEq, cond_true, cond_false, *]) (by simp only [nth_set, Nat.reduceBEq, cond_true, cond_false, *]) (by simp only [nth_set, Nat.reduceBEq, cond_true, cond_false, *]) (by simp only [nth_set, Nat.reduceBEq, cond_true, cond_false]; rfl)).mono ?_
  rintro y fr s' ⟨rfl, rfl⟩
  exact ⟨rfl, .inl rfl, [], rfl, rfl⟩
end
end Go.Proofs.YtbfmdojdemckbaaGreat
