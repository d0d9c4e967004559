/- Contracts of planisphereref11.Valid, planisphereref12.Valid, planisphereref21.Closed. -/
import Derived.Test.YtbfmdojdemckbaaGreatZ5
/- planisphereref11.refs, Valid -/
namespace Go.Proofs.YtbfmdojdemckbaaGreat
open Go.Ag

def prevIs (p : Option Bytes) (k : Bytes) : Bool := match p with | none => false | some p => p == k
def rBad (kind : Int) (p : Option Bytes) (seen : List Bytes) (r : Bytes) : Bool := !nameOk r || (ieq kind 2 && prevIs p r) || (ieq kind 3 && seen.contains r)
def rRefs (kind : Int) : Option Bytes → List Bytes → List Bytes → Bool
  | _, _, [] => true
  | p, seen, r :: l => bif rBad kind p seen r then false else rRefs kind (some r) (addK r seen) l
def countOk (kind : Int) (n : Nat) : Bool := bif ieq kind 1 then n == 0 else bif ieq kind 2 then decide (2 ≤ n) else bif ieq kind 3 then decide (3 ≤ n) else bif ieq kind 4 then decide (1 ≤ n) else n == 3
def refsOk (o : Obj) : Bool := bif decide (2000 < o.refs.length) then false else bif rRefs o.kind none [] o.refs then countOk o.kind o.refs.length else false
def PrevR (pre : List Bytes) (p : Option Bytes) : Prop := (pre = [] ∧ p = none) ∨ ∃ q t, pre = q ++ [t] ∧ p = some t

theorem top_get (s : St) (mk : Mask) (n : Nat) : s.top.get mk n = s.get mk n := rfl

structure RefI (o : Obj) (n m : Nat) (e : Env) (lc : Ag.Loc) : Prop where
  h1 : nth e 1 = .lref 1 1 0
  g1 : lc.gen 1 = 1
  b1 : lc.get 1 1 = some o.cells
  h3 : nth e 3 = .int .i64 (n : Nat)
  h4 : nth e 4 = .map m

section
variable {sp : FuncId → Option (List AVal → Option AVal)} (h85 : sp 85 = some nameSp)
include h85
theorem r11_loop {o : Obj} (ho : o.Ok) {m : Nat} {lc : Ag.Loc} : ∀ (rest pre : List Bytes) (e : Env) (s : St) (p : Option Bytes) (seen : List Bytes), o.refs = pre ++ rest → PrevR pre p → s.minw ≤ s.next → m < s.next → s.ci = 0 →
    s.get [] m = some (.map (ents 0 (setM seen)) (setM seen).length) → RefI o o.refs.length m e lc → nth e 5 = .int .i64 (pre.length : Nat) →
    W (QS sp) 88 (.loop k88_l0) ⟨e, 87, lc⟩ s fun x fr s' => s'.ci = 0 ∧ ((x = .exit 0 ∧ (∃ e', fr = ⟨e', 87, lc⟩ ∧ RefI o o.refs.length m e' lc) ∧ rRefs o.kind p seen rest = true) ∨ (x = .ret ∧ nth fr.env 2 = .bool false ∧ rRefs o.kind p seen rest = false)) := by
  intro rest
  have hcl := ho.refs.clean
  have hsm : small = 9223372036854775808 := rfl
  have hrl := ho.reflen
  induction rest with
  | nil =>
    intro pre e s p seen hpre hp hm hmn hci hs I h5
    obtain ⟨h1, g1, b1, h3, h4⟩ := I
    have hlen' : o.refs.length = pre.length := by rw [hpre]; simp
    refine W.loop1 ?_
    unfold k88_l0
    refine W.seq (W.sreg ?_)
    unfold k88_r6
    simp only [WP_nil, WP_always, stepK_some, nth_set, p_move, p_bin, ev_tmp, evc_eq, retV_ok, bi_lss, Option.bind_some, clean_int, cond_true, cond_false, QS_P, ilt_nat, beq_self_eq_true, true_and, Nat.reduceBEq, Nat.reduceLT, decide_false, h3, h5, hlen', Nat.lt_irrefl]
    refine W.cond (t := false) (by simp only [ev_tmp, nth_set, Nat.reduceBEq, cond_true, cond_false, *]) ?_
    refine W.exit ⟨hci, .inl ⟨rfl, ⟨_, rfl, ⟨?_, g1, b1, ?_, ?_⟩⟩, rfl⟩⟩
    · simp only [nth_set, Nat.reduceBEq, cond_false, *]
    · simp only [nth_set, Nat.reduceBEq, cond_false, h3, hlen']
    · simp only [nth_set, Nat.reduceBEq, cond_false, *]
  | cons r rest ih =>
    intro pre e s p seen hpre hp hm hmn hci hs I h5
    obtain ⟨h1, g1, b1, h3, h4⟩ := I
    have hlt : pre.length < o.refs.length := by rw [hpre]; simp
    have hat : o.refs[pre.length]? = some r := by rw [hpre]; simp
    have hia := fun lc => ho.refs.at ia_37_l hat lc .i64
    have hns := nameSp_str (ho.ref r (List.mem_of_getElem? hat))
    have hwr : IntKind.i64.wrap ((pre.length : Int) + 1) = ((pre.length + 1 : Nat) : Int) := by rw [wrap64_small (by omega) (by omega)]; omega
    have hlk : lookupA Tryz.prog [] 109 (.map m) (.str r) false s.top = some (.bool (seen.contains r)) := by
      have := lookup_ents eq_9 mp_109 zr_4 (s := s.top) (m := m) hs r
      rwa [look_setD] at this
    have hup := update_ents eq_9 mp_109 hs r (.bool true)
    rw [ins_set] at hup
    refine W.loop1 ?_
    unfold k88_l0
    refine W.seq (W.sreg ?_)
    unfold k88_r6
    simp only [WP_nil, WP_always, stepK_some, nth_set, p_move, p_bin, ev_tmp, evc_eq, retV_ok, bi_lss, Option.bind_some, clean_int, cond_true, cond_false, QS_P, ilt_nat, beq_self_eq_true, true_and, Nat.reduceBEq, Nat.reduceLT, decide_true, h3, h5, hlt]
    refine W.cond (t := true) (by simp only [ev_tmp, nth_set, Nat.reduceBEq, cond_true, cond_false, *]) (W.skip ?_)
    simp only [next_normal]
    refine W.seq (W.block (W.seq (W.sdrawQ hm ?_)))
    unfold k88_r8
    have fin : ∀ e' lc' (K : Ex → Fr → St → Prop) N, nth e' 60 = .bool true → (∀ fr, nth fr.env 2 = .bool false → K .ret fr s) → W (QS sp) 88 (.cond (Operand.tmp 60) (.seq (.region k88_r9) .ret) .skip) ⟨e', 87, lc'⟩ s (Ex.next K N) := by
      intro e' lc' K N h hk
      refine W.cond (t := true) (by simp only [ev_tmp, h]) (W.sreg ?_)
      unfold k88_r9
      simp only [WP_nil, WP_always, stepK_some, p_assign, ev_const, ofValue_bool, retV_ok, true_and, Nat.reduceLT]
      exact W.ret (hk _ (by simp only [nth_set, Nat.reduceBEq, cond_true, *]))
    have good : ∀ e' (K : Ex → Fr → St → Prop), nth e' 60 = .bool false → nth e' 1 = .lref 1 1 0 → nth e' 3 = .int .i64 (o.refs.length : Nat) → nth e' 4 = .map m → nth e' 5 = .int .i64 (pre.length : Nat) →
        (∀ e'', RefI o o.refs.length m e'' lc → nth e'' 5 = .int .i64 (pre.length : Nat) → K .normal ⟨e'', 87, lc⟩ (s.put m (some (.map (ents 0 (setM (addK r seen))) (setM (addK r seen)).length)))) →
        W (QS sp) 88 (.cond (Operand.tmp 60) (.seq (.region k88_r9) .ret) .skip) ⟨e', 87, lc⟩ s (Ex.next K fun fr s => W (QS sp) 88 (.region k88_r10) fr s K) := by
      intro e' K h60 h1' h3' h4' h5' hk
      refine W.cond (t := false) (by simp only [ev_tmp, h60]) (W.skip ?_)
      simp only [next_normal]
      refine W.reg ?_
      unfold k88_r10
      simp only [WP_nil, WP_always, WP_always0, stepK_some, stepK0_some, nth_set, p_move, p_load, p_fieldAddr, p_indexAddr, p_update, ev_tmp, ev_const, evc_eq, ofValue_bool, load_loc, load_ro, retV_ok, retS_some, cells_str, Option.bind_some, clean_bool, clean_str, clean_map, cond_true, cond_false, QS_P, List.drop, List.head?_cons, beq_self_eq_true, true_and, Nat.zero_add, Nat.reduceBEq, Nat.reduceLT, nat_beq, rd_9, rd_37, fa_40_3_l, h1', h4', h5', g1, b1, Obj.cells, hia, strV, hup]
      refine hk _ ⟨?_, g1, b1, ?_, ?_⟩ ?_ <;> simp only [nth_set, Nat.reduceBEq, cond_false, *]
    have step : ∀ e'', rBad o.kind p seen r = false → RefI o o.refs.length m e'' lc → nth e'' 5 = .int .i64 (pre.length : Nat) →
        W (QS sp) 88 (.region k88_r7) ⟨e'', 87, lc⟩ (s.put m (some (.map (ents 0 (setM (addK r seen))) (setM (addK r seen)).length))) (Ex.next (fun x fr s' => s'.ci = 0 ∧ ((x = .exit 0 ∧ (∃ e', fr = ⟨e', 87, lc⟩ ∧ RefI o o.refs.length m e' lc) ∧ rRefs o.kind p seen (r :: rest) = true) ∨ (x = .ret ∧ nth fr.env 2 = .bool false ∧ rRefs o.kind p seen (r :: rest) = false))) fun fr s => W (QS sp) 88 (.loop k88_l0) fr s (fun x fr s' => s'.ci = 0 ∧ ((x = .exit 0 ∧ (∃ e', fr = ⟨e', 87, lc⟩ ∧ RefI o o.refs.length m e' lc) ∧ rRefs o.kind p seen (r :: rest) = true) ∨ (x = .ret ∧ nth fr.env 2 = .bool false ∧ rRefs o.kind p seen (r :: rest) = false)))) := by
      intro e'' hbad I h5'
      obtain ⟨h1', _, _, h3', h4'⟩ := I
      refine W.reg ?_
      unfold k88_r7
      simp only [WP_nil, WP_always, stepK_some, nth_set, p_move, p_assign, p_bin, ev_tmp, ev_const, evc_eq, ofValue_int, retV_ok, bi_add, Option.bind_some, clean_int, cond_true, cond_false, QS_P, beq_self_eq_true, true_and, Nat.reduceBEq, Nat.reduceLT, h5', hwr, next_normal]
      have hms : (s.put m (some (.map (ents 0 (setM (addK r seen))) (setM (addK r seen)).length))).minw ≤ (s.put m (some (.map (ents 0 (setM (addK r seen))) (setM (addK r seen)).length))).next := by
        show (bif Nat.ble s.minw m then s.minw else m) ≤ s.next
        cases Nat.ble s.minw m
        · exact Nat.le_of_lt hmn
        · exact hm
      refine (ih (pre ++ [r]) _ _ (some r) (addK r seen) (by rw [hpre]; simp) (.inr ⟨pre, r, rfl, rfl⟩) hms hmn hci (by rw [get_put]; simp only [beq_self_eq_true, cond_true]) ⟨?_, g1, b1, ?_, ?_⟩ ?_).mono ?_
      · simp only [nth_set, Nat.reduceBEq, cond_false, *]
      · simp only [nth_set, Nat.reduceBEq, cond_false, *]
      · simp only [nth_set, Nat.reduceBEq, cond_false, *]
      · simp only [nth_set, Nat.reduceBEq, cond_true, cond_false, List.length_append, List.length_cons, List.length_nil]
      · simp only [rRefs, hbad, cond_false]
        exact fun _ _ _ h => h
    cases hb1 : nameOk r with
    | false =>
      simp only [WQ_nil, WQ_always, WQ_when, stepQ_some, whenQ_false, isStore, wantV_tf, wantV_undef, nth_set, p_move, p_pick, p_load, p_un, p_fieldAddr, p_indexAddr, p_call, callee_func, ev_tmp, ev_const, evc_eq, evcs_nil, evcs_cons, ofValue_bool, load_loc, load_ro, pick_eq, pickV_true, retV_ok, un_not, cells_str, Option.bind_some, clean_bool, clean_str, cond_true, cond_false, QS_P, QS_spec, List.drop, List.head?_cons, Bool.not_false, beq_self_eq_true, true_and, Nat.zero_add, Nat.reduceBEq, Nat.reduceLT, nat_beq, rd_9, rd_37, fa_40_3_l, h1, g1, b1, h5, Obj.cells, hia, strV, h85, hns, hb1]
      refine fin _ _ _ _ (by simp only [nth_set, Nat.reduceBEq, cond_true, cond_false, *]) fun fr h => ?_
      exact ⟨hci, .inr ⟨rfl, h, by simp only [rRefs, rBad, hb1, Bool.not_false, Bool.true_or, cond_true]⟩⟩
    | true =>
    cases hk2 : ieq o.kind 2 with
    | true =>
      have hk3 : ieq o.kind 3 = false := by
        have : o.kind = 2 := by simpa [ieq] using hk2
        rw [this]; rfl
      rcases hp with ⟨rfl, rfl⟩ | ⟨q, u, rfl, rfl⟩
      · have hi3 : ilt 0 ((0 : Nat) : Int) = false := rfl
        have h5' := h5
        simp only [List.length_nil] at h5 hia
        simp only [WQ_nil, WQ_always, WQ_when, stepQ_some, whenQ_true, whenQ_false, isStore, wantV_tt, wantV_ft, wantV_ff, nth_set, p_move, p_pick, p_load, p_bin, p_un, p_fieldAddr, p_indexAddr, p_call, callee_func, ev_tmp, ev_const, evc_eq, evcs_nil, evcs_cons, ofValue_bool, ofValue_int, load_loc, load_ro, pick_eq, pickV_true, pickV_false, retV_ok, bi_gtr, bi_eql, un_not, cells_str, Option.bind_some, clean_bool, clean_int, clean_str, cond_true, cond_false, QS_P, QS_spec, List.length_nil, List.drop, List.head?_cons, Bool.not_true, beq_self_eq_true, true_and, Nat.zero_add, Nat.reduceBEq, Nat.reduceLT, nat_beq, rd_3, rd_9, rd_37, fa_40_1_l, fa_40_3_l, h1, g1, b1, h5, Obj.cells, hia, strV, h85, hns, hb1, hk2, hk3, hi3]
        refine good _ _ ?_ ?_ ?_ ?_ ?_ fun e'' I h5'' => ?_
        · simp only [nth_set, Nat.reduceBEq, cond_true, cond_false, *]
        · simp only [nth_set, Nat.reduceBEq, cond_false, *]
        · simp only [nth_set, Nat.reduceBEq, cond_false, *]
        · simp only [nth_set, Nat.reduceBEq, cond_false, *]
        · simp only [nth_set, Nat.reduceBEq, cond_false]; exact h5'
        simp only [block_normal, next_normal]
        exact step e'' (by simp only [rBad, prevIs, hb1, hk2, hk3, Bool.not_true, Bool.and_false, Bool.or_false, Bool.false_and]) I h5''
      · have hat2 : o.refs[q.length]? = some u := by rw [hpre]; simp
        have hia2 := fun lc => ho.refs.at ia_37_l hat2 lc .i64
        have hws : IntKind.i64.wrap (((q ++ [u]).length : Int) - 1) = ((q.length : Nat) : Int) := by
          have : (q ++ [u]).length = q.length + 1 := by simp
          rw [this, wrap64_small (by omega) (by omega)]; omega
        have hi4 : ilt 0 ((q ++ [u]).length : Nat) = true := by rw [show (0 : Int) = ((0 : Nat) : Int) from rfl, ilt_nat]; simp
        cases hb4 : u == r with
        | true =>
          simp only [WQ_nil, WQ_always, WQ_when, stepQ_some, whenQ_true, whenQ_false, isStore, wantV_tt, wantV_tf, wantV_ff, wantV_undef, nth_set, p_move, p_pick, p_load, p_bin, p_un, p_fieldAddr, p_indexAddr, p_call, callee_func, ev_tmp, ev_const, evc_eq, evcs_nil, evcs_cons, ofValue_bool, ofValue_int, load_loc, load_ro, pick_eq, pickV_true, pickV_false, retV_ok, bi_gtr, bi_eql, bi_sub, bs_eql, un_not, cells_str, Option.bind_some, clean_bool, clean_int, clean_str, cond_true, cond_false, QS_P, QS_spec, List.drop, List.head?_cons, Bool.not_true, beq_self_eq_true, true_and, Nat.zero_add, Nat.reduceBEq, Nat.reduceLT, nat_beq, rd_3, rd_9, rd_37, fa_40_1_l, fa_40_3_l, h1, g1, b1, h5, Obj.cells, hia, hia2, hws, strV, h85, hns, hb1, hk2, hi4, hb4]
          refine fin _ _ _ _ (by simp only [nth_set, Nat.reduceBEq, cond_true, cond_false, *]) fun fr h => ?_
          exact ⟨hci, .inr ⟨rfl, h, by simp only [rRefs, rBad, prevIs, hb1, hk2, hb4, Bool.not_true, Bool.and_self, Bool.or_true, Bool.true_or, cond_true]⟩⟩
        | false =>
          simp only [WQ_nil, WQ_always, WQ_when, stepQ_some, whenQ_true, whenQ_false, isStore, wantV_tt, wantV_ft, wantV_ff, nth_set, p_move, p_pick, p_load, p_bin, p_un, p_fieldAddr, p_indexAddr, p_call, callee_func, ev_tmp, ev_const, evc_eq, evcs_nil, evcs_cons, ofValue_bool, ofValue_int, load_loc, load_ro, pick_eq, pickV_true, pickV_false, retV_ok, bi_gtr, bi_eql, bi_sub, bs_eql, un_not, cells_str, Option.bind_some, clean_bool, clean_int, clean_str, cond_true, cond_false, QS_P, QS_spec, List.drop, List.head?_cons, Bool.not_true, beq_self_eq_true, true_and, Nat.zero_add, Nat.reduceBEq, Nat.reduceLT, nat_beq, rd_3, rd_9, rd_37, fa_40_1_l, fa_40_3_l, h1, g1, b1, h5, Obj.cells, hia, hia2, hws, strV, h85, hns, hb1, hk2, hk3, hi4, hb4]
          refine good _ _ ?_ ?_ ?_ ?_ ?_ fun e'' I h5'' => ?_
          · simp only [nth_set, Nat.reduceBEq, cond_true, cond_false, *]
          · simp only [nth_set, Nat.reduceBEq, cond_false, *]
          · simp only [nth_set, Nat.reduceBEq, cond_false, *]
          · simp only [nth_set, Nat.reduceBEq, cond_false, *]
          · simp only [nth_set, Nat.reduceBEq, cond_false, *]
          simp only [block_normal, next_normal]
          exact step e'' (by simp only [rBad, prevIs, hb1, hk2, hk3, hb4, Bool.not_true, Bool.and_false, Bool.or_false, Bool.false_and]) I h5''
    | false =>
      cases hk3 : ieq o.kind 3 with
      | false =>
        simp only [WQ_nil, WQ_always, WQ_when, stepQ_some, whenQ_true, whenQ_false, isStore, wantV_ft, wantV_ff, nth_set, p_move, p_pick, p_load, p_bin, p_un, p_fieldAddr, p_indexAddr, p_call, callee_func, ev_tmp, ev_const, evc_eq, evcs_nil, evcs_cons, ofValue_bool, ofValue_int, load_loc, load_ro, pick_eq, pickV_false, retV_ok, bi_eql, un_not, cells_str, Option.bind_some, clean_bool, clean_int, clean_str, cond_true, cond_false, QS_P, QS_spec, List.drop, List.head?_cons, Bool.not_true, beq_self_eq_true, true_and, Nat.zero_add, Nat.reduceBEq, Nat.reduceLT, nat_beq, rd_3, rd_9, rd_37, fa_40_1_l, fa_40_3_l, h1, g1, b1, h5, Obj.cells, hia, strV, h85, hns, hb1, hk2, hk3]
        refine good _ _ ?_ ?_ ?_ ?_ ?_ fun e'' I h5'' => ?_
        · simp only [nth_set, Nat.reduceBEq, cond_true, cond_false, *]
        · simp only [nth_set, Nat.reduceBEq, cond_false, *]
        · simp only [nth_set, Nat.reduceBEq, cond_false, *]
        · simp only [nth_set, Nat.reduceBEq, cond_false, *]
        · simp only [nth_set, Nat.reduceBEq, cond_false, *]
        simp only [block_normal, next_normal]
        exact step e'' (by simp only [rBad, hb1, hk2, hk3, Bool.not_true, Bool.or_false, Bool.false_and]) I h5''
      | true =>
        simp only [WQ_nil, WQ_always, WQ_when, stepQ_some, whenQ_true, whenQ_false, isStore, wantV_tt, wantV_ft, wantV_ff, nth_set, p_move, p_pick, p_load, p_bin, p_un, p_fieldAddr, p_indexAddr, p_lookup, p_call, callee_func, ev_tmp, ev_const, evc_eq, evcs_nil, evcs_cons, ofValue_bool, ofValue_int, load_loc, load_ro, pick_eq, pickV_true, pickV_false, retV_ok, bi_eql, un_not, cells_str, Option.bind_some, clean_bool, clean_int, clean_str, clean_map, cond_true, cond_false, QS_P, QS_spec, List.drop, List.head?_cons, Bool.not_true, beq_self_eq_true, true_and, Nat.zero_add, Nat.reduceBEq, Nat.reduceLT, nat_beq, rd_3, rd_9, rd_37, fa_40_1_l, fa_40_3_l, h1, g1, b1, h4, h5, Obj.cells, hia, strV, h85, hns, hb1, hk2, hk3, hlk]
        cases hb4 : seen.contains r with
        | true =>
          refine fin _ _ _ _ (by simp only [nth_set, Nat.reduceBEq, cond_true, cond_false]) fun fr h => ?_
          exact ⟨hci, .inr ⟨rfl, h, by simp only [rRefs, rBad, hb1, hk2, hk3, hb4, Bool.not_true, Bool.and_self, Bool.or_true, cond_true]⟩⟩
        | false =>
          refine good _ _ ?_ ?_ ?_ ?_ ?_ fun e'' I h5'' => ?_
          · simp only [nth_set, Nat.reduceBEq, cond_true, cond_false]
          · simp only [nth_set, Nat.reduceBEq, cond_false, *]
          · simp only [nth_set, Nat.reduceBEq, cond_false, *]
          · simp only [nth_set, Nat.reduceBEq, cond_false, *]
          · simp only [nth_set, Nat.reduceBEq, cond_false, *]
          simp only [block_normal, next_normal]
          exact step e'' (by simp only [rBad, hb1, hk2, hk3, hb4, Bool.not_true, Bool.or_false, Bool.false_and, Bool.and_false]) I h5''
end
end Go.Proofs.YtbfmdojdemckbaaGreat
/- planisphereref11.refs, Valid -/
namespace Go.Proofs.YtbfmdojdemckbaaGreat
open Go.Ag

theorem mm_none (P : Program) (t : TypeId) (e : Env) (s : St) : makeMapA P t e none s = some (.map s.next, s.new (.map [] 0)) := rfl
section
variable {sp : FuncId → Option (List AVal → Option AVal)} (h85 : sp 85 = some nameSp)
include h85
theorem r11_run (h88 : sp 88 = none) {o : Obj} (ho : o.Ok) : ∃ v s', RunC (QS sp) 88 [o.val] s0 v s' ∧ (v = .bool (refsOk o) ∧ s'.ci = 0) := by
  have hcl := ho.refs.clean
  have htl := ho.tags.clean
  have hlen := fun mk s => ho.refs.len ln_37_n ln_37_l mk s
  have hil : ilt 2000 (o.refs.length : Nat) = decide (2000 < o.refs.length) := ilt_nat 2000 _
  refine RunC.ofEx k88_func k88_code k88_tmps k88_res h88 ?_
  unfold k88
  refine W.sreg ?_
  unfold k88_r0
  simp only [frame0, ofArgs, WP_nil, WP_always, stepK_some, nth_set, gen_nil, p_assign, p_box, ev_tmp, ev_const, evc_eq, ofValue_bool, boxA_loc, retV_ok, hintOf_some, cells_agg, Option.bind_some, clean_agg, cond_true, QS_hint, List.length_cons, List.length_nil, beq_self_eq_true, true_and, Nat.zero_add, Nat.reduceLT, Nat.reduceLeDiff, nat_ble, decide_true, hint_88_1, Obj.val, Obj.cells]
  refine W.sreg ?_
  unfold k88_r1
  simp only [WP_nil, WP_always, stepK_some, nth_set, gen_nil, gen_set', loc_set', p_assign, p_load, p_fieldAddr, p_builtin, ev_tmp, evc_eq, evcs_nil, evcs_cons, load_loc, retV_ok, retVS_some, bl_len, hintOf_some, Option.bind_some, cond_true, cond_false, QS_P, QS_hint, List.drop, List.head?_cons, beq_self_eq_true, true_and, Nat.zero_add, Nat.reduceBEq, Nat.reduceLT, nat_beq, rd_37, fa_40_3_l, hcl, hlen]
  refine W.seq (W.sreg ?_)
  unfold k88_r2
  simp only [WP_nil, WP_always, stepK_some, nth_set, p_move, p_bin, ev_tmp, ev_const, evc_eq, ofValue_int, retV_ok, bi_gtr, Option.bind_some, clean_int, cond_true, cond_false, QS_P, beq_self_eq_true, true_and, Nat.reduceBEq, Nat.reduceLT, hil]
  cases h20 : decide (2000 < o.refs.length) with
  | true =>
    refine W.cond (t := true) (by simp only [ev_tmp, nth_set, Nat.reduceBEq, cond_true, cond_false]) (W.sreg ?_)
    unfold k88_r3
    simp only [WP_nil, WP_always, stepK_some, p_assign, ev_const, ofValue_bool, retV_ok, true_and, Nat.reduceLT]
    refine W.ret ⟨.inr rfl, _, res_tmp (v := .bool false) (by simp only [nth_set, Nat.reduceBEq, cond_true, cond_false]) rfl, ?_, rfl⟩
    simp only [refsOk, h20, cond_true]
  | false =>
    refine W.cond (t := false) (by simp only [ev_tmp, nth_set, Nat.reduceBEq, cond_true, cond_false]) (W.skip ?_)
    simp only [next_normal]
    refine W.sreg ?_
    unfold k88_r4
    simp only [WP_nil, WP_always, stepK_some, nth_set, p_assign, p_makeMap, ev_tmp, retV_ok, retVS_some, cond_true, cond_false, QS_P, beq_self_eq_true, true_and, Nat.reduceBEq, Nat.reduceLT, mm_none]
    refine W.seq (W.sreg ?_)
    unfold k88_r5
    simp only [WP_nil, WP_always, stepK_some, p_assign, ev_const, ofValue_int, retV_ok, true_and, Nat.reduceLT]
    refine W.block ?_
    have hg : ((s0.new (.map [] 0))).get [] 0 = some (.map (ents 0 (setM [])) (setM []).length) := by rw [get_new]; rfl
    refine (r11_loop h85 ho o.refs [] _ _ none [] rfl (.inl ⟨rfl, rfl⟩) (Nat.zero_le _) (Nat.lt_succ_self _) rfl hg ⟨?_, ?_, ?_, ?_, ?_⟩ ?_).mono ?_
    · simp only [nth_set, Nat.reduceBEq, cond_true, cond_false, *]
    · simp only [gen_nil, gen_set', Nat.reduceBEq, cond_true]
    · simp only [loc_set', Nat.reduceBEq, cond_true, Obj.cells]
    · simp only [nth_set, Nat.reduceBEq, cond_true, cond_false, *]
    · simp only [nth_set, Nat.reduceBEq, cond_true, cond_false, *]; rfl
    · simp only [nth_set, Nat.reduceBEq, cond_true, cond_false]; rfl
    rintro x ⟨e1, sz, lc⟩ s' ⟨hci, ⟨rfl, ⟨e, hfr, h1, g1, b1, h3, h4⟩, hok⟩ | ⟨rfl, h2, hok⟩⟩
    · injection hfr with q1 q2 q3
      subst q1; subst q2; subst q3
      show W (QS sp) 88 _ _ _ _
      have e1 : ieq (o.refs.length : Nat) 0 = (o.refs.length == 0) := ieq_nat _ 0
      have e3 : ieq (o.refs.length : Nat) 3 = (o.refs.length == 3) := ieq_nat _ 3
      have l2 : ile 2 (o.refs.length : Nat) = decide (2 ≤ o.refs.length) := ile_nat 2 _
      have l3 : ile 3 (o.refs.length : Nat) = decide (3 ≤ o.refs.length) := ile_nat 3 _
      have l1 : ile 1 (o.refs.length : Nat) = decide (1 ≤ o.refs.length) := ile_nat 1 _
      refine W.seq (W.sreg ?_)
      unfold k88_r11
      simp only [WP_nil, WP_always, stepK_some, nth_set, p_load, p_fieldAddr, ev_tmp, load_loc, retV_ok, Option.bind_some, cond_true, QS_P, List.drop, List.head?_cons, beq_self_eq_true, true_and, Nat.zero_add, Nat.reduceLT, nat_beq, rd_3, fa_40_1_l, h1, g1, b1, Obj.cells]
      refine W.block (W.sreg ?_)
      unfold k88_r12
      simp only [WP_nil, WP_always, stepK_some, nth_set, p_assign, p_bin, ev_tmp, ev_const, evc_eq, ofValue_int, retV_ok, bi_eql, Option.bind_some, clean_int, cond_true, cond_false, QS_P, beq_self_eq_true, true_and, Nat.reduceBEq, Nat.reduceLT]
      have fin : ∀ b, countOk o.kind o.refs.length = b → AVal.bool b = .bool (refsOk o) := by
        intro b hb
        simp only [refsOk, h20, cond_false, hok, cond_true, hb]
      cases k1 : ieq o.kind 1 with
      | true =>
        refine W.cond (t := true) (by simp only [ev_tmp, nth_set, Nat.reduceBEq, cond_true, cond_false]) (W.sreg ?_)
        unfold k88_r13
        simp only [WP_nil, WP_always, stepK_some, nth_set, p_move, p_assign, p_bin, ev_tmp, ev_const, evc_eq, ofValue_int, retV_ok, bi_eql, Option.bind_some, clean_int, cond_true, cond_false, QS_P, beq_self_eq_true, true_and, Nat.reduceBEq, Nat.reduceLT, h3, e1]
        refine W.ret ⟨.inr rfl, _, res_tmp (v := .bool (o.refs.length == 0)) (by simp only [nth_set, Nat.reduceBEq, cond_true, cond_false]) rfl, fin _ (by simp only [countOk, k1, cond_true]), hci⟩
      | false =>
      refine W.cond (t := false) (by simp only [ev_tmp, nth_set, Nat.reduceBEq, cond_true, cond_false]) (W.sreg ?_)
      unfold k88_r14
      simp only [WP_nil, WP_always, stepK_some, nth_set, p_assign, p_bin, ev_tmp, ev_const, evc_eq, ofValue_int, retV_ok, bi_eql, Option.bind_some, clean_int, cond_true, cond_false, QS_P, beq_self_eq_true, true_and, Nat.reduceBEq, Nat.reduceLT]
      cases k2 : ieq o.kind 2 with
      | true =>
        refine W.cond (t := true) (by simp only [ev_tmp, nth_set, Nat.reduceBEq, cond_true, cond_false]) (W.sreg ?_)
        unfold k88_r15
        simp only [WP_nil, WP_always, stepK_some, nth_set, p_move, p_assign, p_bin, ev_tmp, ev_const, evc_eq, ofValue_int, retV_ok, bi_geq, Option.bind_some, clean_int, cond_true, cond_false, QS_P, beq_self_eq_true, true_and, Nat.reduceBEq, Nat.reduceLT, h3, l2]
        refine W.ret ⟨.inr rfl, _, res_tmp (v := .bool (decide (2 ≤ o.refs.length))) (by simp only [nth_set, Nat.reduceBEq, cond_true, cond_false]) rfl, fin _ (by simp only [countOk, k1, k2, cond_true, cond_false]), hci⟩
      | false =>
      refine W.cond (t := false) (by simp only [ev_tmp, nth_set, Nat.reduceBEq, cond_true, cond_false]) (W.sreg ?_)
      unfold k88_r16
      simp only [WP_nil, WP_always, stepK_some, nth_set, p_assign, p_bin, ev_tmp, ev_const, evc_eq, ofValue_int, retV_ok, bi_eql, Option.bind_some, clean_int, cond_true, cond_false, QS_P, beq_self_eq_true, true_and, Nat.reduceBEq, Nat.reduceLT]
      cases k3 : ieq o.kind 3 with
      | true =>
        refine W.cond (t := true) (by simp only [ev_tmp, nth_set, Nat.reduceBEq, cond_true, cond_false]) (W.sreg ?_)
        unfold k88_r17
        simp only [WP_nil, WP_always, stepK_some, nth_set, p_move, p_assign, p_bin, ev_tmp, ev_const, evc_eq, ofValue_int, retV_ok, bi_geq, Option.bind_some, clean_int, cond_true, cond_false, QS_P, beq_self_eq_true, true_and, Nat.reduceBEq, Nat.reduceLT, h3, l3]
        refine W.ret ⟨.inr rfl, _, res_tmp (v := .bool (decide (3 ≤ o.refs.length))) (by simp only [nth_set, Nat.reduceBEq, cond_true, cond_false]) rfl, fin _ (by simp only [countOk, k1, k2, k3, cond_true, cond_false]), hci⟩
      | false =>
      refine W.cond (t := false) (by simp only [ev_tmp, nth_set, Nat.reduceBEq, cond_true, cond_false]) (W.sreg ?_)
      unfold k88_r18
      simp only [WP_nil, WP_always, stepK_some, nth_set, p_assign, p_bin, ev_tmp, ev_const, evc_eq, ofValue_int, retV_ok, bi_eql, Option.bind_some, clean_int, cond_true, cond_false, QS_P, beq_self_eq_true, true_and, Nat.reduceBEq, Nat.reduceLT]
      cases k4 : ieq o.kind 4 with
      | true =>
        refine W.cond (t := true) (by simp only [ev_tmp, nth_set, Nat.reduceBEq, cond_true, cond_false]) (W.sreg ?_)
        unfold k88_r19
        simp only [WP_nil, WP_always, stepK_some, nth_set, p_move, p_assign, p_bin, ev_tmp, ev_const, evc_eq, ofValue_int, retV_ok, bi_geq, Option.bind_some, clean_int, cond_true, cond_false, QS_P, beq_self_eq_true, true_and, Nat.reduceBEq, Nat.reduceLT, h3, l1]
        refine W.ret ⟨.inr rfl, _, res_tmp (v := .bool (decide (1 ≤ o.refs.length))) (by simp only [nth_set, Nat.reduceBEq, cond_true, cond_false]) rfl, fin _ (by simp only [countOk, k1, k2, k3, k4, cond_true, cond_false]), hci⟩
      | false =>
      refine W.cond (t := false) (by simp only [ev_tmp, nth_set, Nat.reduceBEq, cond_true, cond_false]) (W.skip ?_)
      simp only [block_normal, next_normal]
      refine W.sreg ?_
      unfold k88_r20
      simp only [WP_nil, WP_always, stepK_some, nth_set, p_move, p_assign, p_bin, ev_tmp, ev_const, evc_eq, ofValue_int, retV_ok, bi_eql, Option.bind_some, clean_int, cond_true, cond_false, QS_P, beq_self_eq_true, true_and, Nat.reduceBEq, Nat.reduceLT, h3, e3]
      refine W.ret ⟨.inr rfl, _, res_tmp (v := .bool (o.refs.length == 3)) (by simp only [nth_set, Nat.reduceBEq, cond_true, cond_false]) rfl, fin _ (by simp only [countOk, k1, k2, k3, k4, cond_false]), hci⟩
    · have h2 : nth e1 2 = .bool false := h2
      refine ⟨.inr rfl, _, res_tmp h2 rfl, ?_, hci⟩
      simp only [refsOk, h20, hok, cond_false]
end
def r11Sp : Sp
  | [v] => (asObj v).bind fun o => some (.bool (refsOk o))
  | _ => none
theorem r11Sp_of {o : Obj} (h : o.Good) : r11Sp [o.val] = some (.bool (refsOk o)) := by
  show (asObj o.val).bind _ = _
  rw [asObj_val h]; rfl
theorem r11Sp_ok : SpecOk Tryz.prog 88 r11Sp := by
  intro args u hv G h w xs wr hx
  unfold r11Sp at hv
  split at hv
  · rename_i v
    simp only [Option.bind_eq_some_iff, Option.some.injEq] at hv
    obtain ⟨o, ho, rfl⟩ := hv
    obtain ⟨rfl, hg⟩ := asObj_inv ho
    obtain ⟨v, s', hr, rfl, hci⟩ := r11_run (sp := fun f => tblGet f U2) rfl rfl hg.toOk
    have hw : weaks [o.val] = [o.val] := weaks_pure (by simp only [pures, hg.pure, Bool.and_self])
    refine spec_of_run (Q := QT U2) (good_of U2_ok) (fun _ => Nat.zero_lt_succ 1) (args := [o.val]) (v := .bool (refsOk o)) (s' := s') ?_ (by rw [hw]; exact hr) hci ⟨1, rfl⟩ G h w xs wr hx
    exact tops_pure (by simp only [pures, hg.pure, Bool.and_self])
  · cases hv

/- Valid -/
def atOk (o : Obj) : Bool := bif ieq o.kind 1 then onGrid o.x o.y else zeroAt o
def refObj (o : Obj) : Bool := nameOk o.id && !(wordOf o.kind == []) && atOk o && refTags o.tags && refsOk o
theorem v11_run {sp : FuncId → Option (List AVal → Option AVal)} (h84 : sp 84 = some onSp) (h85 : sp 85 = some nameSp) (h86 : sp 86 = some wordSp) (h87 : sp 87 = some t11Sp) (h88 : sp 88 = some r11Sp) (h54 : sp 54 = none) {o : Obj} (ho : o.Good) (s : St) :
    RunC (QS sp) 54 [o.val] s (.bool (refObj o)) s := by
  have hcl := ho.refs.clean
  have htl := ho.tags.clean
  have hns := nameSp_str ho.id
  have hws : wordSp [.int .i64 o.kind] = some (.str (wordOf o.kind)) := rfl
  have hos : onSp [.agg [.int .i64 o.x, .int .i64 o.y]] = some (.bool (onGrid o.x o.y)) := rfl
  have hts := t11Sp_of ho.tags ho.taglen ho.key
  have hrs := r11Sp_of ho
  simp only [Obj.val, Obj.cells] at hrs
  have hpt := pt_eql o.x o.y 0 0
  refine RunC.of2 k54_func k54_code k54_tmps k54_res h54 ?_
  unfold k54
  refine W.sreg ?_
  unfold k54_r0
  simp only [frame0, ofArgs, WP_nil, WP_always, stepK_some, nth_set, gen_nil, p_assign, p_box, ev_tmp, ev_const, evc_eq, ofValue_bool, boxA_loc, retV_ok, hintOf_some, cells_agg, Option.bind_some, clean_agg, cond_true, QS_hint, List.length_cons, List.length_nil, beq_self_eq_true, true_and, Nat.zero_add, Nat.reduceLT, Nat.reduceLeDiff, nat_ble, decide_true, hint_54_1, Obj.val, Obj.cells]
  refine W.sreg ?_
  unfold k54_r1
  simp only [WP_nil, WP_always, stepK_some, nth_set, gen_nil, gen_set', loc_set', p_assign, p_load, p_fieldAddr, p_call, callee_func, ev_tmp, evc_eq, evcs_nil, evcs_cons, load_loc, retV_ok, Option.bind_some, clean_agg, cond_true, cond_false, QS_P, QS_spec, List.length_cons, List.length_nil, cut, List.take, List.drop, List.take_succ_cons, beq_self_eq_true, true_and, Nat.zero_add, Nat.reduceBEq, Nat.reduceLT, Nat.reduceAdd, nat_beq, rd_36, fa_40_2_l, h84, hos]
  have last : ∀ (e : Env) (lc : Ag.Loc) (b : Bool), nth e 1 = .lref 1 1 0 → lc.gen 1 = 1 → lc.get 1 1 = some o.cells → nth e 3 = .bool b → b = atOk o →
      W (QS sp) 54 (.seq (.region k54_r4) .ret) ⟨e, 35, lc⟩ s fun x fr' s1 => s1 = s ∧ (x = .normal ∨ x = .ret) ∧ ∃ vs, resultsA (QS sp) [] fr' s1 [.tmp 2] = some vs ∧ packA vs = .bool (refObj o) := by
    intro e lc b h1 g1 b1 h3 hb
    refine W.sreg ?_
    unfold k54_r4
    cases c1 : nameOk o.id with
    | false =>
      simp only [WP_nil, WP_always, WP_when, stepK_some, whenK_false, wantV_ft, nth_set, p_move, p_assign, p_pick, p_load, p_fieldAddr, p_call, callee_func, ev_tmp, ev_const, evc_eq, evcs_nil, evcs_cons, ofValue_bool, load_loc, pick_eq, pickV_false, retV_ok, Option.bind_some, clean_str, cond_true, cond_false, QS_P, QS_spec, List.drop, List.head?_cons, beq_self_eq_true, true_and, Nat.add_zero, Nat.reduceBEq, Nat.reduceLT, nat_beq, rd_9, fa_40_0_l, h1, g1, b1, Obj.cells, h85, hns, c1]
      refine W.ret ⟨rfl, .inr rfl, res_tmp ?_ rfl⟩
      simp only [nth_set, Nat.reduceBEq, cond_true, cond_false, *]
      simp only [refObj, c1, Bool.false_and]
    | true =>
    cases c2 : wordOf o.kind == [] with
    | true =>
      simp only [WP_nil, WP_always, WP_when, stepK_some, whenK_true, whenK_false, wantV_tt, wantV_ft, nth_set, p_move, p_assign, p_pick, p_load, p_bin, p_fieldAddr, p_call, callee_func, ev_tmp, ev_const, evc_eq, evcs_nil, evcs_cons, ofValue_bool, ofValue_str, load_loc, pick_eq, pickV_true, pickV_false, retV_ok, bs_neq, Option.bind_some, clean_int, clean_str, cond_true, cond_false, QS_P, QS_spec, List.drop, List.head?_cons, Bool.not_true, beq_self_eq_true, true_and, Nat.zero_add, Nat.add_zero, Nat.reduceBEq, Nat.reduceLT, nat_beq, rd_3, rd_9, fa_40_0_l, fa_40_1_l, h1, g1, b1, Obj.cells, h85, hns, c1, h86, hws, c2]
      refine W.ret ⟨rfl, .inr rfl, res_tmp ?_ rfl⟩
      simp only [nth_set, Nat.reduceBEq, cond_true, cond_false, *]
      simp only [refObj, c1, c2, Bool.not_true, Bool.and_false, Bool.false_and]
    | false =>
    cases b with
    | false =>
      simp only [WP_nil, WP_always, WP_when, stepK_some, whenK_true, whenK_false, wantV_tt, wantV_ft, nth_set, p_move, p_assign, p_pick, p_load, p_bin, p_fieldAddr, p_call, callee_func, ev_tmp, ev_const, evc_eq, evcs_nil, evcs_cons, ofValue_bool, ofValue_str, load_loc, pick_eq, pickV_true, pickV_false, retV_ok, bs_neq, Option.bind_some, clean_int, clean_str, cond_true, cond_false, QS_P, QS_spec, List.drop, List.head?_cons, Bool.not_false, beq_self_eq_true, true_and, Nat.zero_add, Nat.add_zero, Nat.reduceBEq, Nat.reduceLT, nat_beq, rd_3, rd_9, fa_40_0_l, fa_40_1_l, h1, g1, b1, h3, Obj.cells, h85, hns, c1, h86, hws, c2]
      refine W.ret ⟨rfl, .inr rfl, res_tmp ?_ rfl⟩
      simp only [nth_set, Nat.reduceBEq, cond_true, cond_false, *]
      simp only [refObj, ← hb, Bool.and_false, Bool.false_and]
    | true =>
    cases c3 : refTags o.tags with
    | false =>
      simp only [WP_nil, WP_always, WP_when, stepK_some, whenK_true, whenK_false, wantV_tt, wantV_ft, nth_set, p_move, p_assign, p_pick, p_load, p_bin, p_fieldAddr, p_call, callee_func, ev_tmp, ev_const, evc_eq, evcs_nil, evcs_cons, ofValue_bool, ofValue_str, load_loc, pick_eq, pickV_true, pickV_false, retV_ok, bs_neq, Option.bind_some, clean_int, clean_str, cond_true, cond_false, QS_P, QS_spec, List.drop, List.head?_cons, Bool.not_false, beq_self_eq_true, true_and, Nat.zero_add, Nat.add_zero, Nat.reduceBEq, Nat.reduceLT, nat_beq, rd_3, rd_9, rd_38, fa_40_0_l, fa_40_1_l, fa_40_4_l, h1, g1, b1, h3, Obj.cells, h85, hns, c1, h86, hws, c2, htl, h87, hts, c3]
      refine W.ret ⟨rfl, .inr rfl, res_tmp ?_ rfl⟩
      simp only [nth_set, Nat.reduceBEq, cond_true, cond_false, *]
      simp only [refObj, c3, Bool.and_false, Bool.false_and]
    | true =>
      simp only [WP_nil, WP_always, WP_when, stepK_some, whenK_true, wantV_tt, nth_set, p_move, p_assign, p_pick, p_load, p_bin, p_fieldAddr, p_call, callee_func, ev_tmp, ev_const, evc_eq, evcs_nil, evcs_cons, ofValue_bool, ofValue_str, load_loc, pick_eq, pickV_true, retV_ok, bs_neq, Option.bind_some, clean_int, clean_str, clean_agg, cond_true, cond_false, QS_P, QS_spec, List.length_cons, List.length_nil, cut, List.take, List.drop, List.head?_cons, Bool.not_false, beq_self_eq_true, true_and, Nat.zero_add, Nat.add_zero, Nat.reduceBEq, Nat.reduceLT, Nat.reduceAdd, nat_beq, rd_3, rd_9, rd_38, rd_40, fa_40_0_l, fa_40_1_l, fa_40_4_l, h1, g1, b1, h3, Obj.cells, h85, hns, c1, h86, hws, c2, htl, h87, hts, c3, h88, hrs]
      refine W.ret ⟨rfl, .inr rfl, res_tmp ?_ rfl⟩
      simp only [nth_set, Nat.reduceBEq, cond_true, cond_false]
      simp only [refObj, c1, c2, c3, ← hb, Bool.not_false, Bool.true_and]
  cases k1 : ieq o.kind 1 with
  | true =>
    refine W.seq (W.sreg ?_)
    unfold k54_r2
    simp only [WP_nil, WP_always, stepK_some, nth_set, gen_nil, gen_set', loc_set', p_load, p_bin, p_fieldAddr, ev_tmp, ev_const, evc_eq, ofValue_int, load_loc, retV_ok, bi_neq, Option.bind_some, clean_int, cond_true, cond_false, QS_P, List.drop, List.head?_cons, Bool.not_true, beq_self_eq_true, true_and, Nat.zero_add, Nat.reduceBEq, Nat.reduceLT, nat_beq, rd_3, fa_40_1_l, k1]
    refine W.cond (t := false) (by simp only [ev_tmp, nth_set, Nat.reduceBEq, cond_true, cond_false]) (W.skip ?_)
    simp only [next_normal]
    refine last _ _ (onGrid o.x o.y) ?_ ?_ ?_ ?_ (by simp only [atOk, k1, cond_true])
    · simp only [nth_set, Nat.reduceBEq, cond_true, cond_false, *]
    · simp only [gen_nil, gen_set', Nat.reduceBEq, cond_true]
    · simp only [loc_set', Nat.reduceBEq, cond_true, Obj.cells]
    · simp only [nth_set, Nat.reduceBEq, cond_true, cond_false, *]
  | false =>
    refine W.seq (W.sreg ?_)
    unfold k54_r2
    simp only [WP_nil, WP_always, stepK_some, nth_set, gen_nil, gen_set', loc_set', p_load, p_bin, p_fieldAddr, ev_tmp, ev_const, evc_eq, ofValue_int, load_loc, retV_ok, bi_neq, Option.bind_some, clean_int, cond_true, cond_false, QS_P, List.drop, List.head?_cons, Bool.not_false, beq_self_eq_true, true_and, Nat.zero_add, Nat.reduceBEq, Nat.reduceLT, nat_beq, rd_3, fa_40_1_l, k1]
    refine W.cond (t := true) (by simp only [ev_tmp, nth_set, Nat.reduceBEq, cond_true, cond_false]) (W.reg ?_)
    unfold k54_r3
    simp only [WP_nil, WP_always, stepK_some, nth_set, gen_nil, gen_set', loc_set', p_assign, p_build, p_load, p_bin, p_fieldAddr, ev_tmp, evc_eq, load_loc, retV_ok, cells_agg, Option.bind_some, clean_agg, cond_true, cond_false, QS_P, List.length_cons, List.length_nil, cut, List.take, List.drop, List.take_succ_cons, beq_self_eq_true, true_and, Nat.zero_add, Nat.reduceBEq, Nat.reduceLT, Nat.reduceAdd, nat_beq, bd_36, rd_36, zr_36, fa_40_2_l, fillA, hpt, next_normal]
    refine last _ _ (zeroAt o) ?_ ?_ ?_ ?_ (by simp only [atOk, k1, cond_false])
    · simp only [nth_set, Nat.reduceBEq, cond_true, cond_false, *]
    · simp only [gen_nil, gen_set', Nat.reduceBEq, cond_true]
    · simp only [loc_set', Nat.reduceBEq, cond_true, Obj.cells]
    · simp only [nth_set, Nat.reduceBEq, cond_true, cond_false, zeroAt]; cases ieq o.x 0 <;> cases ieq o.y 0 <;> rfl
def v11Sp : Sp
  | [v] => (asObj v).bind fun o => some (.bool (refObj o))
  | _ => none
theorem v11Sp_of {o : Obj} (h : o.Good) : v11Sp [o.val] = some (.bool (refObj o)) := by
  show (asObj o.val).bind _ = _
  rw [asObj_val h]; rfl
def U3 : Tbl := (84, onSp) :: (86, wordSp) :: (87, t11Sp) :: (88, r11Sp) :: U2
theorem U3_ok : TblOk U3 := .cons on11Sp_ok (.cons w11Sp_ok (.cons t11Sp_ok (.cons r11Sp_ok U2_ok)))
theorem v11Sp_ok : SpecOk Tryz.prog 54 v11Sp := by
  intro args u hv G h w xs wr hx
  unfold v11Sp at hv
  split at hv
  · rename_i v
    simp only [Option.bind_eq_some_iff, Option.some.injEq] at hv
    obtain ⟨o, ho, rfl⟩ := hv
    obtain ⟨rfl, hg⟩ := asObj_inv ho
    have hw : weaks [o.val] = [o.val] := weaks_pure (by simp only [pures, hg.pure, Bool.and_self])
    refine spec_of_run (Q := QT U3) (good_of U3_ok) (fun _ => Nat.zero_lt_succ 1) (args := [o.val]) (v := .bool (refObj o)) (s' := s0) ?_ (by rw [hw]; exact v11_run (sp := fun f => tblGet f U3) rfl rfl rfl rfl rfl rfl hg s0) rfl ⟨1, rfl⟩ G h w xs wr hx
    exact tops_pure (by simp only [pures, hg.pure, Bool.and_self])
  · cases hv
end Go.Proofs.YtbfmdojdemckbaaGreat
/- planisphereref12.Valid, Find; planisphereref21.Wanted -/
namespace Go.Proofs.YtbfmdojdemckbaaGreat
open Go.Ag

def oBad (p : Option Bytes) (o : Obj) : Bool := !refObj o || prevBad p o.id
def rObjs : Option Bytes → List Obj → Bool
  | _, [] => true
  | p, o :: r => bif oBad p o then false else rObjs (some o.id) r
def refMap (l : List Obj) : Bool := bif decide (1000000 < l.length) then false else rObjs none l
def PrevO (pre : List Obj) (p : Option Bytes) : Prop := (pre = [] ∧ p = none) ∨ ∃ q t, pre = q ++ [t] ∧ p = some t.id

structure MapI (v : AVal) (t : Nat) (e : Env) (lc : Ag.Loc) : Prop where
  h : nth e t = .lref t 1 0
  g : lc.gen t = 1
  b : lc.get t 1 = some [v]

section
variable {sp : FuncId → Option (List AVal → Option AVal)} (h54 : sp 54 = some v11Sp)
include h54
theorem m12_loop {v : AVal} {l : List Obj} (hl : IsL 6 Obj.val v l) (hk : ∀ o ∈ l, o.Good) (hsmall : l.length < small) {s : St} (hm : s.minw ≤ s.next) {lc : Ag.Loc} : ∀ (rest pre : List Obj) (e : Env) (p : Option Bytes), l = pre ++ rest → PrevO pre p →
    MapI v 1 e lc → nth e 3 = .int .i64 (pre.length : Nat) →
    W (QS sp) 34 (.loop k34_l0) ⟨e, 42, lc⟩ s fun x fr s' => s' = s ∧ fr.size = 42 ∧ ((x = .exit 0 ∧ rObjs p rest = true) ∨ (x = .ret ∧ nth fr.env 2 = .bool false ∧ rObjs p rest = false)) := by
  intro rest
  have hlen := fun mk s => hl.len ln_22_n ln_22_l mk s
  have hcl := hl.clean
  have hsm : small = 9223372036854775808 := rfl
  induction rest with
  | nil =>
    intro pre e p hpre hp I h3
    obtain ⟨h1, g1, b1⟩ := I
    have hlen' : l.length = pre.length := by rw [hpre]; simp
    refine W.loop1 ?_
    unfold k34_l0
    refine W.seq (W.sreg ?_)
    unfold k34_r4
    simp only [WP_nil, WP_always, stepK_some, nth_set, p_move, p_load, p_bin, p_fieldAddr, p_builtin, ev_tmp, evc_eq, evcs_nil, evcs_cons, load_loc, retV_ok, retVS_some, bi_lss, bl_len, hintOf_some, Option.bind_some, clean_int, cond_true, cond_false, QS_P, QS_hint, List.drop, List.head?_cons, ilt_nat, beq_self_eq_true, true_and, Nat.add_zero, Nat.reduceBEq, Nat.reduceLT, nat_beq, decide_false, rd_22, fa_24_0_l, h1, g1, b1, h3, hcl, hlen, hlen', Nat.lt_irrefl]
    refine W.cond (t := false) (by simp only [ev_tmp, nth_set, Nat.reduceBEq, cond_true, cond_false, *]) ?_
    exact W.exit ⟨rfl, rfl, .inl ⟨rfl, rfl⟩⟩
  | cons o rest ih =>
    intro pre e p hpre hp I h3
    obtain ⟨h1, g1, b1⟩ := I
    have hlt : pre.length < l.length := by rw [hpre]; simp
    have hat : l[pre.length]? = some o := by rw [hpre]; simp
    have hia := fun lc => hl.at ia_22_l hat lc .i64
    have hvs := v11Sp_of (hk o (List.mem_of_getElem? hat))
    simp only [Obj.val, Obj.cells] at hvs
    have hwr : IntKind.i64.wrap ((pre.length : Int) + 1) = ((pre.length + 1 : Nat) : Int) := by rw [wrap64_small (by omega) (by omega)]; omega
    refine W.loop1 ?_
    unfold k34_l0
    refine W.seq (W.sreg ?_)
    unfold k34_r4
    simp only [WP_nil, WP_always, stepK_some, nth_set, p_move, p_load, p_bin, p_fieldAddr, p_builtin, ev_tmp, evc_eq, evcs_nil, evcs_cons, load_loc, retV_ok, retVS_some, bi_lss, bl_len, hintOf_some, Option.bind_some, clean_int, cond_true, cond_false, QS_P, QS_hint, List.drop, List.head?_cons, ilt_nat, beq_self_eq_true, true_and, Nat.add_zero, Nat.reduceBEq, Nat.reduceLT, nat_beq, decide_true, rd_22, fa_24_0_l, h1, g1, b1, h3, hcl, hlen, hlt]
    refine W.cond (t := true) (by simp only [ev_tmp, nth_set, Nat.reduceBEq, cond_true, cond_false, *]) (W.skip ?_)
    simp only [next_normal]
    refine W.seq (W.block (W.sdrawQ hm ?_))
    unfold k34_r6
    have fin : ∀ e' lc' (K : Ex → Fr → St → Prop), nth e' 41 = .bool true → (∀ fr, fr.size = 42 → nth fr.env 2 = .bool false → K .ret fr s) → W (QS sp) 34 (.cond (Operand.tmp 41) (.seq (.region k34_r7) .ret) .skip) ⟨e', 42, lc'⟩ s K := by
      intro e' lc' K h hK
      refine W.cond (t := true) (by simp only [ev_tmp, h]) (W.sreg ?_)
      unfold k34_r7
      simp only [WP_nil, WP_always, stepK_some, p_assign, ev_const, ofValue_bool, retV_ok, true_and, Nat.reduceLT]
      exact W.ret (hK _ rfl (by simp only [nth_set, Nat.reduceBEq, cond_true, *]))
    cases hb1 : refObj o with
    | false =>
      simp only [WQ_nil, WQ_always, WQ_when, stepQ_some, whenQ_false, isStore, wantV_tf, wantV_undef, nth_set, p_move, p_pick, p_load, p_un, p_fieldAddr, p_indexAddr, p_call, callee_func, ev_tmp, ev_const, evc_eq, evcs_nil, evcs_cons, ofValue_bool, load_loc, load_ro, pick_eq, pickV_true, retV_ok, un_not, cells_agg, Option.bind_some, clean_bool, clean_agg, cond_true, cond_false, QS_P, QS_spec, List.length_cons, List.length_nil, cut, List.take, List.drop, List.head?_cons, List.take_succ_cons, Bool.not_false, beq_self_eq_true, true_and, Nat.zero_add, Nat.add_zero, Nat.reduceBEq, Nat.reduceLT, Nat.reduceAdd, nat_beq, rd_22, rd_40, fa_24_0_l, h1, g1, b1, h3, hia, Obj.val, Obj.cells, h54, hvs, hb1]
      refine fin _ _ _ (by simp only [nth_set, Nat.reduceBEq, cond_true, cond_false, *]) fun fr hs h => ?_
      exact ⟨rfl, hs, .inr ⟨rfl, h, by simp only [rObjs, oBad, hb1, Bool.not_false, Bool.true_or, cond_true]⟩⟩
    | true =>
    rcases hp with ⟨rfl, rfl⟩ | ⟨q, u, rfl, rfl⟩
    · have hi3 : ilt 0 ((0 : Nat) : Int) = false := rfl
      have hwr0 : IntKind.i64.wrap (((0 : Nat) : Int) + 1) = 1 := rfl
      simp only [List.length_nil] at h3 hia
      simp only [WQ_nil, WQ_always, WQ_when, stepQ_some, whenQ_true, whenQ_false, isStore, wantV_ft, wantV_ff, nth_set, p_move, p_pick, p_load, p_bin, p_un, p_fieldAddr, p_indexAddr, p_call, callee_func, ev_tmp, ev_const, evc_eq, evcs_nil, evcs_cons, ofValue_bool, ofValue_int, load_loc, load_ro, pick_eq, pickV_false, retV_ok, bi_gtr, un_not, cells_agg, Option.bind_some, clean_bool, clean_int, clean_agg, cond_true, cond_false, QS_P, QS_spec, List.length_cons, List.length_nil, cut, List.take, List.drop, List.head?_cons, List.take_succ_cons, Bool.not_true, beq_self_eq_true, true_and, Nat.zero_add, Nat.add_zero, Nat.reduceBEq, Nat.reduceLT, Nat.reduceAdd, nat_beq, rd_22, rd_40, fa_24_0_l, h1, g1, b1, h3, hia, Obj.val, Obj.cells, h54, hvs, hb1, hi3]
      have hbad : oBad none o = false := by simp only [oBad, hb1, prevBad, Bool.not_true, Bool.or_false]
      refine W.cond (t := false) (by simp only [ev_tmp, nth_set, Nat.reduceBEq, cond_true, cond_false, *]) (W.skip ?_)
      simp only [block_normal, next_normal]
      refine W.reg ?_
      unfold k34_r5
      simp only [WP_nil, WP_always, stepK_some, nth_set, p_move, p_assign, p_bin, ev_tmp, ev_const, evc_eq, ofValue_int, retV_ok, bi_add, Option.bind_some, clean_int, cond_true, cond_false, QS_P, beq_self_eq_true, true_and, Nat.reduceBEq, Nat.reduceLT, h3, hwr0, next_normal]
      refine (ih [o] _ (some o.id) (by rw [hpre]; simp) (.inr ⟨[], o, rfl, rfl⟩) ⟨by simp only [nth_set, Nat.reduceBEq, cond_false, *], g1, b1⟩ (by simp only [nth_set, Nat.reduceBEq, cond_true, cond_false]; rfl)).mono ?_
      simp only [rObjs, hbad, cond_false]
      exact fun _ _ _ h => h
    · have hat2 : l[q.length]? = some u := by rw [hpre]; simp
      have hia2 := fun lc => hl.at ia_22_l hat2 lc .i64
      have hws : IntKind.i64.wrap (((q ++ [u]).length : Int) - 1) = ((q.length : Nat) : Int) := by
        have : (q ++ [u]).length = q.length + 1 := by simp
        rw [this, wrap64_small (by omega) (by omega)]; omega
      have hi4 : ilt 0 ((q ++ [u]).length : Nat) = true := by rw [show (0 : Int) = ((0 : Nat) : Int) from rfl, ilt_nat]; simp
      simp only [WQ_nil, WQ_always, WQ_when, stepQ_some, whenQ_true, isStore, wantV_tt, wantV_ff, nth_set, p_move, p_pick, p_load, p_bin, p_un, p_fieldAddr, p_indexAddr, p_call, callee_func, ev_tmp, ev_const, evc_eq, evcs_nil, evcs_cons, ofValue_bool, ofValue_int, load_loc, load_ro, pick_eq, pickV_true, pickV_false, retV_ok, bi_gtr, bi_sub, un_not, cells_agg, Option.bind_some, clean_bool, clean_int, clean_str, clean_agg, cond_true, cond_false, QS_P, QS_spec, List.length_cons, List.length_nil, cut, List.take, List.drop, List.head?_cons, List.take_succ_cons, Bool.not_true, beq_self_eq_true, true_and, Nat.zero_add, Nat.add_zero, Nat.reduceBEq, Nat.reduceLT, Nat.reduceAdd, nat_beq, bs_geq, rd_9, rd_22, rd_40, fa_24_0_l, fa_40_0_r, h1, g1, b1, h3, hia, hia2, hws, Obj.val, Obj.cells, h54, hvs, hb1, hi4]
      cases hb4 : Op.bytesLess u.id o.id with
      | false =>
        refine fin _ _ _ ?_ fun fr hs h => ?_
        · simp only [nth_set, Nat.reduceBEq, cond_true, cond_false, Bool.not_false]
        · exact ⟨rfl, hs, .inr ⟨rfl, h, by simp only [rObjs, oBad, prevBad, hb4, Bool.not_false, Bool.or_true, cond_true]⟩⟩
      | true =>
        have hbad : oBad (some u.id) o = false := by simp only [oBad, hb1, prevBad, hb4, Bool.not_true, Bool.or_false]
        refine W.cond (t := false) (by simp only [ev_tmp, nth_set, Nat.reduceBEq, cond_true, cond_false, Bool.not_true]) (W.skip ?_)
        simp only [block_normal, next_normal]
        refine W.reg ?_
        unfold k34_r5
        simp only [WP_nil, WP_always, stepK_some, nth_set, p_move, p_assign, p_bin, ev_tmp, ev_const, evc_eq, ofValue_int, retV_ok, bi_add, Option.bind_some, clean_int, cond_true, cond_false, QS_P, Bool.not_true, beq_self_eq_true, true_and, Nat.reduceBEq, Nat.reduceLT, h3, hwr, next_normal]
        refine (ih (q ++ [u] ++ [o]) _ (some o.id) (by rw [hpre]; simp) (.inr ⟨q ++ [u], o, rfl, rfl⟩) ⟨by simp only [nth_set, Nat.reduceBEq, cond_false, *], g1, b1⟩ (by simp only [nth_set, Nat.reduceBEq, cond_true, cond_false, List.length_append, List.length_cons, List.length_nil])).mono ?_
        simp only [rObjs, hbad, cond_false]
        exact fun _ _ _ h => h

theorem m12_run (h34 : sp 34 = none) {v : AVal} {l : List Obj} (hl : IsL 6 Obj.val v l) (hk : ∀ o ∈ l, o.Good) (hsmall : l.length < small) {s : St} (hm : s.minw ≤ s.next) : RunC (QS sp) 34 [.agg [v]] s (.bool (refMap l)) s := by
  have hlen := fun mk s => hl.len ln_22_n ln_22_l mk s
  have hcl := hl.clean
  have hil : ilt 1000000 (l.length : Nat) = decide (1000000 < l.length) := ilt_nat 1000000 _
  refine RunC.of2 k34_func k34_code k34_tmps k34_res h34 ?_
  unfold k34
  refine W.sreg ?_
  unfold k34_r0
  simp only [frame0, ofArgs, WP_nil, WP_always, stepK_some, nth_set, gen_nil, p_assign, p_box, ev_tmp, ev_const, evc_eq, ofValue_bool, boxA_loc, retV_ok, hintOf_some, cells_agg, Option.bind_some, clean_agg, cond_true, QS_hint, List.length_cons, List.length_nil, beq_self_eq_true, true_and, Nat.zero_add, Nat.reduceLT, Nat.reduceLeDiff, nat_ble, decide_true, hint_34_1]
  refine W.seq (W.sreg ?_)
  unfold k34_r1
  simp only [WP_nil, WP_always, stepK_some, nth_set, gen_nil, gen_set', loc_set', p_load, p_bin, p_fieldAddr, p_builtin, ev_tmp, ev_const, evc_eq, evcs_nil, evcs_cons, ofValue_int, load_loc, retV_ok, retVS_some, bi_gtr, bl_len, hintOf_some, Option.bind_some, clean_int, cond_true, cond_false, QS_P, QS_hint, List.drop, List.head?_cons, beq_self_eq_true, true_and, Nat.add_zero, Nat.reduceBEq, Nat.reduceLT, nat_beq, rd_22, fa_24_0_l, hcl, hlen, hil]
  cases h60 : decide (1000000 < l.length) with
  | true =>
    refine W.cond (t := true) (by simp only [ev_tmp, nth_set, Nat.reduceBEq, cond_true, cond_false]) (W.sreg ?_)
    unfold k34_r2
    simp only [WP_nil, WP_always, stepK_some, p_assign, ev_const, ofValue_bool, retV_ok, true_and, Nat.reduceLT]
    refine W.ret ⟨rfl, .inr rfl, res_tmp ?_ rfl⟩
    simp only [nth_set, Nat.reduceBEq, cond_true, cond_false, refMap, h60]
  | false =>
    refine W.cond (t := false) (by simp only [ev_tmp, nth_set, Nat.reduceBEq, cond_true, cond_false]) (W.skip ?_)
    simp only [next_normal]
    refine W.seq (W.sreg ?_)
    unfold k34_r3
    simp only [WP_nil, WP_always, stepK_some, p_assign, ev_const, ofValue_int, retV_ok, true_and, Nat.reduceLT]
    refine W.block ?_
    refine (m12_loop h54 hl hk hsmall hm l [] _ none rfl (.inl ⟨rfl, rfl⟩) ⟨?_, ?_, ?_⟩ (by simp only [nth_set, Nat.reduceBEq, cond_true, cond_false]; rfl)).mono ?_
    · simp only [nth_set, Nat.reduceBEq, cond_true, cond_false, *]
    · simp only [gen_nil, gen_set', Nat.reduceBEq, cond_true]
    · simp only [loc_set', Nat.reduceBEq, cond_true]
    rintro x ⟨e, sz, lc⟩ s' ⟨rfl, hs, ⟨rfl, hok⟩ | ⟨rfl, h2, hok⟩⟩
    · have hs : sz = 42 := hs
      subst hs
      show W (QS sp) 34 _ _ _ _
      refine W.sreg ?_
      unfold k34_r8
      simp only [WP_nil, WP_always, stepK_some, p_assign, ev_const, ofValue_bool, retV_ok, true_and, Nat.reduceLT]
      refine W.ret ⟨rfl, .inr rfl, res_tmp ?_ rfl⟩
      simp only [nth_set, Nat.reduceBEq, cond_true, cond_false, refMap, h60, hok]
    · exact ⟨rfl, .inr rfl, res_tmp (by rw [h2]; simp only [refMap, h60, cond_false, hok]) rfl⟩
end
def m12Sp : Sp
  | [u] => (asMap u).bind fun l => some (.bool (refMap l))
  | _ => none
theorem m12Sp_of {v : AVal} {l : List Obj} (hl : IsL 6 Obj.val v l) (hk : ∀ o ∈ l, o.Good) (hsmall : l.length < small) : m12Sp [.agg [v]] = some (.bool (refMap l)) := by
  simp only [m12Sp, asMap_of hl hk hsmall, Option.bind_some]
def U4 : Tbl := [(54, v11Sp)]
theorem U4_ok : TblOk U4 := .cons v11Sp_ok .nil
theorem m12Sp_ok : SpecOk Tryz.prog 34 m12Sp := by
  intro args u hv G h w xs wr hx
  unfold m12Sp at hv
  split at hv
  · simp only [Option.bind_eq_some_iff, Option.some.injEq] at hv
    obtain ⟨l, h1, rfl⟩ := hv
    obtain ⟨v, rfl, hl, hg, hs⟩ := asMap_inv h1
    obtain ⟨ht, v', hw, hl'⟩ := objs_top hl hg
    have hw : weaks [.agg [v]] = [.agg [v']] := by simp only [weaks, hw]
    exact spec_of_run (Q := QT U4) (good_of U4_ok) (fun _ => Nat.zero_lt_succ 1) (args := [.agg [v]]) (v := .bool (refMap l)) (s' := s0) (by simp only [tops, ht, Bool.and_self]) (by rw [hw]; exact m12_run (sp := fun f => tblGet f U4) rfl rfl hl' hg hs (Nat.le_refl _)) rfl ⟨1, rfl⟩ G h w xs wr hx
  · cases hv

/- Find -/
def findO (id : Bytes) : List Obj → Nat → Option (Nat × Obj)
  | [], _ => none
  | o :: l, i => bif o.id == id then some (i, o) else findO id l (i + 1)
def posV (r : Option (Nat × Obj)) : Int := match r with | none => -1 | some (k, _) => (k : Int)
theorem findO_at {id : Bytes} : ∀ {l : List Obj} {i k : Nat} {o : Obj}, findO id l i = some (k, o) → i ≤ k ∧ l[k - i]? = some o ∧ o.id = id
  | [], _, _, _, h => by cases h
  | a :: l, i, k, o, h => by
    simp only [findO] at h
    cases hb : a.id == id with
    | true =>
      rw [hb] at h
      simp only [cond_true, Option.some.injEq, Prod.mk.injEq] at h
      obtain ⟨rfl, rfl⟩ := h
      exact ⟨Nat.le_refl _, by simp, by simpa using hb⟩
    | false =>
      rw [hb] at h
      obtain ⟨h1, h2, h3⟩ := findO_at h
      refine ⟨by omega, ?_, h3⟩
      rw [show k - i = (k - (i + 1)) + 1 by omega]; simpa using h2
theorem find_loop {sp : FuncId → Option (List AVal → Option AVal)} {v : AVal} {l : List Obj} {id : Bytes} (hl : IsL 6 Obj.val v l) (hsmall : l.length < small) {s : St} {lc : Ag.Loc} : ∀ (rest pre : List Obj) (e : Env), l = pre ++ rest →
    MapI v 2 e lc → nth e 1 = .str id → nth e 5 = .int .i64 (pre.length : Nat) →
    W (QS sp) 55 (.loop k55_l0) ⟨e, 22, lc⟩ s fun x fr s' => s' = s ∧ fr.size = 22 ∧ ((x = .exit 0 ∧ findO id rest pre.length = none) ∨ (x = .ret ∧ ∃ r, findO id rest pre.length = some r ∧ nth fr.env 4 = .int .i64 (r.1 : Nat))) := by
  intro rest
  have hlen := fun mk s => hl.len ln_22_n ln_22_l mk s
  have hcl := hl.clean
  have hsm : small = 9223372036854775808 := rfl
  induction rest with
  | nil =>
    intro pre e hpre I h1 h5
    obtain ⟨h2, g2, b2⟩ := I
    have hlen' : l.length = pre.length := by rw [hpre]; simp
    refine W.loop1 ?_
    unfold k55_l0
    refine W.seq (W.sreg ?_)
    unfold k55_r2
    simp only [WP_nil, WP_always, stepK_some, nth_set, p_move, p_load, p_bin, p_fieldAddr, p_builtin, ev_tmp, evc_eq, evcs_nil, evcs_cons, load_loc, retV_ok, retVS_some, bi_lss, bl_len, hintOf_some, Option.bind_some, clean_int, cond_true, cond_false, QS_P, QS_hint, List.drop, List.head?_cons, ilt_nat, beq_self_eq_true, true_and, Nat.add_zero, Nat.reduceBEq, Nat.reduceLT, nat_beq, decide_false, rd_22, fa_24_0_l, h2, g2, b2, h5, hcl, hlen, hlen', Nat.lt_irrefl]
    refine W.cond (t := false) (by simp only [ev_tmp, nth_set, Nat.reduceBEq, cond_true, cond_false, *]) ?_
    exact W.exit ⟨rfl, rfl, .inl ⟨rfl, rfl⟩⟩
  | cons o rest ih =>
    intro pre e hpre I h1 h5
    obtain ⟨h2, g2, b2⟩ := I
    have hlt : pre.length < l.length := by rw [hpre]; simp
    have hat : l[pre.length]? = some o := by rw [hpre]; simp
    have hia := fun lc => hl.at ia_22_l hat lc .i64
    have hwr : IntKind.i64.wrap ((pre.length : Int) + 1) = ((pre.length + 1 : Nat) : Int) := by rw [wrap64_small (by omega) (by omega)]; omega
    refine W.loop1 ?_
    unfold k55_l0
    refine W.seq (W.sreg ?_)
    unfold k55_r2
    simp only [WP_nil, WP_always, stepK_some, nth_set, p_move, p_load, p_bin, p_fieldAddr, p_builtin, ev_tmp, evc_eq, evcs_nil, evcs_cons, load_loc, retV_ok, retVS_some, bi_lss, bl_len, hintOf_some, Option.bind_some, clean_int, cond_true, cond_false, QS_P, QS_hint, List.drop, List.head?_cons, ilt_nat, beq_self_eq_true, true_and, Nat.add_zero, Nat.reduceBEq, Nat.reduceLT, nat_beq, decide_true, rd_22, fa_24_0_l, h2, g2, b2, h5, hcl, hlen, hlt]
    refine W.cond (t := true) (by simp only [ev_tmp, nth_set, Nat.reduceBEq, cond_true, cond_false, *]) (W.skip ?_)
    simp only [next_normal]
    refine W.seq (W.block (W.sreg ?_))
    unfold k55_r4
    simp only [WP_nil, WP_always, stepK_some, nth_set, p_move, p_load, p_bin, p_fieldAddr, p_indexAddr, ev_tmp, evc_eq, load_loc, load_ro, retV_ok, bs_eql, cells_agg, Option.bind_some, clean_str, cond_true, cond_false, QS_P, List.drop, List.head?_cons, beq_self_eq_true, true_and, Nat.add_zero, Nat.reduceBEq, Nat.reduceLT, nat_beq, rd_9, rd_22, fa_24_0_l, fa_40_0_r, h1, h2, g2, b2, h5, hia, Obj.val, Obj.cells]
    cases hb : o.id == id with
    | true =>
      refine W.cond (t := true) (by simp only [ev_tmp, nth_set, Nat.reduceBEq, cond_true, cond_false]) (W.sreg ?_)
      unfold k55_r5
      simp only [WP_nil, WP_always, stepK_some, nth_set, p_move, p_assign, ev_tmp, retV_ok, cond_true, cond_false, beq_self_eq_true, true_and, Nat.reduceBEq, Nat.reduceLT, h5]
      exact W.ret ⟨rfl, rfl, .inr ⟨rfl, (pre.length, o), by simp only [findO, hb, cond_true], by simp only [nth_set, Nat.reduceBEq, cond_true, cond_false, *]⟩⟩
    | false =>
      refine W.cond (t := false) (by simp only [ev_tmp, nth_set, Nat.reduceBEq, cond_true, cond_false]) (W.skip ?_)
      simp only [block_normal, next_normal]
      refine W.reg ?_
      unfold k55_r3
      simp only [WP_nil, WP_always, stepK_some, nth_set, p_move, p_assign, p_bin, ev_tmp, ev_const, evc_eq, ofValue_int, retV_ok, bi_add, Option.bind_some, clean_int, cond_true, cond_false, QS_P, beq_self_eq_true, true_and, Nat.reduceBEq, Nat.reduceLT, h5, hwr, next_normal]
      refine (ih (pre ++ [o]) _ (by rw [hpre]; simp) ⟨by simp only [nth_set, Nat.reduceBEq, cond_false, *], g2, b2⟩ (by simp only [nth_set, Nat.reduceBEq, cond_false, *]) (by simp only [nth_set, Nat.reduceBEq, cond_true, cond_false, List.length_append, List.length_cons, List.length_nil])).mono ?_
      simp only [findO, hb, cond_false, List.length_append, List.length_cons, List.length_nil]
      exact fun _ _ _ h => h
theorem find_run {sp : FuncId → Option (List AVal → Option AVal)} (h55 : sp 55 = none) {v : AVal} {l : List Obj} (id : Bytes) (hl : IsL 6 Obj.val v l) (hsmall : l.length < small) (s : St) : RunC (QS sp) 55 [.agg [v], .str id] s (.int .i64 (posV (findO id l 0))) s := by
  have hcl := hl.clean
  refine RunC.of2 k55_func k55_code k55_tmps k55_res h55 ?_
  unfold k55
  refine W.sreg ?_
  unfold k55_r0
  simp only [frame0, ofArgs, WP_nil, WP_always, stepK_some, nth_set, gen_nil, p_assign, p_box, ev_tmp, ev_const, evc_eq, ofValue_int, boxA_loc, retV_ok, hintOf_some, cells_agg, Option.bind_some, clean_agg, cond_true, cond_false, QS_hint, List.length_cons, List.length_nil, beq_self_eq_true, true_and, Nat.zero_add, Nat.reduceBEq, Nat.reduceLT, Nat.reduceAdd, Nat.reduceLeDiff, nat_ble, decide_true, hint_55_2]
  refine W.seq (W.sreg ?_)
  unfold k55_r1
  simp only [WP_nil, WP_always, stepK_some, p_assign, ev_const, ofValue_int, retV_ok, true_and, Nat.reduceLT]
  refine W.block ?_
  refine (find_loop (id := id) hl hsmall l [] _ rfl ⟨?_, ?_, ?_⟩ ?_ (by simp only [nth_set, Nat.reduceBEq, cond_true, cond_false]; rfl)).mono ?_
  · simp only [nth_set, Nat.reduceBEq, cond_true, cond_false, *]
  · simp only [gen_nil, gen_set', Nat.reduceBEq, cond_true]
  · simp only [loc_set', Nat.reduceBEq, cond_true]
  · simp only [nth_set, Nat.reduceBEq, cond_true, cond_false, *]
  rintro x ⟨e, sz, lc⟩ s' ⟨rfl, hs, ⟨rfl, hok⟩ | ⟨rfl, r, hok, h2⟩⟩
  · have hs : sz = 22 := hs
    subst hs
    show W (QS sp) 55 _ _ _ _
    refine W.sreg ?_
    unfold k55_r6
    simp only [WP_nil, WP_always, stepK_some, p_assign, ev_const, ofValue_int, retV_ok, true_and, Nat.reduceLT]
    refine W.ret ⟨rfl, .inr rfl, res_tmp ?_ rfl⟩
    have hok : findO id l 0 = none := hok
    simp only [nth_set, Nat.reduceBEq, cond_true, hok, posV]
  · have hok : findO id l 0 = some r := hok
    exact ⟨rfl, .inr rfl, res_tmp (by rw [h2, hok]; rfl) rfl⟩
def findSp : Sp
  | [u, .str id] => (asMap u).bind fun l => some (.int .i64 (posV (findO id l 0)))
  | _ => none
theorem findSp_of {v : AVal} {l : List Obj} (id : Bytes) (hl : IsL 6 Obj.val v l) (hk : ∀ o ∈ l, o.Good) (hsmall : l.length < small) : findSp [.agg [v], .str id] = some (.int .i64 (posV (findO id l 0))) := by
  simp only [findSp, asMap_of hl hk hsmall, Option.bind_some]
theorem findSp_ok : SpecOk Tryz.prog 55 findSp := by
  intro args u hv G h w xs wr hx
  unfold findSp at hv
  split at hv
  · rename_i id
    simp only [Option.bind_eq_some_iff, Option.some.injEq] at hv
    obtain ⟨l, h1, rfl⟩ := hv
    obtain ⟨v, rfl, hl, hg, hs⟩ := asMap_inv h1
    obtain ⟨ht, v', hw, hl'⟩ := objs_top hl hg
    have hw : weaks [.agg [v], .str id] = [.agg [v'], .str id] := by rw [weaks, hw]; rfl
    exact spec_of_run (Q := QT []) (good_of .nil) (fun _ => Nat.zero_lt_succ 1) (args := [.agg [v], .str id]) (v := .int .i64 (posV (findO id l 0))) (s' := s0) (by show (topP (.agg [v]) && (topP (.str id) && true)) = true; rw [ht]; rfl) (by rw [hw]; exact find_run (sp := fun f => tblGet f []) rfl id hl' hs s0) rfl ⟨1, rfl⟩ G h w xs wr hx
  · cases hv

/- Wanted -/
def wantedK (kind i : Int) : Int := bif ieq kind 4 then 2 else bif ieq kind 5 then bif ieq i 1 then 1 else 2 else 1
theorem want_run {sp : FuncId → Option (List AVal → Option AVal)} (h56 : sp 56 = none) (k i : Int) (s : St) : RunC (QS sp) 56 [.int .i64 k, .int .i64 i] s (.int .i64 (wantedK k i)) s := by
  refine RunC.of2 k56_func k56_code k56_tmps k56_res h56 ?_
  unfold k56
  refine W.sreg ?_
  unfold k56_r0
  simp only [frame0, ofArgs, WP_nil, WP_always, stepK_some, p_assign, ev_const, ofValue_int, retV_ok, cond_true, List.length_cons, List.length_nil, true_and, Nat.zero_add, Nat.reduceLT, Nat.reduceAdd, Nat.reduceLeDiff, nat_ble, decide_true]
  refine W.seq (W.sreg ?_)
  unfold k56_r1
  have fin : ∀ e' lc', nth e' 14 = .bool true → wantedK k i = 2 → W (QS sp) 56 (.cond (Operand.tmp 14) (.seq (.region k56_r2) .ret) .skip) ⟨e', 15, lc'⟩ s fun x fr s' => x = .ret ∧ s' = s ∧ nth fr.env 4 = .int .i64 (wantedK k i) := by
    intro e' lc' h hw
    refine W.cond (t := true) (by simp only [ev_tmp, h]) (W.sreg ?_)
    unfold k56_r2
    simp only [WP_nil, WP_always, stepK_some, p_assign, ev_const, ofValue_int, retV_ok, true_and, Nat.reduceLT]
    exact W.ret ⟨rfl, rfl, by simp only [nth_set, Nat.reduceBEq, cond_true, hw]⟩
  cases h4 : ieq k 4 with
  | true =>
    simp only [WP_nil, WP_always, WP_when, stepK_some, whenK_false, wantV_tf, wantV_undef, nth_set, p_move, p_pick, p_bin, ev_tmp, ev_const, evc_eq, ofValue_bool, ofValue_int, pick_eq, pickV_true, retV_ok, bi_eql, Option.bind_some, clean_int, cond_true, cond_false, QS_P, beq_self_eq_true, true_and, Nat.reduceBEq, Nat.reduceLT, h4]
    refine (fin _ _ (by simp only [nth_set, Nat.reduceBEq, cond_true, cond_false, *]) (by simp only [wantedK, h4, cond_true])).mono ?_
    rintro x fr s' ⟨rfl, rfl, h⟩
    exact ⟨rfl, .inr rfl, res_tmp h rfl⟩
  | false =>
  cases h5 : ieq k 5 with
  | false =>
    simp only [WP_nil, WP_always, WP_when, stepK_some, whenK_true, whenK_false, wantV_ft, wantV_ff, nth_set, p_move, p_pick, p_bin, ev_tmp, ev_const, evc_eq, ofValue_bool, ofValue_int, pick_eq, pickV_false, retV_ok, bi_eql, Option.bind_some, clean_int, cond_true, cond_false, QS_P, beq_self_eq_true, true_and, Nat.reduceBEq, Nat.reduceLT, h4, h5]
    refine W.cond (t := false) (by simp only [ev_tmp, nth_set, Nat.reduceBEq, cond_true, cond_false, *]) (W.skip ?_)
    simp only [next_normal]
    refine W.sreg ?_
    unfold k56_r3
    simp only [WP_nil, WP_always, stepK_some, p_assign, ev_const, ofValue_int, retV_ok, true_and, Nat.reduceLT]
    refine W.ret ⟨rfl, .inr rfl, res_tmp ?_ rfl⟩
    simp only [nth_set, Nat.reduceBEq, cond_true, cond_false, wantedK, h4, h5]
  | true =>
  cases h1 : ieq i 1 with
  | false =>
    simp only [WP_nil, WP_always, WP_when, stepK_some, whenK_true, wantV_tt, wantV_ff, nth_set, p_move, p_pick, p_bin, ev_tmp, ev_const, evc_eq, ofValue_bool, ofValue_int, pick_eq, pickV_true, pickV_false, retV_ok, bi_eql, bi_neq, Option.bind_some, clean_int, cond_true, cond_false, QS_P, Bool.not_false, beq_self_eq_true, true_and, Nat.reduceBEq, Nat.reduceLT, h4, h5, h1]
    refine (fin _ _ (by simp only [nth_set, Nat.reduceBEq, cond_true, cond_false, *]) (by simp only [wantedK, h4, h5, h1, cond_true, cond_false])).mono ?_
    rintro x fr s' ⟨rfl, rfl, h⟩
    exact ⟨rfl, .inr rfl, res_tmp h rfl⟩
  | true =>
    simp only [WP_nil, WP_always, WP_when, stepK_some, whenK_true, wantV_tt, wantV_ff, nth_set, p_move, p_pick, p_bin, ev_tmp, ev_const, evc_eq, ofValue_bool, ofValue_int, pick_eq, pickV_true, pickV_false, retV_ok, bi_eql, bi_neq, Option.bind_some, clean_int, cond_true, cond_false, QS_P, Bool.not_true, beq_self_eq_true, true_and, Nat.reduceBEq, Nat.reduceLT, h4, h5, h1]
    refine W.cond (t := false) (by simp only [ev_tmp, nth_set, Nat.reduceBEq, cond_true, cond_false, *]) (W.skip ?_)
    simp only [next_normal]
    refine W.sreg ?_
    unfold k56_r3
    simp only [WP_nil, WP_always, stepK_some, p_assign, ev_const, ofValue_int, retV_ok, true_and, Nat.reduceLT]
    refine W.ret ⟨rfl, .inr rfl, res_tmp ?_ rfl⟩
    simp only [nth_set, Nat.reduceBEq, cond_true, cond_false, wantedK, h4, h5, h1]
def wantSp : Sp
  | [.int .i64 k, .int .i64 i] => some (.int .i64 (wantedK k i))
  | _ => none
theorem wantSp_ok : SpecOk Tryz.prog 56 wantSp := by
  intro args u hv G h w xs wr hx
  unfold wantSp at hv
  split at hv
  · rename_i k i
    injection hv with hv; subst hv
    exact spec_of_run (Q := QT []) (good_of .nil) (fun _ => Nat.zero_lt_succ 1) (args := [.int .i64 k, .int .i64 i]) (v := .int .i64 (wantedK k i)) (s' := s0) rfl (want_run (sp := fun f => tblGet f []) rfl k i s0) rfl ⟨1, rfl⟩ G h w xs wr hx
  · cases hv
end Go.Proofs.YtbfmdojdemckbaaGreat
/- planisphereref21.refs, Closed -/
namespace Go.Proofs.YtbfmdojdemckbaaGreat
open Go.Ag

def refErr (l : List Obj) (kind : Int) : Nat → List Bytes → Int
  | _, [] => 0
  | i, r :: rest => match findO r l 0 with
    | none => 14
    | some (_, q) => bif ieq q.kind (wantedK kind (i : Nat)) then refErr l kind (i + 1) rest else 13

structure ErrI (v : AVal) (o : Obj) (e : Env) (lc : Ag.Loc) : Prop where
  h2 : nth e 2 = .lref 2 1 0
  g2 : lc.gen 2 = 1
  b2 : lc.get 2 1 = some [v]
  h3 : nth e 3 = .lref 3 1 0
  g3 : lc.gen 3 = 1
  b3 : lc.get 3 1 = some o.cells

section
variable {sp : FuncId → Option (List AVal → Option AVal)} (h55 : sp 55 = some findSp) (h56 : sp 56 = some wantSp)
include h55 h56
theorem err_loop {v : AVal} {l : List Obj} {o : Obj} (ho : o.Good) (hl : IsL 6 Obj.val v l) (hk : ∀ o ∈ l, o.Good) (hsmall : l.length < small) {s : St} (hm : s.minw ≤ s.next) {lc : Ag.Loc} : ∀ (rest pre : List Bytes) (e : Env), o.refs = pre ++ rest →
    ErrI v o e lc → nth e 5 = .int .i64 (pre.length : Nat) →
    W (QS sp) 35 (.loop k35_l0) ⟨e, 34, lc⟩ s fun x fr s' => s' = s ∧ fr.size = 34 ∧ ((x = .exit 0 ∧ refErr l o.kind pre.length rest = 0) ∨ (x = .ret ∧ nth fr.env 4 = .int .i64 (refErr l o.kind pre.length rest))) := by
  intro rest
  have hlen := fun mk s => ho.refs.len ln_37_n ln_37_l mk s
  have hcl := ho.refs.clean
  have hmc := hl.clean
  have hsm : small = 9223372036854775808 := rfl
  have hrl := ho.reflen
  induction rest with
  | nil =>
    intro pre e hpre I h5
    obtain ⟨h2, g2, b2, h3, g3, b3⟩ := I
    have hlen' : o.refs.length = pre.length := by rw [hpre]; simp
    refine W.loop1 ?_
    unfold k35_l0
    refine W.seq (W.sreg ?_)
    unfold k35_r2
    simp only [WP_nil, WP_always, stepK_some, nth_set, p_move, p_load, p_bin, p_fieldAddr, p_builtin, ev_tmp, evc_eq, evcs_nil, evcs_cons, load_loc, retV_ok, retVS_some, bi_lss, bl_len, hintOf_some, Option.bind_some, clean_int, cond_true, cond_false, QS_P, QS_hint, List.drop, List.head?_cons, ilt_nat, beq_self_eq_true, true_and, Nat.zero_add, Nat.reduceBEq, Nat.reduceLT, nat_beq, decide_false, rd_37, fa_40_3_l, h3, g3, b3, Obj.cells, h5, hcl, hlen, hlen', Nat.lt_irrefl]
    refine W.cond (t := false) (by simp only [ev_tmp, nth_set, Nat.reduceBEq, cond_true, cond_false, *]) ?_
    exact W.exit ⟨rfl, rfl, .inl ⟨rfl, rfl⟩⟩
  | cons r rest ih =>
    intro pre e hpre I h5
    obtain ⟨h2, g2, b2, h3, g3, b3⟩ := I
    have hlt : pre.length < o.refs.length := by rw [hpre]; simp
    have hat : o.refs[pre.length]? = some r := by rw [hpre]; simp
    have hia := fun lc => ho.refs.at ia_37_l hat lc .i64
    have hfs := findSp_of r hl hk hsmall
    have hwr : IntKind.i64.wrap ((pre.length : Int) + 1) = ((pre.length + 1 : Nat) : Int) := by rw [wrap64_small (by omega) (by omega)]; omega
    refine W.loop1 ?_
    unfold k35_l0
    refine W.seq (W.sreg ?_)
    unfold k35_r2
    simp only [WP_nil, WP_always, stepK_some, nth_set, p_move, p_load, p_bin, p_fieldAddr, p_builtin, ev_tmp, evc_eq, evcs_nil, evcs_cons, load_loc, retV_ok, retVS_some, bi_lss, bl_len, hintOf_some, Option.bind_some, clean_int, cond_true, cond_false, QS_P, QS_hint, List.drop, List.head?_cons, ilt_nat, beq_self_eq_true, true_and, Nat.zero_add, Nat.reduceBEq, Nat.reduceLT, nat_beq, decide_true, rd_37, fa_40_3_l, h3, g3, b3, Obj.cells, h5, hcl, hlen, hlt]
    refine W.cond (t := true) (by simp only [ev_tmp, nth_set, Nat.reduceBEq, cond_true, cond_false, *]) (W.skip ?_)
    simp only [next_normal]
    refine W.seq (W.block (W.sdrawQ hm ?_))
    unfold k35_r4
    simp only [WQ_nil, WQ_always, stepQ_some, isStore, nth_set, p_move, p_assign, p_load, p_fieldAddr, p_indexAddr, p_call, callee_func, ev_tmp, evc_eq, evcs_nil, evcs_cons, load_loc, load_ro, retV_ok, cells_str, Option.bind_some, clean_str, clean_agg, cond_true, cond_false, QS_P, QS_spec, List.length_cons, List.length_nil, cut, List.take, List.drop, List.head?_cons, beq_self_eq_true, true_and, Nat.zero_add, Nat.reduceBEq, Nat.reduceLT, nat_beq, rd_9, rd_24, rd_37, fa_40_3_l, h2, b2, h3, g3, b3, Obj.cells, h5, hia, strV, h55, hfs]
    refine W.seq (W.sreg ?_)
    unfold k35_r5
    cases hf : findO r l 0 with
    | none =>
      have hi : ilt (posV (none : Option (Nat × Obj))) 0 = true := rfl
      simp only [WP_nil, WP_always, stepK_some, nth_set, p_move, p_bin, ev_tmp, ev_const, evc_eq, ofValue_int, retV_ok, bi_lss, Option.bind_some, clean_int, cond_true, cond_false, QS_P, beq_self_eq_true, true_and, Nat.reduceBEq, Nat.reduceLT, hi]
      refine W.cond (t := true) (by simp only [ev_tmp, nth_set, Nat.reduceBEq, cond_true, cond_false, *]) (W.sreg ?_)
      unfold k35_r6
      simp only [WP_nil, WP_always, stepK_some, p_assign, ev_const, ofValue_int, retV_ok, true_and, Nat.reduceLT]
      refine W.ret ⟨rfl, rfl, .inr ⟨rfl, ?_⟩⟩
      simp only [nth_set, Nat.reduceBEq, cond_true, cond_false, refErr, hf]
    | some kq =>
      obtain ⟨k, q⟩ := kq
      obtain ⟨_, hq, _⟩ := findO_at hf
      rw [Nat.sub_zero] at hq
      have hia2 := fun lc => hl.at ia_22_l hq lc .i64
      have hpv : posV (some (k, q)) = ((k : Nat) : Int) := rfl
      have hi : ilt ((k : Nat) : Int) 0 = false := by rw [show (0 : Int) = ((0 : Nat) : Int) from rfl, ilt_nat]; simp
      have hws : wantSp [.int .i64 o.kind, .int .i64 (pre.length : Nat)] = some (.int .i64 (wantedK o.kind (pre.length : Nat))) := rfl
      simp only [WP_nil, WP_always, stepK_some, nth_set, p_move, p_bin, ev_tmp, ev_const, evc_eq, ofValue_int, retV_ok, bi_lss, Option.bind_some, clean_int, cond_true, cond_false, QS_P, beq_self_eq_true, true_and, Nat.reduceBEq, Nat.reduceLT, hpv, hi]
      refine W.cond (t := false) (by simp only [ev_tmp, nth_set, Nat.reduceBEq, cond_true, cond_false, *]) (W.skip ?_)
      simp only [next_normal]
      refine W.sdrawQ hm ?_
      unfold k35_r7
      simp only [WQ_nil, WQ_always, stepQ_some, isStore, nth_set, p_move, p_load, p_bin, p_fieldAddr, p_indexAddr, p_call, callee_func, ev_tmp, evc_eq, evcs_nil, evcs_cons, load_loc, load_ro, retV_ok, bi_neq, cells_agg, Option.bind_some, clean_int, cond_true, cond_false, QS_P, QS_spec, List.drop, List.head?_cons, beq_self_eq_true, true_and, Nat.zero_add, Nat.add_zero, Nat.reduceBEq, Nat.reduceLT, nat_beq, rd_3, rd_22, fa_24_0_l, fa_40_1_l, fa_40_1_r, h2, g2, b2, h3, g3, b3, Obj.val, Obj.cells, h5, hia2, h56, hws]
      cases hw : ieq q.kind (wantedK o.kind (pre.length : Nat)) with
      | false =>
        refine W.cond (t := true) (by simp only [ev_tmp, nth_set, Nat.reduceBEq, cond_true, cond_false, Bool.not_false]) (W.sreg ?_)
        unfold k35_r8
        simp only [WP_nil, WP_always, stepK_some, p_assign, ev_const, ofValue_int, retV_ok, Bool.not_false, true_and, Nat.reduceLT]
        refine W.ret ⟨rfl, rfl, .inr ⟨rfl, ?_⟩⟩
        simp only [nth_set, Nat.reduceBEq, cond_true, cond_false, refErr, hf, hw]
      | true =>
        refine W.cond (t := false) (by simp only [ev_tmp, nth_set, Nat.reduceBEq, cond_true, cond_false, Bool.not_true]) (W.skip ?_)
        simp only [block_normal, next_normal]
        refine W.reg ?_
        unfold k35_r3
        simp only [WP_nil, WP_always, stepK_some, nth_set, p_move, p_assign, p_bin, ev_tmp, ev_const, evc_eq, ofValue_int, retV_ok, bi_add, Option.bind_some, clean_int, cond_true, cond_false, QS_P, Bool.not_true, beq_self_eq_true, true_and, Nat.reduceBEq, Nat.reduceLT, h5, hwr, next_normal]
        refine (ih (pre ++ [r]) _ (by rw [hpre]; simp) ⟨by simp only [nth_set, Nat.reduceBEq, cond_false, *], g2, b2, by simp only [nth_set, Nat.reduceBEq, cond_false, *], g3, b3⟩ (by simp only [nth_set, Nat.reduceBEq, cond_true, cond_false, List.length_append, List.length_cons, List.length_nil])).mono ?_
        simp only [refErr, hf, hw, cond_true, List.length_append, List.length_cons, List.length_nil]
        exact fun _ _ _ h => h
theorem err_run (h35 : sp 35 = none) {v : AVal} {l : List Obj} {o : Obj} (ho : o.Good) (hl : IsL 6 Obj.val v l) (hk : ∀ o ∈ l, o.Good) (hsmall : l.length < small) {s : St} (hm : s.minw ≤ s.next) : RunC (QS sp) 35 [.agg [v], o.val] s (.int .i64 (refErr l o.kind 0 o.refs)) s := by
  have hmc := hl.clean
  have hcl := ho.refs.clean
  have htl := ho.tags.clean
  refine RunC.of2 k35_func k35_code k35_tmps k35_res h35 ?_
  unfold k35
  refine W.sreg ?_
  unfold k35_r0
  simp only [frame0, ofArgs, WP_nil, WP_always, stepK_some, nth_set, gen_nil, gen_set', p_assign, p_box, ev_tmp, ev_const, evc_eq, ofValue_int, boxA_loc, retV_ok, hintOf_some, cells_agg, Option.bind_some, clean_agg, cond_true, cond_false, QS_hint, List.length_cons, List.length_nil, beq_self_eq_true, true_and, Nat.zero_add, Nat.reduceBEq, Nat.reduceLT, Nat.reduceAdd, Nat.reduceLeDiff, nat_ble, decide_true, hint_35_2, hint_35_3, Obj.val, Obj.cells]
  refine W.seq (W.sreg ?_)
  unfold k35_r1
  simp only [WP_nil, WP_always, stepK_some, p_assign, ev_const, ofValue_int, retV_ok, true_and, Nat.reduceLT]
  refine W.block ?_
  refine (err_loop h55 h56 ho hl hk hsmall hm o.refs [] _ rfl ⟨?_, ?_, ?_, ?_, ?_, ?_⟩ (by simp only [nth_set, Nat.reduceBEq, cond_true, cond_false]; rfl)).mono ?_
  · simp only [nth_set, Nat.reduceBEq, cond_true, cond_false, *]
  · simp only [gen_nil, gen_set', Nat.reduceBEq, cond_true, cond_false]
  · simp only [loc_set', Nat.reduceBEq, cond_true, cond_false]
  · simp only [nth_set, Nat.reduceBEq, cond_true, cond_false, *]
  · simp only [gen_nil, gen_set', Nat.reduceBEq, cond_true, cond_false]
  · simp only [loc_set', Nat.reduceBEq, cond_true, cond_false, Obj.cells]
  rintro x ⟨e, sz, lc⟩ s' ⟨rfl, hs, ⟨rfl, hok⟩ | ⟨rfl, h2⟩⟩
  · have hs : sz = 34 := hs
    subst hs
    show W (QS sp) 35 _ _ _ _
    refine W.sreg ?_
    unfold k35_r9
    simp only [WP_nil, WP_always, stepK_some, p_assign, ev_const, ofValue_int, retV_ok, true_and, Nat.reduceLT]
    refine W.ret ⟨rfl, .inr rfl, res_tmp ?_ rfl⟩
    have hok : refErr l o.kind 0 o.refs = 0 := hok
    simp only [nth_set, Nat.reduceBEq, cond_true, hok]
  · exact ⟨rfl, .inr rfl, res_tmp h2 rfl⟩
end
def errSp : Sp
  | [u, ov] => (asMap u).bind fun l => (asObj ov).bind fun o => some (.int .i64 (refErr l o.kind 0 o.refs))
  | _ => none
theorem errSp_of {v : AVal} {l : List Obj} {o : Obj} (ho : o.Good) (hl : IsL 6 Obj.val v l) (hk : ∀ o ∈ l, o.Good) (hsmall : l.length < small) : errSp [.agg [v], o.val] = some (.int .i64 (refErr l o.kind 0 o.refs)) := by
  simp only [errSp, asMap_of hl hk hsmall, asObj_val ho, Option.bind_some]
def U5 : Tbl := [(55, findSp), (56, wantSp)]
theorem U5_ok : TblOk U5 := .cons findSp_ok (.cons wantSp_ok .nil)
theorem errSp_ok : SpecOk Tryz.prog 35 errSp := by
  intro args u hv G h w xs wr hx
  unfold errSp at hv
  split at hv
  · simp only [Option.bind_eq_some_iff, Option.some.injEq] at hv
    obtain ⟨l, h1, o, h2, rfl⟩ := hv
    obtain ⟨v, rfl, hl, hg, hs⟩ := asMap_inv h1
    obtain ⟨rfl, ho⟩ := asObj_inv h2
    obtain ⟨ht, v', hw, hl'⟩ := objs_top hl hg
    have ho' : weak o.val = o.val := weak_pure ho.pure
    have hw : weaks [.agg [v], o.val] = [.agg [v'], o.val] := by rw [weaks, hw, weaks, ho']; rfl
    exact spec_of_run (Q := QT U5) (good_of U5_ok) (fun _ => Nat.zero_lt_succ 1) (args := [.agg [v], o.val]) (v := .int .i64 (refErr l o.kind 0 o.refs)) (s' := s0) (by show (topP (.agg [v]) && (topP o.val && true)) = true; rw [ht, top_pure ho.pure]; rfl) (by rw [hw]; exact err_run (sp := fun f => tblGet f U5) rfl rfl rfl ho hl' hg hs (Nat.le_refl _)) rfl ⟨1, rfl⟩ G h w xs wr hx
  · cases hv

/- Closed -/
def allRefs (l : List Obj) : List Obj → Bool
  | [] => true
  | o :: r => bif ieq (refErr l o.kind 0 o.refs) 0 then allRefs l r else false
def closedL (l : List Obj) : Bool := bif refMap l then allRefs l l else false
section
variable {sp : FuncId → Option (List AVal → Option AVal)} (h35 : sp 35 = some errSp)
include h35
theorem clo_loop {v : AVal} {l : List Obj} (hl : IsL 6 Obj.val v l) (hk : ∀ o ∈ l, o.Good) (hsmall : l.length < small) {s : St} (hm : s.minw ≤ s.next) {lc : Ag.Loc} : ∀ (rest pre : List Obj) (e : Env), l = pre ++ rest →
    MapI v 1 e lc → nth e 3 = .int .i64 (pre.length : Nat) →
    W (QS sp) 12 (.loop k12_l0) ⟨e, 22, lc⟩ s fun x fr s' => s' = s ∧ fr.size = 22 ∧ ((x = .exit 0 ∧ allRefs l rest = true) ∨ (x = .ret ∧ nth fr.env 2 = .bool false ∧ allRefs l rest = false)) := by
  intro rest
  have hlen := fun mk s => hl.len ln_22_n ln_22_l mk s
  have hcl := hl.clean
  have hsm : small = 9223372036854775808 := rfl
  induction rest with
  | nil =>
    intro pre e hpre I h3
    obtain ⟨h1, g1, b1⟩ := I
    have hlen' : l.length = pre.length := by rw [hpre]; simp
    refine W.loop1 ?_
    unfold k12_l0
    refine W.seq (W.sreg ?_)
    unfold k12_r4
    simp only [WP_nil, WP_always, stepK_some, nth_set, p_move, p_load, p_bin, p_fieldAddr, p_builtin, ev_tmp, evc_eq, evcs_nil, evcs_cons, load_loc, retV_ok, retVS_some, bi_lss, bl_len, hintOf_some, Option.bind_some, clean_int, cond_true, cond_false, QS_P, QS_hint, List.drop, List.head?_cons, ilt_nat, beq_self_eq_true, true_and, Nat.add_zero, Nat.reduceBEq, Nat.reduceLT, nat_beq, decide_false, rd_22, fa_24_0_l, h1, g1, b1, h3, hcl, hlen, hlen', Nat.lt_irrefl]
    refine W.cond (t := false) (by simp only [ev_tmp, nth_set, Nat.reduceBEq, cond_true, cond_false, *]) ?_
    exact W.exit ⟨rfl, rfl, .inl ⟨rfl, rfl⟩⟩
  | cons o rest ih =>
    intro pre e hpre I h3
    obtain ⟨h1, g1, b1⟩ := I
    have hlt : pre.length < l.length := by rw [hpre]; simp
    have hat : l[pre.length]? = some o := by rw [hpre]; simp
    have hia := fun lc => hl.at ia_22_l hat lc .i64
    have ho := hk o (List.mem_of_getElem? hat)
    have hes := errSp_of ho hl hk hsmall
    simp only [Obj.val, Obj.cells] at hes
    have hwr : IntKind.i64.wrap ((pre.length : Int) + 1) = ((pre.length + 1 : Nat) : Int) := by rw [wrap64_small (by omega) (by omega)]; omega
    refine W.loop1 ?_
    unfold k12_l0
    refine W.seq (W.sreg ?_)
    unfold k12_r4
    simp only [WP_nil, WP_always, stepK_some, nth_set, p_move, p_load, p_bin, p_fieldAddr, p_builtin, ev_tmp, evc_eq, evcs_nil, evcs_cons, load_loc, retV_ok, retVS_some, bi_lss, bl_len, hintOf_some, Option.bind_some, clean_int, cond_true, cond_false, QS_P, QS_hint, List.drop, List.head?_cons, ilt_nat, beq_self_eq_true, true_and, Nat.add_zero, Nat.reduceBEq, Nat.reduceLT, nat_beq, decide_true, rd_22, fa_24_0_l, h1, g1, b1, h3, hcl, hlen, hlt]
    refine W.cond (t := true) (by simp only [ev_tmp, nth_set, Nat.reduceBEq, cond_true, cond_false, *]) (W.skip ?_)
    simp only [next_normal]
    refine W.seq (W.block (W.sdrawQ hm ?_))
    unfold k12_r6
    simp only [WQ_nil, WQ_always, stepQ_some, isStore, nth_set, p_move, p_load, p_bin, p_fieldAddr, p_indexAddr, p_call, callee_func, ev_tmp, ev_const, evc_eq, evcs_nil, evcs_cons, ofValue_int, load_loc, load_ro, retV_ok, bi_neq, cells_agg, Option.bind_some, clean_int, clean_agg, cond_true, cond_false, QS_P, QS_spec, List.length_cons, List.length_nil, cut, List.take, List.drop, List.head?_cons, List.take_succ_cons, beq_self_eq_true, true_and, Nat.zero_add, Nat.add_zero, Nat.reduceBEq, Nat.reduceLT, Nat.reduceAdd, nat_beq, rd_22, rd_24, rd_40, fa_24_0_l, h1, g1, b1, h3, hia, Obj.val, Obj.cells, h35, hes]
    cases hz : ieq (refErr l o.kind 0 o.refs) 0 with
    | false =>
      refine W.cond (t := true) (by simp only [ev_tmp, nth_set, Nat.reduceBEq, cond_true, cond_false, Bool.not_false]) (W.sreg ?_)
      unfold k12_r7
      simp only [WP_nil, WP_always, stepK_some, p_assign, ev_const, ofValue_bool, retV_ok, Bool.not_false, true_and, Nat.reduceLT]
      exact W.ret ⟨rfl, rfl, .inr ⟨rfl, by simp only [nth_set, Nat.reduceBEq, cond_true, cond_false, *], by simp only [allRefs, hz, cond_false]⟩⟩
    | true =>
      refine W.cond (t := false) (by simp only [ev_tmp, nth_set, Nat.reduceBEq, cond_true, cond_false, Bool.not_true]) (W.skip ?_)
      simp only [block_normal, next_normal]
      refine W.reg ?_
      unfold k12_r5
      simp only [WP_nil, WP_always, stepK_some, nth_set, p_move, p_assign, p_bin, ev_tmp, ev_const, evc_eq, ofValue_int, retV_ok, bi_add, Option.bind_some, clean_int, cond_true, cond_false, QS_P, Bool.not_true, beq_self_eq_true, true_and, Nat.reduceBEq, Nat.reduceLT, h3, hwr, next_normal]
      refine (ih (pre ++ [o]) _ (by rw [hpre]; simp) ⟨by simp only [nth_set, Nat.reduceBEq, cond_false, *], g1, b1⟩ (by simp only [nth_set, Nat.reduceBEq, cond_true, cond_false, List.length_append, List.length_cons, List.length_nil])).mono ?_
      simp only [allRefs, hz, cond_true]
      exact fun _ _ _ h => h
theorem clo_run (h34 : sp 34 = some m12Sp) (h12 : sp 12 = none) {v : AVal} {l : List Obj} (hl : IsL 6 Obj.val v l) (hk : ∀ o ∈ l, o.Good) (hsmall : l.length < small) {s : St} (hm : s.minw ≤ s.next) : RunC (QS sp) 12 [.agg [v]] s (.bool (closedL l)) s := by
  have hcl := hl.clean
  have hms := m12Sp_of hl hk hsmall
  refine RunC.of2 k12_func k12_code k12_tmps k12_res h12 ?_
  unfold k12
  refine W.sreg ?_
  unfold k12_r0
  simp only [frame0, ofArgs, WP_nil, WP_always, stepK_some, nth_set, gen_nil, p_assign, p_box, ev_tmp, ev_const, evc_eq, ofValue_bool, boxA_loc, retV_ok, hintOf_some, cells_agg, Option.bind_some, clean_agg, cond_true, QS_hint, List.length_cons, List.length_nil, beq_self_eq_true, true_and, Nat.zero_add, Nat.reduceLT, Nat.reduceLeDiff, nat_ble, decide_true, hint_12_1]
  refine W.seq (W.sreg ?_)
  unfold k12_r1
  simp only [WP_nil, WP_always, stepK_some, nth_set, loc_set', p_load, p_un, p_call, callee_func, ev_tmp, evc_eq, evcs_nil, evcs_cons, load_loc, retV_ok, un_not, Option.bind_some, clean_bool, clean_agg, cond_true, cond_false, QS_P, QS_spec, List.length_cons, List.length_nil, cut, List.take, List.drop, beq_self_eq_true, true_and, Nat.zero_add, Nat.reduceBEq, Nat.reduceLT, nat_beq, rd_24, h34, hms]
  cases hv : refMap l with
  | false =>
    refine W.cond (t := true) (by simp only [ev_tmp, nth_set, Nat.reduceBEq, cond_true, cond_false, Bool.not_false]) (W.sreg ?_)
    unfold k12_r2
    simp only [WP_nil, WP_always, stepK_some, p_assign, ev_const, ofValue_bool, retV_ok, Bool.not_false, true_and, Nat.reduceLT]
    refine W.ret ⟨rfl, .inr rfl, res_tmp ?_ rfl⟩
    simp only [nth_set, Nat.reduceBEq, cond_true, cond_false, closedL, hv]
  | true =>
    refine W.cond (t := false) (by simp only [ev_tmp, nth_set, Nat.reduceBEq, cond_true, cond_false, Bool.not_true]) (W.skip ?_)
    simp only [next_normal]
    refine W.seq (W.sreg ?_)
    unfold k12_r3
    simp only [WP_nil, WP_always, stepK_some, p_assign, ev_const, ofValue_int, retV_ok, Bool.not_true, true_and, Nat.reduceLT]
    refine W.block ?_
    refine (clo_loop h35 hl hk hsmall hm l [] _ rfl ⟨?_, ?_, ?_⟩ (by simp only [nth_set, Nat.reduceBEq, cond_true, cond_false]; rfl)).mono ?_
    · simp only [nth_set, Nat.reduceBEq, cond_true, cond_false, *]
    · simp only [gen_nil, gen_set', Nat.reduceBEq, cond_true]
    · simp only [loc_set', Nat.reduceBEq, cond_true]
    rintro x ⟨e, sz, lc⟩ s' ⟨rfl, hs, ⟨rfl, hok⟩ | ⟨rfl, h2, hok⟩⟩
    · have hs : sz = 22 := hs
      subst hs
      show W (QS sp) 12 _ _ _ _
      refine W.sreg ?_
      unfold k12_r8
      simp only [WP_nil, WP_always, stepK_some, p_assign, ev_const, ofValue_bool, retV_ok, true_and, Nat.reduceLT]
      refine W.ret ⟨rfl, .inr rfl, res_tmp ?_ rfl⟩
      simp only [nth_set, Nat.reduceBEq, cond_true, closedL, hv, hok]
    · exact ⟨rfl, .inr rfl, res_tmp (by rw [h2]; simp only [closedL, hv, cond_true, hok]) rfl⟩
end
def cloSp : Sp
  | [u] => (asMap u).bind fun l => some (.bool (closedL l))
  | _ => none
theorem cloSp_of {v : AVal} {l : List Obj} (hl : IsL 6 Obj.val v l) (hk : ∀ o ∈ l, o.Good) (hsmall : l.length < small) : cloSp [.agg [v]] = some (.bool (closedL l)) := by
  simp only [cloSp, asMap_of hl hk hsmall, Option.bind_some]
def U6 : Tbl := [(35, errSp), (34, m12Sp)]
theorem U6_ok : TblOk U6 := .cons errSp_ok (.cons m12Sp_ok .nil)
theorem cloSp_ok : SpecOk Tryz.prog 12 cloSp := by
  intro args u hv G h w xs wr hx
  unfold cloSp at hv
  split at hv
  · simp only [Option.bind_eq_some_iff, Option.some.injEq] at hv
    obtain ⟨l, h1, rfl⟩ := hv
    obtain ⟨v, rfl, hl, hg, hs⟩ := asMap_inv h1
    obtain ⟨ht, v', hw, hl'⟩ := objs_top hl hg
    have hw : weaks [.agg [v]] = [.agg [v']] := by simp only [weaks, hw]
    exact spec_of_run (Q := QT U6) (good_of U6_ok) (fun _ => Nat.zero_lt_succ 1) (args := [.agg [v]]) (v := .bool (closedL l)) (s' := s0) (by simp only [tops, ht, Bool.and_self]) (by rw [hw]; exact clo_run (sp := fun f => tblGet f U6) rfl rfl rfl hl' hg hs (Nat.le_refl _)) rfl ⟨1, rfl⟩ G h w xs wr hx
  · cases hv
end Go.Proofs.YtbfmdojdemckbaaGreat
