/- MergeOne holds: for every two maps the law returns true, and its arguments read as they did. -/
import Derived.Test.YtbfmdojdemckbaaGreatZ12
import Derived.Test.YtbfmdojdemckbaaGreatRows
import Derived.Test.YtbfmdojdemckbaaGreatFact
/- MergeOne: for every two maps the law returns true, and its arguments read as they did. -/
namespace Go.Proofs.YtbfmdojdemckbaaGreat
open Go.ChangeShapes Go.WideShapes Go.ChangeAt Go.RowKit Go.Ag

theorem own_ok : ownKnob Tryz.prog.godebug = none := by kernel_rfl
theorem laid_ok : laidOutB Tryz.prog = true := by kernel_rfl
theorem u_4 : Tryz.prog.underlying 4 = some .bool := by kernel_rfl

/-- a call of a Go function is entered -/
theorem calls_of {P : Program} {f : FuncId} {fn : Func} {args : Array Value} {w : World} {R : Value → World → Prop} (hf : P.funcs[f]? = some fn) (hname : (fn.name == "runtime.NumGoroutine") = false) (hb : fn.body.isSome = true)
    (h : CallsTo P f args w R) : Calls P f args w fun e w' => ∃ y, e = .returned y ∧ R y w' := by
  rcases h with ⟨y, w', h1, _⟩ | ⟨_, h⟩
  · have h2 : fn.name ≠ "runtime.NumGoroutine" := by simpa using hname
    cases hc : fn.body with
    | none => rw [hc] at hb; cases hb
    | some c =>
      have : (callFunc f args).run P w = .ok (.enter f args) w := by simp [callFunc, hf, h2, hc]
      rw [this] at h1
      cases h1
  · exact h
theorem agg_of_okWide {P : Program} {t : TypeId} {fs : Array Field} (ht : P.underlying t = some (.struct fs)) {W : World} {r : Go.Reach} {base : Nat} {v : Value} (h : Value.okWide P W r base t v) : ∃ cs, v = .agg cs := by
  unfold Value.okWide at h
  rw [ht] at h
  obtain ⟨cs, h1, _⟩ := h
  exact ⟨cs, h1⟩
theorem one_of_okWide {P : Program} {t e : TypeId} (ht : P.underlying t = some (.slice e)) {W : World} {r : Go.Reach} {base : Nat} {v : Value} (h : Value.okWide P W r base t v) : v.cells.toList = [v] := by
  unfold Value.okWide at h
  rw [ht] at h
  have h : Cell.okWide P W r base t v := h
  cases v with
  | agg cs =>
    unfold Cell.okWide at h
    rw [ht] at h
    have h : Cell.ok P W r base t (.agg cs) := h
    unfold Cell.ok at h
    rw [ht] at h
    exact h.elim
  | _ => rfl
theorem same_of {W W' : World} (h : ∀ b, b < W.heap.size → W'.heap[b]? = W.heap[b]?) (p : MemPlace) (hp : p.block < W.heap.size) : W.sameAt W' p := by
  cases p with
  | cell b o =>
    have h := h b hp
    show W'.cell? ⟨b, o, none⟩ = W.cell? ⟨b, o, none⟩
    unfold World.cell?
    rw [h]
  | map b => exact h b hp
theorem kept_of {W W' : World} (h : ∀ b, b < W.heap.size → W'.heap[b]? = W.heap[b]?) (ho : W'.os = W.os) (hu : W'.output = W.output) (may : MemPlace → Prop) : W.keptBut W' may := by
  refine ⟨ho, hu, fun i hi => ?_⟩
  rw [h i hi]
  cases W.heap[i]? with
  | none => rfl
  | some o =>
    cases o with
    | cells c t fr => exact ⟨rfl, rfl, rfl, fun _ _ => rfl⟩
    | map es cl => exact .inr ⟨rfl, rfl⟩
    | _ => rfl

/-- nothing that was there has changed: a weaker form of the kit's 'post_of_same' -/
theorem post_same {P : Program} {H : Type} {enc : TypeId × Value → H} {f : Func} {s : ChangeSpec} {apart fresh handsOn again : Bool} {W W' : World} {args : Array Value} {v : Value} {ds gs : List (DataW H)} {before pa pv : List MemPlace}
    (hW : DataW.Whole enc P f.params.toList s.vars apart W args.toList ds gs before)
    (hres : ∀ (b : Nat) (sp : Nat → Bool) (hd : Bool), DataW.TrodAll enc P W' b sp hd f.resultTypes.toList (v.resultList f.resultTypes.size) (s.fn H (ds ++ gs)).results [])
    (hargs : ∀ sp : Nat → Bool, (∀ p ∈ before, sp p.block = true) → DataW.TrodAll enc P W' 0 sp true f.params.toList args.toList (s.fn H (ds ++ gs)).args pa)
    (hvars : ∀ sp : Nat → Bool, (∀ p ∈ before, sp p.block = true) → DataW.TrodVars enc P W' sp s.vars (s.fn H (ds ++ gs)).vars pv)
    (hps : before = pa ++ pv) (hk : W.keptBut W' (· ∈ before)) (hfz : ∀ a, a.block < W.heap.size → W'.frozen? a = W.frozen? a)
    (hok : ∀ (j : Nat) (t : TypeId) (r : Value), f.resultTypes[j]? = some t → (v.resultList f.resultTypes.size)[j]? = some r → Value.okWide P W' .any 0 t r) :
    s.post enc P f apart fresh handsOn again W args v W' := by
  have hold : ∀ p ∈ before, (fun b => decide (b < W.heap.size)) p.block = true := fun p hp => by simpa using hW.lt p hp
  refine ⟨ds, gs, before, [], pa, pv, hW, hres _ _ _, hargs _ hold, hvars _ hold, World.keptBut_mono (fun p hp => ⟨hp, ?_⟩) hk, fun _ => ?_⟩
  · rw [hps, List.mem_append] at hp
    exact Or.inr hp
  · have hlt := hW.lt
    obtain ⟨_, _, _, _, _, hz, hn⟩ := hW
    refine ⟨hok, _, _, ([] ++ pa) ++ pv, ⟨[] ++ pa, pv, trodAll_append (hargs _ (fun _ _ => rfl)) (hres _ _ _), hvars _ (fun _ _ => rfl), rfl, ?_, ?_⟩, ?_⟩
    · intro b off hp
      have hm : MemPlace.cell b off ∈ before := by rw [hps]; simpa using hp
      rw [hfz _ (hlt _ hm)]
      exact hz b off hm
    · intro ha
      have := hn ha
      rw [hps] at this
      simpa using this
    · intro p hp _
      rw [hps]
      simpa using hp

theorem law4 {x y : AVal} {b o : List Obj} (hb : IsL 6 Obj.val x b) (ho : IsL 6 Obj.val y o) (gb : ∀ q ∈ b, q.Good) (go : ∀ q ∈ o, q.Good) (sb : b.length < small) (so : o.length < small) (G : Gh) (h : Trie AObj) (w : World) (xs : List Value) (wr : WR G h w) (hx : VRs G [.agg [x], .agg [y]] xs) :
    CallsTo Tryz.prog 4 ⟨xs⟩ w fun r w' => ∃ G', WR G' h w' ∧ Ext G h w G' h w' 0 0 ∧ VR G' (.bool true) r := by
  obtain ⟨t1, x', w1, hb'⟩ := objs_top hb gb
  obtain ⟨t2, y', w2, ho'⟩ := objs_top ho go
  have hw : weaks [.agg [x], .agg [y]] = [.agg [x'], .agg [y']] := by simp only [weaks, w1, w2]
  exact spec_of_run (Q := QT LT) (good_of LT_ok) (fun _ => Nat.zero_lt_succ 1) (args := [.agg [x], .agg [y]]) (v := .bool true) (s' := s0) (by simp only [tops, t1, t2, Bool.and_self]) (by rw [hw]; exact law_run (sp := fun f => tblGet f LT) rfl rfl rfl rfl rfl rfl rfl hb' ho' gb go sb so s0) rfl ⟨1, rfl⟩ G h w xs wr hx

set_option maxRecDepth 100000 in
theorem one_lifted (os : Os) (started : os.Started) (H : Type) (enc : TypeId × Value → H) :
    ReturnsInHanded {} Tryz.checked os 4 .any (Rows.mergeOneSpec.pre6 enc Tryz.prog Tryz.f4 Rows.mergeOneRow.domain false) (Rows.mergeOneSpec.post enc Tryz.prog Tryz.f4 false true false false) := by
  refine returnsInHanded_of_change (C := Tryz.checked) own_ok started (by kernel_rfl) Tryz.func4
    (ChangeSpec.witness6 (enc := enc) (C := Tryz.checked) false ⟨#[], #[.agg #[.slice none 0 0], .agg #[.slice none 0 0]], []⟩ 8 (by kernel_rfl) (by kernel_rfl) (by kernel_rfl) (by kernel_rfl)) ?_
  intro W base args ds gs before hval0 hW hcnd _
  have hval : ∀ (j : Nat) t v, Tryz.f4.params[j]? = some t → args[j]? = some v → Value.okWide Tryz.prog W .any base t v := hval0
  have hW' := hW
  obtain ⟨p, q, hA0, hV, rfl, hfz, hnd⟩ := hW
  have hA : DataW.TrodAll enc Tryz.prog W 0 (fun _ => true) true Tryz.f4.params.toList args.toList ds p := hA0
  rw [Tryz.params4] at hA hval
  obtain ⟨v0, v1, d0, d1, p0, p1, rfl, rfl, rfl, h0, h1⟩ := trodAll_two hA
  obtain ⟨rfl, rfl⟩ := trodVars_none hV
  clear hA0 hval0
  simp only [List.append_nil] at hW'
  obtain ⟨x, l, hx, hl, hg, hs⟩ := open_map (agg_of_okWide Tryz.underlying24 (hval 0 24 v0 rfl rfl)) h0
  obtain ⟨y, k, hy, hk, hg2, hs2⟩ := open_map (agg_of_okWide Tryz.underlying24 (hval 1 24 v1 rfl rfl)) h1
  have hc := calls_of (fn := Tryz.f4) Tryz.func4 (by kernel_rfl) (by kernel_rfl) (law4 hl hk hg hg2 hs hs2 (ghost W) .nil W [v0, v1] (ghost_wr W) (.cons hx (.cons hy .nil)))
  refine hc.mono fun e W' ⟨r, he, G', _, ext, hr⟩ => ?_
  subst he
  cases hr
  have keep : ∀ b, b < W.heap.size → W'.heap[b]? = W.heap[b]? := fun b hb => ext.keep b hb not_owns_nil
  have lt0 : ∀ z ∈ p0, z.block < W.heap.size := by
    obtain ⟨k, hk⟩ := h0
    exact DataW.trod_lt _ _ _ _ hk
  have lt1 : ∀ z ∈ p1, z.block < W.heap.size := by
    obtain ⟨k, hk⟩ := h1
    exact DataW.trod_lt _ _ _ _ hk
  refine ⟨_, rfl, post_same (pa := p0 ++ p1) (pv := []) hW' (fun _ _ _ => trodAll_mk1 (shut_bool u_4 true)) (fun sp hsp => trodAll_mk2 ?_ ?_) (fun _ _ => rfl) (by simp)
    (kept_of keep ext.quiet.1 ext.quiet.2.1 _) ext.quiet.2.2.2 (ok_one (by kernel_rfl) rfl (okWide_bool_mk u_4 true))⟩
  · exact WideElems.Trod_stays laid_ok (by kernel_rfl) (of_decide_eq_true (by kernel_rfl)) h0 (fun z hz => same_of keep z (lt0 z hz)) (fun z hz => hsp z (List.mem_append.2 (.inl hz)))
  · exact WideElems.Trod_stays laid_ok (by kernel_rfl) (of_decide_eq_true (by kernel_rfl)) h1 (fun z hz => same_of keep z (lt1 z hz)) (fun z hz => hsp z (List.mem_append.2 (.inr hz)))

end Go.Proofs.YtbfmdojdemckbaaGreat
/- MergeOne, as it is stated. -/
namespace Go.Proofs.YtbfmdojdemckbaaGreat
theorem mergeOne_holds : Rows.MergeOneSaid :=
  OpenClaim.holds_of_wide 4 Tryz.f4 rfl rfl rfl rfl rfl rfl rfl ⟨rfl, rfl, rfl, rfl, rfl⟩ rfl rfl rfl rfl rfl fact_named Tryz.func4 fact_joined fact_inst fact_wrap
    (fun os started H enc _ => one_lifted os started H enc)
#print axioms mergeOne_holds
end Go.Proofs.YtbfmdojdemckbaaGreat
