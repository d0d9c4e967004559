/- ValidClosures holds: for every map and Ids the law returns true, and its arguments read as they did. -/
import Derived.Test.YtnjhbfefpcjjaaaGreatY8
import Derived.Test.YtnjhbfefpcjjaaaGreatRows
import Derived.Test.YtnjhbfefpcjjaaaGreatFact
/- ValidClosures: for every map and Ids the law returns true, and its arguments read as they did. -/
namespace Go.Proofs.YtnjhbfefpcjjaaaGreat
open Go.ChangeShapes Go.WideShapes Go.ChangeAt Go.RowKit Go.Ag

theorem own_ok : ownKnob Tryz.prog.godebug = none := by kernel_rfl
theorem laid_ok : laidOutB Tryz.prog = true := by kernel_rfl
theorem u_4 : Tryz.prog.underlying 4 = some .bool := by kernel_rfl

/-- a call of a Go function is entered -/
theorem calls_of {P : Program} {f : FuncId} {fn : Func} {args : Array Value} {w : World} {R : Value → World → Prop} (hf : P.funcs[f]? = some fn) (hname : (fn.name == "runtime.NumGoroutine") = false) (hb : fn.body.isSome = true)
    (h : CallsTo P f args w R) : Calls P f args w fun e w' => ∃ y, e = .returned y ∧ R y w' := by
  rcases h with ⟨y, w', h1, _⟩ | ⟨_, h⟩
  · have h2 : fn.name ≠ "runtime.NumGoroutine" := by simpa using hname
    cases hc : fn.body with
    | none => rw [hc] at hb; cases hb
    | some c =>
      have : (callFunc f args).run P w = .ok (.enter f args) w := by simp [callFunc, hf, h2, hc]
      rw [this] at h1
      cases h1
  · exact h
theorem agg_of_okWide {P : Program} {t : TypeId} {fs : Array Field} (ht : P.underlying t = some (.struct fs)) {W : World} {r : Go.Reach} {base : Nat} {v : Value} (h : Value.okWide P W r base t v) : ∃ cs, v = .agg cs := by
  unfold Value.okWide at h
  rw [ht] at h
  obtain ⟨cs, h1, _⟩ := h
  exact ⟨cs, h1⟩
theorem one_of_okWide {P : Program} {t e : TypeId} (ht : P.underlying t = some (.slice e)) {W : World} {r : Go.Reach} {base : Nat} {v : Value} (h : Value.okWide P W r base t v) : v.cells.toList = [v] := by
  unfold Value.okWide at h
  rw [ht] at h
  have h : Cell.okWide P W r base t v := h
  cases v with
  | agg cs =>
    unfold Cell.okWide at h
    rw [ht] at h
    have h : Cell.ok P W r base t (.agg cs) := h
    unfold Cell.ok at h
    rw [ht] at h
    exact h.elim
  | _ => rfl
theorem same_of {W W' : World} (h : ∀ b, b < W.heap.size → W'.heap[b]? = W.heap[b]?) (p : MemPlace) (hp : p.block < W.heap.size) : W.sameAt W' p := by
  cases p with
  | cell b o =>
    have h := h b hp
    show W'.cell? ⟨b, o, none⟩ = W.cell? ⟨b, o, none⟩
    unfold World.cell?
    rw [h]
  | map b => exact h b hp
theorem kept_of {W W' : World} (h : ∀ b, b < W.heap.size → W'.heap[b]? = W.heap[b]?) (ho : W'.os = W.os) (hu : W'.output = W.output) (may : MemPlace → Prop) : W.keptBut W' may := by
  refine ⟨ho, hu, fun i hi => ?_⟩
  rw [h i hi]
  cases W.heap[i]? with
  | none => rfl
  | some o =>
    cases o with
    | cells c t fr => exact ⟨rfl, rfl, rfl, fun _ _ => rfl⟩
    | map es cl => exact .inr ⟨rfl, rfl⟩
    | _ => rfl

set_option maxRecDepth 100000 in
theorem closures_lifted (os : Os) (started : os.Started) (H : Type) (enc : TypeId × Value → H) :
    ReturnsInHanded {} Tryz.checked os 5 .any (Rows.validClosuresSpec.pre6 enc Tryz.prog Tryz.f5 Rows.validClosuresRow.domain false) (Rows.validClosuresSpec.post enc Tryz.prog Tryz.f5 false true false false) := by
  refine returnsInHanded_of_change (C := Tryz.checked) own_ok started (by kernel_rfl) Tryz.func5
    (ChangeSpec.witness6 (enc := enc) (C := Tryz.checked) false ⟨#[], #[.agg #[.slice none 0 0], .slice none 0 0], []⟩ 8 (by kernel_rfl) (by kernel_rfl) (by kernel_rfl) (by kernel_rfl)) ?_
  intro W base args ds gs before hval0 hW hcnd _
  have hval : ∀ (j : Nat) t v, Tryz.f5.params[j]? = some t → args[j]? = some v → Value.okWide Tryz.prog W .any base t v := hval0
  have hW' := hW
  obtain ⟨p, q, hA0, hV, rfl, hfz, hnd⟩ := hW
  have hA : DataW.TrodAll enc Tryz.prog W 0 (fun _ => true) true Tryz.f5.params.toList args.toList ds p := hA0
  rw [Tryz.params5] at hA hval
  obtain ⟨v0, v1, d0, d1, p0, p1, rfl, rfl, rfl, h0, h1⟩ := trodAll_two hA
  obtain ⟨rfl, rfl⟩ := trodVars_none hV
  clear hA0 hval0
  simp only [List.append_nil] at hW'
  obtain ⟨a, n, x, l, hx, hl, hg, hs⟩ := open_map (agg_of_okWide Tryz.underlying24 (hval 0 24 v0 rfl rfl)) h0
  obtain ⟨y, ids, hy, hi, his⟩ := open_ids (a := a) (n := n) (one_of_okWide u_25 (hval 1 25 v1 rfl rfl)) h1
  have hc := calls_of (fn := Tryz.f5) Tryz.func5 (by kernel_rfl) (by kernel_rfl) (law5 ⟨x, l, ids, rfl, hl, hg, hs, hi, his⟩ (ghost W a n) .nil W [v0, v1] (ghost_wr W a n) (.cons hx (.cons hy .nil)))
  refine hc.mono fun e W' ⟨r, he, G', _, ext, hr⟩ => ?_
  subst he
  cases hr
  have keep : ∀ b, b < W.heap.size → W'.heap[b]? = W.heap[b]? := fun b hb => ext.keep b hb not_owns_nil
  have lt0 : ∀ z ∈ p0, z.block < W.heap.size := by
    obtain ⟨k, hk⟩ := h0
    exact DataW.trod_lt _ _ _ _ hk
  have lt1 : ∀ z ∈ p1, z.block < W.heap.size := by
    obtain ⟨k, hk⟩ := h1
    exact DataW.trod_lt _ _ _ _ hk
  refine ⟨_, rfl, post_of_same (pa := p0 ++ p1) (pv := []) hW' (fun _ _ _ => trodAll_mk1 (shut_bool u_4 true)) (fun sp hsp => trodAll_mk2 ?_ ?_) (fun _ _ => rfl) (by simp)
    (kept_of keep ext.quiet.1 ext.quiet.2.1 _) ext.quiet.2.2 (ok_one (by kernel_rfl) rfl (okWide_bool_mk u_4 true))⟩
  · exact WideElems.Trod_stays laid_ok (by kernel_rfl) (of_decide_eq_true (by kernel_rfl)) h0 (fun z hz => same_of keep z (lt0 z hz)) (fun z hz => hsp z (List.mem_append.2 (.inl hz)))
  · exact WideElems.Trod_stays laid_ok (by kernel_rfl) (of_decide_eq_true (by kernel_rfl)) h1 (fun z hz => same_of keep z (lt1 z hz)) (fun z hz => hsp z (List.mem_append.2 (.inr hz)))

end Go.Proofs.YtnjhbfefpcjjaaaGreat
/- ValidClosures, as it is stated. -/
namespace Go.Proofs.YtnjhbfefpcjjaaaGreat
theorem validClosures_holds : Rows.ValidClosuresSaid :=
  OpenClaim.holds_of_wide 5 Tryz.f5 rfl rfl rfl rfl rfl rfl rfl ⟨rfl, rfl, rfl, rfl, rfl⟩ rfl rfl rfl rfl rfl fact_named Tryz.func5 fact_joined fact_inst fact_wrap
    (fun os started H enc _ => closures_lifted os started H enc)
#print axioms validClosures_holds
end Go.Proofs.YtnjhbfefpcjjaaaGreat
