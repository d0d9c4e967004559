/- Operations of the evaluator are sound: slicing, append, copy. -/
import Derived.Test.YtbfmdojdemckbaaGreatAg3
/- Operations, sixth part: slicing; append, copy, clear. -/
namespace Go.Ag

theorem str_extract (s : List UInt8) (l h : Nat) : (ByteArray.mk ⟨s⟩).extract l h = ByteArray.mk ⟨(s.take h).drop l⟩ := by
  apply ByteArray.ext
  rw [ByteArray.data_extract]
  apply Array.ext'
  simp only [Array.toList_extract, List.extract]
  rw [List.drop_take]

section slicing
variable {P : Program} {mk : Mask} {G : Gh} {s s' : St} {B : Nat → Nat} {fr : Fr} {a : Act} {w : World} {o : Oper} {lo hi : Nat} {v : AVal} {loc' : Loc}

/-- a bound that is given, or not -/
def BoundIs (x : Option Value) (d n : Nat) : Prop := (x = none ∧ n = d) ∨ ∃ k, x = some (.int k (.ofNat n))

theorem natOr_bound (fx : FrR G s.heap B fr a.tmps w) {x : Option Operand} {d n : Nat} (h : natOr fr.env x d = some n) : BoundIs (x.map a.eval) d n := by
  cases x with
  | none => simp [natOr] at h; exact .inl ⟨rfl, h.symm⟩
  | some x =>
    simp only [natOr, Option.bind_eq_some_iff] at h
    obtain ⟨u, hu, h⟩ := h
    obtain ⟨k, rfl⟩ := natOf_some h
    have hl : VR G _ _ := fx.ev hu
    generalize hX : a.eval x = X at hl
    cases hl
    exact .inr ⟨k, by simp [hX]⟩

theorem run_bounds {isS : Bool} {len cap l h : Nat} {lv hv : Option Value} (hl : BoundIs lv 0 l) (hh : BoundIs hv len h) (h1 : h ≤ cap) (h2 : l ≤ h) (w : World) :
    (Instr.sliceBounds isS len cap lv hv none).run P w = .ok (l, h, cap) w := by
  have e1 : ∀ n m : Nat, n ≤ m → (0 ≤ (Int.ofNat n) ∧ (Int.ofNat n) ≤ (m : Int)) := fun n m hnm => ⟨Int.natCast_nonneg n, Int.ofNat_le.2 hnm⟩
  rcases hl with ⟨rfl, rfl⟩ | ⟨k, rfl⟩ <;> rcases hh with ⟨rfl, rfl⟩ | ⟨k', rfl⟩ <;>
    simp [Instr.sliceBounds, Instr.sliceBound, asIntOf, h1, h2]

theorem run_bounds3 {len cap l h m : Nat} {lv hv mv : Option Value} (hl : BoundIs lv 0 l) (hh : BoundIs hv len h) (hm : ∃ k, mv = some (.int k (.ofNat m))) (hs : hv.isSome = true) (h0 : m ≤ cap) (h1 : h ≤ m) (h2 : l ≤ h) (w : World) :
    (Instr.sliceBounds true len cap lv hv mv).run P w = .ok (l, h, m) w := by
  obtain ⟨km, rfl⟩ := hm
  rcases hh with ⟨rfl, rfl⟩ | ⟨k', rfl⟩
  · simp at hs
  · rcases hl with ⟨rfl, rfl⟩ | ⟨k, rfl⟩ <;> simp [Instr.sliceBounds, Instr.sliceBound, asIntOf, h0, h1, h2]

theorem flat_take_drop {sz : Nat} {xs : List AVal} (hsz : ∀ x ∈ xs, x.cells.length = sz) {h l : Nat} (_h1 : h ≤ xs.length) (_h2 : l ≤ h) :
    ∀ (i : Nat) u, (flat ((xs.take h).drop l))[i]? = some u → (flat xs)[l * sz + i]? = some u := by
  have hd : ∀ (l : Nat) (xs : List AVal), (∀ x ∈ xs, x.cells.length = sz) → flat (xs.drop l) = (flat xs).drop (l * sz) := by
    intro l
    induction l with
    | zero => intro xs _; simp
    | succ l ih =>
      intro xs hx
      cases xs with
      | nil => simp [flat]
      | cons x xs =>
        simp only [List.drop_succ_cons, flat]
        rw [ih xs (fun y hy => hx y (by simp [hy])), Nat.succ_mul, Nat.add_comm, ← List.drop_drop, List.drop_append_of_le_length (by rw [hx x (by simp)]; exact Nat.le_refl _)]
        rw [← hx x (by simp), List.drop_length, List.nil_append]
  have ht : ∀ (xs ys : List AVal), flat (xs ++ ys) = flat xs ++ flat ys := by
    intro xs ys
    induction xs with
    | nil => simp [flat]
    | cons x xs ih => simp [flat, ih]
  intro i u hu
  rw [hd l _ (fun y hy => hsz y (List.mem_of_mem_take hy)), List.getElem?_drop] at hu
  have e : flat xs = flat (xs.take h) ++ flat (xs.drop h) := by rw [← ht, List.take_append_drop]
  rw [e]
  rcases Nat.lt_or_ge (l * sz + i) (flat (xs.take h)).length with hlt | hge
  · rw [List.getElem?_append_left hlt]; exact hu
  · rw [List.getElem?_eq_none hge] at hu; cases hu

theorem op_slice {t : TypeId} {x : Operand} {lop hop mop : Option Operand} (ho : o.op = .slice t x lop hop mop) (wr : WR G s.heap w) (fx : FrR G s.heap B fr a.tmps w)
    (he : op1c x (fun x => sliceA P mk t x lop hop mop fr.env s) fr s = some (v, loc', s')) : OpPost P G s.heap w B fr.loc lo hi a o v loc' s'.heap := by
  simp only [op1c, Option.bind_eq_some_iff] at he
  obtain ⟨xv, hx, he⟩ := he
  replace he := retV_some he
  obtain ⟨he, rfl, rfl⟩ := he
  have hX := (fx.evc hx).1
  generalize hXv : a.eval x = X at hX
  simp only [sliceA, Option.bind_eq_some_iff] at he
  obtain ⟨d, hd, he⟩ := he
  split at he
  · split at he
    · rename_i bs
      simp only [Option.bind_eq_some_iff] at he
      obtain ⟨h, hh, l, hl, he⟩ := he
      replace he := bif_none he
      obtain ⟨hc, he⟩ := he
      simp only [Bool.and_eq_true] at hc
      injection he with he; subst he
      cases hX
      refine .pure wr fx (y := .string ⟨⟨(bs.take h).drop l⟩⟩) ?_ (LV.of_VR (.str _))
      have hb := run_bounds (P := P) (isS := false) (cap := bs.length) (natOr_bound fx hl) (natOr_bound fx hh) (ble_le hc.2) (ble_le hc.1) w
      have hsz : (ByteArray.mk ⟨bs⟩).size = bs.length := rfl
      simp [execOp, ho, hXv, Instr.sliceAt, Instr.slice, run_underlying_of hd, hsz, hb, str_extract]
    · cases he
  · rename_i e
    simp only [Option.bind_eq_some_iff] at he
    obtain ⟨n, hn, he⟩ := he
    split at he
    · simp only [Option.bind_eq_some_iff] at he
      obtain ⟨h, hh, l, hl, m, hm, he⟩ := he
      replace he := bif_none he
      obtain ⟨hc, he⟩ := he
      simp only [Bool.and_eq_true] at hc
      have hiso := hc.2
      obtain rfl := beq_eq hc.1.1.1
      obtain rfl := beq_eq hc.1.1.2
      obtain rfl := beq_eq hc.1.2
      injection he with he; subst he
      cases hX
      refine .pure wr fx (y := .slice none 0 0) ?_ (LV.of_VR .nils)
      cases mop with
      | none =>
        have hb := run_bounds (P := P) (isS := true) (cap := 0) (natOr_bound fx hl) (natOr_bound fx hh) (Nat.le_refl _) (Nat.le_refl _) w
        simp [execOp, ho, hXv, Instr.sliceAt, Instr.slice, run_underlying_of hd, hb, run_sizeOf hn]
      | some mx =>
        have hbm := natOr_bound fx hm
        rcases hbm with ⟨h0, _⟩ | ⟨km, hkm⟩
        · cases h0
        · cases hop with
          | none => simp at hiso
          | some hx =>
            have hb := run_bounds3 (P := P) (cap := 0) (natOr_bound fx hl) (natOr_bound fx hh) ⟨km, hkm⟩ rfl (Nat.le_refl _) (Nat.le_refl _) (Nat.le_refl _) w
            simp only [Option.map_some] at hb
            simp [execOp, ho, hXv, Instr.sliceAt, Instr.slice, run_underlying_of hd, hb, run_sizeOf hn]
    · rename_i sz xs r
      simp only [Option.bind_eq_some_iff] at he
      obtain ⟨h, hh, l, hl, he⟩ := he
      replace he := bif_none he
      obtain ⟨hc, he⟩ := he
      simp only [Bool.and_eq_true] at hc
      obtain rfl := beq_eq hc.1.1
      have hlh := ble_le hc.1.2
      have hhl := ble_le hc.2
      cases hX with
      | list hsp hpos hsz hcap hro hr =>
      rename_i ad cap
      obtain ⟨b, off, sp⟩ := ad
      have hsp0 : 0 < cap → sp = none := fun h0 => by
        rcases hsp with h | h
        · omega
        · exact h
      have hlen : ((xs.take h).drop l).length = h - l := by simp; omega
      have hmem : ∀ y ∈ (xs.take h).drop l, y.cells.length = sz := fun y hy => hsz y (List.mem_of_mem_take (List.mem_of_mem_drop hy))
      have hcells : ∀ (i : Nat) u, (flat ((xs.take h).drop l))[i]? = some u → G.ro b (off + l * sz + i) = some u := fun i u hu => by
        rw [Nat.add_assoc]; exact hro _ _ (flat_take_drop hsz hhl hlh i u hu)
      split at he
      · injection he with he; subst he
        have hb := run_bounds (P := P) (isS := true) (cap := cap) (natOr_bound fx hl) (natOr_bound fx hh) (by omega) hlh w
        refine .pure wr fx (y := .slice (some (if cap = l then ⟨b, off, sp⟩ else ⟨b, off + l * sz, none⟩)) (h - l) (cap - l)) ?_ (LV.of_VR ?_)
        · by_cases hcl : cap = l
          · subst hcl
            simp [execOp, ho, hXv, Instr.sliceAt, Instr.slice, run_underlying_of hd, hb, run_sizeOf hn]
          · obtain rfl := hsp0 (by omega)
            simp [execOp, ho, hXv, Instr.sliceAt, Instr.slice, run_underlying_of hd, hb, run_sizeOf hn, hcl, add_mk]
        · rw [← hlen]
          refine .list (by by_cases hcl : cap = l; exact .inl (by omega); exact .inr (by rw [if_neg hcl])) hpos hmem (by rw [hlen]; omega) ?_ ?_
          · intro i u hu
            by_cases hcl : cap = l
            · have : (xs.take h).drop l = [] := List.length_eq_zero_iff.1 (by rw [hlen]; omega)
              rw [this] at hu; simp [flat] at hu
            · rw [if_neg hcl]; exact hcells i u hu
          · rw [hlen]
            cases hcnd : (Nat.beq h xs.length && (Nat.blt l h || Nat.beq l 0)) with
            | false => trivial
            | true =>
              simp only [Bool.and_eq_true, Bool.or_eq_true] at hcnd
              have hhx := beq_eq hcnd.1
              simp only [cond_true]
              cases r with
              | full => simp only [RightR] at hr ⊢; omega
              | no => trivial
              | own k =>
                obtain ⟨hk, dm, hdm, hle⟩ := hr
                simp only at hle
                have hcase : l < h ∨ l = 0 := hcnd.2.imp blt_lt beq_eq
                have key : (l = 0 ∧ (if cap = l then (⟨b, off, sp⟩ : Addr) else ⟨b, off + l * sz, none⟩) = ⟨b, off, sp⟩) ∨ (if cap = l then (⟨b, off, sp⟩ : Addr) else ⟨b, off + l * sz, none⟩) = ⟨b, off + l * sz, none⟩ := by
                  rcases hcase with hc | rfl
                  · exact .inr (by rw [if_neg (by omega)])
                  · refine .inl ⟨rfl, ?_⟩
                    by_cases h0 : cap = 0
                    · rw [if_pos h0]
                    · obtain rfl := hsp0 (by omega)
                      rw [if_neg h0]; simp
                rcases key with ⟨rfl, hk'⟩ | hk'
                · rw [hk']
                  subst hhx
                  exact ⟨by simpa using hk, dm, hdm, by simpa using hle⟩
                · rw [hk']
                  subst hhx
                  refine ⟨?_, dm, hdm, ?_⟩
                  · rw [hk]
                    congr 2
                    simp only
                    have : xs.length * sz = l * sz + (xs.length - l) * sz := by rw [← Nat.add_mul]; congr 1; omega
                    omega
                  · simp only
                    have : cap * sz = l * sz + (cap - l) * sz := by rw [← Nat.add_mul]; congr 1; omega
                    omega
      · simp only [Option.bind_eq_some_iff] at he
        obtain ⟨m, hm, he⟩ := he
        replace he := bif_none he
        obtain ⟨hmh, he⟩ := he
        simp only [Bool.and_eq_true] at hmh
        obtain rfl := beq_eq hmh.1
        injection he with he; subst he
        have hbm := natOr_bound fx hm
        rcases hbm with ⟨h0, _⟩ | ⟨km, hkm⟩
        · cases h0
        · have hb := run_bounds3 (P := P) (cap := cap) (natOr_bound fx hl) (natOr_bound fx hh) ⟨km, hkm⟩ (by simpa using hmh.2) (by omega) (Nat.le_refl _) hlh w
          simp only [Option.map_some] at hb
          refine .pure wr fx (y := .slice (some (if m = l then ⟨b, off, sp⟩ else ⟨b, off + l * sz, none⟩)) (m - l) (m - l)) ?_ (LV.of_VR ?_)
          · by_cases hcl : m = l
            · subst hcl
              simp [execOp, ho, hXv, Instr.sliceAt, Instr.slice, run_underlying_of hd, hb, run_sizeOf hn]
            · obtain rfl := hsp0 (by omega)
              simp [execOp, ho, hXv, Instr.sliceAt, Instr.slice, run_underlying_of hd, hb, run_sizeOf hn, hcl, add_mk]
          · rw [← hlen]
            refine .list (by by_cases hcl : m = l; exact .inl (by omega); exact .inr (by rw [if_neg hcl])) hpos hmem (Nat.le_refl _) ?_ rfl
            intro i u hu
            by_cases hcl : m = l
            · have : (xs.take m).drop l = [] := List.length_eq_zero_iff.1 (by rw [hlen]; omega)
              rw [this] at hu; simp [flat] at hu
            · rw [if_neg hcl]; exact hcells i u hu
    · rename_i sz n' off len lcap
      simp only [Option.bind_eq_some_iff] at he
      obtain ⟨h, hh, l, hl, he⟩ := he
      replace he := bif_none he
      obtain ⟨hc, he⟩ := he
      simp only [Bool.and_eq_true] at hc
      obtain rfl := beq_eq hc.1.1.1
      have hlh := ble_le hc.1.1.2
      have hhl := ble_le hc.1.2
      cases mop with
      | some _ => simp at hc
      | none =>
      injection he with he; subst he
      cases hX with
      | arr hat hsp hpos hlen hcap hadr hdim hle =>
      rename_i ad bd cap dm
      obtain ⟨b, aoff, sp⟩ := ad
      simp only at hsp; subst hsp
      have hb := run_bounds (P := P) (isS := true) (cap := cap) (natOr_bound fx hl) (natOr_bound fx hh) (by omega) hlh w
      refine .pure wr fx (y := .slice (some (if cap = l then ⟨b, aoff, none⟩ else ⟨b, aoff + l * sz, none⟩)) (h - l) (cap - l)) ?_ (LV.of_VR ?_)
      · by_cases hcl : cap = l
        · subst hcl
          simp [execOp, ho, hXv, Instr.sliceAt, Instr.slice, run_underlying_of hd, hb, run_sizeOf hn]
        · simp [execOp, ho, hXv, Instr.sliceAt, Instr.slice, run_underlying_of hd, hb, run_sizeOf hn, hcl, add_mk]
      · have hmul : cap * sz = l * sz + (cap - l) * sz := by rw [← Nat.add_mul]; congr 1; omega
        refine .arr hat (by split <;> rfl) hpos (by omega) (by omega) ?_ hdim (by omega)
        rcases hadr with h0 | ⟨h1, h2⟩
        · exact .inl (by omega)
        · by_cases hcl : cap = l
          · exact .inl (by omega)
          · rw [if_neg hcl]
            exact .inr ⟨h1, by simp only at h2 ⊢; omega⟩
    · cases he
  · rename_i len e
    simp only [Option.bind_eq_some_iff] at he
    obtain ⟨n, hn, he⟩ := he
    split at he
    · rename_i m off
      simp only [Option.bind_eq_some_iff] at he
      obtain ⟨h, hh, l, hl, ob, hob, he⟩ := he
      split at he
      · rename_i cs
        replace he := bif_none he
        obtain ⟨hc, he⟩ := he
        simp only [Bool.and_eq_true] at hc
        have hlh := ble_le hc.1.1.1.1
        have hhl := ble_le hc.1.1.1.2
        have hnz : 0 < len * n := blt_lt hc.1.2
        have hpos : 0 < n := Nat.pos_of_mul_pos_left hnz
        have hin := ble_le hc.2
        cases mop with
        | some _ => simp at hc
        | none =>
        injection he with he; subst he
        cases hX with
        | ptr hat =>
        rename_i ad
        obtain ⟨ad', hat', hsp, C, ty, hb, hdm, hcs⟩ := wr.obj m _ (get_some hob)
        rw [hat] at hat'; injection hat' with hat'; subst hat'
        have hbd := run_bounds (P := P) (isS := false) (cap := len) (natOr_bound fx hl) (natOr_bound fx hh) hhl hlh w
        have hsz : ad.off + cs.length ≤ C.size ∨ cs.length = 0 := by
          rcases Nat.eq_zero_or_pos cs.length with h0 | h0
          · exact .inr h0
          · obtain ⟨_, y, hy, _⟩ := hcs (cs.length - 1) cs[cs.length - 1] (List.getElem?_eq_getElem (by omega))
            have : ad.off + (cs.length - 1) < C.size := by
              rcases Nat.lt_or_ge (ad.off + (cs.length - 1)) C.size with h | h
              · exact h
              · simp [Array.getElem?_eq_none h] at hy
            exact .inl (by omega)
        have hmul : len * n = l * n + (len - l) * n := by rw [← Nat.add_mul]; congr 1; omega
        · refine .pure wr fx (y := .slice (some (if len = l then ⟨ad.block, ad.off + off, none⟩ else ⟨ad.block, ad.off + off + l * n, none⟩)) (h - l) (len - l)) ?_ (LV.of_VR ?_)
          · by_cases hcl : len = l
            · subst hcl
              simp [execOp, ho, hXv, Instr.sliceAt, run_underlying_of hd, Instr.sureAddr, hbd, run_sizeOf hn]
            · simp [execOp, ho, hXv, Instr.sliceAt, run_underlying_of hd, Instr.sureAddr, hbd, run_sizeOf hn, hcl, add_mk]
          · refine .arr hat (by split <;> rfl) hpos (by omega) (Nat.le_refl _) ?_ hdm (by omega)
            by_cases hcl : len = l
            · exact .inl (by omega)
            · rw [if_neg hcl]
              exact .inr ⟨rfl, by simp only; omega⟩
      · cases he
    · cases he
  · cases he
end slicing

section appends
variable {P : Program} {mk : Mask} {G : Gh} {s s' : St} {B : Nat → Nat} {fr : Fr} {a : Act} {w : World} {o : Oper} {lo hi : Nat} {v : AVal} {loc' : Loc}

theorem VR.slice_len {x : AVal} {X : Value} (h : VR G x X) (hs : isSlice x = true) : ∃ b n c, X = .slice b n c := by
  cases h <;> first | (simp [isSlice] at hs; done) | exact ⟨_, _, _, rfl⟩

/-- the elements of a slice, as the run reads them -/
theorem run_elems {g : Bool} {n : Nat} {y : AVal} {Y : Value} {ys : List AVal} (hg : g = false → n = 1) (hpos : 0 < n) (h : elemsA mk g n y s = some ys) (hy : VR G y Y) (wr : WR G s.heap w) :
    ∃ C : Array Value, (∀ w' : World, w'.heap = w.heap → (Builtin.lenOf Y).run P w' = .ok ys.length w' ∧ ∀ k, k ≤ ys.length → (Builtin.firstCells n k Y).run P w' = .ok ⟨C.toList.take (k * n)⟩ w') ∧ VRs G (flat ys) C.toList ∧ scals (flat ys) = true ∧ ∀ u ∈ ys, u.cells.length = n := by
  unfold elemsA at h
  split at h
  · injection h with h; subst h; cases hy
    refine ⟨#[], fun w' hw' => ⟨by simp [Builtin.lenOf], fun k hk => ?_⟩, .nil, rfl, by simp⟩
    obtain rfl : k = 0 := by simpa using hk
    simp [Builtin.firstCells]
  · rename_i sz xs r
    replace h := bif_none h
    obtain ⟨hsz, h⟩ := h
    obtain rfl := beq_eq hsz
    injection h with h; subst h
    cases hy with
    | list hsp hp hm hcap hro hr =>
    rename_i ad cap
    obtain ⟨b, off, sp⟩ := ad
    have hsp0 : 0 < cap → sp = none := fun h0 => by
      rcases hsp with h | h
      · omega
      · exact h
    obtain ⟨vs, h1, h2, h3⟩ := rows_list (G := G) (cs := flat xs) (f := fun i => w.cell? ⟨b, off + i, none⟩) (fun i u hu => wr.ro _ _ _ (hro i u hu))
    refine ⟨⟨vs⟩, fun w' hw' => ⟨by simp [Builtin.lenOf], fun k hk => ?_⟩, h1, h2, hm⟩
    have hcell : ∀ ad, w'.cell? ad = w.cell? ad := fun ad => by simp [World.cell?, hw']
    have hlen : (vs.take (k * sz)).length = k * sz := by
      rw [List.length_take, ← h1.length, flat_length hm]
      exact Nat.min_eq_left (Nat.mul_le_mul_right _ hk)
    have hl := run_loadCells_list (P := P) (w := w') ⟨b, off, sp⟩ (vs.take (k * sz)) (fun j v hj => by
      have hk0 : 0 < cap := by
        have hjl : j < (vs.take (k * sz)).length := by
          rcases Nat.lt_or_ge j (vs.take (k * sz)).length with h | h
          · exact h
          · simp [List.getElem?_eq_none h] at hj
        rw [hlen] at hjl
        rcases Nat.eq_zero_or_pos k with h | h
        · subst h; omega
        · omega
      obtain rfl := hsp0 hk0
      rw [add_mk, hcell]
      refine h3 j v ?_
      rw [List.getElem?_take] at hj
      split at hj
      · exact hj
      · cases hj)
    rw [hlen] at hl
    simpa [Builtin.firstCells] using hl
  · rename_i sz m off len lcap
    replace h := bif_none h
    obtain ⟨hsz, h⟩ := h
    obtain rfl := beq_eq hsz
    simp only [Option.bind_eq_some_iff] at h
    obtain ⟨ob, hob, h⟩ := h
    split at h
    · rename_i cs
      simp only [Option.bind_eq_some_iff] at h
      obtain ⟨c, hc, h⟩ := h
      cases hy with
      | arr hat hsp hp hlen hcap hadr hdim hle =>
      rename_i ad bd cap dm
      obtain ⟨b, aoff, sp⟩ := ad
      simp only at hsp; subst hsp
      obtain ⟨bd', hat', hsp', C, ty, hb, _, hcs⟩ := wr.obj m _ (get_some hob)
      rw [hat] at hat'; injection hat' with hat'; subst hat'
      have hsc : scals c = true := by
        simp only [scals, List.all_eq_true]
        intro u hu
        obtain ⟨i, hi⟩ := List.mem_iff_getElem?.1 hu
        exact (hcs _ u (cut_get hc hi)).1
      obtain ⟨c1, c2, c3⟩ := chunk_some hg h hsc
      obtain ⟨vs, h1, h2, h3⟩ := rows_list (G := G) (cs := c) (f := fun i => w.cell? ⟨bd.block, bd.off + off + i, none⟩) (fun i u hu => by
        obtain ⟨q1, y, hy, q2⟩ := hcs _ u (cut_get hc hu)
        exact ⟨q1, y, by rw [cell_of hb, Nat.add_assoc]; exact hy, q2⟩)
      refine ⟨⟨vs⟩, fun w' hw' => ⟨by simp [Builtin.lenOf, c1], fun k hk => ?_⟩, by rw [c2]; exact h1, by rw [c2]; exact h2, c3⟩
      have hcell : ∀ ad, w'.cell? ad = w.cell? ad := fun ad => by simp [World.cell?, hw']
      rw [c1] at hk
      have hvl : vs.length = len * sz := by rw [← h1.length]; exact (cut_some hc).2
      have hlen' : (vs.take (k * sz)).length = k * sz := by
        rw [List.length_take, hvl]
        exact Nat.min_eq_left (Nat.mul_le_mul_right _ hk)
      rcases hadr with h0 | ⟨e1, e2⟩
      · obtain rfl : k = 0 := by omega
        simp [Builtin.firstCells, loadCells, loadCellsFrom]
      · simp only at e1 e2
        subst e1; subst e2
        have hl := run_loadCells_list (P := P) (w := w') ⟨bd.block, bd.off + off, none⟩ (vs.take (k * sz)) (fun j v hj => by
          rw [add_mk, hcell]
          refine h3 j v ?_
          rw [List.getElem?_take] at hj
          split at hj
          · exact hj
          · cases hj)
        rw [hlen'] at hl
        simpa [Builtin.firstCells] using hl
    · cases h
  · cases h

theorem growBy_le (newLen : Nat) : ∀ (r c : Nat), Builtin.growBy newLen r c ≤ max c (newLen + (newLen + 768) / 4)
  | 0, c => by simp [Builtin.growBy]; omega
  | r + 1, c => by
    unfold Builtin.growBy
    split
    · omega
    · have := growBy_le newLen r (c + (c + 768) / 4)
      omega

theorem nextslicecap_le {need cap : Nat} (h : cap < need) : Builtin.nextslicecap need cap ≤ need * 2 + 1024 := by
  unfold Builtin.nextslicecap
  split
  · omega
  · split
    · omega
    · have := growBy_le need 4 cap
      omega

theorem roomy_le {need b cap : Nat} (h : roomy need b = true) (hc : cap < need) : ¬ Builtin.nextslicecap need cap * b > 2 ^ 48 := by
  have h1 := ble_le h
  have h2 := nextslicecap_le hc
  have : Builtin.nextslicecap need cap * b ≤ (need * 2 + 1024) * b := Nat.mul_le_mul_right _ h2
  omega

theorem roomy_max {need b : Nat} (h : roomy need b = true) (hb : 0 < b) : need < 2 ^ 47 := by
  have h1 := ble_le h
  have : need * 2 + 1024 ≤ (need * 2 + 1024) * b := Nat.le_mul_of_pos_right _ hb
  omega
/-- append that makes a new row -/
theorem run_append_grow {t t2 ty e : TypeId} {E : EI} (hd : P.underlying t = some (.slice e)) (hE : elemI P e = some E) (ht2 : isSliceT P t2 = true) {base : Option Addr} {len cap k : Nat} {Y : Value} {CX CY : Array Value}
    (hk : ∀ w' : World, w'.heap = w.heap → (Builtin.lenOf Y).run P w' = .ok k w') (hX : ∀ w' : World, w'.heap = w.heap → (Builtin.firstCells E.n len (.slice base len cap)).run P w' = .ok CX w')
    (hY : ∀ w' : World, w'.heap = w.heap → (Builtin.firstCells E.n k Y).run P w' = .ok CY w') (hn : cap < len + k) (hr : roomy (len + k) E.b = true) (hx : CX.size = len * E.n) (hy : CY.size = k * E.n) :
    ∃ (newCap : Nat) (R : Array Value), len + k ≤ newCap ∧ R.size = newCap * E.n ∧ (∀ i : Nat, i < (len + k) * E.n → R[i]? = (CX ++ CY)[i]?) ∧
      (Builtin.append_ #[t, t2] ty #[.slice base len cap, Y]).run P w = .ok (.slice (some ⟨w.heap.size, 0, none⟩) (len + k) newCap) (w.drew.alloc (.cells R e)) := by
  obtain ⟨hsz, _, hg, hpos, hg1, i, zv, hb0, hi, hzv, hov, hzs, hib⟩ := elemI_some hE
  have hcap := roomy_le hr hn
  have hmax := roomy_max hr hb0
  let newCap := (Question.appendCap (len + k) cap e).cut (w.tape w.drawn (.appendCap (len + k) cap e))
  have hnc : len + k ≤ newCap := by simp only [newCap, Question.cut]; omega
  refine ⟨newCap, CX ++ CY ++ Builtin.zeroCells zv.cells (newCap - (len + k)), hnc, ?_, ?_, ?_⟩
  · simp only [Array.size_append, hx, hy, Builtin.zeroCells, Array.size_map, Array.size_range, hzs]
    rw [← Nat.add_mul, ← Nat.add_mul]; congr 1; omega
  · intro i hi
    rw [Array.getElem?_append_left]
    simp only [Array.size_append, hx, hy]
    rw [← Nat.add_mul]; exact hi
  · have ht2' : ∃ e2, P.underlying t2 = some (.slice e2) := by
      unfold isSliceT at ht2
      split at ht2
      · rename_i e2 h; exact ⟨e2, h⟩
      · cases ht2
    obtain ⟨e2, ht2'⟩ := ht2'
    have hle : ¬ len + k ≤ cap := by omega
    have hX' := hX w.drew rfl
    have hY' := hY w.drew rfl
    simp [Builtin.append_, run_underlying_of hd, run_sizeOf hsz, run_underlying_of ht2', hk w rfl, hle, typeInfo, hi, hib, hcap, Question.forced, hX', hY', run_zeroValue hi hzv, newRow]
    rw [if_neg (fun h => by have := h.2; omega)]

/-- append in place -/
theorem run_append_in {t t2 ty e : TypeId} {E : EI} (hd : P.underlying t = some (.slice e)) (hE : elemI P e = some E) (ht2 : isSliceT P t2 = true) {b off len cap k : Nat} {Y : Value} {CY C : Array Value} {et : TypeId}
    (hk : (Builtin.lenOf Y).run P w = .ok k w) (hY : (Builtin.firstCells E.n k Y).run P w = .ok CY w) (hn : len + k ≤ cap) (hb : w.heap[b]? = some (.cells C et (0, 0)))
    (hfit : off + len * E.n + CY.size ≤ C.size) (hone : ∀ y ∈ CY.toList, y.oneCell' = true) :
    (Builtin.append_ #[t, t2] ty #[.slice (some ⟨b, off, none⟩) len cap, Y]).run P w = .ok (.slice (some ⟨b, off, none⟩) (len + k) cap) (putBlock w b (.cells (writeArr C (off + len * E.n) CY.toList) et (0, 0))) := by
  obtain ⟨hsz, _, hg, hpos, hg1, i, zv, hb0, hi, hzv, hov, hzs, hib⟩ := elemI_some hE
  have ht2' : ∃ e2, P.underlying t2 = some (.slice e2) := by
    unfold isSliceT at ht2
    split at ht2
    · rename_i e2 h; exact ⟨e2, h⟩
    · cases ht2
  obtain ⟨e2, ht2'⟩ := ht2'
  have hst := run_storeCells (P := P) b (off + len * E.n) et CY.toList 0 w C hb (by simpa using hfit) hone
  simp only [Nat.add_zero] at hst
  simp [Builtin.append_, run_underlying_of hd, run_sizeOf hsz, run_underlying_of ht2', hk, hn, hY, add_mk, hst]

/-- append of nothing -/
theorem run_append_none {t t2 ty e : TypeId} {E : EI} (hd : P.underlying t = some (.slice e)) (hE : elemI P e = some E) (ht2 : isSliceT P t2 = true) {base : Option Addr} {len cap : Nat} {Y : Value}
    (hk : (Builtin.lenOf Y).run P w = .ok 0 w) (hY : (Builtin.firstCells E.n 0 Y).run P w = .ok #[] w) (hn : len ≤ cap) :
    (Builtin.append_ #[t, t2] ty #[.slice base len cap, Y]).run P w = .ok (.slice base len cap) w := by
  obtain ⟨hsz, _, hg, hpos, hg1, i, zv, hb0, hi, hzv, hov, hzs, hib⟩ := elemI_some hE
  have ht2' : ∃ e2, P.underlying t2 = some (.slice e2) := by
    unfold isSliceT at ht2
    split at ht2
    · rename_i e2 h; exact ⟨e2, h⟩
    · cases ht2
  obtain ⟨e2, ht2'⟩ := ht2'
  cases base <;> simp [Builtin.append_, run_underlying_of hd, run_sizeOf hsz, run_underlying_of ht2', hk, hn, hY, storeCells]

theorem flat_append (xs ys : List AVal) : flat (xs ++ ys) = flat xs ++ flat ys := by
  induction xs with
  | nil => simp [flat]
  | cons x xs ih => simp [flat, ih]

theorem VR.cap_le {x : AVal} {b : Option Addr} {n c : Nat} (h : VR G x (.slice b n c)) : n ≤ c := by
  cases h <;> omega

/-- what a new row, behind a draw, comes to -/
theorem made_new {E : EI} {mu : Bool} {zs : List AVal} {v1 : AVal} {s1 s2 : St} {e : TypeId} {newCap : Nat} {R : Array Value} (hpos : 0 < E.n) (wr : WR G s2.heap w)
    (he : madeA E mu zs s2 = some (v1, s1)) (hn0 : G.at_ s2.next = none) (hz : ∀ z ∈ zs, z.cells.length = E.n) (hcap : zs.length ≤ newCap) (hR : R.size = newCap * E.n)
    (hc : ∀ (i : Nat) v, (flat zs)[i]? = some v → v.scal = true ∧ ∃ y, R[i]? = some y ∧ VR G v y) :
    s1.next = s2.next + 1 ∧ ∃ G', WR G' s1.heap (w.drew.alloc (.cells R e)) ∧ Ext G s2.heap w G' s1.heap (w.drew.alloc (.cells R e)) s2.next (s2.next + 1) ∧ VR G' v1 (.slice (some ⟨w.heap.size, 0, none⟩) zs.length newCap) := by
  have wr' : WR G s2.heap w.drew := wr.of_heap rfl
  have fixExt : ∀ {G' h'}, Ext G s2.heap w.drew G' h' (w.drew.alloc (.cells R e)) s2.next (s2.next + 1) → Ext G s2.heap w G' h' (w.drew.alloc (.cells R e)) s2.next (s2.next + 1) :=
    fun x => ⟨x.le, x.size, x.keep, x.owns, x.names, x.cells, Quiet.trans ⟨rfl, rfl, Nat.le_refl _, fun _ _ => rfl⟩ x.quiet⟩
  simp only [madeA] at he
  replace he := bif_none he
  obtain ⟨_, he⟩ := he
  replace he := bif_some he
  rcases he with ⟨_, he⟩ | ⟨_, he⟩
  · simp only [Option.some.injEq, Prod.mk.injEq] at he
    obtain ⟨rfl, rfl⟩ := he
    obtain ⟨c1, c2⟩ := wr'.boxed hn0 R e (flat zs) hc
    exact ⟨rfl, _, c1, fixExt c2, .arr (Gh.boxed_at G w.drew s2.next R.size) rfl hpos (Nat.le_refl _) hcap (.inr ⟨rfl, rfl⟩) (Gh.boxed_dim G w.drew s2.next R.size) (by simp [hR])⟩
  · simp only [Option.some.injEq, Prod.mk.injEq] at he
    obtain ⟨rfl, rfl⟩ := he
    obtain ⟨c1, c2⟩ := wr'.listed hn0 R e (flat zs) hc
    refine ⟨rfl, _, c1, fixExt c2, .list (.inr rfl) hpos hz hcap (fun i x hx => by rw [Nat.zero_add]; exact (Gh.listed_ro G w.drew s2.next (flat zs) R.size i).trans hx) ⟨?_, R.size, Gh.listed_dim G w.drew s2.next (flat zs) R.size, by simp [hR]⟩⟩
    rw [Gh.listed_at, flat_length hz]
    simp
/-- more cells that stay, in a block -/
def Gh.grown (G : Gh) (b e0 : Nat) (cs : List AVal) : Gh where
  at_ := G.at_
  ro c o := if c = b ∧ e0 ≤ o ∧ o < e0 + cs.length then cs[o - e0]? else G.ro c o
  dim := G.dim

/-- cells written behind a row, for good -/
theorem WR.extend {h : Trie AObj} (wr : WR G h w) {k n b e0 : Nat} (hk : h.get k = some .tok) (hat : G.at_ k = some ⟨b, e0, none⟩) (hn : G.at_ n = none) {C : Array Value} {et : TypeId} (hb : w.heap[b]? = some (.cells C et (0, 0)))
    {cs : List AVal} {CY : Array Value} (hv : VRs G cs CY.toList) (hs : scals cs = true) (hfit : e0 + CY.size ≤ C.size) :
    WR ((G.grown b e0 cs).name n ⟨b, e0 + cs.length, none⟩) ((h.set k none).set n (some .tok)) (putBlock w b (.cells (writeArr C e0 CY.toList) et (0, 0))) ∧
    Ext G h w ((G.grown b e0 cs).name n ⟨b, e0 + cs.length, none⟩) ((h.set k none).set n (some .tok)) (putBlock w b (.cells (writeArr C e0 CY.toList) et (0, 0))) n (n + 1) := by
  have hlt := lt_of_get hb
  have hlen : cs.length = CY.size := by simpa using hv.length
  have hblk : ∀ c, (putBlock w b (.cells (writeArr C e0 CY.toList) et (0, 0))).heap[c]? = if c = b then some (.cells (writeArr C e0 CY.toList) et (0, 0)) else w.heap[c]? := fun c => putBlock_get w b c _ hlt
  have hold : ∀ i v, G.ro b i = some v → i < e0 := fun i v hi => (wr.apart k _ _ i v hk hat hi).2
  have hown : Owns G h b := ⟨k, _, by rw [hk]; simp, hat, rfl⟩
  have hle : G.le (G.grown b e0 cs) := ⟨fun _ _ e => e, fun c o v e => by
    simp only [Gh.grown]
    rw [if_neg]
    · exact e
    · rintro ⟨rfl, h1, _⟩
      have := hold o v e
      omega, fun _ _ e => e⟩
  have wk := wr.killed k
  have hno : ¬ Owns G (h.set k none) b := not_owns_killed (a := ⟨b, e0, none⟩) wr (by rw [hk]; simp) hat
  have w1 : WR (G.grown b e0 cs) (h.set k none) (putBlock w b (.cells (writeArr C e0 CY.toList) et (0, 0))) := by
    refine ⟨?_, wk.sep, ?_, ?_, ?_, fun m c hm => by simp; exact wk.below m c hm⟩
    · intro m ob hm
      obtain ⟨c, hc, hsp, hr⟩ := wk.obj m ob hm
      refine ⟨c, hc, hsp, (hr.mono hle).of_block ?_⟩
      rw [hblk, if_neg]
      intro e
      exact hno ⟨m, c, by rw [hm]; simp, hc, e⟩
    · intro c i v hi
      simp only [Gh.grown] at hi
      by_cases hin : c = b ∧ e0 ≤ i ∧ i < e0 + cs.length
      · rw [if_pos hin] at hi
        obtain ⟨rfl, h1, h2⟩ := hin
        obtain ⟨q1, y, hy, q2⟩ := hv.rows hs _ v hi
        refine ⟨q1, y, ?_, q2.mono hle⟩
        rw [cell_of (by rw [hblk, if_pos rfl]), writeArr_get _ _ _ _ (by simpa using hfit), if_pos (by simp; omega)]
        simpa using hy
      · rw [if_neg hin] at hi
        obtain ⟨q1, y, hy, q2⟩ := wr.ro c i v hi
        refine ⟨q1, y, ?_, q2.mono hle⟩
        by_cases e : c = b
        · subst e
          have := hold i v hi
          rw [cell_of hb] at hy
          rw [cell_of (by rw [hblk, if_pos rfl]), writeArr_get _ _ _ _ (by simpa using hfit), if_neg (by omega)]
          exact hy
        · rw [← hy]; simp [World.cell?, hblk, e]
    · intro m ob c i v hm hc hi
      simp only [Gh.grown] at hi
      rw [if_neg] at hi
      · exact wk.apart m ob c i v hm hc hi
      · rintro ⟨e, _, _⟩
        exact hno ⟨m, c, by rw [hm]; simp, hc, e⟩
    · intro c d hd
      obtain ⟨D, t, hD, hsz⟩ := wr.dim c d hd
      rw [hblk]
      by_cases e : c = b
      · subst e
        rw [hb] at hD
        simp only [Option.some.injEq, Obj.cells.injEq] at hD
        obtain ⟨rfl, rfl, _⟩ := hD
        exact ⟨_, et, if_pos rfl, by simpa using hsz⟩
      · rw [if_neg e]; exact ⟨D, t, hD, hsz⟩
  have hno' : ¬ Owns (G.grown b e0 cs) (h.set k none) b := hno
  have w2 := w1.named (n := n) (a := ⟨b, e0 + cs.length, none⟩) (o := .tok) hn (by simp; exact hlt) rfl hno' ⟨_, et, by rw [hblk, if_pos rfl]⟩ (fun i v hi => by
    refine ⟨rfl, ?_⟩
    simp only [Gh.grown] at hi
    by_cases hin : e0 ≤ i ∧ i < e0 + cs.length
    · exact hin.2
    · rw [if_neg (by simpa using hin)] at hi
      have := hold i v hi
      show i < e0 + cs.length
      omega)
  refine ⟨w2, ⟨hle.trans (Gh.name_le _ _ hn), by simp, ?_, ?_, ?_, ?_, quiet_put w hb rfl rfl⟩⟩
  · intro c hc ho
    rw [hblk, if_neg]
    intro e; subst e; exact ho hown
  · intro c hc ho
    rcases owns_name ho with rfl | ho
    · exact hown
    · exact owns_killed (show Owns G (h.set k none) c from ho)
  · intro m c hm h0
    simp only [Gh.name, Gh.grown] at hm
    by_cases em : m = n
    · omega
    · rw [if_neg em, h0] at hm; cases hm
  · intro c i v hc hi h0
    simp only [Gh.name, Gh.grown] at hi
    by_cases hin : c = b ∧ e0 ≤ i ∧ i < e0 + cs.length
    · rw [hin.1]; exact hown
    · rw [if_neg hin, h0] at hi; cases hi

/-- an object of cells given up, its block written over and named anew -/
theorem WR.rehome {h : Trie AObj} (wr : WR G h w) {m n : Nat} {cs0 : List AVal} {ad bd : Addr} (hm : h.get m = some (.cells cs0)) (hat : G.at_ m = some bd) (hn : G.at_ n = none) {C C' : Array Value} {et : TypeId} (hb : w.heap[bd.block]? = some (.cells C et (0, 0)))
    (hs : C'.size = C.size) (hdm : G.dim bd.block = some C.size) (had : ad.block = bd.block) (hsp : ad.spot = none) {cs : List AVal} (hc : ∀ (i : Nat) v, cs[i]? = some v → v.scal = true ∧ ∃ y, C'[ad.off + i]? = some y ∧ VR G v y) :
    WR (G.name n ad) ((h.set m none).set n (some (.cells cs))) (putBlock w bd.block (.cells C' et (0, 0))) ∧
    Ext G h w (G.name n ad) ((h.set m none).set n (some (.cells cs))) (putBlock w bd.block (.cells C' et (0, 0))) n (n + 1) := by
  have hlt := lt_of_get hb
  have hown : Owns G h bd.block := ⟨m, bd, by rw [hm]; simp, hat, rfl⟩
  have hro : ∀ i, G.ro bd.block i = none := fun i => by
    cases hr : G.ro bd.block i with
    | none => rfl
    | some v => have := (wr.apart m _ bd i v hm hat hr).1; cases this
  have hno := not_owns_killed wr (by rw [hm]; simp) hat
  have w1 := (wr.killed m).putFree hb hs hno hro
  have w2 := w1.named (n := n) (a := ad) (o := .cells cs) hn (by rw [had]; simpa using hlt) hsp (by rw [had]; exact hno)
    ⟨C', et, by rw [had, putBlock_get _ _ _ _ hlt, if_pos rfl], by rw [had, hs]; exact hdm, hc⟩ (fun i v hi => by rw [had, hro] at hi; cases hi)
  refine ⟨w2, ⟨Gh.name_le _ _ hn, by simp, ?_, ?_, ?_, ?_, quiet_put w hb rfl rfl⟩⟩
  · intro c hc' ho
    rw [putBlock_get _ _ _ _ hlt, if_neg]
    intro e; subst e; exact ho hown
  · intro c hc' ho
    rcases owns_name ho with rfl | ho
    · rw [had]; exact hown
    · exact owns_killed ho
  · intro q c hq h0
    simp only [Gh.name] at hq
    by_cases em : q = n
    · omega
    · rw [if_neg em, h0] at hq; cases hq
  · intro c i v hc' hi h0
    simp only [Gh.name] at hi
    rw [hi] at h0; cases h0

theorem Ext.after_kill {h h' : Trie AObj} {G' : Gh} {w' : World} {m lo hi : Nat} (x : Ext G (h.set m none) w G' h' w' lo hi) : Ext G h w G' h' w' lo hi :=
  ⟨x.le, x.size, fun b hb ho => x.keep b hb (fun o => ho (owns_killed o)), fun b hb o => owns_killed (x.owns b hb o), x.names, fun b i v hb h1 h2 => owns_killed (x.cells b i v hb h1 h2), x.quiet⟩

theorem chunk_ok {g : Bool} {sz : Nat} (hg : g = false → sz = 1) : ∀ (n : Nat) (cs : List AVal), cs.length = n * sz → ∃ xs, chunk g sz n cs = some xs
  | 0, cs, h => by
    have : cs = [] := List.length_eq_zero_iff.1 (by simpa using h)
    subst this
    exact ⟨[], rfl⟩
  | n + 1, cs, h => by
    rw [Nat.succ_mul] at h
    cases hgv : g with
    | true =>
      obtain ⟨r, hr⟩ := chunk_ok hg n (cs.drop sz) (by simp; omega)
      rw [hgv] at hr
      refine ⟨.agg (cs.take sz) :: r, ?_⟩
      have hc : cut cs 0 sz = some (cs.take sz) := by
        simp only [cut, List.drop_zero]
        have : Nat.beq (cs.take sz).length sz = true := by rw [nbeq]; simp; omega
        rw [this]; rfl
      simp [chunk, hc, hr]
    | false =>
      have h1 := hg hgv
      subst h1
      cases cs with
      | nil => simp at h
      | cons c cs =>
        obtain ⟨r, hr⟩ := chunk_ok hg n cs (by simp at h; omega)
        rw [hgv] at hr
        exact ⟨c :: r, by simp [chunk, hr]⟩

theorem run_appendA {t t2 ty : TypeId} {x y : AVal} {X Y : Value} {mu : Bool} (he : appendA P mk t x y mu s = some (v, s')) (ht2 : isSliceT P t2 = true) (hx : VR G x X) (hy : VR G y Y) (wr : WR G s.heap w)
    (hfree : ∀ n, s.next ≤ n → n < s'.next → G.at_ n = none) :
    ∃ Z w' G', (Builtin.append_ #[t, t2] ty #[X, Y]).run P w = .ok Z w' ∧ WR G' s'.heap w' ∧ Ext G s.heap w G' s'.heap w' s.next s'.next ∧ VR G' v Z := by
  simp only [appendA, Option.bind_eq_some_iff] at he
  obtain ⟨E, hE, ys, hys, he⟩ := he
  obtain ⟨e, hd, hE⟩ := sliceElem_some hE
  obtain ⟨hsz, _, hg, hpos, hg1, ti, zv, hb0, hi, hzv, hov, hzs, hib⟩ := elemI_some hE
  obtain ⟨CY, hYr, hvY, hsY, hmY⟩ := run_elems (P := P) hg1 hpos hys hy wr
  have hCYl : CY.size = ys.length * E.n := by
    have := hvY.length
    rw [flat_length hmY] at this
    simpa using this.symm
  have hk : ∀ w' : World, w'.heap = w.heap → (Builtin.lenOf Y).run P w' = .ok ys.length w' := fun w' h => (hYr w' h).1
  have hY : ∀ w' : World, w'.heap = w.heap → (Builtin.firstCells E.n ys.length Y).run P w' = .ok CY w' := fun w' h => by
    have := (hYr w' h).2 ys.length (Nat.le_refl _)
    rw [List.take_of_length_le (by simp [hCYl])] at this
    exact this
  -- a new row
  have grow : ∀ (mu : Bool) (xs : List AVal) (base : Option Addr) (cap : Nat) (CX : Array Value) (s2 : St) (v1 : AVal) (s1 : St), X = .slice base xs.length cap → WR G s2.heap w → s2.next = s.next →
      (∀ w' : World, w'.heap = w.heap → (Builtin.firstCells E.n xs.length (.slice base xs.length cap)).run P w' = .ok CX w') → VRs G (flat xs) CX.toList → scals (flat xs) = true → (∀ u ∈ xs, u.cells.length = E.n) →
      cap < xs.length + ys.length → madeA E mu (xs ++ ys) s2 = some (v1, s1) → G.at_ s.next = none →
      s1.next = s.next + 1 ∧ ∃ Z w' G', (Builtin.append_ #[t, t2] ty #[X, Y]).run P w = .ok Z w' ∧ WR G' s1.heap w' ∧ Ext G s2.heap w G' s1.heap w' s.next (s.next + 1) ∧ VR G' v1 Z := by
    intro mu xs base cap CX s2 v1 s1 hX wr2 hs2 hXr hvX hsX hmX hcap hmade hn0
    have hCXl : CX.size = xs.length * E.n := by
      have := hvX.length
      rw [flat_length hmX] at this
      simpa using this.symm
    have hroom : roomy (xs.length + ys.length) E.b = true := by
      simp only [madeA, List.length_append] at hmade
      exact (bif_none hmade).1
    obtain ⟨newCap, R, r1, r2, r3, r4⟩ := run_append_grow (ty := ty) hd hE ht2 hk hXr hY hcap hroom hCXl hCYl
    have hvXY : VRs G (flat (xs ++ ys)) (CX ++ CY).toList := by rw [flat_append]; simpa using hvX.append hvY
    have hsXY : scals (flat (xs ++ ys)) = true := by rw [flat_append, scals_append, hsX, hsY]; rfl
    have hmXY : ∀ z ∈ xs ++ ys, z.cells.length = E.n := by
      intro z hz
      rcases List.mem_append.1 hz with h | h
      · exact hmX z h
      · exact hmY z h
    obtain ⟨q1, G', q2, q3, q4⟩ := made_new (e := e) (newCap := newCap) (R := R) hpos wr2 hmade (by rw [hs2]; exact hn0) hmXY (by simpa using r1) r2 (fun i u hu => by
      obtain ⟨p1, y, hy, p2⟩ := hvXY.rows hsXY i u hu
      refine ⟨p1, y, ?_, p2⟩
      rw [r3 i]; · exact hy
      have : i < (flat (xs ++ ys)).length := by
        rcases Nat.lt_or_ge i (flat (xs ++ ys)).length with h | h
        · exact h
        · simp [List.getElem?_eq_none h] at hu
      rw [flat_length hmXY] at this
      simpa using this)
    rw [hs2] at q1 q3
    refine ⟨q1, _, _, G', by rw [hX]; exact r4, q2, q3, by simpa using q4⟩
  split at he
  · -- nothing to append
    replace he := bif_none he
    obtain ⟨hsl, he⟩ := he
    simp only [Option.some.injEq, Prod.mk.injEq] at he
    obtain ⟨rfl, rfl⟩ := he
    obtain ⟨b, n, c, rfl⟩ := hx.slice_len hsl
    have h0 : CY = #[] := by
      have : CY.size = 0 := by simpa using hCYl
      exact Array.eq_empty_of_size_eq_zero this
    subst h0
    exact ⟨_, w, G, run_append_none hd hE ht2 (hk w rfl) (hY w rfl) hx.cap_le, wr, .refl, hx⟩
  · rename_i y0 yr
    have hfr : s'.next = s.next + 1 → G.at_ s.next = none := fun h => hfree s.next (Nat.le_refl _) (by omega)
    generalize hyr : (y0 :: yr) = yl at *
    have hyne : 0 < yl.length := by rw [← hyr]; simp
    clear hyr
    unfold appendTo at he
    split at he
    · -- nil
      cases hx
      have hnx : s'.next = s.next + 1 := by
        simp only [madeA] at he
        have h1 := (bif_none he).2
        rcases bif_some h1 with ⟨_, h2⟩ | ⟨_, h2⟩ <;> (simp only [Option.some.injEq, Prod.mk.injEq] at h2; rw [← h2.2]; rfl)
      obtain ⟨q1, Z, w', G', q2, q3, q4, q5⟩ := grow mu [] none 0 #[] s v s' rfl wr rfl (fun w' _ => by simp [Builtin.firstCells]) (by simpa [flat] using VRs.nil) rfl (by simp) (by simpa using hyne) (by simpa using he) (hfr hnx)
      rw [q1]
      exact ⟨Z, w', G', q2, q3, q4, q5⟩
    · -- a literal
      rename_i sz xs
      replace he := bif_none he
      obtain ⟨hsz', he⟩ := he
      obtain rfl := beq_eq hsz'
      have hnx : s'.next = s.next + 1 := by
        simp only [madeA] at he
        have h1 := (bif_none he).2
        rcases bif_some h1 with ⟨_, h2⟩ | ⟨_, h2⟩ <;> (simp only [Option.some.injEq, Prod.mk.injEq] at h2; rw [← h2.2]; rfl)
      obtain ⟨CX, hXr, hvX, hsX, hmX⟩ := run_elems (P := P) (mk := mk) (s := s) (ys := xs) (g := E.g) (n := E.n) hg1 hpos (by simp [elemsA]) hx wr
      have hCXl : CX.size = xs.length * E.n := by
        have := hvX.length
        rw [flat_length hmX] at this
        simpa using this.symm
      cases hx with
      | list hsp hp hm hcap hro hr =>
      rename_i ad cap
      obtain rfl : cap = xs.length := hr
      obtain ⟨q1, Z, w', G', q2, q3, q4, q5⟩ := grow mu xs (some ad) xs.length CX s v s' rfl wr rfl (fun w' h => by
        have := (hXr w' h).2 xs.length (Nat.le_refl _)
        rwa [List.take_of_length_le (by simp [hCXl])] at this) hvX hsX hmX (by omega) he (hfr hnx)
      rw [q1]
      exact ⟨Z, w', G', q2, q3, q4, q5⟩
    · -- a row with the right to append
      rename_i sz xs k
      simp only [Option.bind_eq_some_iff] at he
      obtain ⟨ob, hob, he⟩ := he
      split at he
      · replace he := bif_none he
        obtain ⟨hc, he⟩ := he
        simp only [Bool.and_eq_true] at hc
        obtain rfl := beq_eq hc.2
        simp only [Option.some.injEq, Prod.mk.injEq] at he
        obtain ⟨rfl, rfl⟩ := he
        have hn0 : G.at_ s.next = none := hfr rfl
        obtain ⟨CX, hXr, hvX, hsX, hmX⟩ := run_elems (P := P) (mk := mk) (s := s) (ys := xs) (g := E.g) (n := E.n) hg1 hpos (by simp [elemsA]) hx wr
        have hCXl : CX.size = xs.length * E.n := by
          have := hvX.length
          rw [flat_length hmX] at this
          simpa using this.symm
        cases hx with
        | list hsp hp hm hcap hro hr =>
        rename_i ad cap
        obtain ⟨b, off, sp⟩ := ad
        have hsp0 : 0 < cap → sp = none := fun h0 => by
          rcases hsp with h | h
          · omega
          · exact h
        obtain ⟨hat, dm, hdm, hle⟩ := hr
        simp only at hat hdm hle
        by_cases hfit : xs.length + yl.length ≤ cap
        · -- in place
          obtain rfl := hsp0 (by omega)
          obtain ⟨C, et, hC, hCs⟩ := wr.dim _ dm hdm
          have hmul : (xs.length + yl.length) * E.n ≤ cap * E.n := Nat.mul_le_mul_right _ hfit
          rw [Nat.add_mul] at hmul
          obtain ⟨c1, c2⟩ := wr.extend (get_some hob) hat hn0 hC hvY hsY (by rw [hCYl]; omega)
          refine ⟨_, _, _, run_append_in hd hE ht2 (hk w rfl) (hY w rfl) hfit hC (by rw [hCYl]; omega) (hvY.ones hsY), c1, c2, ?_⟩
          rw [← List.length_append]
          refine .list (.inr rfl) hpos ?_ (by simpa using hfit) ?_ ⟨?_, dm, ?_, hle⟩
          · intro z hz
            rcases List.mem_append.1 hz with h | h
            · exact hmX z h
            · exact hmY z h
          · intro i u hu
            rw [flat_append] at hu
            simp only [Gh.name, Gh.grown]
            by_cases h1 : i < (flat xs).length
            · rw [List.getElem?_append_left h1] at hu
              rw [flat_length hmX] at h1
              rw [if_neg (by rintro ⟨_, h2, _⟩; omega)]
              exact hro i u hu
            · rw [List.getElem?_append_right (by omega)] at hu
              rw [flat_length hmX] at h1 hu
              have h3 : i - xs.length * E.n < (flat yl).length := by
                rcases Nat.lt_or_ge (i - xs.length * E.n) (flat yl).length with h | h
                · exact h
                · simp [List.getElem?_eq_none h] at hu
              rw [if_pos (by refine ⟨?_, ?_, ?_⟩ <;> first | trivial | omega), ← hu]
              congr 1; omega
          · simp only [Gh.name, if_true]
            rw [flat_length hmY]
            congr 2
            simp only [List.length_append, Nat.add_mul]; omega
          · exact hdm
        · -- a new row
          have hmade : madeA E false (xs ++ yl) (s.put k none) = some (.list E.n (xs ++ yl) (.own s.next), (s.put k none).new .tok) := by
            simp only [madeA, List.length_append, hc.1, cond_true, cond_false]
            rfl
          obtain ⟨q1, Z, w', G', q2, q3, q4, q5⟩ := grow false xs (some ⟨b, off, sp⟩) cap CX (s.put k none) _ _ rfl (wr.killed k) rfl (fun w' h => by
            have := (hXr w' h).2 xs.length (Nat.le_refl _)
            rwa [List.take_of_length_le (by simp [hCXl])] at this) hvX hsX hmX (by omega) hmade hn0
          exact ⟨Z, w', G', q2, q3, Ext.after_kill q4, q5⟩
      · cases he
    · -- a row that may be written
      rename_i sz m off len lcap
      simp only [Option.bind_eq_some_iff] at he
      obtain ⟨ob, hob, he⟩ := he
      split at he
      · rename_i cs
        replace he := bif_none he
        obtain ⟨hc, he⟩ := he
        simp only [Bool.and_eq_true] at hc
        obtain rfl := beq_eq hc.2
        have hx0 := hx
        cases hx with
        | arr hat hsp hp hlen hcap hadr hdim hle =>
        rename_i ad bd cap dm
        obtain ⟨b, aoff, sp⟩ := ad
        simp only at hsp; subst hsp
        obtain ⟨bd', hat', hsp', C, et, hC, hdC, hcs⟩ := wr.obj m _ (get_some hob)
        rw [hat] at hat'; injection hat' with hat'; subst hat'
        have hdd : dm = C.size := by rw [hdim] at hdC; injection hdC
        replace he := bif_some he
        rcases he with ⟨hend, he⟩ | ⟨_, he⟩
        · have hend := beq_eq hend
          simp only [Option.some.injEq, Prod.mk.injEq] at he
          obtain ⟨rfl, rfl⟩ := he
          have hn0 : G.at_ s.next = none := hfr rfl
          by_cases hfit : len + yl.length ≤ cap
          · rcases hadr with h0 | ⟨e1, e2⟩
            · omega
            · simp only at e1 e2
              subst e1; subst e2
              have hmul : (len + yl.length) * E.n ≤ cap * E.n := Nat.mul_le_mul_right _ hfit
              rw [Nat.add_mul] at hmul
              have hfit' : bd.off + off + len * E.n + CY.toList.length ≤ C.size := by simp [hCYl]; omega
              obtain ⟨c1, c2⟩ := wr.rehome (n := s.next) (ad := ⟨bd.block, bd.off + off, none⟩) (C' := writeArr C (bd.off + off + len * E.n) CY.toList) (cs := cs.drop off ++ flat yl) (get_some hob) hat hn0 hC (by simp) hdC rfl rfl (fun i u hu => by
                show _ ∧ ∃ y, (writeArr C (bd.off + off + len * E.n) CY.toList)[bd.off + off + i]? = some y ∧ _
                rw [writeArr_get _ _ _ _ hfit']
                by_cases h1 : i < (cs.drop off).length
                · rw [List.getElem?_append_left h1, List.getElem?_drop] at hu
                  simp only [List.length_drop] at h1
                  rw [if_neg (by omega), Nat.add_assoc]
                  exact hcs _ u hu
                · rw [List.getElem?_append_right (by omega)] at hu
                  simp only [List.length_drop] at h1 hu
                  obtain ⟨p1, y, hy, p2⟩ := hvY.rows hsY _ u hu
                  have h3 : i - (cs.length - off) < (flat yl).length := by
                    rcases Nat.lt_or_ge (i - (cs.length - off)) (flat yl).length with h | h
                    · exact h
                    · simp [List.getElem?_eq_none h] at hu
                  rw [flat_length hmY] at h3
                  rw [if_pos (by simp [hCYl]; omega)]
                  refine ⟨p1, y, ?_, p2⟩
                  rw [← hy, ← Array.getElem?_toList]
                  congr 1; omega)
              refine ⟨_, _, _, run_append_in hd hE ht2 (hk w rfl) (hY w rfl) hfit hC (by simpa using hfit') (hvY.ones hsY), c1, c2, ?_⟩
              exact .arr (b := ⟨bd.block, bd.off + off, none⟩) (by simp [Gh.name]) rfl hpos (Nat.le_refl _) hfit (.inr ⟨rfl, by simp⟩) (show G.dim bd.block = some dm from hdim) (by simpa using hle)
          · have hcl : (cs.drop off).length = len * E.n := by simp; omega
            obtain ⟨xs, hxs⟩ := chunk_ok hg1 len (cs.drop off) hcl
            have hsd : scals (cs.drop off) = true := by
              simp only [scals, List.all_eq_true]
              intro u hu
              obtain ⟨i, hi⟩ := List.mem_iff_getElem?.1 (List.mem_of_mem_drop hu)
              exact (hcs i u hi).1
            obtain ⟨k1, k2, k3⟩ := chunk_some hg1 hxs hsd
            have hel : elemsA mk E.g E.n (.arr E.n m off len lcap) s = some xs := by
              have hcut : cut cs off (len * E.n) = some (cs.drop off) := by
                simp only [cut]
                have : (cs.drop off).take (len * E.n) = cs.drop off := List.take_of_length_le (by omega)
                rw [this, nbeq]
                simp only [hcl, beq_self_eq_true, cond_true]
              simp [elemsA, hob, hcut, hxs]
            obtain ⟨CX, hXr, hvX, hsX, hmX⟩ := run_elems (P := P) hg1 hpos hel hx0 wr
            have hCXl : CX.size = xs.length * E.n := by
              have := hvX.length
              rw [flat_length hmX] at this
              simpa using this.symm
            have hmade : madeA E true (xs ++ yl) (s.put m none) = some (.arr E.n s.next 0 (len + yl.length) (len + yl.length), (s.put m none).new (.cells (cs.drop off ++ flat yl))) := by
              simp only [madeA, List.length_append, k1, hc.1, cond_true, flat_append, k2]
              rfl
            obtain ⟨q1, Z, w', G', q2, q3, q4, q5⟩ := grow true xs (some ⟨b, aoff, none⟩) cap CX (s.put m none) _ _ (by rw [k1]) (wr.killed m) rfl (fun w' h => by
              have := (hXr w' h).2 xs.length (Nat.le_refl _)
              rw [List.take_of_length_le (by simp [hCXl])] at this
              rw [k1] at this ⊢
              exact this) hvX hsX hmX (by omega) hmade hn0
            exact ⟨Z, w', G', q2, q3, Ext.after_kill q4, q5⟩
        · replace he := bif_none he
          obtain ⟨hin, he⟩ := he
          have hin := ble_le hin
          simp only [Option.bind_eq_some_iff] at he
          obtain ⟨cs', hw, he⟩ := he
          simp only [Option.some.injEq, Prod.mk.injEq] at he
          obtain ⟨rfl, rfl⟩ := he
          rcases hadr with h0 | ⟨e1, e2⟩
          · omega
          · simp only at e1 e2
            subst e1; subst e2
            have hne : flat yl ≠ [] := by
              intro e
              have h0 := flat_length hmY
              rw [e, List.length_nil] at h0
              have := Nat.mul_pos hyne hpos
              omega
            obtain ⟨hle2, hrows⟩ := rows_write (base := bd.off) hw hvY hsY hne hcs
            have hfit' : bd.off + off + len * E.n + CY.toList.length ≤ C.size := by rw [Nat.add_assoc bd.off]; exact hle2
            obtain ⟨c1, c2⟩ := wr.changed (o' := .cells cs') (ob := .cells (writeArr C (bd.off + off + len * E.n) CY.toList) et (0, 0)) (get_some hob) hat
              ⟨_, et, by rw [putBlock_get _ _ _ _ (lt_of_get hC), if_pos rfl], by rw [hdC]; simp, by rw [Nat.add_assoc bd.off]; exact hrows⟩
              (fun i u hu => by have := (wr.apart m _ bd i u (get_some hob) hat hu).1; cases this)
              (fun d hd => by rw [hdC] at hd; injection hd with hd; exact ⟨_, et, rfl, by simpa using hd⟩)
            exact ⟨_, _, _, run_append_in hd hE ht2 (hk w rfl) (hY w rfl) (by omega) hC (by simpa using hfit') (hvY.ones hsY), c1, c2 _ _, .arr hat rfl hpos hin hcap (.inr ⟨rfl, rfl⟩) hdim hle⟩
      · cases he
    · cases he
theorem run_copyA {t t2 ty : TypeId} {x y : AVal} {X Y : Value} (he : copyA P mk t x y s = some (v, s')) (hx : VR G x X) (hy : VR G y Y) (wr : WR G s.heap w) :
    ∃ Z w', (Builtin.copy_ #[t, t2] ty #[X, Y]).run P w = .ok Z w' ∧ WR G s'.heap w' ∧ (∀ lo hi, Ext G s.heap w G s'.heap w' lo hi) ∧ VR G v Z := by
  simp only [copyA, Option.bind_eq_some_iff] at he
  obtain ⟨E, hE, ys, hys, he⟩ := he
  obtain ⟨e, hd, hE⟩ := sliceElem_some hE
  obtain ⟨hsz, _, hg, hpos, hg1, ti, zv, hb0, hi, hzv, hov, hzs, hib⟩ := elemI_some hE
  obtain ⟨CY, hYr, hvY, hsY, hmY⟩ := run_elems (P := P) hg1 hpos hys hy wr
  obtain ⟨hk, hY⟩ := hYr w rfl
  split at he
  · simp only [Option.some.injEq, Prod.mk.injEq] at he
    obtain ⟨rfl, rfl⟩ := he
    cases hx
    have h0 := hY 0 (Nat.zero_le _)
    exact ⟨_, w, by simp [Builtin.copy_, run_underlying_of hd, hk, run_sizeOf hsz, h0, goInt], wr, fun _ _ => .refl, .int _ _⟩
  · simp only [Option.some.injEq, Prod.mk.injEq] at he
    obtain ⟨rfl, rfl⟩ := he
    cases hx
    have h0 := hY 0 (Nat.zero_le _)
    exact ⟨_, w, by simp [Builtin.copy_, run_underlying_of hd, hk, run_sizeOf hsz, h0, goInt, storeCells], wr, fun _ _ => .refl, .int _ _⟩
  · rename_i sz m off len lcap
    replace he := bif_none he
    obtain ⟨hc, he⟩ := he
    obtain rfl := beq_eq hc
    simp only [Option.bind_eq_some_iff] at he
    obtain ⟨ob, hob, he⟩ := he
    split at he
    · rename_i cs
      simp only [Option.bind_eq_some_iff] at he
      obtain ⟨cs', hw, he⟩ := he
      simp only [Option.some.injEq, Prod.mk.injEq] at he
      obtain ⟨rfl, rfl⟩ := he
      cases hx with
      | arr hat hsp hp hlen hcap hadr hdim hle =>
      rename_i ad bd cap dm
      obtain ⟨b, aoff, sp⟩ := ad
      simp only at hsp; subst hsp
      obtain ⟨bd', hat', hsp', C, et, hC, hdC, hcs⟩ := wr.obj m _ (get_some hob)
      rw [hat] at hat'; injection hat' with hat'; subst hat'
      have hl : (ys.take len).length = Nat.min ys.length len := by rw [List.length_take]; exact Nat.min_comm _ _
      have hkk := hY (Nat.min ys.length len) (Nat.min_le_left _ _)
      have hmT : ∀ u ∈ ys.take len, u.cells.length = E.n := fun u hu => hmY u (List.mem_of_mem_take hu)
      have hft : flat (ys.take len) = (flat ys).take ((ys.take len).length * E.n) := by
        have key : ∀ (A D : List AVal), (∀ u ∈ A, u.cells.length = E.n) → flat A = (flat (A ++ D)).take (A.length * E.n) := fun A D hA => by
          rw [flat_append, List.take_append_of_le_length (by rw [flat_length hA]; exact Nat.le_refl _), List.take_of_length_le (by rw [flat_length hA]; exact Nat.le_refl _)]
        have := key (ys.take len) (ys.drop len) hmT
        rwa [List.take_append_drop] at this
      have hvT : VRs G (flat (ys.take len)) (CY.toList.take (Nat.min ys.length len * E.n)) := by rw [hft, hl]; exact hvY.take _
      have hsT : scals (flat (ys.take len)) = true := by
        rw [hft]
        simp only [scals, List.all_eq_true] at hsY ⊢
        exact fun u hu => hsY u (List.mem_of_mem_take hu)
      by_cases hz : Nat.min ys.length len = 0
      · have hfe : flat (ys.take len) = [] := by
          have := flat_length hmT
          rw [hl, hz, Nat.zero_mul] at this
          exact List.length_eq_zero_iff.1 this
        have hcs' : cs' = cs := by
          rw [hfe] at hw
          simp only [writeCells, List.length_nil, Nat.add_zero, List.nil_append, List.take_append_drop] at hw
          have := (bif_none hw).2
          injection this with this
          exact this.symm
        subst hcs'
        rw [hz] at hkk
        have hsame : (s.put m (some (.cells cs'))).heap.get = s.heap.get := by
          funext q
          show (s.heap.set m (some (.cells cs'))).get q = _
          rw [Trie.get_set]
          by_cases e' : q = m
          · rw [if_pos e', e', get_some hob]
          · rw [if_neg e']
        have hown : ∀ q, Owns G (s.put m (some (.cells cs'))).heap q ↔ Owns G s.heap q := fun q => by unfold Owns; rw [hsame]
        refine ⟨.int .i64 0, w, by simp [Builtin.copy_, run_underlying_of hd, hk, run_sizeOf hsz, hz, hkk, goInt, storeCells], ?_, fun lo hi => ?_, ?_⟩
        · exact ⟨fun q ob h => wr.obj q ob (by rw [← hsame]; exact h), fun q r a b h1 h2 => wr.sep q r a b (by rw [← hsame]; exact h1) (by rw [← hsame]; exact h2), wr.ro, fun q ob a i v h => wr.apart q ob a i v (by rw [← hsame]; exact h), wr.dim, wr.below⟩
        · exact ⟨.refl G, Nat.le_refl _, fun _ _ _ => rfl, fun q _ h => (hown q).1 h, fun n a h h' => (by rw [h] at h'; cases h'), fun b o v _ h h' => (by rw [h] at h'; cases h'), .refl _⟩
        · rw [hl, hz]; exact .int _ _
      · have hne : flat (ys.take len) ≠ [] := by
          intro e'
          have h0 := flat_length hmT
          rw [e', List.length_nil, hl] at h0
          have := Nat.mul_pos (Nat.pos_of_ne_zero hz) hpos
          omega
        rcases hadr with h0 | ⟨e1, e2⟩
        · have : Nat.min ys.length len ≤ len := Nat.min_le_right _ _
          omega
        · simp only at e1 e2
          subst e1; subst e2
          obtain ⟨hle2, hrows⟩ := rows_write (base := bd.off) hw hvT hsT hne hcs
          obtain ⟨c1, c2⟩ := wr.changed (o' := .cells cs') (ob := .cells (writeArr C (bd.off + off) (CY.toList.take (Nat.min ys.length len * E.n))) et (0, 0)) (get_some hob) hat
            ⟨_, et, by rw [putBlock_get _ _ _ _ (lt_of_get hC), if_pos rfl], by rw [hdC]; simp, hrows⟩
            (fun i u hu => by have := (wr.apart m _ bd i u (get_some hob) hat hu).1; cases this)
            (fun d hd => by rw [hdC] at hd; injection hd with hd; exact ⟨_, et, rfl, by simpa using hd⟩)
          have hst := run_storeCells (P := P) bd.block (bd.off + off) et (CY.toList.take (Nat.min ys.length len * E.n)) 0 w C hC (by simpa using hle2) (hvT.ones hsT)
          simp only [Nat.add_zero] at hst
          refine ⟨.int .i64 (Nat.min ys.length len : Nat), _, by simp [Builtin.copy_, run_underlying_of hd, hk, run_sizeOf hsz, hkk, hst, goInt], c1, c2, ?_⟩
          rw [hl]; exact .int _ _
    · cases he
  · cases he
theorem run_clearA {t ty : TypeId} {x : AVal} {X : Value} (he : clearA P mk t x s = some s') (hu : ∃ d, P.underlying t = some d) (hx : VR G x X) (wr : WR G s.heap w) :
    ∃ w', (Builtin.clear_ #[t] ty #[X]).run P w = .ok (.tuple #[]) w' ∧ WR G s'.heap w' ∧ ∀ lo hi, Ext G s.heap w G s'.heap w' lo hi := by
  obtain ⟨d, hd⟩ := hu
  unfold clearA at he
  split at he
  · injection he with he; subst he; cases hx
    exact ⟨w, by simp [Builtin.clear_, run_underlying_of hd], wr, fun _ _ => .refl⟩
  · injection he with he; subst he; cases hx
    exact ⟨w, by simp [Builtin.clear_, run_underlying_of hd], wr, fun _ _ => .refl⟩
  · simp only [Option.bind_eq_some_iff] at he
    obtain ⟨ob, hob, he⟩ := he
    split at he
    · injection he with he; subst he
      cases hx with
      | map hat =>
      obtain ⟨ad, ES, h1, h2, h3, h4⟩ := map_obj wr hob
      rw [hat] at h1; injection h1 with h1; subst h1
      obtain ⟨c1, c2⟩ := map_changed (es' := []) (ES' := #[]) wr hob hat h3 .nil
      exact ⟨_, by simp [Builtin.clear_, run_underlying_of hd, run_getMap h3, run_setMap _ h3], c1, c2⟩
    · cases he
  · injection he with he; subst he; cases hx
    exact ⟨w, by simp [Builtin.clear_, run_underlying_of hd], wr, fun _ _ => .refl⟩
  · rename_i sz m off len lcap
    replace he := bif_some he
    rcases he with ⟨h0, he⟩ | ⟨h0, he⟩
    · obtain rfl := beq_eq h0
      injection he with he; subst he; cases hx
      exact ⟨w, by simp [Builtin.clear_, run_underlying_of hd], wr, fun _ _ => .refl⟩
    · have h0 := beq_ne h0
      simp only [Option.bind_eq_some_iff] at he
      obtain ⟨E, hE, he⟩ := he
      obtain ⟨e, hd', hE⟩ := sliceElem_some hE
      obtain ⟨hsz, _, hg, hpos, hg1, ti, zv, hb0, hi, hzv, hov, hzs, hib⟩ := elemI_some hE
      replace he := bif_none he
      obtain ⟨hc, he⟩ := he
      obtain rfl := beq_eq hc
      simp only [Option.bind_eq_some_iff] at he
      obtain ⟨ob, hob, he⟩ := he
      split at he
      · rename_i cs
        simp only [Option.bind_eq_some_iff] at he
        obtain ⟨cs', hw, he⟩ := he
        injection he with he; subst he
        cases hx with
        | arr hat hsp hp hlen hcap hadr hdim hle =>
        rename_i ad bd cap dm
        obtain ⟨b, aoff, sp⟩ := ad
        simp only at hsp; subst hsp
        obtain ⟨bd', hat', hsp', C, et, hC, hdC, hcs⟩ := wr.obj m _ (get_some hob)
        rw [hat] at hat'; injection hat' with hat'; subst hat'
        obtain ⟨hzr, hzt⟩ := ofValue_VR G hov
        obtain ⟨R, hR, hRl, hRg⟩ := repCells_VRs hzr.cells len
        have hrow := zero_row (zs := zv.cells) hRl hRg
        rcases hadr with h00 | ⟨e1, e2⟩
        · omega
        · simp only at e1 e2
          subst e1; subst e2
          have hne : repCells E.z.cells len ≠ [] := by
            intro e'
            have h1 := hR.length
            rw [e', List.length_nil, hRl, Array.length_toList, hzs] at h1
            have := Nat.mul_pos (Nat.pos_of_ne_zero h0) hpos
            omega
          have hsR := repCells_scals (hzr.scals_cells hzt) len
          obtain ⟨hle2, hrows⟩ := rows_write (base := bd.off) hw hR hsR hne hcs
          obtain ⟨c1, c2⟩ := wr.changed (o' := .cells cs') (ob := .cells (writeArr C (bd.off + off) R) et (0, 0)) (get_some hob) hat
            ⟨_, et, by rw [putBlock_get _ _ _ _ (lt_of_get hC), if_pos rfl], by rw [hdC]; simp, hrows⟩
            (fun i u hu => by have := (wr.apart m _ bd i u (get_some hob) hat hu).1; cases this)
            (fun d hd => by rw [hdC] at hd; injection hd with hd; exact ⟨_, et, rfl, by simpa using hd⟩)
          have hst := run_storeCells (P := P) bd.block (bd.off + off) et R 0 w C hC (by simpa using hle2) (hR.ones hsR)
          simp only [Nat.add_zero] at hst
          have hzc : Builtin.zeroCells zv.cells len = ⟨R⟩ := hrow
          obtain ⟨len, rfl⟩ : ∃ l, len = l + 1 := ⟨len - 1, by omega⟩
          exact ⟨_, by simp [Builtin.clear_, run_underlying_of hd', run_zeroValue hi hzv, hzc, hst], c1, c2⟩
      · cases he
  · cases he

theorem op_builtin {hint : Tmp → Nat} {dst : Option Tmp} {c : Call} (ho : o.op = .call c) (wr : WR G s.heap w) (fx : FrR G s.heap B fr a.tmps w)
    (he : opBuiltin P mk hint dst c fr s = some (v, loc', s')) (hfree : ∀ n, s.next ≤ n → n < s'.next → G.at_ n = none) :
    OpPost P G s.heap w B fr.loc s.next s'.next a o v loc' s'.heap := by
  unfold opBuiltin at he
  split at he
  · rename_i b hcal
    simp only [Option.bind_eq_some_iff] at he
    obtain ⟨args, hargs, he⟩ := he
    simp only [retVS, Option.bind_eq_some_iff] at he
    obtain ⟨⟨v1, s1⟩, he, hq⟩ := he
    simp only [Option.some.injEq, Prod.mk.injEq] at hq
    obtain ⟨rfl, rfl, rfl⟩ := hq
    obtain ⟨hA, hAt⟩ := fx.evcs hargs
    have hres : ∀ (nx : Sem Value), (∀ cs, builtin b c.argTypes o.type cs (c.args.map a.eval) = (do pure (.value (← nx)))) → (execOp a.eval o).run P w = (nx.run P w).andThen fun y w' => .ok (.value y) w' := by
      intro nx hnx
      simp [execOp, ho, resolve, hcal, invoke, hnx]
    have hmap : c.args.map a.eval = ⟨c.args.toList.map a.eval⟩ := by apply Array.ext'; simp
    have htyp : c.argTypes = ⟨c.argTypes.toList⟩ := rfl
    generalize hM : c.args.toList.map a.eval = M at hA hmap
    generalize hT : c.argTypes.toList = T at he htyp
    unfold builtinA at he
    split at he
    · -- len
      cases hA with | cons hx hl =>
      cases hl
      simp only [Option.bind_eq_some_iff] at he
      obtain ⟨y, hy, he⟩ := he
      simp only [Option.some.injEq, Prod.mk.injEq] at he
      obtain ⟨rfl, rfl⟩ := he
      obtain ⟨Y, hr, hv⟩ := run_lenA (ty := o.type) hy hx wr
      refine .pure wr fx (y := Y) ?_ (LV.of_VR hv)
      rw [hres (Builtin.len_ c.argTypes o.type (c.args.map a.eval)) (fun _ => rfl), hmap, htyp, hr]
      rfl
    · -- append
      cases hA with | cons hx hl =>
      cases hl with | cons hy hl =>
      cases hl
      replace he := bif_none he
      obtain ⟨ht2, he⟩ := he
      obtain ⟨Z, w', G', hr, h1, h2, h3⟩ := run_appendA (ty := o.type) he ht2 hx hy wr hfree
      refine .heap fx ?_ (.inl rfl) h1 h2 (LV.of_VR h3)
      rw [hres (Builtin.append_ c.argTypes o.type (c.args.map a.eval)) (fun _ => rfl), hmap, htyp, hr]
      rfl
    · -- copy
      cases hA with | cons hx hl =>
      cases hl with | cons hy hl =>
      cases hl
      obtain ⟨Z, w', hr, h1, h2, h3⟩ := run_copyA (ty := o.type) he hx hy wr
      refine .heap fx ?_ (.inl rfl) h1 (h2 _ _) (LV.of_VR h3)
      rw [hres (Builtin.copy_ c.argTypes o.type (c.args.map a.eval)) (fun _ => rfl), hmap, htyp, hr]
      rfl
    · -- clear
      cases hA with | cons hx hl =>
      cases hl
      simp only [Option.bind_eq_some_iff] at he
      obtain ⟨d, hd, s2, hs2, he⟩ := he
      simp only [Option.some.injEq, Prod.mk.injEq] at he
      obtain ⟨rfl, rfl⟩ := he
      obtain ⟨w', hr, h1, h2⟩ := run_clearA (ty := o.type) hs2 ⟨d, hd⟩ hx wr
      refine .heap fx (y := .tuple #[]) ?_ (.inl rfl) h1 (h2 _ _) (LV.of_VR (.tup .nil))
      rw [hres (Builtin.clear_ c.argTypes o.type (c.args.map a.eval)) (fun _ => rfl), hmap, htyp, hr]
      rfl
    · -- min
      simp only [Option.bind_eq_some_iff] at he
      obtain ⟨y, hy, he⟩ := he
      simp only [Option.some.injEq, Prod.mk.injEq] at he
      obtain ⟨rfl, rfl⟩ := he
      cases hA with
      | cons hx hl =>
        obtain ⟨Y, hr, hv⟩ := run_minmax (P := P) (isMax := false) w hy hx hl
        refine .pure wr fx (y := Y) ?_ (LV.of_VR hv)
        rw [hres (Builtin.min_ c.argTypes o.type (c.args.map a.eval)) (fun _ => rfl), hmap]
        simp only [Builtin.min_]
        simp only [Bool.false_eq_true, if_false] at hr
        rw [hr]; rfl
    · -- max
      simp only [Option.bind_eq_some_iff] at he
      obtain ⟨y, hy, he⟩ := he
      simp only [Option.some.injEq, Prod.mk.injEq] at he
      obtain ⟨rfl, rfl⟩ := he
      cases hA with
      | cons hx hl =>
        obtain ⟨Y, hr, hv⟩ := run_minmax (P := P) (isMax := true) w hy hx hl
        refine .pure wr fx (y := Y) ?_ (LV.of_VR hv)
        rw [hres (Builtin.max_ c.argTypes o.type (c.args.map a.eval)) (fun _ => rfl), hmap]
        simp only [Builtin.max_]
        simp only [if_true] at hr
        rw [hr]; rfl
    · cases he
  · cases he
end appends
end Go.Ag
