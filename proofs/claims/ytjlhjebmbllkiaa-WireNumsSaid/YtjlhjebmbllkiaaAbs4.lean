/-
More operations: what makes memory, addresses, fields, comparisons.
-/
import Derived.Test.YtjlhjebmbllkiaaAbs3
set_option linter.unusedVariables false
set_option linter.unusedSimpArgs false
namespace Go.Abs
open Go.RowKit
section
variable {P : Program} {B : Nat} {w0 : World} {m : Mp} {H H' : AHeap} {w : World}

/-- A new object of cells in a new block. -/
theorem Rel.new {cs cs' tail : List Value} {esz : Nat} {e : TypeId} {fr : Nat × Nat} {w1 : World} (hr : Rel B w0 m H w) (h : LR m cs cs')
    (hw1 : Grows w w1 (.cells (cs' ++ tail).toArray e fr)) (hfr : fr = (0, 0) ∨ fr.1 = cs'.length + tail.length) :
    ∃ L, L.blk = w.heap.size ∧ L.shift = 0 ∧ L.lim = cs'.length + tail.length ∧ L.esz = esz ∧ Rel B w0 (m.add H.next L) (H.push (.cells cs true esz)) w1 := by
  refine ⟨⟨w.heap.size, 0, cs'.length + tail.length, esz⟩, rfl, rfl, rfl, rfl, hr.push _ _ _ rfl hw1 ?_⟩
  refine ⟨rfl, (cs' ++ tail).toArray, e, fr, hw1.new, ?_, ?_, ?_, ?_⟩
  · have := h.1; simp; omega
  · simp
  · intro j v hj
    obtain ⟨v', hv', hvr⟩ := (h.mono (Mp.le_add (L := ⟨w.heap.size, 0, cs'.length + tail.length, esz⟩) (hr.fresh _ (Nat.le_refl _)))).get hj
    refine ⟨v', ?_, hvr⟩
    have : j < cs'.length := (List.getElem?_eq_some_iff.1 hv').1
    simp only [Nat.zero_add, List.getElem?_toArray, List.getElem?_append_left this]
    exact hv'
  · intro _
    rcases hfr with rfl | hfr
    · exact .inl rfl
    · right; simp; omega

theorem LR.refl_sg {l : List Value} (h : l.all sg = true) : LR m l l := ⟨rfl, fun i => sg_undef_getD h i⟩
theorem ground_cells {z : Value} (h : ground z = true) : z.cells.toList.all sg = true := by
  cases z <;> first | exact h | simpa [Value.cells, ground] using h

theorem zeroOf_spec {t : TypeId} {z : Value} (h : zeroOf P t = some z) : ∃ i, P.info? t = some i ∧ i.zero = some z := by
  unfold zeroOf at h
  cases hi : P.info? t with
  | none => simp [hi] at h
  | some i => exact ⟨i, rfl, by simpa [hi] using h⟩
theorem run_zeroOf {t : TypeId} {z : Value} (h : zeroOf P t = some z) (w : World) : (zeroValue t).run P w = .ok z w := by
  obtain ⟨i, hi, hz⟩ := zeroOf_spec h
  simp [zeroValue, typeInfo, hi, hz]
theorem run_szOf {t : TypeId} {n : Nat} (h : szOf P t = some n) (w : World) : (sizeOf t).run P w = .ok n w := by
  unfold szOf at h
  cases hi : P.info? t with
  | none => simp [hi] at h
  | some i => simp [sizeOf, typeInfo, hi]; simpa [hi] using h

theorem sim_alloc {e : TypeId} {v : Value} (hr : Rel B w0 m H w) (h : aAlloc P e H = some (v, H')) : Sim P B w0 m H' w (Instr.alloc e true (.tuple #[])) v := by
  unfold aAlloc at h
  split at h
  · rename_i z hz
    split at h
    · rename_i hg
      cases h
      obtain ⟨L, l1, l2, l3, l4, hrel⟩ := hr.new (esz := 0) (tail := []) (LR.refl_sg (ground_cells hg)) (Grows.push w (.cells _ e (0, 0)) w.drawn) (.inl rfl)
      refine ⟨.pointer (some ⟨w.heap.size, 0, none⟩), _, m.add H.next L, ?_, ?_, Mp.le_add (hr.fresh _ (Nat.le_refl _)), hrel⟩
      · simp [Instr.alloc, run_zeroOf hz, newVar, newRow]
      · have := VR.ptr (o := 0) (Mp.add_same m H.next L)
        rw [l1, l2] at this
        exact this
    · cases h
  · cases h

theorem sim_box {x x' v : Value} (e : TypeId) (hr : Rel B w0 m H w) (h : aBox x H = some (v, H')) (hx : VR m x x') : Sim P B w0 m H' w (Instr.box e x') v := by
  unfold aBox at h
  cases h
  obtain ⟨L, l1, l2, l3, l4, hrel⟩ := hr.new (esz := 0) (tail := []) hx.cells.toList (Grows.push w (.cells _ e (0, 0)) w.drawn) (.inl rfl)
  refine ⟨.pointer (some ⟨w.heap.size, 0, none⟩), _, m.add H.next L, ?_, ?_, Mp.le_add (hr.fresh _ (Nat.le_refl _)), hrel⟩
  · simp [Instr.box, newVar, newRow]
  · have := VR.ptr (o := 0) (Mp.add_same m H.next L)
    rw [l1, l2] at this
    exact this

/-! ### Aggregates -/
theorem AR.set {x x' : Array Value} (h : AR m x x') (i : Nat) {v v' : Value} (hv : VR m v v') : AR m (x.setIfInBounds i v) (x'.setIfInBounds i v') := by
  rw [AR.iff] at h ⊢
  simp only [Array.toList_setIfInBounds]
  exact h.set i hv
theorem fold_rel (off : Nat) : ∀ (l l' : List Value) (k : Nat) (cs cs' : Array Value), LR m l l' → AR m cs cs' →
    AR m ((l.zipIdx k).foldl (fun cs (c, j) => cs.setIfInBounds (off + j) c) cs) ((l'.zipIdx k).foldl (fun cs (c, j) => cs.setIfInBounds (off + j) c) cs') := by
  intro l
  induction l with
  | nil => intro l' k cs cs' h hc; have := h.1; cases l' with
    | nil => exact hc
    | cons => simp at this
  | cons v l ih =>
    intro l' k cs cs' h hc
    cases l' with
    | nil => have := h.1; simp at this
    | cons v' l' =>
      simp only [List.zipIdx_cons, List.foldl_cons]
      exact ih l' (k + 1) _ _ h.tail (hc.set _ h.head)

def PR (m : Mp) (ps ps' : List (Nat × Value)) : Prop := ps.map (·.1) = ps'.map (·.1) ∧ LR m (ps.map (·.2)) (ps'.map (·.2))

theorem fill_rel (place : Nat → Option (Nat × Nat)) : ∀ (ps ps' : List (Nat × Value)) (cs cs' : Array Value) (r : Array Value), PR m ps ps' → AR m cs cs' → Instr.fill place cs ps = some r →
    ∃ r', Instr.fill place cs' ps' = some r' ∧ AR m r r' := by
  intro ps
  induction ps with
  | nil =>
    intro ps' cs cs' r h hc hf
    cases ps' with
    | nil => simp only [Instr.fill, Option.some.injEq] at hf; subst hf; exact ⟨cs', rfl, hc⟩
    | cons p l => have := h.1; simp at this
  | cons p ps ih =>
    intro ps' cs cs' r h hc hf
    cases ps' with
    | nil => have := h.1; simp at this
    | cons p' ps' =>
      obtain ⟨i, v⟩ := p
      obtain ⟨i', v'⟩ := p'
      have hi : i = i' := by have := h.1; simp at this; exact this.1
      subst hi
      have hv : VR m v v' := h.2.head
      have htl : PR m ps ps' := ⟨by have := h.1; simp at this; exact this, h.2.tail⟩
      simp only [Instr.fill] at hf ⊢
      cases hp : place i with
      | none => simp [hp] at hf
      | some q =>
        obtain ⟨off, size⟩ := q
        simp only [hp] at hf ⊢
        have hcs : v'.cells.size = v.cells.size := hv.cells.1.symm
        rw [hcs, show cs'.size = cs.size from hc.1.symm]
        split at hf
        · cases hf
        · rename_i hcond
          rw [if_neg hcond]
          refine ih ps' _ _ r htl ?_ hf
          have := fold_rel off v.cells.toList v'.cells.toList 0 cs cs' hv.cells.toList hc
          rw [← Array.foldl_toList, ← Array.foldl_toList]
          simpa using this

theorem splice_cons {cs : List Value} {o : Nat} {v : Value} {xs : List Value} (h : o + (xs.length + 1) ≤ cs.length) : splice (cs.set o v) (o + 1) xs = splice cs o (v :: xs) := by
  apply List.ext_getElem?
  intro k
  rw [splice_get (by simp; omega), splice_get (by simpa using h)]
  simp only [List.getElem?_set, List.length_cons]
  by_cases h1 : o + 1 ≤ k ∧ k < o + 1 + xs.length
  · rw [if_pos h1, if_pos (by omega)]
    obtain ⟨j, hj⟩ : ∃ j, k - o = j + 1 := ⟨k - o - 1, by omega⟩
    rw [hj, List.getElem?_cons_succ]
    congr 1; omega
  · rw [if_neg h1]
    by_cases h2 : o = k
    · subst h2
      rw [if_pos rfl, if_pos (by omega), if_pos (by omega)]
      simp
    · rw [if_neg h2, if_neg (by omega)]
theorem fold_splice (off : Nat) : ∀ (l : List Value) (k : Nat) (cs : Array Value), off + k + l.length ≤ cs.size →
    ((l.zipIdx k).foldl (fun cs (c, j) => cs.setIfInBounds (off + j) c) cs).toList = splice cs.toList (off + k) l := by
  intro l
  induction l with
  | nil => intro k cs h; simp [splice]
  | cons v l ih =>
    intro k cs h
    simp only [List.zipIdx_cons, List.foldl_cons, List.length_cons] at h ⊢
    rw [ih (k + 1) _ (by simp; omega), Array.toList_setIfInBounds, show off + (k + 1) = off + k + 1 by omega]
    exact splice_cons (by simp; omega)
theorem fillL_fill (place : Nat → Option (Nat × Nat)) : ∀ (ps : List (Nat × Value)) (cs : Array Value) (l : List Value), fillL place cs.toList ps = some l → Instr.fill place cs ps = some l.toArray := by
  intro ps
  induction ps with
  | nil => intro cs l h; simp only [fillL, Option.some.injEq] at h; subst h; simp [Instr.fill]
  | cons p ps ih =>
    intro cs l h
    obtain ⟨i, v⟩ := p
    simp only [fillL] at h
    simp only [Instr.fill]
    split at h
    · cases h
    · rename_i off size hp
      split at h
      · rename_i hc
        simp only [hp]
        have h1 : v.cells.size = size := by simpa using hc.1
        have h2 : off + size ≤ cs.size := by simpa using hc.2
        rw [if_neg (by simp; omega)]
        apply ih
        rw [← h]
        congr 1
        rw [← Array.foldl_toList]
        have := fold_splice off v.cells.toList 0 cs (by simp; omega)
        simpa using this
      · cases h

theorem run_places {fs : List Field} {pl : List (Nat × Nat)} (h : placesOf P fs = some pl) (w : World) :
    (fs.mapM fun f => do pure (f.offset, ← sizeOf f.type) : Sem (List (Nat × Nat))).run P w = .ok pl w := by
  induction fs generalizing pl with
  | nil => simp only [placesOf, Option.some.injEq] at h; subst h; rfl
  | cons f fs ih =>
    simp only [placesOf] at h
    split at h
    · rename_i n l hn hl
      cases h
      simp only [List.mapM_cons, Sem.run_bind, run_szOf hn, Result.andThen_ok, Sem.run_pure, ih hl]
    · cases h

theorem sim_build {t : TypeId} {ps : List (Nat × Value)} {ps' : Array (Nat × Value)} {v : Value} (hr : Rel B w0 m H w) (h : aBuild P t ps H = some (v, H')) (hp : PR m ps ps'.toList) :
    Sim P B w0 m H' w (Instr.build t ps') v := by
  unfold aBuild at h
  split at h
  · rename_i z hz
    split at h
    · rename_i hg
      have har : AR m z.cells z.cells := AR.iff.2 (LR.refl_sg (ground_cells hg))
      split at h
      · rename_i fields hu
        split at h
        · rename_i pl hpl
          split at h
          · rename_i l hl
            cases h
            obtain ⟨r', hr', har'⟩ := fill_rel _ _ _ _ _ _ hp har (fillL_fill _ _ _ _ hl)
            refine Sim.same hr (v' := .agg r') ?_ (.agg har'.1 har'.2)
            have hm : (fields.mapM fun f => do pure (f.offset, ← sizeOf f.type) : Sem (Array (Nat × Nat))).run P w = .ok pl.toArray w := by
              rw [← Array.toArray_toList (xs := fields)]
              rw [List.mapM_toArray, Sem.run_map, run_places hpl]
              rfl
            have hpl2 : (fun x : Nat => pl.toArray[x]?) = (fun x => pl[x]?) := by funext x; simp
            simp only [Instr.build, Sem.run_bind, run_zeroOf hz, Result.andThen_ok, run_underlying hu, hm, hpl2, hr', Sem.run_pure]
          · cases h
        · cases h
      · rename_i n e hu
        split at h
        · rename_i size hsz
          split at h
          · rename_i l hl
            cases h
            obtain ⟨r', hr', har'⟩ := fill_rel _ _ _ _ _ _ hp har (fillL_fill _ _ _ _ hl)
            refine Sim.same hr (v' := .agg r') ?_ (.agg har'.1 har'.2)
            simp only [Instr.build, Sem.run_bind, run_zeroOf hz, Result.andThen_ok, run_underlying hu, run_szOf hsz, hr', Sem.run_pure]
          · cases h
        · cases h
      · cases h
    · cases h
  · cases h

end
end Go.Abs
