/-
What comes in, of every coded type; the interpreter's run of a law is the law's row.
-/
import Derived.Test.YtjlhjebmbllkiaaAbs15
set_option linter.unusedVariables false
set_option linter.unusedSimpArgs false
namespace Go.Abs
open Go.RowKit
section
variable {P : Program} {B : Nat} {w0 : World} {m : Mp} {H H' : AHeap} {w : World}
variable {X : Type} {enc : TypeId × Value → X}

def OpensAll (P : Program) (w : World) (enc : TypeId × Value → X) (e : TypeId) (c : Ty) : Prop :=
  ∀ (fuel : Nat) (cs : List Value) (d : DataW X) (ps : List MemPlace), DataW.trod enc P w 0 (fun _ => true) true fuel e cs = some (d, ps) → (∀ y ∈ d.weights P e, y ≤ reachBytes) → ∃ x : c.Val, c.Good x ∧ Opens P w c x cs

theorem Opens.length {c : Ty} {x : c.Val} {cs : List Value} (h : Opens P w c x cs) : ∀ (H : AHeap), (c.place x H).1.length = cs.length ∨ True := fun _ => .inr True.intro

theorem open_fields {g : TypeId → Option Ty} {fuel : Nat} (hg : ∀ t c, g t = some c → OpensAll P w enc t c) : ∀ (fs : List Field) (off : Nat) (c : Ty) (cs : List Value) (xs : List (DataW X × List MemPlace)),
    tyFs P g fs off = some c → (fs.mapM fun f => DataW.trod enc P w 0 (fun _ => true) true fuel f.type ((cs.drop f.offset).take (P.cellsOf f.type))) = some xs →
    (∀ y ∈ DataW.weightsEach P (fs.map (·.type)) (xs.map (·.1)), y ≤ reachBytes) → cs.length = off + c.sz → ∃ x : c.Val, c.Good x ∧ Opens P w c x (cs.drop off) := by
  intro fs
  induction fs with
  | nil =>
    intro off c cs xs h hm hw hl
    simp only [tyFs, Option.some.injEq] at h
    subst h
    have : cs.drop off = [] := List.drop_eq_nil_of_le (by simp only [Ty.sz] at hl; omega)
    rw [this]
    exact ⟨(), True.intro, fun B w0 m H _ hr => ⟨m, Mp.le_refl m, hr, LR.nil⟩⟩
  | cons f fs ih =>
    intro off c cs xs h hm hw hl
    simp only [tyFs] at h
    split at h
    · rename_i c1 r hc1 hr
      split at h
      · rename_i hcond
        obtain ⟨hoff, hsz⟩ := hcond
        cases h
        simp only [List.mapM_cons] at hm
        cases h1 : DataW.trod enc P w 0 (fun _ => true) true fuel f.type ((cs.drop f.offset).take (P.cellsOf f.type)) with
        | none => simp [h1] at hm
        | some dp =>
          obtain ⟨d, p⟩ := dp
          cases h2 : (fs.mapM fun f => DataW.trod enc P w 0 (fun _ => true) true fuel f.type ((cs.drop f.offset).take (P.cellsOf f.type))) with
          | none => simp [h1, h2] at hm
          | some xs' =>
            simp [h1, h2] at hm
            subst hm
            simp only [List.map_cons, DataW.weightsEach, List.mem_append] at hw
            simp only [Ty.sz] at hl
            obtain ⟨x, hx1, hx2⟩ := hg _ _ hc1 fuel _ d p h1 (fun y hy => hw y (.inl hy))
            obtain ⟨y, hy1, hy2⟩ := ih (off + P.cellsOf f.type) r cs xs' hr h2 (fun y hy => hw y (.inr hy)) (by omega)
            refine ⟨(x, y), ⟨hx1, hy1⟩, fun B w0 m H hB hr => ?_⟩
            obtain ⟨m1, hm1, hr1, hl1⟩ := hx2 B w0 m H hB hr
            obtain ⟨m2, hm2, hr2, hl2⟩ := hy2 B w0 m1 _ hB hr1
            refine ⟨m2, Mp.le_trans hm1 hm2, hr2, ?_⟩
            have := (hl1.mono hm2).append hl2
            rw [hoff, ← List.drop_drop, List.take_append_drop] at this
            exact this
      · cases h
    · cases h

theorem open_chain {c : Ty} {e : TypeId} {fuel : Nat} (hg : OpensAll P w enc e c) (hsz : P.cellsOf e = c.sz) : ∀ (n k : Nat) (cs : List Value) (ds : List (DataW X)),
    (∀ i, i < n → ∃ d p, ds[i]? = some d ∧ DataW.trod enc P w 0 (fun _ => true) true fuel e ((cs.drop ((k + i) * P.cellsOf e)).take (P.cellsOf e)) = some (d, p)) →
    (∀ d ∈ ds, ∀ y ∈ d.weights P e, y ≤ reachBytes) → cs.length = (k + n) * P.cellsOf e → ∃ x : (chain n c).Val, (chain n c).Good x ∧ Opens P w (chain n c) x (cs.drop (k * P.cellsOf e)) := by
  intro n
  induction n with
  | zero =>
    intro k cs ds h hw hl
    have : cs.drop (k * P.cellsOf e) = [] := List.drop_eq_nil_of_le (by rw [hl]; exact Nat.le_refl _)
    rw [this]
    exact ⟨(), True.intro, fun B w0 m H _ hr => ⟨m, Mp.le_refl m, hr, LR.nil⟩⟩
  | succ n ih =>
    intro k cs ds h hw hl
    obtain ⟨d, p, hd, ht⟩ := h 0 (by omega)
    rw [Nat.add_zero] at ht
    obtain ⟨x, hx1, hx2⟩ := hg fuel _ d p ht (hw d (List.mem_of_getElem? hd))
    obtain ⟨y, hy1, hy2⟩ := ih (k + 1) cs (ds.drop 1) (fun i hi => by
      obtain ⟨d', p', h1, h2⟩ := h (i + 1) (by omega)
      refine ⟨d', p', by rw [List.getElem?_drop, Nat.add_comm 1 i]; exact h1, ?_⟩
      rw [show k + 1 + i = k + (i + 1) by omega]; exact h2) (fun d hd => hw d (List.mem_of_mem_drop hd)) (by rw [hl]; congr 1; omega)
    refine ⟨(x, y), ⟨hx1, hy1⟩, fun B w0 m H hB hr => ?_⟩
    obtain ⟨m1, hm1, hr1, hl1⟩ := hx2 B w0 m H hB hr
    obtain ⟨m2, hm2, hr2, hl2⟩ := hy2 B w0 m1 _ hB hr1
    refine ⟨m2, Mp.le_trans hm1 hm2, hr2, ?_⟩
    have := (hl1.mono hm2).append hl2
    rw [show (k + 1) * P.cellsOf e = k * P.cellsOf e + P.cellsOf e by rw [Nat.add_mul, Nat.one_mul], ← List.drop_drop, List.take_append_drop] at this
    exact this

theorem trod_int {t : TypeId} {k : IntKind} {fuel : Nat} {cs : List Value} {d : DataW X} {ps : List MemPlace} (hu : P.underlying t = some (.int k)) (h : DataW.trod enc P w 0 (fun _ => true) true (fuel + 1) t cs = some (d, ps)) :
    ∃ n, cs = [.int k n] ∧ (Lit.int k n).wf = true := by
  simp only [DataW.trod, hu] at h
  split at h
  all_goals first
    | (cases h; done)
    | (rename_i hh; cases hh; done)
    | skip
  rename_i hh
  cases hh
  split at h
  · rename_i hc; exact ⟨_, by rw [hc.1], hc.2⟩
  · cases h
theorem trod_bool {t : TypeId} {fuel : Nat} {cs : List Value} {d : DataW X} {ps : List MemPlace} (hu : P.underlying t = some .bool) (h : DataW.trod enc P w 0 (fun _ => true) true (fuel + 1) t cs = some (d, ps)) :
    ∃ b, cs = [.bool b] := by
  simp only [DataW.trod, hu] at h
  split at h
  all_goals first
    | (cases h; done)
    | (rename_i hh; cases hh; done)
    | skip
  exact ⟨_, rfl⟩
theorem trod_str {t : TypeId} {fuel : Nat} {cs : List Value} {d : DataW X} {ps : List MemPlace} (hu : P.underlying t = some .string) (h : DataW.trod enc P w 0 (fun _ => true) true (fuel + 1) t cs = some (d, ps)) :
    ∃ s, cs = [.string s] ∧ d = .lit (.string s.data.toList) := by
  simp only [DataW.trod, hu] at h
  split at h
  all_goals first
    | (cases h; done)
    | (rename_i hh; cases hh; done)
    | skip
  split at h
  · cases h; exact ⟨_, rfl, rfl⟩
  · cases h
theorem trod_slice {t e : TypeId} {fuel : Nat} {cs : List Value} {d : DataW X} {ps : List MemPlace} (hu : P.underlying t = some (.slice e)) (h : DataW.trod enc P w 0 (fun _ => true) true (fuel + 1) t cs = some (d, ps)) :
    cs = [.slice none 0 0] ∨ ∃ a len cap, cs = [.slice (some a) len cap] := by
  simp only [DataW.trod, hu] at h
  split at h
  all_goals first
    | (cases h; done)
    | (rename_i hh; cases hh; done)
    | skip
  · exact .inl rfl
  · exact .inr ⟨_, _, _, rfl⟩
theorem trod_struct {t : TypeId} {fs : Array Field} {fuel : Nat} {cs : List Value} {d : DataW X} {ps : List MemPlace} (hu : P.underlying t = some (.struct fs)) (h : DataW.trod enc P w 0 (fun _ => true) true (fuel + 1) t cs = some (d, ps)) :
    cs.length = P.cellsOf t ∧ ∃ xs, (fs.toList.mapM fun f => DataW.trod enc P w 0 (fun _ => true) true fuel f.type ((cs.drop f.offset).take (P.cellsOf f.type))) = some xs ∧ d = .agg (xs.map (·.1)) := by
  simp only [DataW.trod, hu] at h
  split at h
  · rename_i hl
    refine ⟨hl, ?_⟩
    rw [Option.map_eq_some_iff] at h
    obtain ⟨xs, hxs, he⟩ := h
    cases he
    exact ⟨xs, hxs, rfl⟩
  · cases h
theorem trod_array {t e : TypeId} {k : Nat} {fuel : Nat} {cs : List Value} {d : DataW X} {ps : List MemPlace} (hu : P.underlying t = some (.array k e)) (h : DataW.trod enc P w 0 (fun _ => true) true (fuel + 1) t cs = some (d, ps)) :
    cs.length = P.cellsOf t ∧ ∃ xs, ((List.range k).mapM fun i => DataW.trod enc P w 0 (fun _ => true) true fuel e ((cs.drop (i * P.cellsOf e)).take (P.cellsOf e))) = some xs ∧ d = .agg (xs.map (·.1)) := by
  simp only [DataW.trod, hu] at h
  split at h
  · rename_i hl
    refine ⟨hl, ?_⟩
    rw [Option.map_eq_some_iff] at h
    obtain ⟨xs, hxs, he⟩ := h
    cases he
    exact ⟨xs, hxs, rfl⟩
  · cases h
theorem weightsAll_mem {e : TypeId} : ∀ (l : List (DataW X)) (d : DataW X), d ∈ l → ∀ y ∈ d.weights P e, y ∈ DataW.weightsAll P e l := by
  intro l
  induction l with
  | nil => intro d hd; cases hd
  | cons d0 l ihl =>
    intro d hd y hy
    simp only [DataW.weightsAll, List.mem_append]
    rcases List.mem_cons.1 hd with rfl | hd
    · exact .inl hy
    · exact .inr (ihl d hd y hy)

theorem open_ty : ∀ (n : Nat) (t : TypeId) (c : Ty), tyOf P n t = some c → OpensAll P w enc t c := by
  intro n
  induction n with
  | zero => intro t c h; cases h
  | succ n ih =>
    intro t c h fuel cs d ps htr hw
    cases fuel with
    | zero => simp [DataW.trod] at htr
    | succ fuel =>
      simp only [tyOf] at h
      split at h
      · rename_i k hu
        cases h
        obtain ⟨n1, rfl, h1⟩ := trod_int hu htr
        exact ⟨n1, h1, fun B w0 m H _ hr => ⟨m, Mp.le_refl m, hr, LR.cons (.int _ _) LR.nil⟩⟩
      · rename_i hu
        cases h
        obtain ⟨b1, rfl⟩ := trod_bool hu htr
        exact ⟨b1, True.intro, fun B w0 m H _ hr => ⟨m, Mp.le_refl m, hr, LR.cons (.bool _) LR.nil⟩⟩
      · rename_i hu
        cases h
        obtain ⟨s1, rfl, rfl⟩ := trod_str hu htr
        refine ⟨s1, ?_, fun B w0 m H _ hr => ⟨m, Mp.le_refl m, hr, LR.cons (.string _) LR.nil⟩⟩
        have := hw s1.data.toList.length (by simp [DataW.weights])
        rw [Array.length_toList] at this
        exact this
      · rename_i e hu
        split at h
        · rename_i ce hce
          split at h
          · rename_i hcond
            cases h
            rcases trod_slice hu htr with rfl | ⟨a, len, cap, rfl⟩
            · exact ⟨none, True.intro, fun B w0 m H _ hr => ⟨m, Mp.le_refl m, hr, LR.cons .sliceNil LR.nil⟩⟩
            · exact open_slice hu hcond.1 hcond.2 (fun cs d ps h hw => ih e ce hce fuel cs d ps h hw) htr hw
          · cases h
        · cases h
      · rename_i fs hu
        split at h
        · rename_i c1 hc1
          split at h
          · rename_i hsz
            cases h
            obtain ⟨hl, xs, hxs, rfl⟩ := trod_struct hu htr
            have := open_fields (fun t c h => ih t c h) fs.toList 0 c cs xs hc1 hxs (fun y hy => hw y (by simp only [DataW.weights, hu]; exact hy)) (by rw [hl, hsz]; omega)
            simpa using this
          · cases h
        · cases h
      · rename_i k e hu
        split at h
        · rename_i ce hce
          split at h
          · rename_i hcond
            cases h
            obtain ⟨hl, xs, hxs, rfl⟩ := trod_array hu htr
            obtain ⟨hx1, hx2⟩ := mapM_range hxs
            have := open_chain (ih e ce hce) hcond.1 k 0 cs (xs.map (·.1)) (fun i hi => by
              obtain ⟨b, hb, hf⟩ := hx2 i hi
              refine ⟨b.1, b.2, by simp [hb], ?_⟩
              rw [Nat.zero_add]; exact hf) (fun d hd y hy => hw y (by simp only [DataW.weights, hu]; exact weightsAll_mem _ d hd y hy)) (by rw [hl, hcond.2, hcond.1, Nat.zero_add])
            simpa using this
          · cases h
        · cases h
      · cases h

end
end Go.Abs
