/-
Regions that draw their order, out of the text's order: which operations are to be asked again, and where.
-/
import Derived.Test.YtjlhjebmbllkiaaAbs21
set_option linter.unusedVariables false
set_option linter.unusedSimpArgs false
namespace Go.Abs
open Go.RowKit

abbrev TraceRow := List Value × AHeap × Value
/-- The pairs without an order: the first only reads, the second may change the heap. -/
def need (P : Program) (ops : Array Oper) : List (Nat × Nat) :=
  (List.range ops.toList.length).flatMap fun i => (List.range ops.toList.length).filterMap fun j => match ops.toList[i]?, ops.toList[j]? with
    | some oi, some oj => if !isCh P oi && isCh P oj && !(pre (masks ops.toList []) i j || pre (masks ops.toList []) j i) then some (i, j) else none
    | _, _ => none
def recheckAt (P : Program) (ops : Array Oper) (tr : List TraceRow) (Hs : List AHeap) (i j : Nat) : Bool :=
  match ops.toList[i]?, tr[i]?, Hs[if j < i then j else j + 1]? with
  | some o, some (T, _, v), some G => !Region.wanted o (ynd ops T) || recheck P T o v G
  | _, _, _ => false

section
variable {P : Program} {call : FuncId → List Value → M Value} {ops : Array Oper}

theorem aTrace_length : ∀ (l : List Oper) (T : List Value) (H : AHeap) (tr : List TraceRow) (T' : List Value) (H' : AHeap), aTrace P call ops l T H = some (tr, T', H') → tr.length = l.length := by
  intro l
  induction l with
  | nil => intro T H tr T' H' h; simp only [aTrace, Option.some.injEq, Prod.mk.injEq] at h; rw [← h.1]; rfl
  | cons o l ih =>
    intro T H tr T' H' h
    simp only [aTrace] at h
    split at h
    · split at h
      · split at h
        · rename_i ht
          simp only [Option.some.injEq, Prod.mk.injEq] at h
          rw [← h.1, List.length_cons, List.length_cons, ih _ _ _ _ _ ht]
        · cases h
      · cases h
    · split at h
      · rename_i ht
        simp only [Option.some.injEq, Prod.mk.injEq] at h
        rw [← h.1, List.length_cons, List.length_cons, ih _ _ _ _ _ ht]
      · cases h

theorem drawn_of {T T' : List Value} {H H' : AHeap} {tr : List TraceRow} (hd : drawOk P ops = true) (ht : aTrace P call ops ops.toList T H = some (tr, T', H'))
    (hn : ∀ p ∈ need P ops, recheckAt P ops tr (tr.map (·.2.1) ++ [H']) p.1 p.2 = true) : aDrawn P call ops T H = some (T', H') := by
  unfold aDrawn
  rw [if_pos hd, ht]
  dsimp only
  rw [if_pos]
  rw [List.all_eq_true]
  intro i hi
  have hi' : i < ops.toList.length := List.mem_range.1 hi
  have hlen := aTrace_length _ _ _ _ _ _ ht
  have ho : ops.toList[i]? = some ops.toList[i] := List.getElem?_eq_getElem hi'
  have htr : tr[i]? = some tr[i] := List.getElem?_eq_getElem (by omega)
  unfold chkOne
  rw [ho, htr]
  dsimp only
  split
  · rfl
  · rename_i hc
    rw [List.all_eq_true]
    intro j hj
    have hj' : j < ops.toList.length := List.mem_range.1 hj
    have hoj : ops.toList[j]? = some ops.toList[j] := List.getElem?_eq_getElem hj'
    rw [hoj]
    dsimp only
    split
    · rename_i hcond
      simp only [Bool.or_eq_true, Bool.not_eq_true', not_or, Bool.not_eq_true, Bool.not_eq_false] at hc
      have hmem : (i, j) ∈ need P ops := by
        unfold need
        rw [List.mem_flatMap]
        refine ⟨i, hi, List.mem_filterMap.2 ⟨j, hj, ?_⟩⟩
        rw [ho, hoj]
        dsimp only
        rw [if_pos]
        simp only [hc.1, Bool.not_false, Bool.true_and]
        exact hcond
      have := hn _ hmem
      unfold recheckAt at this
      rw [ho, htr] at this
      dsimp only at this
      cases hG : (tr.map (·.2.1) ++ [H'])[if j < i then j else j + 1]? with
      | none => rw [hG] at this; cases this
      | some G =>
        rw [hG] at this
        dsimp only at this ⊢
        rw [hc.2] at this
        simpa using this
    · rfl

theorem aTrace_cons {l rest : List Oper} {o : Oper} {T T2 : List Value} {H H1 H2 : AHeap} {v : Value} {tr : List TraceRow} (hl : l = o :: rest) (hs : (if Region.wanted o (ynd ops T) = true then aStep P call T o H else some (undef, H)) = some (v, H1))
    (hk : aTrace P call ops rest (putT T o.dst v) H1 = some (tr, T2, H2)) : aTrace P call ops l T H = some ((T, H, v) :: tr, T2, H2) := by
  subst hl
  simp only [aTrace]
  split at hs
  · rename_i hw
    rw [if_pos hw, hs]
    dsimp only
    rw [hk]
  · rename_i hw
    rw [if_neg hw]
    simp only [Option.some.injEq, Prod.mk.injEq] at hs
    rw [hs.1, hs.2, hk]
theorem aTrace_nil {T : List Value} {H : AHeap} : aTrace P call ops [] T H = some ([], T, H) := rfl

/-- A guarded step. -/
def gst (g : Value) (b : Bool) (s : M Value) (H : AHeap) : Option (Value × AHeap) := if (vb g == some b) = true then s H else some (undef, H)
@[simp] theorem gst_tt (s : M Value) (H : AHeap) : gst (.bool true) true s H = s H := rfl
@[simp] theorem gst_ff (s : M Value) (H : AHeap) : gst (.bool false) false s H = s H := rfl
@[simp] theorem gst_tf (s : M Value) (H : AHeap) : gst (.bool true) false s H = some (undef, H) := rfl
@[simp] theorem gst_ft (s : M Value) (H : AHeap) : gst (.bool false) true s H = some (undef, H) := rfl

theorem recheckAt_of {tr : List TraceRow} {Hs : List AHeap} {i j : Nat} {o : Oper} {T : List Value} {H0 G : AHeap} {v : Value} (ho : ops.toList[i]? = some o) (ht : tr[i]? = some (T, H0, v)) (hG : Hs[if j < i then j else j + 1]? = some G)
    (h : Region.wanted o (ynd ops T) = true → ∃ G', aOp P (evalT T) o G = some (v, G')) (hv : veqN 3 v v = true) : recheckAt P ops tr Hs i j = true := by
  unfold recheckAt
  rw [ho, ht, hG]
  dsimp only
  cases hw : Region.wanted o (ynd ops T) with
  | false => rfl
  | true =>
    obtain ⟨G', hg⟩ := h hw
    unfold recheck
    rw [hg]
    simpa using hv
/-- An operation that does not read the heap. -/
def HFree (s : M Value) : Prop := ∃ o : Option Value, ∀ H, s H = o.map fun v => (v, H)
theorem HFree.at {s : M Value} (hs : HFree s) {H H1 G : AHeap} {v : Value} (h : s H = some (v, H1)) : ∃ G', s G = some (v, G') := by
  obtain ⟨o, ho⟩ := hs
  rw [ho] at h
  cases o with
  | none => cases h
  | some w =>
    simp only [Option.map_some, Option.some.injEq, Prod.mk.injEq] at h
    exact ⟨G, by rw [ho, h.1]; rfl⟩
theorem HFree.atG {s : M Value} (hs : HFree s) {g : Value} {b : Bool} {H H1 G : AHeap} {v : Value} (h : gst g b s H = some (v, H1)) (hw : (vb g == some b) = true) : ∃ G', s G = some (v, G') := by
  unfold gst at h
  rw [if_pos hw] at h
  exact hs.at h
theorem hfree_ret (x : Value) : HFree (ret x) := ⟨some x, fun H => rfl⟩
theorem hfree_ground (args : List Value) (s : Sem Value) : HFree (aGround P args s) := by
  refine ⟨(aGround P args s AHeap.empty).map (·.1), fun H => ?_⟩
  unfold aGround
  split
  · split
    · split <;> rfl
    · rfl
  · rfl
theorem hfree_pick (c a b : Value) : HFree (aPick c a b) := by
  refine ⟨(aPick c a b AHeap.empty).map (·.1), fun H => ?_⟩
  unfold aPick
  split <;> rfl
theorem hfree_un (op : UnOp) (x : Value) : HFree (aUn P op x) := hfree_ground _ _
theorem hfree_bin (op : BinOp) (t : TypeId) (x y : Value) : HFree (aBin P op t x y) := by
  unfold aBin
  split
  · exact hfree_ground _ _
  · rename_i a b
    refine ⟨aStr op a b, fun H => ?_⟩
    dsimp only
    cases aStr op a b <;> rfl
  · cases hn : nilTest P op t x y with
    | some b => exact ⟨some (.bool b), fun H => rfl⟩
    | none => exact hfree_ground _ _
theorem hfree_extract (t : Value) (i : Nat) : HFree (aExtract t i) := by
  refine ⟨(aExtract t i AHeap.empty).map (·.1), fun H => ?_⟩
  unfold aExtract
  split
  · split <;> rfl
  · rfl
theorem hfree_field (t : TypeId) (x : Value) (f : Nat) : HFree (aField P t x f) := by
  refine ⟨(aField P t x f AHeap.empty).map (·.1), fun H => ?_⟩
  unfold aField
  split
  · split
    · split <;> rfl
    · rfl
  · rfl
theorem hfree_fieldAddr (t : TypeId) (x : Value) (f : Nat) : HFree (aFieldAddr P t x f) := by
  refine ⟨(aFieldAddr P t x f AHeap.empty).map (·.1), fun H => ?_⟩
  unfold aFieldAddr
  split
  · split
    · split
      · split <;> rfl
      · rfl
    · rfl
  · rfl
theorem hfree_indexAddr (t : TypeId) (x i : Value) : HFree (aIndexAddr P t x i) := by
  refine ⟨(aIndexAddr P t x i AHeap.empty).map (·.1), fun H => ?_⟩
  unfold aIndexAddr
  split
  · split
    · split <;> rfl
    · rfl
  · split
    · split <;> rfl
    · rfl
  · rfl
theorem veqN_refl : ∀ (v : Value), sg v = true → veqN 3 v v = true := by
  intro v h
  cases v <;> simp_all [veqN, sg]
end
end Go.Abs
