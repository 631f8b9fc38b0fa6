/-
Where in a list of numbers: slices.Index, Contains, IndexFunc, ContainsFunc.
-/
import Derived.Test.YtooljmmlekmkeaaF23
import Derived.Test.YtooljmmlekmkeaaF20
import Derived.Test.YtooljmmlekmkeaaF24
import Derived.Test.YtooljmmlekmkeaaF21
import Derived.Test.YtooljmmlekmkeaaVBase
set_option linter.unusedVariables false
set_option linter.unusedSimpArgs false
namespace Go.Proofs.Ytooljmmlekmkeaa
open Go.Abs

/-- The place of the first one that is so, or -1. -/
def idxFrom {α : Type} (p : α → Bool) : Int → List α → Int
  | _, [] => -1
  | i, x :: r => if p x then i else idxFrom p (i + 1) r
theorem idx_none {α : Type} {p : α → Bool} : ∀ {l : List α} {i : Int}, l.any p = false → idxFrom p i l = -1
  | [], _, _ => rfl
  | x :: r, i, h => by
    rw [List.any_cons, Bool.or_eq_false_iff] at h
    rw [idxFrom, h.1]
    exact idx_none h.2
theorem idx_some {α : Type} {p : α → Bool} : ∀ {l : List α} {i : Int}, l.any p = true → i ≤ idxFrom p i l
  | [], _, h => by cases h
  | x :: r, i, h => by
    rw [idxFrom]
    split
    · omega
    · rename_i hx
      rw [List.any_cons, Bool.or_eq_true] at h
      have := idx_some (i := i + 1) (h.resolve_left hx)
      omega
theorem idx_any {α : Type} {p : α → Bool} {l : List α} : decide (0 ≤ idxFrom p 0 l) = l.any p := by
  cases h : l.any p with
  | false => rw [idx_none h]; decide
  | true => rw [decide_eq_true_eq]; exact idx_some h

section
variable {k : Nat} {l : List Int}
theorem slices_Index.round (hv : Okl k l) (hk : k ≠ 2) (hlen : l.length ≤ 17592186044416) {v : Int} {S : AHeap} : ∀ (suf pre : List Int) {T : List Value} {r : St}, loopV (vcodeV Try.prog O false slices_Index.loop1) T S = r → T.length = 19 →
    T.getD 0 undef = iz k l → T.getD 1 undef = .int .i64 v → T.getD 7 undef = .int .i64 l.length → T.getD 8 undef = .int .i64 pre.length → l = pre ++ suf →
    ∃ e T', r = some (e, T', S) ∧ if suf.any (fun x => decide (v = x)) then e = .ret ∧ T'.getD 4 undef = .int .i64 (idxFrom (fun x => decide (v = x)) pre.length suf) else e = .exit 0 ∧ T'.length = 19 := by
  intro suf
  induction suf with
  | nil =>
    intro pre T r hL hT h0 h1 h7 h8 hl
    have hTe := slices_Index.eta hT
    rw [h0, h1, h7, h8] at hTe
    have hr : vcodeV Try.prog O false slices_Index.loop1 T S = vcodeV Try.prog O false slices_Index.loop1 T S := rfl
    have hd : ¬ (pre.length : Int) < (l.length : Int) := by rw [hl]; simp
    conv at hr =>
      rhs
      rw [hTe]
      simp only [slices_Index.loop1, slices_Index.code, slices_Index.rs, wk, List.getD_cons_succ, List.getD_cons_zero, if_true, if_false, List.getElem?_cons_succ, List.getElem?_cons_zero, Option.map_some, eq_self, reduceIte, Nat.reduceEqDiff, Int.reduceEq, Int.reduceLT, Int.reduceLE, hd]
    exact ⟨_, _, hL.symm.trans (loopV_exit hr (by simp)), rfl, rfl⟩
  | cons x suf ih =>
    intro pre T r hL hT h0 h1 h7 h8 hl
    have hTe := slices_Index.eta hT
    rw [h0, h1, h7, h8] at hTe
    have hr : vcodeV Try.prog O false slices_Index.loop1 T S = vcodeV Try.prog O false slices_Index.loop1 T S := rfl
    have hd : (pre.length : Int) < (l.length : Int) := by rw [hl]; simp; omega
    have e1 : ∀ S, vIndexAddr Try.prog 22 (iz k l) (.int .i64 pre.length) S = some (EP [.int .i64 x], S) := fun S => by
      rw [iz_at hv (by omega) hd]; rw [iz_at_pre hl]
    have wi : IntKind.i64.wrap ((pre.length : Int) + 1) = ((pre ++ [x]).length : Int) := by rw [wrap_i64 (by omega) (by omega)]; simp
    rw [List.any_cons, idxFrom]
    by_cases hx : v = x
    · have hx2 := decide_eq_true hx
      conv at hr =>
        rhs
        rw [hTe]
        simp only [slices_Index.loop1, slices_Index.code, slices_Index.rs, wk, List.getD_cons_succ, List.getD_cons_zero, if_true, if_false, List.getElem?_cons_succ, List.getElem?_cons_zero, Option.map_some, eq_self, reduceIte, Nat.reduceEqDiff, Int.reduceEq, Int.reduceLT, Int.reduceLE, if_neg hk, hd, e1, iz_load, hx2]
      refine ⟨_, _, hL.symm.trans (loopV_exit hr (by simp)), ?_⟩
      rw [hx2, Bool.true_or]
      exact ⟨rfl, rfl⟩
    · have hx2 := decide_eq_false hx
      conv at hr =>
        rhs
        rw [hTe]
        simp only [slices_Index.loop1, slices_Index.code, slices_Index.rs, wk, List.getD_cons_succ, List.getD_cons_zero, if_true, if_false, List.getElem?_cons_succ, List.getElem?_cons_zero, Option.map_some, eq_self, reduceIte, Nat.reduceEqDiff, Int.reduceEq, Int.reduceLT, Int.reduceLE, if_neg hk, hd, e1, iz_load, hx2, wi]
      obtain ⟨e, T', g1, g2⟩ := ih (pre ++ [x]) ((loopV_step hr).symm.trans hL) rfl rfl rfl rfl rfl (by simp [hl])
      refine ⟨e, T', g1, ?_⟩
      rw [hx2, Bool.false_or]
      rw [show (((pre ++ [x]).length : Nat) : Int) = (pre.length : Int) + 1 by simp] at g2
      exact g2
theorem slices_Index.v (hv : Okl k l) (hk : k ≠ 2) (hlen : l.length ≤ 17592186044416) {v : Int} (S : AHeap) : vlim Try.prog O slices_Index.id [iz k l, .int .i64 v] S = some (.int .i64 (idxFrom (fun x => decide (v = x)) 0 l), S) := by
  obtain ⟨T, hTe⟩ : ∃ T, T = (iz k l :: .int .i64 v :: undef :: undef :: undef :: undef :: undef :: undef :: undef :: undef :: undef :: undef :: undef :: undef :: undef :: undef :: undef :: undef :: undef :: []) := ⟨_, rfl⟩
  have hr : vcodeV Try.prog O false slices_Index.code T S = vcodeV Try.prog O false slices_Index.code T S := rfl
  conv at hr =>
    rhs
    rw [hTe]
    simp only [slices_Index.code, slices_Index.rs, wk, List.getD_cons_succ, List.getD_cons_zero, if_true, if_false, List.getElem?_cons_succ, List.getElem?_cons_zero, Option.map_some, eq_self, reduceIte, Nat.reduceEqDiff, Int.reduceEq, Int.reduceLT, Int.reduceLE, if_neg hk, iz_len hv, goInt]
  generalize hL : loopV (vcodeV Try.prog O false slices_Index.loop1) _ _ = r at hr
  obtain ⟨e, T', rfl, g⟩ := slices_Index.round hv hk hlen l [] hL rfl rfl rfl rfl rfl rfl
  cases h : l.any (fun x => decide (v = x)) with
  | true =>
    rw [h] at g
    obtain ⟨rfl, g2⟩ := g
    conv at hr =>
      rhs
      simp only [wk, List.getD_cons_succ, List.getD_cons_zero, if_true, if_false, List.getElem?_cons_succ, List.getElem?_cons_zero, Option.map_some, eq_self, reduceIte, Nat.reduceEqDiff, Int.reduceEq, Int.reduceLT, Int.reduceLE]
    rw [hTe] at hr
    have hrun := slices_Index.runs hr (.inr rfl)
    rw [g2] at hrun
    exact hrun
  | false =>
    rw [h] at g
    obtain ⟨rfl, g2⟩ := g
    have hTe' := slices_Index.eta g2
    conv at hr =>
      rhs
      rw [hTe']
      simp only [slices_Index.code, slices_Index.rs, wk, List.getD_cons_succ, List.getD_cons_zero, if_true, if_false, List.getElem?_cons_succ, List.getElem?_cons_zero, Option.map_some, eq_self, reduceIte, Nat.reduceEqDiff, Int.reduceEq, Int.reduceLT, Int.reduceLE]
    rw [hTe] at hr
    rw [idx_none h]
    exact slices_Index.runs hr (.inr rfl)
theorem slices_Contains.v (hv : Okl k l) (hk : k ≠ 2) (hlen : l.length ≤ 17592186044416) {v : Int} (S : AHeap) : vlim Try.prog O slices_Contains.id [iz k l, .int .i64 v] S = some (.bool (l.any fun x => decide (v = x)), S) := by
  obtain ⟨T, hTe⟩ : ∃ T, T = (iz k l :: .int .i64 v :: undef :: undef :: undef :: undef :: undef :: undef :: undef :: []) := ⟨_, rfl⟩
  have hr : vcodeV Try.prog O false slices_Contains.code T S = vcodeV Try.prog O false slices_Contains.code T S := rfl
  have c1 := fun S => slices_Index.v hv hk hlen (v := v) S
  conv at hr =>
    rhs
    rw [hTe]
    simp only [slices_Contains.code, slices_Contains.rs, wk, List.getD_cons_succ, List.getD_cons_zero, if_true, if_false, List.getElem?_cons_succ, List.getElem?_cons_zero, Option.map_some, eq_self, reduceIte, Nat.reduceEqDiff, Int.reduceEq, Int.reduceLT, Int.reduceLE, if_neg hk, c1, idx_any]
  rw [hTe] at hr
  exact slices_Contains.runs hr (.inr rfl)

theorem aDyn_func {g : FuncId} {v : Value} {S : AHeap} : aDyn (vlim Try.prog O) (.func (Fn.func g) #[] #[]) [v] S = vlim Try.prog O g [v] S := rfl
theorem slices_IndexFunc.round (hv : Okl k l) (hk : k ≠ 2) (hlen : l.length ≤ 17592186044416) {p : Int → Bool} {g : FuncId} (hp : ∀ x ∈ l, ∀ S, vlim Try.prog O g [.int .i64 x] S = some (.bool (p x), S)) {S : AHeap} : ∀ (suf pre : List Int) {T : List Value} {r : St}, loopV (vcodeV Try.prog O false slices_IndexFunc.loop1) T S = r → T.length = 19 →
    T.getD 0 undef = iz k l → T.getD 1 undef = .func (Fn.func g) #[] #[] → T.getD 7 undef = .int .i64 l.length → T.getD 8 undef = .int .i64 pre.length → l = pre ++ suf →
    ∃ e T', r = some (e, T', S) ∧ if suf.any p then e = .ret ∧ T'.getD 4 undef = .int .i64 (idxFrom p pre.length suf) else e = .exit 0 ∧ T'.length = 19 := by
  intro suf
  induction suf with
  | nil =>
    intro pre T r hL hT h0 h1 h7 h8 hl
    have hTe := slices_IndexFunc.eta hT
    rw [h0, h1, h7, h8] at hTe
    have hr : vcodeV Try.prog O false slices_IndexFunc.loop1 T S = vcodeV Try.prog O false slices_IndexFunc.loop1 T S := rfl
    have hd : ¬ (pre.length : Int) < (l.length : Int) := by rw [hl]; simp
    conv at hr =>
      rhs
      rw [hTe]
      simp only [slices_IndexFunc.loop1, slices_IndexFunc.code, slices_IndexFunc.rs, wk, List.getD_cons_succ, List.getD_cons_zero, if_true, if_false, List.getElem?_cons_succ, List.getElem?_cons_zero, Option.map_some, eq_self, reduceIte, Nat.reduceEqDiff, Int.reduceEq, Int.reduceLT, Int.reduceLE, hd]
    exact ⟨_, _, hL.symm.trans (loopV_exit hr (by simp)), rfl, rfl⟩
  | cons x suf ih =>
    intro pre T r hL hT h0 h1 h7 h8 hl
    have hTe := slices_IndexFunc.eta hT
    rw [h0, h1, h7, h8] at hTe
    have hr : vcodeV Try.prog O false slices_IndexFunc.loop1 T S = vcodeV Try.prog O false slices_IndexFunc.loop1 T S := rfl
    have hd : (pre.length : Int) < (l.length : Int) := by rw [hl]; simp; omega
    have e1 : ∀ S, vIndexAddr Try.prog 22 (iz k l) (.int .i64 pre.length) S = some (EP [.int .i64 x], S) := fun S => by
      rw [iz_at hv (by omega) hd]; rw [iz_at_pre hl]
    have wi : IntKind.i64.wrap ((pre.length : Int) + 1) = ((pre ++ [x]).length : Int) := by rw [wrap_i64 (by omega) (by omega)]; simp
    have p1 := hp x (by rw [hl]; simp)
    rw [List.any_cons, idxFrom]
    cases hx : p x with
    | true =>
      rw [hx] at p1
      conv at hr =>
        rhs
        rw [hTe]
        simp only [slices_IndexFunc.loop1, slices_IndexFunc.code, slices_IndexFunc.rs, wk, List.getD_cons_succ, List.getD_cons_zero, if_true, if_false, List.getElem?_cons_succ, List.getElem?_cons_zero, Option.map_some, eq_self, reduceIte, Nat.reduceEqDiff, Int.reduceEq, Int.reduceLT, Int.reduceLE, dem_func, aDyn_func, if_neg hk, hd, e1, iz_load, p1]
      refine ⟨_, _, hL.symm.trans (loopV_exit hr (by simp)), ?_⟩
      rw [Bool.true_or]
      exact ⟨rfl, rfl⟩
    | false =>
      rw [hx] at p1
      conv at hr =>
        rhs
        rw [hTe]
        simp only [slices_IndexFunc.loop1, slices_IndexFunc.code, slices_IndexFunc.rs, wk, List.getD_cons_succ, List.getD_cons_zero, if_true, if_false, List.getElem?_cons_succ, List.getElem?_cons_zero, Option.map_some, eq_self, reduceIte, Nat.reduceEqDiff, Int.reduceEq, Int.reduceLT, Int.reduceLE, dem_func, aDyn_func, if_neg hk, hd, e1, iz_load, p1, wi]
      obtain ⟨e, T', g1, g2⟩ := ih (pre ++ [x]) ((loopV_step hr).symm.trans hL) rfl rfl rfl rfl rfl (by simp [hl])
      refine ⟨e, T', g1, ?_⟩
      rw [Bool.false_or]
      rw [show (((pre ++ [x]).length : Nat) : Int) = (pre.length : Int) + 1 by simp] at g2
      exact g2
theorem slices_IndexFunc.v (hv : Okl k l) (hk : k ≠ 2) (hlen : l.length ≤ 17592186044416) {p : Int → Bool} {g : FuncId} (hp : ∀ x ∈ l, ∀ S, vlim Try.prog O g [.int .i64 x] S = some (.bool (p x), S)) (S : AHeap) :
    vlim Try.prog O slices_IndexFunc.id [iz k l, .func (Fn.func g) #[] #[]] S = some (.int .i64 (idxFrom p 0 l), S) := by
  obtain ⟨T, hTe⟩ : ∃ T, T = (iz k l :: .func (Fn.func g) #[] #[] :: undef :: undef :: undef :: undef :: undef :: undef :: undef :: undef :: undef :: undef :: undef :: undef :: undef :: undef :: undef :: undef :: undef :: []) := ⟨_, rfl⟩
  have hr : vcodeV Try.prog O false slices_IndexFunc.code T S = vcodeV Try.prog O false slices_IndexFunc.code T S := rfl
  conv at hr =>
    rhs
    rw [hTe]
    simp only [slices_IndexFunc.code, slices_IndexFunc.rs, wk, List.getD_cons_succ, List.getD_cons_zero, if_true, if_false, List.getElem?_cons_succ, List.getElem?_cons_zero, Option.map_some, eq_self, reduceIte, Nat.reduceEqDiff, Int.reduceEq, Int.reduceLT, Int.reduceLE, if_neg hk, iz_len hv, goInt]
  generalize hL : loopV (vcodeV Try.prog O false slices_IndexFunc.loop1) _ _ = r at hr
  obtain ⟨e, T', rfl, g⟩ := slices_IndexFunc.round hv hk hlen hp l [] hL rfl rfl rfl rfl rfl rfl
  cases h : l.any p with
  | true =>
    rw [h] at g
    obtain ⟨rfl, g2⟩ := g
    conv at hr =>
      rhs
      simp only [wk, List.getD_cons_succ, List.getD_cons_zero, if_true, if_false, List.getElem?_cons_succ, List.getElem?_cons_zero, Option.map_some, eq_self, reduceIte, Nat.reduceEqDiff, Int.reduceEq, Int.reduceLT, Int.reduceLE]
    rw [hTe] at hr
    have hrun := slices_IndexFunc.runs hr (.inr rfl)
    rw [g2] at hrun
    exact hrun
  | false =>
    rw [h] at g
    obtain ⟨rfl, g2⟩ := g
    have hTe' := slices_IndexFunc.eta g2
    conv at hr =>
      rhs
      rw [hTe']
      simp only [slices_IndexFunc.code, slices_IndexFunc.rs, wk, List.getD_cons_succ, List.getD_cons_zero, if_true, if_false, List.getElem?_cons_succ, List.getElem?_cons_zero, Option.map_some, eq_self, reduceIte, Nat.reduceEqDiff, Int.reduceEq, Int.reduceLT, Int.reduceLE]
    rw [hTe] at hr
    rw [idx_none h]
    exact slices_IndexFunc.runs hr (.inr rfl)
theorem slices_ContainsFunc.v (hv : Okl k l) (hk : k ≠ 2) (hlen : l.length ≤ 17592186044416) {p : Int → Bool} {g : FuncId} (hp : ∀ x ∈ l, ∀ S, vlim Try.prog O g [.int .i64 x] S = some (.bool (p x), S)) (S : AHeap) :
    vlim Try.prog O slices_ContainsFunc.id [iz k l, .func (Fn.func g) #[] #[]] S = some (.bool (l.any p), S) := by
  obtain ⟨T, hTe⟩ : ∃ T, T = (iz k l :: .func (Fn.func g) #[] #[] :: undef :: undef :: undef :: undef :: undef :: undef :: undef :: []) := ⟨_, rfl⟩
  have hr : vcodeV Try.prog O false slices_ContainsFunc.code T S = vcodeV Try.prog O false slices_ContainsFunc.code T S := rfl
  have c1 := fun S => slices_IndexFunc.v hv hk hlen hp S
  conv at hr =>
    rhs
    rw [hTe]
    simp only [slices_ContainsFunc.code, slices_ContainsFunc.rs, wk, List.getD_cons_succ, List.getD_cons_zero, if_true, if_false, List.getElem?_cons_succ, List.getElem?_cons_zero, Option.map_some, eq_self, reduceIte, Nat.reduceEqDiff, Int.reduceEq, Int.reduceLT, Int.reduceLE, dem_func, if_neg hk, c1, idx_any]
  rw [hTe] at hr
  exact slices_ContainsFunc.runs hr (.inr rfl)
end
end Go.Proofs.Ytooljmmlekmkeaa
