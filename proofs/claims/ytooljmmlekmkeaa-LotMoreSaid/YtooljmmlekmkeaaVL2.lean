/-
All winners of a slot, all slots of a node: what lot and the document's answer.
-/
import Derived.Test.YtooljmmlekmkeaaF16
import Derived.Test.YtooljmmlekmkeaaF17
import Derived.Test.YtooljmmlekmkeaaF18
import Derived.Test.YtooljmmlekmkeaaF19
import Derived.Test.YtooljmmlekmkeaaVL1
set_option linter.unusedVariables false
set_option linter.unusedSimpArgs false
namespace Go.Proofs.Ytooljmmlekmkeaa
open Go.Abs

/-- So many numbers from one on. -/
def ints : Int → Nat → List Int
  | _, 0 => []
  | i, m + 1 => i :: ints (i + 1) m
theorem mem_ints : ∀ (m : Nat) (i x : Int), x ∈ ints i m ↔ i ≤ x ∧ x < i + m
  | 0, i, x => by simp [ints]
  | m + 1, i, x => by
    rw [ints, List.mem_cons, mem_ints m]; omega
theorem ints_len : ∀ (m : Nat) (i : Int), (ints i m).length = m
  | 0, _ => rfl
  | m + 1, i => by rw [ints, List.length_cons, ints_len m]
def winners (l : List Int) (slot : Int) : List Int := (ints 0 7).filter fun n => winB l slot n
def slotsOf (l : List Int) (node : Int) : List Int := (ints 1 l.length).filter fun s => winB l s node
theorem okl_nil {α : Type} {k0 : Nat} {l : List α} (h0 : k0 = 0 ∨ k0 = 2) : Okl (if l = [] then k0 else 2) l := ⟨by split <;> omega, fun h => by split at h <;> first | assumption | omega⟩
theorem ne1_nil {α : Type} {k0 : Nat} {l : List α} (h0 : k0 = 0 ∨ k0 = 2) : (if l = [] then k0 else 2) ≠ 1 := by split <;> omega

section
variable {k : Nat} {l : List Int}
theorem lot_Winners.round (hv : Okl k l) (hk : k ≠ 2) (hl : l.length ≤ 200) (hd : ∀ d ∈ l, 0 ≤ d ∧ d ≤ 127) {slot : Int} {S : AHeap} : ∀ (m : Nat) (i : Int) (out : List Int) {T : List Value} {r : St}, loopV (vcodeV Try.prog O false lot_Winners.loop1) T S = r → T.length = 20 →
    T.getD 0 undef = iz k l → T.getD 1 undef = .int .i64 slot → T.getD 7 undef = .int .i64 i → T.getD 5 undef = iz (if out = [] then 0 else 2) out → 0 ≤ i → i + m = 7 → out.length ≤ i →
    ∃ T', r = some (.exit 0, T', S) ∧ T'.length = 20 ∧ T'.getD 5 undef = iz (if out ++ (ints i m).filter (fun n => winB l slot n) = [] then 0 else 2) (out ++ (ints i m).filter fun n => winB l slot n) := by
  intro m
  induction m with
  | zero =>
    intro i out T r hL hT h0 h1 h2 h5 hi him hol
    have hTe := lot_Winners.eta hT
    rw [h0, h1, h2, h5] at hTe
    have hr : vcodeV Try.prog O false lot_Winners.loop1 T S = vcodeV Try.prog O false lot_Winners.loop1 T S := rfl
    have d1 : ¬ i < 7 := by omega
    conv at hr =>
      rhs
      rw [hTe]
      simp only [lot_Winners.loop1, lot_Winners.code, lot_Winners.rs, wk, List.getD_cons_succ, List.getD_cons_zero, if_true, if_false, List.getElem?_cons_succ, List.getElem?_cons_zero, Option.map_some, eq_self, reduceIte, Nat.reduceEqDiff, Int.reduceEq, Int.reduceLT, Int.reduceLE, d1]
    refine ⟨_, hL.symm.trans (loopV_exit hr (by simp)), rfl, ?_⟩
    simp only [ints, List.filter_nil, List.append_nil]
    rfl
  | succ m ih =>
    intro i out T r hL hT h0 h1 h2 h5 hi him hol
    have hTe := lot_Winners.eta hT
    rw [h0, h1, h2, h5] at hTe
    have hr : vcodeV Try.prog O false lot_Winners.loop1 T S = vcodeV Try.prog O false lot_Winners.loop1 T S := rfl
    have d1 : i < 7 := by omega
    have c1 := fun S => lot_Wins.v (slot := slot) (node := i) hv hk hl hd S
    have w1 : IntKind.i64.wrap (i + 1) = i + 1 := wrap_i64 (by omega) (by omega)
    rw [ints, List.filter_cons]
    by_cases hw : winB l slot i = true
    · rw [hw] at c1
      have a1 : ∀ S, vAppend Try.prog 22 22 (iz (if out = [] then 0 else 2) out) (iz 2 [i]) S = some (iz 2 (out ++ [i]), S) := fun S => iz_more (okl_nil (.inl rfl)) (ne1_nil (.inl rfl)) (by omega)
      conv at hr =>
        rhs
        rw [hTe]
        simp only [lot_Winners.loop1, lot_Winners.code, lot_Winners.rs, wk, List.getD_cons_succ, List.getD_cons_zero, if_true, if_false, List.getElem?_cons_succ, List.getElem?_cons_zero, Option.map_some, eq_self, reduceIte, Nat.reduceEqDiff, Int.reduceEq, Int.reduceLT, Int.reduceLE, if_neg hk, d1, c1, bs_L_int_1, iz2_1, a1, w1]
      obtain ⟨T', g1, g2, g3⟩ := ih (i + 1) (out ++ [i]) ((loopV_step hr).symm.trans hL) rfl rfl rfl rfl (by rw [if_neg (show ¬ out ++ [i] = [] by simp)]; rfl) (by omega) (by omega) (by simp; omega)
      refine ⟨T', g1, g2, ?_⟩
      rw [g3, if_pos hw]
      simp only [List.append_assoc, List.singleton_append]
    · rw [Bool.not_eq_true] at hw
      rw [hw] at c1
      conv at hr =>
        rhs
        rw [hTe]
        simp only [lot_Winners.loop1, lot_Winners.code, lot_Winners.rs, wk, List.getD_cons_succ, List.getD_cons_zero, if_true, if_false, List.getElem?_cons_succ, List.getElem?_cons_zero, Option.map_some, eq_self, reduceIte, Nat.reduceEqDiff, Int.reduceEq, Int.reduceLT, Int.reduceLE, if_neg hk, d1, c1, w1]
      obtain ⟨T', g1, g2, g3⟩ := ih (i + 1) out ((loopV_step hr).symm.trans hL) rfl rfl rfl rfl rfl (by omega) (by omega) (by omega)
      refine ⟨T', g1, g2, ?_⟩
      rw [g3, hw]
      rfl
theorem lot_Winners.v (hv : Okl k l) (hk : k ≠ 2) (hl : l.length ≤ 200) (hd : ∀ d ∈ l, 0 ≤ d ∧ d ≤ 127) {slot : Int} (S : AHeap) : vlim Try.prog O lot_Winners.id [iz k l, .int .i64 slot] S = some (iz (if winners l slot = [] then 0 else 2) (winners l slot), S) := by
  obtain ⟨T, hTe⟩ : ∃ T, T = (iz k l :: .int .i64 slot :: undef :: undef :: undef :: undef :: undef :: undef :: undef :: undef :: undef :: undef :: undef :: undef :: undef :: undef :: undef :: undef :: undef :: undef :: []) := ⟨_, rfl⟩
  have hr : vcodeV Try.prog O false lot_Winners.code T S = vcodeV Try.prog O false lot_Winners.code T S := rfl
  conv at hr =>
    rhs
    rw [hTe]
    simp only [lot_Winners.code, lot_Winners.rs, wk, List.getD_cons_succ, List.getD_cons_zero, if_true, if_false, List.getElem?_cons_succ, List.getElem?_cons_zero, Option.map_some, eq_self, reduceIte, Nat.reduceEqDiff, Int.reduceEq, Int.reduceLT, Int.reduceLE, bz0]
  generalize hL : loopV (vcodeV Try.prog O false lot_Winners.loop1) _ _ = r at hr
  obtain ⟨T', rfl, g2, g3⟩ := lot_Winners.round hv hk hl hd 7 0 [] hL rfl rfl rfl rfl rfl (by omega) (by omega) (by simp)
  have hTe' := lot_Winners.eta g2
  rw [g3, List.nil_append] at hTe'
  conv at hr =>
    rhs
    rw [hTe']
    simp only [lot_Winners.code, lot_Winners.rs, wk, List.getD_cons_succ, List.getD_cons_zero, if_true, if_false, List.getElem?_cons_succ, List.getElem?_cons_zero, Option.map_some, eq_self, reduceIte, Nat.reduceEqDiff, Int.reduceEq, Int.reduceLT, Int.reduceLE]
  rw [hTe] at hr
  exact lot_Winners.runs hr (.inr rfl)
theorem neaptideref10_Winners.round (hv : Okl k l) (hk : k ≠ 2) (hl : l.length ≤ 200) (hd : ∀ d ∈ l, 0 ≤ d ∧ d ≤ 127) {slot : Int} {S : AHeap} : ∀ (m : Nat) (i : Int) (out : List Int) {T : List Value} {r : St}, loopV (vcodeV Try.prog O false neaptideref10_Winners.loop1) T S = r → T.length = 21 →
    T.getD 0 undef = iz k l → T.getD 1 undef = .int .i64 slot → T.getD 6 undef = .int .i64 i → T.getD 5 undef = iz (if out = [] then 2 else 2) out → 0 ≤ i → i + m = 7 → out.length ≤ i →
    ∃ T', r = some (.exit 0, T', S) ∧ T'.length = 21 ∧ T'.getD 5 undef = iz (if out ++ (ints i m).filter (fun n => winB l slot n) = [] then 2 else 2) (out ++ (ints i m).filter fun n => winB l slot n) := by
  intro m
  induction m with
  | zero =>
    intro i out T r hL hT h0 h1 h2 h5 hi him hol
    have hTe := neaptideref10_Winners.eta hT
    rw [h0, h1, h2, h5] at hTe
    have hr : vcodeV Try.prog O false neaptideref10_Winners.loop1 T S = vcodeV Try.prog O false neaptideref10_Winners.loop1 T S := rfl
    have d1 : ¬ i < 7 := by omega
    conv at hr =>
      rhs
      rw [hTe]
      simp only [neaptideref10_Winners.loop1, neaptideref10_Winners.code, neaptideref10_Winners.rs, wk, List.getD_cons_succ, List.getD_cons_zero, if_true, if_false, List.getElem?_cons_succ, List.getElem?_cons_zero, Option.map_some, eq_self, reduceIte, Nat.reduceEqDiff, Int.reduceEq, Int.reduceLT, Int.reduceLE, d1]
    refine ⟨_, hL.symm.trans (loopV_exit hr (by simp)), rfl, ?_⟩
    simp only [ints, List.filter_nil, List.append_nil]
    rfl
  | succ m ih =>
    intro i out T r hL hT h0 h1 h2 h5 hi him hol
    have hTe := neaptideref10_Winners.eta hT
    rw [h0, h1, h2, h5] at hTe
    have hr : vcodeV Try.prog O false neaptideref10_Winners.loop1 T S = vcodeV Try.prog O false neaptideref10_Winners.loop1 T S := rfl
    have d1 : i < 7 := by omega
    have c1 := fun S => neaptideref10_Wins.v (slot := slot) (node := i) hv hk hl hd S
    have w1 : IntKind.i64.wrap (i + 1) = i + 1 := wrap_i64 (by omega) (by omega)
    rw [ints, List.filter_cons]
    by_cases hw : winB l slot i = true
    · rw [hw] at c1
      have a1 : ∀ S, vAppend Try.prog 22 22 (iz (if out = [] then 2 else 2) out) (iz 2 [i]) S = some (iz 2 (out ++ [i]), S) := fun S => iz_more (okl_nil (.inr rfl)) (ne1_nil (.inr rfl)) (by omega)
      conv at hr =>
        rhs
        rw [hTe]
        simp only [neaptideref10_Winners.loop1, neaptideref10_Winners.code, neaptideref10_Winners.rs, wk, List.getD_cons_succ, List.getD_cons_zero, if_true, if_false, List.getElem?_cons_succ, List.getElem?_cons_zero, Option.map_some, eq_self, reduceIte, Nat.reduceEqDiff, Int.reduceEq, Int.reduceLT, Int.reduceLE, if_neg hk, d1, c1, bs_L_int_1, iz2_1, a1, w1]
      obtain ⟨T', g1, g2, g3⟩ := ih (i + 1) (out ++ [i]) ((loopV_step hr).symm.trans hL) rfl rfl rfl rfl (by rw [if_neg (show ¬ out ++ [i] = [] by simp)]; rfl) (by omega) (by omega) (by simp; omega)
      refine ⟨T', g1, g2, ?_⟩
      rw [g3, if_pos hw]
      simp only [List.append_assoc, List.singleton_append]
    · rw [Bool.not_eq_true] at hw
      rw [hw] at c1
      conv at hr =>
        rhs
        rw [hTe]
        simp only [neaptideref10_Winners.loop1, neaptideref10_Winners.code, neaptideref10_Winners.rs, wk, List.getD_cons_succ, List.getD_cons_zero, if_true, if_false, List.getElem?_cons_succ, List.getElem?_cons_zero, Option.map_some, eq_self, reduceIte, Nat.reduceEqDiff, Int.reduceEq, Int.reduceLT, Int.reduceLE, if_neg hk, d1, c1, w1]
      obtain ⟨T', g1, g2, g3⟩ := ih (i + 1) out ((loopV_step hr).symm.trans hL) rfl rfl rfl rfl rfl (by omega) (by omega) (by omega)
      refine ⟨T', g1, g2, ?_⟩
      rw [g3, hw]
      rfl
theorem neaptideref10_Winners.v (hv : Okl k l) (hk : k ≠ 2) (hl : l.length ≤ 200) (hd : ∀ d ∈ l, 0 ≤ d ∧ d ≤ 127) {slot : Int} (S : AHeap) : vlim Try.prog O neaptideref10_Winners.id [iz k l, .int .i64 slot] S = some (iz (if winners l slot = [] then 2 else 2) (winners l slot), S) := by
  obtain ⟨T, hTe⟩ : ∃ T, T = (iz k l :: .int .i64 slot :: undef :: undef :: undef :: undef :: undef :: undef :: undef :: undef :: undef :: undef :: undef :: undef :: undef :: undef :: undef :: undef :: undef :: undef :: undef :: []) := ⟨_, rfl⟩
  have hr : vcodeV Try.prog O false neaptideref10_Winners.code T S = vcodeV Try.prog O false neaptideref10_Winners.code T S := rfl
  conv at hr =>
    rhs
    rw [hTe]
    simp only [neaptideref10_Winners.code, neaptideref10_Winners.rs, wk, List.getD_cons_succ, List.getD_cons_zero, if_true, if_false, List.getElem?_cons_succ, List.getElem?_cons_zero, Option.map_some, eq_self, reduceIte, Nat.reduceEqDiff, Int.reduceEq, Int.reduceLT, Int.reduceLE, bz0]
  generalize hL : loopV (vcodeV Try.prog O false neaptideref10_Winners.loop1) _ _ = r at hr
  obtain ⟨T', rfl, g2, g3⟩ := neaptideref10_Winners.round hv hk hl hd 7 0 [] hL rfl rfl rfl rfl rfl (by omega) (by omega) (by simp)
  have hTe' := neaptideref10_Winners.eta g2
  rw [g3, List.nil_append] at hTe'
  conv at hr =>
    rhs
    rw [hTe']
    simp only [neaptideref10_Winners.code, neaptideref10_Winners.rs, wk, List.getD_cons_succ, List.getD_cons_zero, if_true, if_false, List.getElem?_cons_succ, List.getElem?_cons_zero, Option.map_some, eq_self, reduceIte, Nat.reduceEqDiff, Int.reduceEq, Int.reduceLT, Int.reduceLE]
  rw [hTe] at hr
  exact neaptideref10_Winners.runs hr (.inr rfl)

theorem lot_Slots.round (hv : Okl k l) (hk : k ≠ 2) (hl : l.length ≤ 200) (hd : ∀ d ∈ l, 0 ≤ d ∧ d ≤ 127) {node : Int} {S : AHeap} : ∀ (m : Nat) (i : Int) (out : List Int) {T : List Value} {r : St}, loopV (vcodeV Try.prog O false lot_Slots.loop1) T S = r → T.length = 24 →
    T.getD 0 undef = iz k l → T.getD 1 undef = .int .i64 node → T.getD 8 undef = .int .i64 l.length → T.getD 9 undef = .int .i64 i → T.getD 5 undef = iz (if out = [] then 0 else 2) out → 0 ≤ i → i + m = l.length → out.length ≤ i →
    ∃ T', r = some (.exit 0, T', S) ∧ T'.length = 24 ∧ T'.getD 5 undef = iz (if out ++ (ints (i + 1) m).filter (fun s => winB l s node) = [] then 0 else 2) (out ++ (ints (i + 1) m).filter fun s => winB l s node) := by
  intro m
  induction m with
  | zero =>
    intro i out T r hL hT h0 h1 h8 h2 h5 hi him hol
    have hTe := lot_Slots.eta hT
    rw [h0, h1, h8, h2, h5] at hTe
    have hr : vcodeV Try.prog O false lot_Slots.loop1 T S = vcodeV Try.prog O false lot_Slots.loop1 T S := rfl
    have d1 : ¬ i < (l.length : Int) := by omega
    conv at hr =>
      rhs
      rw [hTe]
      simp only [lot_Slots.loop1, lot_Slots.code, lot_Slots.rs, wk, List.getD_cons_succ, List.getD_cons_zero, if_true, if_false, List.getElem?_cons_succ, List.getElem?_cons_zero, Option.map_some, eq_self, reduceIte, Nat.reduceEqDiff, Int.reduceEq, Int.reduceLT, Int.reduceLE, d1]
    refine ⟨_, hL.symm.trans (loopV_exit hr (by simp)), rfl, ?_⟩
    simp only [ints, List.filter_nil, List.append_nil]
    rfl
  | succ m ih =>
    intro i out T r hL hT h0 h1 h8 h2 h5 hi him hol
    have hTe := lot_Slots.eta hT
    rw [h0, h1, h8, h2, h5] at hTe
    have hr : vcodeV Try.prog O false lot_Slots.loop1 T S = vcodeV Try.prog O false lot_Slots.loop1 T S := rfl
    have d1 : i < (l.length : Int) := by omega
    have c1 := fun S => lot_Wins.v (slot := i + 1) (node := node) hv hk hl hd S
    have w1 : IntKind.i64.wrap (i + 1) = i + 1 := wrap_i64 (by omega) (by omega)
    rw [ints, List.filter_cons]
    by_cases hw : winB l (i + 1) node = true
    · rw [hw] at c1
      have a1 : ∀ S, vAppend Try.prog 22 22 (iz (if out = [] then 0 else 2) out) (iz 2 [i + 1]) S = some (iz 2 (out ++ [i + 1]), S) := fun S => iz_more (okl_nil (.inl rfl)) (ne1_nil (.inl rfl)) (by omega)
      conv at hr =>
        rhs
        rw [hTe]
        simp only [lot_Slots.loop1, lot_Slots.code, lot_Slots.rs, wk, List.getD_cons_succ, List.getD_cons_zero, if_true, if_false, List.getElem?_cons_succ, List.getElem?_cons_zero, Option.map_some, eq_self, reduceIte, Nat.reduceEqDiff, Int.reduceEq, Int.reduceLT, Int.reduceLE, if_neg hk, d1, c1, bs_L_int_1, iz2_1, a1, w1]
      obtain ⟨T', g1, g2, g3⟩ := ih (i + 1) (out ++ [i + 1]) ((loopV_step hr).symm.trans hL) rfl rfl rfl rfl rfl (by rw [if_neg (show ¬ out ++ [i + 1] = [] by simp)]; rfl) (by omega) (by omega) (by simp; omega)
      refine ⟨T', g1, g2, ?_⟩
      rw [g3, if_pos hw]
      simp only [List.append_assoc, List.singleton_append]
    · rw [Bool.not_eq_true] at hw
      rw [hw] at c1
      conv at hr =>
        rhs
        rw [hTe]
        simp only [lot_Slots.loop1, lot_Slots.code, lot_Slots.rs, wk, List.getD_cons_succ, List.getD_cons_zero, if_true, if_false, List.getElem?_cons_succ, List.getElem?_cons_zero, Option.map_some, eq_self, reduceIte, Nat.reduceEqDiff, Int.reduceEq, Int.reduceLT, Int.reduceLE, if_neg hk, d1, c1, w1]
      obtain ⟨T', g1, g2, g3⟩ := ih (i + 1) out ((loopV_step hr).symm.trans hL) rfl rfl rfl rfl rfl rfl (by omega) (by omega) (by omega)
      refine ⟨T', g1, g2, ?_⟩
      rw [g3, hw]
      rfl
theorem lot_Slots.v (hv : Okl k l) (hk : k ≠ 2) (hl : l.length ≤ 200) (hd : ∀ d ∈ l, 0 ≤ d ∧ d ≤ 127) {node : Int} (S : AHeap) : vlim Try.prog O lot_Slots.id [iz k l, .int .i64 node] S = some (iz (if slotsOf l node = [] then 0 else 2) (slotsOf l node), S) := by
  obtain ⟨T, hTe⟩ : ∃ T, T = (iz k l :: .int .i64 node :: undef :: undef :: undef :: undef :: undef :: undef :: undef :: undef :: undef :: undef :: undef :: undef :: undef :: undef :: undef :: undef :: undef :: undef :: undef :: undef :: undef :: undef :: []) := ⟨_, rfl⟩
  have hr : vcodeV Try.prog O false lot_Slots.code T S = vcodeV Try.prog O false lot_Slots.code T S := rfl
  conv at hr =>
    rhs
    rw [hTe]
    simp only [lot_Slots.code, lot_Slots.rs, wk, List.getD_cons_succ, List.getD_cons_zero, if_true, if_false, List.getElem?_cons_succ, List.getElem?_cons_zero, Option.map_some, eq_self, reduceIte, Nat.reduceEqDiff, Int.reduceEq, Int.reduceLT, Int.reduceLE, if_neg hk, iz_len hv, goInt]
  generalize hL : loopV (vcodeV Try.prog O false lot_Slots.loop1) _ _ = r at hr
  obtain ⟨T', rfl, g2, g3⟩ := lot_Slots.round hv hk hl hd l.length 0 [] hL rfl rfl rfl rfl rfl rfl (by omega) (by omega) (by simp)
  have hTe' := lot_Slots.eta g2
  rw [g3, List.nil_append] at hTe'
  conv at hr =>
    rhs
    rw [hTe']
    simp only [lot_Slots.code, lot_Slots.rs, wk, List.getD_cons_succ, List.getD_cons_zero, if_true, if_false, List.getElem?_cons_succ, List.getElem?_cons_zero, Option.map_some, eq_self, reduceIte, Nat.reduceEqDiff, Int.reduceEq, Int.reduceLT, Int.reduceLE]
  rw [hTe] at hr
  exact lot_Slots.runs hr (.inr rfl)
theorem neaptideref10_Slots.round (hv : Okl k l) (hk : k ≠ 2) (hl : l.length ≤ 200) (hd : ∀ d ∈ l, 0 ≤ d ∧ d ≤ 127) {node : Int} {S : AHeap} : ∀ (m : Nat) (i : Int) (out : List Int) {T : List Value} {r : St}, loopV (vcodeV Try.prog O false neaptideref10_Slots.loop1) T S = r → T.length = 23 →
    T.getD 0 undef = iz k l → T.getD 1 undef = .int .i64 node → T.getD 6 undef = .int .i64 i → T.getD 5 undef = iz 2 out → 1 ≤ i → i + m = l.length + 1 → out.length ≤ i →
    ∃ T', r = some (.exit 0, T', S) ∧ T'.length = 23 ∧ T'.getD 5 undef = iz 2 (out ++ (ints i m).filter fun s => winB l s node) := by
  intro m
  induction m with
  | zero =>
    intro i out T r hL hT h0 h1 h2 h5 hi him hol
    have hTe := neaptideref10_Slots.eta hT
    rw [h0, h1, h2, h5] at hTe
    have hr : vcodeV Try.prog O false neaptideref10_Slots.loop1 T S = vcodeV Try.prog O false neaptideref10_Slots.loop1 T S := rfl
    have d1 : ¬ i ≤ (l.length : Int) := by omega
    conv at hr =>
      rhs
      rw [hTe]
      simp only [neaptideref10_Slots.loop1, neaptideref10_Slots.code, neaptideref10_Slots.rs, wk, List.getD_cons_succ, List.getD_cons_zero, if_true, if_false, List.getElem?_cons_succ, List.getElem?_cons_zero, Option.map_some, eq_self, reduceIte, Nat.reduceEqDiff, Int.reduceEq, Int.reduceLT, Int.reduceLE, if_neg hk, iz_len hv, goInt, d1]
    refine ⟨_, hL.symm.trans (loopV_exit hr (by simp)), rfl, ?_⟩
    simp only [ints, List.filter_nil, List.append_nil]
    rfl
  | succ m ih =>
    intro i out T r hL hT h0 h1 h2 h5 hi him hol
    have hTe := neaptideref10_Slots.eta hT
    rw [h0, h1, h2, h5] at hTe
    have hr : vcodeV Try.prog O false neaptideref10_Slots.loop1 T S = vcodeV Try.prog O false neaptideref10_Slots.loop1 T S := rfl
    have d1 : i ≤ (l.length : Int) := by omega
    have c1 := fun S => neaptideref10_Wins.v (slot := i) (node := node) hv hk hl hd S
    have w1 : IntKind.i64.wrap (i + 1) = i + 1 := wrap_i64 (by omega) (by omega)
    rw [ints, List.filter_cons]
    by_cases hw : winB l i node = true
    · rw [hw] at c1
      have a1 : ∀ S, vAppend Try.prog 22 22 (iz 2 out) (iz 2 [i]) S = some (iz 2 (out ++ [i]), S) := fun S => iz_more Okl.own (by decide) (by omega)
      conv at hr =>
        rhs
        rw [hTe]
        simp only [neaptideref10_Slots.loop1, neaptideref10_Slots.code, neaptideref10_Slots.rs, wk, List.getD_cons_succ, List.getD_cons_zero, if_true, if_false, List.getElem?_cons_succ, List.getElem?_cons_zero, Option.map_some, eq_self, reduceIte, Nat.reduceEqDiff, Int.reduceEq, Int.reduceLT, Int.reduceLE, if_neg hk, iz_len hv, goInt, d1, c1, bs_L_int_1, iz2_1, a1, w1]
      obtain ⟨T', g1, g2, g3⟩ := ih (i + 1) (out ++ [i]) ((loopV_step hr).symm.trans hL) rfl rfl rfl rfl rfl (by omega) (by omega) (by simp; omega)
      refine ⟨T', g1, g2, ?_⟩
      rw [g3, if_pos hw]
      simp only [List.append_assoc, List.singleton_append]
    · rw [Bool.not_eq_true] at hw
      rw [hw] at c1
      conv at hr =>
        rhs
        rw [hTe]
        simp only [neaptideref10_Slots.loop1, neaptideref10_Slots.code, neaptideref10_Slots.rs, wk, List.getD_cons_succ, List.getD_cons_zero, if_true, if_false, List.getElem?_cons_succ, List.getElem?_cons_zero, Option.map_some, eq_self, reduceIte, Nat.reduceEqDiff, Int.reduceEq, Int.reduceLT, Int.reduceLE, if_neg hk, iz_len hv, goInt, d1, c1, w1]
      obtain ⟨T', g1, g2, g3⟩ := ih (i + 1) out ((loopV_step hr).symm.trans hL) rfl rfl rfl rfl rfl (by omega) (by omega) (by omega)
      refine ⟨T', g1, g2, ?_⟩
      rw [g3, hw]
      rfl
theorem neaptideref10_Slots.v (hv : Okl k l) (hk : k ≠ 2) (hl : l.length ≤ 200) (hd : ∀ d ∈ l, 0 ≤ d ∧ d ≤ 127) {node : Int} (S : AHeap) : vlim Try.prog O neaptideref10_Slots.id [iz k l, .int .i64 node] S = some (iz 2 (slotsOf l node), S) := by
  obtain ⟨T, hTe⟩ : ∃ T, T = (iz k l :: .int .i64 node :: undef :: undef :: undef :: undef :: undef :: undef :: undef :: undef :: undef :: undef :: undef :: undef :: undef :: undef :: undef :: undef :: undef :: undef :: undef :: undef :: undef :: []) := ⟨_, rfl⟩
  have hr : vcodeV Try.prog O false neaptideref10_Slots.code T S = vcodeV Try.prog O false neaptideref10_Slots.code T S := rfl
  conv at hr =>
    rhs
    rw [hTe]
    simp only [neaptideref10_Slots.code, neaptideref10_Slots.rs, wk, List.getD_cons_succ, List.getD_cons_zero, if_true, if_false, List.getElem?_cons_succ, List.getElem?_cons_zero, Option.map_some, eq_self, reduceIte, Nat.reduceEqDiff, Int.reduceEq, Int.reduceLT, Int.reduceLE, bz0]
  generalize hL : loopV (vcodeV Try.prog O false neaptideref10_Slots.loop1) _ _ = r at hr
  obtain ⟨T', rfl, g2, g3⟩ := neaptideref10_Slots.round hv hk hl hd l.length 1 [] hL rfl rfl rfl rfl rfl (by omega) (by omega) (by simp)
  have hTe' := neaptideref10_Slots.eta g2
  rw [g3, List.nil_append] at hTe'
  conv at hr =>
    rhs
    rw [hTe']
    simp only [neaptideref10_Slots.code, neaptideref10_Slots.rs, wk, List.getD_cons_succ, List.getD_cons_zero, if_true, if_false, List.getElem?_cons_succ, List.getElem?_cons_zero, Option.map_some, eq_self, reduceIte, Nat.reduceEqDiff, Int.reduceEq, Int.reduceLT, Int.reduceLE]
  rw [hTe] at hr
  exact neaptideref10_Slots.runs hr (.inr rfl)
end
end Go.Proofs.Ytooljmmlekmkeaa
