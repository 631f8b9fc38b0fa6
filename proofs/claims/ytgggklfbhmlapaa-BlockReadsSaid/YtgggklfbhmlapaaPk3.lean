/-
Texts put together: VW6 VW7 VWp VT2 VMap VT3 VEq VT4 VT5 VT6 VT7 VB2 VB3 VB5 VB4
-/
import Derived.Test.YtgggklfbhmlapaaPk2
import Derived.Test.YtgggklfbhmlapaaValB
set_option linter.unusedVariables false
set_option linter.unusedSimpArgs false
namespace Go.Proofs.Ytgggklfbhmlapaa
open Go.Abs

/-- Numbers' bytes. -/
def encs (l : List Int) : List UInt8 := l.flatMap fun n => enc (n + 1).toNat
/-- What Nums answers; of no numbers bytes of kind k. -/
def numsV (k : Nat) (l : List Int) : Value := if 64 < l.length ∨ ∃ n ∈ l, n < -1 then .tuple #[.slice none 0 0, .int .i64 11] else .tuple #[by_ (if l = [] then k else 2) (encs l), .int .i64 0]

theorem wrap_plus1 {n : Int} (h : -1 ≤ n) (h2 : n < 9223372036854775808) : IntKind.u64.wrap (IntKind.u64.wrap n + 1) = ((n + 1).toNat : Int) := by
  simp [IntKind.wrap, IntKind.bits, IntKind.signed]
  omega
theorem encs_append (a b : List Int) : encs (a ++ b) = encs a ++ encs b := by simp [encs]
theorem encs_one (n : Int) : encs [n] = enc (n + 1).toNat := by simp [encs]
theorem encs_len {l : List Int} (h : ∀ n ∈ l, n < 9223372036854775808) : (encs l).length ≤ l.length * 10 := by
  induction l with
  | nil => simp [encs]
  | cons n l ih =>
    have h1 := ih fun m hm => h m (by simp [hm])
    have h2 : (enc (n + 1).toNat).length ≤ 10 := enc_len10 (by have := h n (by simp); omega)
    simp only [encs, List.flatMap_cons, List.length_append, List.length_cons] at *
    omega
theorem wire_Nums.round {k : Nat} {l : List Int} (hv : Okl k l) (hk : k ≠ 2) (h64 : l.length ≤ 64) (hb : ∀ n ∈ l, n < 9223372036854775808) {S : AHeap} : ∀ (suf pre : List Int) {T : List Value} {r : St}, loopV (vcodeV Try.prog O false wire_Nums.loop1) T S = r → T.length = 26 →
    T.getD 10 undef = iz k l → T.getD 11 undef = .int .i64 l.length → T.getD 12 undef = .int .i64 pre.length → T.getD 4 undef = by_ (if pre = [] then 0 else 2) (encs pre) → l = pre ++ suf →
    ∃ e T', r = some (e, T', S) ∧ if (∃ n ∈ suf, n < -1) then e = .ret ∧ T'.getD 2 undef = .slice none 0 0 ∧ T'.getD 3 undef = .int .i64 11 else e = .exit 0 ∧ T'.length = 26 ∧ T'.getD 4 undef = by_ (if l = [] then 0 else 2) (encs l) := by
  intro suf
  induction suf with
  | nil =>
    intro pre T r hL hT ha hb hc h4 hl
    have hTe := wire_Nums.eta hT
    rw [ha, hb, hc, h4] at hTe
    have hr : vcodeV Try.prog O false wire_Nums.loop1 T S = vcodeV Try.prog O false wire_Nums.loop1 T S := rfl
    have hd : ¬ (pre.length : Int) < (l.length : Int) := by rw [hl]; simp
    conv at hr =>
      rhs
      rw [hTe]
      simp only [wire_Nums.loop1, wire_Nums.code, wire_Nums.rs, wk, List.getD_cons_succ, List.getD_cons_zero, if_true, if_false, List.getElem?_cons_succ, List.getElem?_cons_zero, Option.map_some, eq_self, reduceIte, Nat.reduceEqDiff, Int.reduceEq, Int.reduceLT, Int.reduceLE, hd]
    refine ⟨_, _, hL.symm.trans (loopV_exit hr (by simp)), ?_⟩
    rw [if_neg (by simp)]
    simp only [List.append_nil] at hl
    subst hl
    exact ⟨rfl, rfl, rfl⟩
  | cons n suf ih =>
    intro pre T r hL hT ha hbb hc h4 hl
    have hTe := wire_Nums.eta hT
    rw [ha, hbb, hc, h4] at hTe
    have hr : vcodeV Try.prog O false wire_Nums.loop1 T S = vcodeV Try.prog O false wire_Nums.loop1 T S := rfl
    have hll : l.length = pre.length + (suf.length + 1) := by rw [hl]; simp
    have hlt : (pre.length : Int) < (l.length : Int) := by omega
    have e1 : ∀ S, vIndexAddr Try.prog 53 (iz k l) (.int .i64 pre.length) S = some (EP [.int .i64 n], S) := fun S => by
      rw [iz_at hv (by omega) hlt]; rw [iz_at_pre hl]
    have hn := hb n (by rw [hl]; simp)
    by_cases h1 : n < -1
    · conv at hr =>
        rhs
        rw [hTe]
        simp only [wire_Nums.loop1, wire_Nums.code, wire_Nums.rs, wk, List.getD_cons_succ, List.getD_cons_zero, if_true, if_false, List.getElem?_cons_succ, List.getElem?_cons_zero, Option.map_some, eq_self, reduceIte, Nat.reduceEqDiff, Int.reduceEq, Int.reduceLT, Int.reduceLE, hlt, e1, iz_load, h1]
      refine ⟨_, _, hL.symm.trans (loopV_exit hr (by simp)), ?_⟩
      rw [if_pos ⟨n, by simp, h1⟩]
      exact ⟨rfl, rfl, rfl⟩
    · have w1 := wrap_plus1 (n := n) (by omega) (by omega)
      have hpb : (encs pre).length ≤ pre.length * 10 := encs_len fun m hm => hb m (by rw [hl]; simp [hm])
      have hp10 : (enc (n + 1).toNat).length ≤ 10 := enc_len10 (by omega)
      have hpp := enc_pos (n + 1).toNat
      have g1 := fun S => wire_Num.v (n + 1).toNat (by omega) S
      have e2 : ∀ S, vAppend Try.prog 33 33 (by_ (if pre = [] then 0 else 2) (encs pre)) (by_ 2 (enc (n + 1).toNat)) S = some (by_ 2 (encs (pre ++ [n])), S) := fun S => by
        have ok : Okl (if pre = [] then 0 else 2) (encs pre) := ⟨by split <;> omega, fun h => by split at h <;> first | (rename_i hp; subst hp; rfl) | omega⟩
        rw [by_append ok (by split <;> omega) Okl.own (by omega), if_neg (fun h => by have := h.2; omega), encs_append, encs_one]
      have wi : IntKind.i64.wrap ((pre.length : Int) + 1) = ((pre ++ [n]).length : Int) := by rw [wrap_i64 (by omega) (by omega)]; simp
      conv at hr =>
        rhs
        rw [hTe]
        simp only [wire_Nums.loop1, wire_Nums.code, wire_Nums.rs, wk, List.getD_cons_succ, List.getD_cons_zero, if_true, if_false, List.getElem?_cons_succ, List.getElem?_cons_zero, Option.map_some, eq_self, reduceIte, Nat.reduceEqDiff, Int.reduceEq, Int.reduceLT, Int.reduceLE, hlt, e1, iz_load, h1, cv_int_uint64, w1, g1, e2, wi]
      obtain ⟨e, T', g1, g2⟩ := ih (pre ++ [n]) ((loopV_step hr).symm.trans hL) rfl rfl rfl rfl (by rw [if_neg (show ¬ pre ++ [n] = [] by simp)]; rfl) (by simp [hl])
      refine ⟨e, T', g1, ?_⟩
      by_cases h2 : ∃ m ∈ suf, m < -1
      · rw [if_pos h2] at g2
        obtain ⟨m, hm, hm2⟩ := h2
        rw [if_pos ⟨m, by simp [hm], hm2⟩]
        exact g2
      · rw [if_neg h2] at g2
        rw [if_neg (by rintro ⟨m, hm, hm2⟩; rcases List.mem_cons.1 hm with rfl | hm; exact h1 hm2; exact h2 ⟨m, hm, hm2⟩)]
        exact g2
theorem wire_Nums.v {k : Nat} {l : List Int} (hv : Okl k l) (hk : k ≠ 2) (hb : ∀ n ∈ l, n < 9223372036854775808) (S : AHeap) : vlim Try.prog O wire_Nums.id [iz k l] S = some (numsV 0 l, S) := by
  obtain ⟨T, hTe⟩ : ∃ T, T = (iz k l :: undef :: undef :: undef :: undef :: undef :: undef :: undef :: undef :: undef :: undef :: undef :: undef :: undef :: undef :: undef :: undef :: undef :: undef :: undef :: undef :: undef :: undef :: undef :: undef :: undef :: []) := ⟨_, rfl⟩
  have hr : vcodeV Try.prog O false wire_Nums.code T S = vcodeV Try.prog O false wire_Nums.code T S := rfl
  unfold numsV
  by_cases h1 : 64 < l.length
  · have d1 : (64 : Int) < (l.length : Int) := by omega
    conv at hr =>
      rhs
      rw [hTe]
      simp only [wire_Nums.code, wire_Nums.rs, wk, List.getD_cons_succ, List.getD_cons_zero, if_true, if_false, List.getElem?_cons_succ, List.getElem?_cons_zero, Option.map_some, eq_self, reduceIte, Nat.reduceEqDiff, Int.reduceEq, Int.reduceLT, Int.reduceLE, if_neg hk, iz_len hv, goInt, d1]
    rw [hTe] at hr
    rw [if_pos (.inl h1)]
    exact wire_Nums.runs hr (.inr rfl) (by simp only [List.getD_cons_succ, List.getD_cons_zero, notTuple_vs, notTuple_int, notTuple_slice, notTuple_bool, notTuple_agg]) (by simp only [List.getD_cons_succ, List.getD_cons_zero, notTuple_vs, notTuple_int, notTuple_slice, notTuple_bool, notTuple_agg])
  · have d1 : ¬ (64 : Int) < (l.length : Int) := by omega
    conv at hr =>
      rhs
      rw [hTe]
      simp only [wire_Nums.code, wire_Nums.rs, wk, List.getD_cons_succ, List.getD_cons_zero, if_true, if_false, List.getElem?_cons_succ, List.getElem?_cons_zero, Option.map_some, eq_self, reduceIte, Nat.reduceEqDiff, Int.reduceEq, Int.reduceLT, Int.reduceLE, if_neg hk, iz_len hv, goInt, d1, bs_L_uint8_0, by2_0]
    generalize hL : loopV (vcodeV Try.prog O false wire_Nums.loop1) _ _ = r at hr
    obtain ⟨e, T', rfl, g⟩ := wire_Nums.round hv hk (by omega) hb l [] hL rfl rfl rfl rfl rfl rfl
    by_cases h2 : ∃ n ∈ l, n < -1
    · rw [if_pos h2] at g
      obtain ⟨rfl, g2, g3⟩ := g
      conv at hr =>
        rhs
        simp only [wk, List.getD_cons_succ, List.getD_cons_zero, if_true, if_false, List.getElem?_cons_succ, List.getElem?_cons_zero, Option.map_some, eq_self, reduceIte, Nat.reduceEqDiff, Int.reduceEq, Int.reduceLT, Int.reduceLE]
      rw [hTe] at hr
      rw [if_pos (.inr h2)]
      have hrun := wire_Nums.runs hr (.inr rfl) (by rw [g2]; rfl) (by rw [g3]; rfl)
      rw [g2, g3] at hrun
      exact hrun
    · rw [if_neg h2] at g
      obtain ⟨rfl, g2, g3⟩ := g
      have hTe' := wire_Nums.eta g2
      rw [g3] at hTe'
      conv at hr =>
        rhs
        rw [hTe']
        simp only [wire_Nums.code, wire_Nums.rs, wk, List.getD_cons_succ, List.getD_cons_zero, if_true, if_false, List.getElem?_cons_succ, List.getElem?_cons_zero, Option.map_some, eq_self, reduceIte, Nat.reduceEqDiff, Int.reduceEq, Int.reduceLT, Int.reduceLE]
      rw [hTe] at hr
      rw [if_neg (by rintro (h | h); exact h1 h; exact h2 h)]
      exact wire_Nums.runs hr (.inr rfl) (by simp only [List.getD_cons_succ, List.getD_cons_zero, notTuple_vs, notTuple_int, notTuple_slice, notTuple_bool, notTuple_agg]) (by simp only [List.getD_cons_succ, List.getD_cons_zero, notTuple_vs, notTuple_int, notTuple_slice, notTuple_bool, notTuple_agg])
theorem neaptideref01_Nums.round {k : Nat} {l : List Int} (hv : Okl k l) (hk : k ≠ 2) (h64 : l.length ≤ 64) (hb : ∀ n ∈ l, n < 9223372036854775808) {S : AHeap} : ∀ (suf pre : List Int) {T : List Value} {r : St}, loopV (vcodeV Try.prog O false neaptideref01_Nums.loop1) T S = r → T.length = 27 →
    T.getD 11 undef = iz k l → T.getD 12 undef = .int .i64 l.length → T.getD 13 undef = .int .i64 pre.length → T.getD 4 undef = by_ (if pre = [] then 2 else 2) (encs pre) → l = pre ++ suf →
    ∃ e T', r = some (e, T', S) ∧ if (∃ n ∈ suf, n < -1) then e = .ret ∧ T'.getD 2 undef = .slice none 0 0 ∧ T'.getD 3 undef = .int .i64 11 else e = .exit 0 ∧ T'.length = 27 ∧ T'.getD 4 undef = by_ (if l = [] then 2 else 2) (encs l) := by
  intro suf
  induction suf with
  | nil =>
    intro pre T r hL hT ha hb hc h4 hl
    have hTe := neaptideref01_Nums.eta hT
    rw [ha, hb, hc, h4] at hTe
    have hr : vcodeV Try.prog O false neaptideref01_Nums.loop1 T S = vcodeV Try.prog O false neaptideref01_Nums.loop1 T S := rfl
    have hd : ¬ (pre.length : Int) < (l.length : Int) := by rw [hl]; simp
    conv at hr =>
      rhs
      rw [hTe]
      simp only [neaptideref01_Nums.loop1, neaptideref01_Nums.code, neaptideref01_Nums.rs, wk, List.getD_cons_succ, List.getD_cons_zero, if_true, if_false, List.getElem?_cons_succ, List.getElem?_cons_zero, Option.map_some, eq_self, reduceIte, Nat.reduceEqDiff, Int.reduceEq, Int.reduceLT, Int.reduceLE, hd]
    refine ⟨_, _, hL.symm.trans (loopV_exit hr (by simp)), ?_⟩
    rw [if_neg (by simp)]
    simp only [List.append_nil] at hl
    subst hl
    exact ⟨rfl, rfl, rfl⟩
  | cons n suf ih =>
    intro pre T r hL hT ha hbb hc h4 hl
    have hTe := neaptideref01_Nums.eta hT
    rw [ha, hbb, hc, h4] at hTe
    have hr : vcodeV Try.prog O false neaptideref01_Nums.loop1 T S = vcodeV Try.prog O false neaptideref01_Nums.loop1 T S := rfl
    have hll : l.length = pre.length + (suf.length + 1) := by rw [hl]; simp
    have hlt : (pre.length : Int) < (l.length : Int) := by omega
    have e1 : ∀ S, vIndexAddr Try.prog 53 (iz k l) (.int .i64 pre.length) S = some (EP [.int .i64 n], S) := fun S => by
      rw [iz_at hv (by omega) hlt]; rw [iz_at_pre hl]
    have hn := hb n (by rw [hl]; simp)
    by_cases h1 : n < -1
    · conv at hr =>
        rhs
        rw [hTe]
        simp only [neaptideref01_Nums.loop1, neaptideref01_Nums.code, neaptideref01_Nums.rs, wk, List.getD_cons_succ, List.getD_cons_zero, if_true, if_false, List.getElem?_cons_succ, List.getElem?_cons_zero, Option.map_some, eq_self, reduceIte, Nat.reduceEqDiff, Int.reduceEq, Int.reduceLT, Int.reduceLE, hlt, e1, iz_load, h1]
      refine ⟨_, _, hL.symm.trans (loopV_exit hr (by simp)), ?_⟩
      rw [if_pos ⟨n, by simp, h1⟩]
      exact ⟨rfl, rfl, rfl⟩
    · have w1 := wrap_plus1 (n := n) (by omega) (by omega)
      have hpb : (encs pre).length ≤ pre.length * 10 := encs_len fun m hm => hb m (by rw [hl]; simp [hm])
      have hp10 : (enc (n + 1).toNat).length ≤ 10 := enc_len10 (by omega)
      have hpp := enc_pos (n + 1).toNat
      have g1 := fun S => neaptideref01_Num.v (n + 1).toNat (by omega) S
      have e2 : ∀ S, vAppend Try.prog 33 33 (by_ (if pre = [] then 2 else 2) (encs pre)) (by_ 2 (enc (n + 1).toNat)) S = some (by_ 2 (encs (pre ++ [n])), S) := fun S => by
        have ok : Okl (if pre = [] then 2 else 2) (encs pre) := ⟨by split <;> omega, fun h => by split at h <;> first | (rename_i hp; subst hp; rfl) | omega⟩
        rw [by_append ok (by split <;> omega) Okl.own (by omega), if_neg (fun h => by have := h.2; omega), encs_append, encs_one]
      have wi : IntKind.i64.wrap ((pre.length : Int) + 1) = ((pre ++ [n]).length : Int) := by rw [wrap_i64 (by omega) (by omega)]; simp
      conv at hr =>
        rhs
        rw [hTe]
        simp only [neaptideref01_Nums.loop1, neaptideref01_Nums.code, neaptideref01_Nums.rs, wk, List.getD_cons_succ, List.getD_cons_zero, if_true, if_false, List.getElem?_cons_succ, List.getElem?_cons_zero, Option.map_some, eq_self, reduceIte, Nat.reduceEqDiff, Int.reduceEq, Int.reduceLT, Int.reduceLE, hlt, e1, iz_load, h1, cv_int_uint64, w1, g1, e2, wi]
      obtain ⟨e, T', g1, g2⟩ := ih (pre ++ [n]) ((loopV_step hr).symm.trans hL) rfl rfl rfl rfl (by rw [if_neg (show ¬ pre ++ [n] = [] by simp)]; rfl) (by simp [hl])
      refine ⟨e, T', g1, ?_⟩
      by_cases h2 : ∃ m ∈ suf, m < -1
      · rw [if_pos h2] at g2
        obtain ⟨m, hm, hm2⟩ := h2
        rw [if_pos ⟨m, by simp [hm], hm2⟩]
        exact g2
      · rw [if_neg h2] at g2
        rw [if_neg (by rintro ⟨m, hm, hm2⟩; rcases List.mem_cons.1 hm with rfl | hm; exact h1 hm2; exact h2 ⟨m, hm, hm2⟩)]
        exact g2
theorem neaptideref01_Nums.v {k : Nat} {l : List Int} (hv : Okl k l) (hk : k ≠ 2) (hb : ∀ n ∈ l, n < 9223372036854775808) (S : AHeap) : vlim Try.prog O neaptideref01_Nums.id [iz k l] S = some (numsV 2 l, S) := by
  obtain ⟨T, hTe⟩ : ∃ T, T = (iz k l :: undef :: undef :: undef :: undef :: undef :: undef :: undef :: undef :: undef :: undef :: undef :: undef :: undef :: undef :: undef :: undef :: undef :: undef :: undef :: undef :: undef :: undef :: undef :: undef :: undef :: undef :: []) := ⟨_, rfl⟩
  have hr : vcodeV Try.prog O false neaptideref01_Nums.code T S = vcodeV Try.prog O false neaptideref01_Nums.code T S := rfl
  unfold numsV
  by_cases h1 : 64 < l.length
  · have d1 : (64 : Int) < (l.length : Int) := by omega
    conv at hr =>
      rhs
      rw [hTe]
      simp only [neaptideref01_Nums.code, neaptideref01_Nums.rs, wk, List.getD_cons_succ, List.getD_cons_zero, if_true, if_false, List.getElem?_cons_succ, List.getElem?_cons_zero, Option.map_some, eq_self, reduceIte, Nat.reduceEqDiff, Int.reduceEq, Int.reduceLT, Int.reduceLE, if_neg hk, iz_len hv, goInt, d1]
    rw [hTe] at hr
    rw [if_pos (.inl h1)]
    exact neaptideref01_Nums.runs hr (.inr rfl) (by simp only [List.getD_cons_succ, List.getD_cons_zero, notTuple_vs, notTuple_int, notTuple_slice, notTuple_bool, notTuple_agg]) (by simp only [List.getD_cons_succ, List.getD_cons_zero, notTuple_vs, notTuple_int, notTuple_slice, notTuple_bool, notTuple_agg])
  · have d1 : ¬ (64 : Int) < (l.length : Int) := by omega
    conv at hr =>
      rhs
      rw [hTe]
      simp only [neaptideref01_Nums.code, neaptideref01_Nums.rs, wk, List.getD_cons_succ, List.getD_cons_zero, if_true, if_false, List.getElem?_cons_succ, List.getElem?_cons_zero, Option.map_some, eq_self, reduceIte, Nat.reduceEqDiff, Int.reduceEq, Int.reduceLT, Int.reduceLE, if_neg hk, iz_len hv, goInt, d1, bs_L_uint8_0, by2_0]
    generalize hL : loopV (vcodeV Try.prog O false neaptideref01_Nums.loop1) _ _ = r at hr
    obtain ⟨e, T', rfl, g⟩ := neaptideref01_Nums.round hv hk (by omega) hb l [] hL rfl rfl rfl rfl rfl rfl
    by_cases h2 : ∃ n ∈ l, n < -1
    · rw [if_pos h2] at g
      obtain ⟨rfl, g2, g3⟩ := g
      conv at hr =>
        rhs
        simp only [wk, List.getD_cons_succ, List.getD_cons_zero, if_true, if_false, List.getElem?_cons_succ, List.getElem?_cons_zero, Option.map_some, eq_self, reduceIte, Nat.reduceEqDiff, Int.reduceEq, Int.reduceLT, Int.reduceLE]
      rw [hTe] at hr
      rw [if_pos (.inr h2)]
      have hrun := neaptideref01_Nums.runs hr (.inr rfl) (by rw [g2]; rfl) (by rw [g3]; rfl)
      rw [g2, g3] at hrun
      exact hrun
    · rw [if_neg h2] at g
      obtain ⟨rfl, g2, g3⟩ := g
      have hTe' := neaptideref01_Nums.eta g2
      rw [g3] at hTe'
      conv at hr =>
        rhs
        rw [hTe']
        simp only [neaptideref01_Nums.code, neaptideref01_Nums.rs, wk, List.getD_cons_succ, List.getD_cons_zero, if_true, if_false, List.getElem?_cons_succ, List.getElem?_cons_zero, Option.map_some, eq_self, reduceIte, Nat.reduceEqDiff, Int.reduceEq, Int.reduceLT, Int.reduceLE]
      rw [hTe] at hr
      rw [if_neg (by rintro (h | h); exact h1 h; exact h2 h)]
      exact neaptideref01_Nums.runs hr (.inr rfl) (by simp only [List.getD_cons_succ, List.getD_cons_zero, notTuple_vs, notTuple_int, notTuple_slice, notTuple_bool, notTuple_agg]) (by simp only [List.getD_cons_succ, List.getD_cons_zero, notTuple_vs, notTuple_int, notTuple_slice, notTuple_bool, notTuple_agg])
end Go.Proofs.Ytgggklfbhmlapaa

namespace Go.Proofs.Ytgggklfbhmlapaa
open Go.Abs

/-- So many numbers. -/
def readNs : Nat → List UInt8 → Option (List Int × List UInt8)
  | 0, l => some ([], l)
  | m + 1, l => match scan 0 0 l with
    | some (n, r) => if n ≤ 4611686018427387905 then (match readNs m r with
      | some (a, b) => some (((n : Int) - 1) :: a, b)
      | none => none) else none
    | none => none
/-- What ReadNums answers. -/
def readNsV (k0 k1 : Nat) (many : Int) (l : List UInt8) : Value :=
  if many < 0 ∨ 64 < many then .tuple #[.slice none 0 0, .slice none 0 0, .int .i64 11]
  else match readNs many.toNat l with
    | some (a, b) => .tuple #[iz (if many = 0 then k0 else 2) a, by_ (if many = 0 then k1 else 2) b, .int .i64 0]
    | none => .tuple #[.slice none 0 0, .slice none 0 0, .int .i64 11]
theorem wire_ReadNums.round {many : Int} (hmany : many ≤ 64) {S : AHeap} : ∀ (m : Nat) (i : Int) (rest : List UInt8) (kr : Nat) (out : List Int) (ko : Nat) {T : List Value} {r : St}, loopV (vcodeV Try.prog O false wire_ReadNums.loop1) T S = r → T.length = 45 →
    T.getD 20 undef = .int .i64 many → T.getD 21 undef = .int .i64 i → T.getD 7 undef = by_ kr rest → T.getD 8 undef = iz ko out → 0 ≤ i → many = i + m → Okl kr rest → rest.length ≤ 140737488355328 → Okl ko out → ko ≠ 1 → (out.length : Int) = i →
    ∃ e T', r = some (e, T', S) ∧ match readNs m rest with
      | none => e = .ret ∧ T'.getD 4 undef = .slice none 0 0 ∧ T'.getD 5 undef = .slice none 0 0 ∧ T'.getD 6 undef = .int .i64 11
      | some (a, b) => e = .exit 0 ∧ T'.length = 45 ∧ T'.getD 8 undef = iz (if m = 0 then ko else 2) (out ++ a) ∧ T'.getD 7 undef = by_ (if m = 0 then kr else 2) b := by
  intro m
  induction m with
  | zero =>
    intro i rest kr out ko T r hL hT h1 h2 h3 h4 h0 hm hkr hlen hko hk1 hol
    have hTe := wire_ReadNums.eta hT
    rw [h1, h2, h3, h4] at hTe
    have hr : vcodeV Try.prog O false wire_ReadNums.loop1 T S = vcodeV Try.prog O false wire_ReadNums.loop1 T S := rfl
    have hd : ¬ i < many := by omega
    conv at hr =>
      rhs
      rw [hTe]
      simp only [wire_ReadNums.loop1, wire_ReadNums.code, wire_ReadNums.rs, wk, List.getD_cons_succ, List.getD_cons_zero, if_true, if_false, List.getElem?_cons_succ, List.getElem?_cons_zero, Option.map_some, eq_self, reduceIte, Nat.reduceEqDiff, Int.reduceEq, Int.reduceLT, Int.reduceLE, hd]
    exact ⟨_, _, hL.symm.trans (loopV_exit hr (by simp)), rfl, rfl, by simp, rfl⟩
  | succ m ih =>
    intro i rest kr out ko T r hL hT h1 h2 h3 h4 h0 hm hkr hlen hko hk1 hol
    have hTe := wire_ReadNums.eta hT
    rw [h1, h2, h3, h4] at hTe
    have hr : vcodeV Try.prog O false wire_ReadNums.loop1 T S = vcodeV Try.prog O false wire_ReadNums.loop1 T S := rfl
    have hd : i < many := by omega
    have g1 : ∀ S, vlim Try.prog O wire_ReadNum.id [by_ (if kr = 2 then 1 else kr) rest] S = some (readV rest, S) := wire_ReadNum.v hkr.dem (by split <;> omega) hlen
    unfold readV at g1
    rw [readNs]
    cases hsc : scan 0 0 rest with
    | none =>
      rw [hsc] at g1
      have d11 : ¬ (11 : Int) = 0 := by omega
      conv at hr =>
        rhs
        rw [hTe]
        simp only [wire_ReadNums.loop1, wire_ReadNums.code, wire_ReadNums.rs, wk, List.getD_cons_succ, List.getD_cons_zero, if_true, if_false, List.getElem?_cons_succ, List.getElem?_cons_zero, Option.map_some, eq_self, reduceIte, Nat.reduceEqDiff, Int.reduceEq, Int.reduceLT, Int.reduceLE, dem2, hd, g1, d11]
      exact ⟨_, _, hL.symm.trans (loopV_exit hr (by simp)), rfl, rfl, rfl, rfl⟩
    | some nr =>
      obtain ⟨n, r'⟩ := nr
      rw [hsc] at g1
      obtain ⟨hn, hrl⟩ := scan_lt rest 0 0 (by decide) (by omega) n r' hsc
      dsimp only
      by_cases h5 : n ≤ 4611686018427387905
      · have d1 : ¬ (4611686018427387905 : Int) < (n : Int) := by omega
        have w1 : IntKind.i64.wrap (n : Int) = (n : Int) := wrap_i64 (by omega) (by omega)
        have w2 : IntKind.i64.wrap ((n : Int) - 1) = (n : Int) - 1 := wrap_i64 (by omega) (by omega)
        have w3 : IntKind.i64.wrap (i + 1) = i + 1 := wrap_i64 (by omega) (by omega)
        have e1 : ∀ x S, vAppend Try.prog 53 53 (iz ko out) (iz 2 [x]) S = some (iz 2 (out ++ [x]), S) := fun x S => iz_more hko hk1 (by omega)
        conv at hr =>
          rhs
          rw [hTe]
          simp only [wire_ReadNums.loop1, wire_ReadNums.code, wire_ReadNums.rs, wk, List.getD_cons_succ, List.getD_cons_zero, if_true, if_false, List.getElem?_cons_succ, List.getElem?_cons_zero, Option.map_some, eq_self, reduceIte, Nat.reduceEqDiff, Int.reduceEq, Int.reduceLT, Int.reduceLE, dem2, hd, g1, d1, cv_uint64_int, w1, w2, w3, bs_L_int_1, iz2_1, e1]
        obtain ⟨e, T', g2, g3⟩ := ih (i + 1) r' 2 (out ++ [(n : Int) - 1]) 2 ((loopV_step hr).symm.trans hL) rfl rfl rfl rfl rfl (by omega) (by omega) Okl.own (by omega) Okl.own (by decide) (by simp; omega)
        refine ⟨e, T', g2, ?_⟩
        rw [if_pos h5]
        cases hrn : readNs m r' with
        | none => rw [hrn] at g3; exact g3
        | some ab =>
          obtain ⟨a, b⟩ := ab
          rw [hrn] at g3
          obtain ⟨q1, q2, q3, q4⟩ := g3
          refine ⟨q1, q2, ?_, ?_⟩
          · rw [q3]; simp
          · rw [q4]; simp
      · have d1 : (4611686018427387905 : Int) < (n : Int) := by omega
        conv at hr =>
          rhs
          rw [hTe]
          simp only [wire_ReadNums.loop1, wire_ReadNums.code, wire_ReadNums.rs, wk, List.getD_cons_succ, List.getD_cons_zero, if_true, if_false, List.getElem?_cons_succ, List.getElem?_cons_zero, Option.map_some, eq_self, reduceIte, Nat.reduceEqDiff, Int.reduceEq, Int.reduceLT, Int.reduceLE, dem2, hd, g1, d1]
        refine ⟨_, _, hL.symm.trans (loopV_exit hr (by simp)), ?_⟩
        rw [if_neg h5]
        exact ⟨rfl, rfl, rfl, rfl⟩
theorem neaptideref01_ReadNums.round {many : Int} (hmany : many ≤ 64) {S : AHeap} : ∀ (m : Nat) (i : Int) (rest : List UInt8) (kr : Nat) (out : List Int) (ko : Nat) {T : List Value} {r : St}, loopV (vcodeV Try.prog O false neaptideref01_ReadNums.loop1) T S = r → T.length = 49 →
    T.getD 1 undef = .int .i64 many → T.getD 9 undef = .int .i64 i → T.getD 8 undef = by_ kr rest → T.getD 7 undef = iz ko out → 0 ≤ i → many = i + m → Okl kr rest → rest.length ≤ 140737488355328 → Okl ko out → ko ≠ 1 → (out.length : Int) = i →
    ∃ e T', r = some (e, T', S) ∧ match readNs m rest with
      | none => e = .ret ∧ T'.getD 4 undef = .slice none 0 0 ∧ T'.getD 5 undef = .slice none 0 0 ∧ T'.getD 6 undef = .int .i64 11
      | some (a, b) => e = .exit 0 ∧ T'.length = 49 ∧ T'.getD 7 undef = iz (if m = 0 then ko else 2) (out ++ a) ∧ T'.getD 8 undef = by_ (if m = 0 then kr else 2) b := by
  intro m
  induction m with
  | zero =>
    intro i rest kr out ko T r hL hT h1 h2 h3 h4 h0 hm hkr hlen hko hk1 hol
    have hTe := neaptideref01_ReadNums.eta hT
    rw [h1, h2, h3, h4] at hTe
    have hr : vcodeV Try.prog O false neaptideref01_ReadNums.loop1 T S = vcodeV Try.prog O false neaptideref01_ReadNums.loop1 T S := rfl
    have hd : ¬ i < many := by omega
    conv at hr =>
      rhs
      rw [hTe]
      simp only [neaptideref01_ReadNums.loop1, neaptideref01_ReadNums.code, neaptideref01_ReadNums.rs, wk, List.getD_cons_succ, List.getD_cons_zero, if_true, if_false, List.getElem?_cons_succ, List.getElem?_cons_zero, Option.map_some, eq_self, reduceIte, Nat.reduceEqDiff, Int.reduceEq, Int.reduceLT, Int.reduceLE, hd]
    exact ⟨_, _, hL.symm.trans (loopV_exit hr (by simp)), rfl, rfl, by simp, rfl⟩
  | succ m ih =>
    intro i rest kr out ko T r hL hT h1 h2 h3 h4 h0 hm hkr hlen hko hk1 hol
    have hTe := neaptideref01_ReadNums.eta hT
    rw [h1, h2, h3, h4] at hTe
    have hr : vcodeV Try.prog O false neaptideref01_ReadNums.loop1 T S = vcodeV Try.prog O false neaptideref01_ReadNums.loop1 T S := rfl
    have hd : i < many := by omega
    have g1 : ∀ S, vlim Try.prog O neaptideref01_ReadNum.id [by_ (if kr = 2 then 1 else kr) rest] S = some (readV rest, S) := neaptideref01_ReadNum.v hkr.dem (by split <;> omega) hlen
    unfold readV at g1
    rw [readNs]
    cases hsc : scan 0 0 rest with
    | none =>
      rw [hsc] at g1
      have d11 : ¬ (11 : Int) = 0 := by omega
      conv at hr =>
        rhs
        rw [hTe]
        simp only [neaptideref01_ReadNums.loop1, neaptideref01_ReadNums.code, neaptideref01_ReadNums.rs, wk, List.getD_cons_succ, List.getD_cons_zero, if_true, if_false, List.getElem?_cons_succ, List.getElem?_cons_zero, Option.map_some, eq_self, reduceIte, Nat.reduceEqDiff, Int.reduceEq, Int.reduceLT, Int.reduceLE, dem2, hd, g1, d11]
      exact ⟨_, _, hL.symm.trans (loopV_exit hr (by simp)), rfl, rfl, rfl, rfl⟩
    | some nr =>
      obtain ⟨n, r'⟩ := nr
      rw [hsc] at g1
      obtain ⟨hn, hrl⟩ := scan_lt rest 0 0 (by decide) (by omega) n r' hsc
      dsimp only
      by_cases h5 : n ≤ 4611686018427387905
      · have d1 : ¬ (4611686018427387905 : Int) < (n : Int) := by omega
        have w1 : IntKind.i64.wrap (n : Int) = (n : Int) := wrap_i64 (by omega) (by omega)
        have w2 : IntKind.i64.wrap ((n : Int) - 1) = (n : Int) - 1 := wrap_i64 (by omega) (by omega)
        have w3 : IntKind.i64.wrap (i + 1) = i + 1 := wrap_i64 (by omega) (by omega)
        have e1 : ∀ x S, vAppend Try.prog 53 53 (iz ko out) (iz 2 [x]) S = some (iz 2 (out ++ [x]), S) := fun x S => iz_more hko hk1 (by omega)
        conv at hr =>
          rhs
          rw [hTe]
          simp only [neaptideref01_ReadNums.loop1, neaptideref01_ReadNums.code, neaptideref01_ReadNums.rs, wk, List.getD_cons_succ, List.getD_cons_zero, if_true, if_false, List.getElem?_cons_succ, List.getElem?_cons_zero, Option.map_some, eq_self, reduceIte, Nat.reduceEqDiff, Int.reduceEq, Int.reduceLT, Int.reduceLE, dem2, hd, g1, d1, cv_uint64_int, w1, w2, w3, bs_L_int_1, iz2_1, e1]
        obtain ⟨e, T', g2, g3⟩ := ih (i + 1) r' 2 (out ++ [(n : Int) - 1]) 2 ((loopV_step hr).symm.trans hL) rfl rfl rfl rfl rfl (by omega) (by omega) Okl.own (by omega) Okl.own (by decide) (by simp; omega)
        refine ⟨e, T', g2, ?_⟩
        rw [if_pos h5]
        cases hrn : readNs m r' with
        | none => rw [hrn] at g3; exact g3
        | some ab =>
          obtain ⟨a, b⟩ := ab
          rw [hrn] at g3
          obtain ⟨q1, q2, q3, q4⟩ := g3
          refine ⟨q1, q2, ?_, ?_⟩
          · rw [q3]; simp
          · rw [q4]; simp
      · have d1 : (4611686018427387905 : Int) < (n : Int) := by omega
        conv at hr =>
          rhs
          rw [hTe]
          simp only [neaptideref01_ReadNums.loop1, neaptideref01_ReadNums.code, neaptideref01_ReadNums.rs, wk, List.getD_cons_succ, List.getD_cons_zero, if_true, if_false, List.getElem?_cons_succ, List.getElem?_cons_zero, Option.map_some, eq_self, reduceIte, Nat.reduceEqDiff, Int.reduceEq, Int.reduceLT, Int.reduceLE, dem2, hd, g1, d1]
        refine ⟨_, _, hL.symm.trans (loopV_exit hr (by simp)), ?_⟩
        rw [if_neg h5]
        exact ⟨rfl, rfl, rfl, rfl⟩
theorem wire_ReadNums.v {k : Nat} {l : List UInt8} {many : Int} (hv : Okl k l) (hk : k ≠ 2) (hlen : l.length ≤ 140737488355328) (S : AHeap) : vlim Try.prog O wire_ReadNums.id [by_ k l, .int .i64 many] S = some (readNsV 0 (if k = 0 then 0 else 2) many l, S) := by
  obtain ⟨T, hTe⟩ : ∃ T, T = (by_ k l :: .int .i64 many :: undef :: undef :: undef :: undef :: undef :: undef :: undef :: undef :: undef :: undef :: undef :: undef :: undef :: undef :: undef :: undef :: undef :: undef :: undef :: undef :: undef :: undef :: undef :: undef :: undef :: undef :: undef :: undef :: undef :: undef :: undef :: undef :: undef :: undef :: undef :: undef :: undef :: undef :: undef :: undef :: undef :: undef :: undef :: []) := ⟨_, rfl⟩
  have hr : vcodeV Try.prog O false wire_ReadNums.code T S = vcodeV Try.prog O false wire_ReadNums.code T S := rfl
  have c1 : ∀ S, vlim Try.prog O 43 [by_ k l] S = some (by_ (if k = 0 then 0 else 2) l, S) := slices_Clone.v hv hk hlen
  unfold readNsV
  by_cases h1 : many < 0
  · conv at hr =>
      rhs
      rw [hTe]
      simp only [wire_ReadNums.code, wire_ReadNums.rs, wk, List.getD_cons_succ, List.getD_cons_zero, if_true, if_false, List.getElem?_cons_succ, List.getElem?_cons_zero, Option.map_some, eq_self, reduceIte, Nat.reduceEqDiff, Int.reduceEq, Int.reduceLT, Int.reduceLE, h1]
    rw [hTe] at hr
    rw [if_pos (.inl h1)]
    exact wire_ReadNums.runs hr (.inr rfl) (by simp only [List.getD_cons_succ, List.getD_cons_zero, notTuple_vs, notTuple_int, notTuple_slice, notTuple_bool, notTuple_agg]) (by simp only [List.getD_cons_succ, List.getD_cons_zero, notTuple_vs, notTuple_int, notTuple_slice, notTuple_bool, notTuple_agg]) (by simp only [List.getD_cons_succ, List.getD_cons_zero, notTuple_vs, notTuple_int, notTuple_slice, notTuple_bool, notTuple_agg])
  · by_cases h2 : 64 < many
    · conv at hr =>
        rhs
        rw [hTe]
        simp only [wire_ReadNums.code, wire_ReadNums.rs, wk, List.getD_cons_succ, List.getD_cons_zero, if_true, if_false, List.getElem?_cons_succ, List.getElem?_cons_zero, Option.map_some, eq_self, reduceIte, Nat.reduceEqDiff, Int.reduceEq, Int.reduceLT, Int.reduceLE, h1, h2]
      rw [hTe] at hr
      rw [if_pos (.inr h2)]
      exact wire_ReadNums.runs hr (.inr rfl) (by simp only [List.getD_cons_succ, List.getD_cons_zero, notTuple_vs, notTuple_int, notTuple_slice, notTuple_bool, notTuple_agg]) (by simp only [List.getD_cons_succ, List.getD_cons_zero, notTuple_vs, notTuple_int, notTuple_slice, notTuple_bool, notTuple_agg]) (by simp only [List.getD_cons_succ, List.getD_cons_zero, notTuple_vs, notTuple_int, notTuple_slice, notTuple_bool, notTuple_agg])
    · rw [if_neg (by omega)]
      conv at hr =>
        rhs
        rw [hTe]
        simp only [wire_ReadNums.code, wire_ReadNums.rs, wk, List.getD_cons_succ, List.getD_cons_zero, if_true, if_false, List.getElem?_cons_succ, List.getElem?_cons_zero, Option.map_some, eq_self, reduceIte, Nat.reduceEqDiff, Int.reduceEq, Int.reduceLT, Int.reduceLE, h1, h2, if_neg hk, c1]
      generalize hL : loopV (vcodeV Try.prog O false wire_ReadNums.loop1) _ _ = r at hr
      have okr : Okl (if k = 0 then 0 else 2) l := ⟨by split <;> omega, fun h => by split at h <;> first | (rename_i hp; exact hv.nil hp) | omega⟩
      obtain ⟨e, T', rfl, g⟩ := wire_ReadNums.round (many := many) (by omega) many.toNat 0 l (if k = 0 then 0 else 2) [] 0 hL rfl rfl rfl rfl rfl (by omega) (by omega) okr hlen Okl.none (by decide) rfl
      cases hrn : readNs many.toNat l with
      | none =>
        rw [hrn] at g
        obtain ⟨rfl, g2, g3, g4⟩ := g
        conv at hr =>
          rhs
          simp only [wk, List.getD_cons_succ, List.getD_cons_zero, if_true, if_false, List.getElem?_cons_succ, List.getElem?_cons_zero, Option.map_some, eq_self, reduceIte, Nat.reduceEqDiff, Int.reduceEq, Int.reduceLT, Int.reduceLE]
        rw [hTe] at hr
        have hrun := wire_ReadNums.runs hr (.inr rfl) (by rw [g2]; rfl) (by rw [g3]; rfl) (by rw [g4]; rfl)
        rw [g2, g3, g4] at hrun
        exact hrun
      | some ab =>
        obtain ⟨a, b⟩ := ab
        rw [hrn] at g
        obtain ⟨rfl, g2, g3, g4⟩ := g
        have hTe' := wire_ReadNums.eta g2
        rw [g3, g4] at hTe'
        have hz : (many.toNat = 0) ↔ (many = 0) := by omega
        simp only [hz, List.nil_append] at hTe'
        conv at hr =>
          rhs
          rw [hTe']
          simp only [wire_ReadNums.code, wire_ReadNums.rs, wk, List.getD_cons_succ, List.getD_cons_zero, if_true, if_false, List.getElem?_cons_succ, List.getElem?_cons_zero, Option.map_some, eq_self, reduceIte, Nat.reduceEqDiff, Int.reduceEq, Int.reduceLT, Int.reduceLE]
        rw [hTe] at hr
        exact wire_ReadNums.runs hr (.inr rfl) (by simp only [List.getD_cons_succ, List.getD_cons_zero, notTuple_vs, notTuple_int, notTuple_slice, notTuple_bool, notTuple_agg]) (by simp only [List.getD_cons_succ, List.getD_cons_zero, notTuple_vs, notTuple_int, notTuple_slice, notTuple_bool, notTuple_agg]) (by simp only [List.getD_cons_succ, List.getD_cons_zero, notTuple_vs, notTuple_int, notTuple_slice, notTuple_bool, notTuple_agg])
theorem neaptideref01_ReadNums.v {k : Nat} {l : List UInt8} {many : Int} (hv : Okl k l) (hk : k ≠ 2) (hlen : l.length ≤ 140737488355328) (S : AHeap) : vlim Try.prog O neaptideref01_ReadNums.id [by_ k l, .int .i64 many] S = some (readNsV 2 2 many l, S) := by
  obtain ⟨T, hTe⟩ : ∃ T, T = (by_ k l :: .int .i64 many :: undef :: undef :: undef :: undef :: undef :: undef :: undef :: undef :: undef :: undef :: undef :: undef :: undef :: undef :: undef :: undef :: undef :: undef :: undef :: undef :: undef :: undef :: undef :: undef :: undef :: undef :: undef :: undef :: undef :: undef :: undef :: undef :: undef :: undef :: undef :: undef :: undef :: undef :: undef :: undef :: undef :: undef :: undef :: undef :: undef :: undef :: undef :: []) := ⟨_, rfl⟩
  have hr : vcodeV Try.prog O false neaptideref01_ReadNums.code T S = vcodeV Try.prog O false neaptideref01_ReadNums.code T S := rfl
  have c1 := fun S => by_copy hv hlen (S := S)
  unfold readNsV
  by_cases h1 : many < 0
  · conv at hr =>
      rhs
      rw [hTe]
      simp only [neaptideref01_ReadNums.code, neaptideref01_ReadNums.rs, wk, List.getD_cons_succ, List.getD_cons_zero, if_true, if_false, List.getElem?_cons_succ, List.getElem?_cons_zero, Option.map_some, eq_self, reduceIte, Nat.reduceEqDiff, Int.reduceEq, Int.reduceLT, Int.reduceLE, h1]
    rw [hTe] at hr
    rw [if_pos (.inl h1)]
    exact neaptideref01_ReadNums.runs hr (.inr rfl) (by simp only [List.getD_cons_succ, List.getD_cons_zero, notTuple_vs, notTuple_int, notTuple_slice, notTuple_bool, notTuple_agg]) (by simp only [List.getD_cons_succ, List.getD_cons_zero, notTuple_vs, notTuple_int, notTuple_slice, notTuple_bool, notTuple_agg]) (by simp only [List.getD_cons_succ, List.getD_cons_zero, notTuple_vs, notTuple_int, notTuple_slice, notTuple_bool, notTuple_agg])
  · by_cases h2 : 64 < many
    · conv at hr =>
        rhs
        rw [hTe]
        simp only [neaptideref01_ReadNums.code, neaptideref01_ReadNums.rs, wk, List.getD_cons_succ, List.getD_cons_zero, if_true, if_false, List.getElem?_cons_succ, List.getElem?_cons_zero, Option.map_some, eq_self, reduceIte, Nat.reduceEqDiff, Int.reduceEq, Int.reduceLT, Int.reduceLE, h1, h2]
      rw [hTe] at hr
      rw [if_pos (.inr h2)]
      exact neaptideref01_ReadNums.runs hr (.inr rfl) (by simp only [List.getD_cons_succ, List.getD_cons_zero, notTuple_vs, notTuple_int, notTuple_slice, notTuple_bool, notTuple_agg]) (by simp only [List.getD_cons_succ, List.getD_cons_zero, notTuple_vs, notTuple_int, notTuple_slice, notTuple_bool, notTuple_agg]) (by simp only [List.getD_cons_succ, List.getD_cons_zero, notTuple_vs, notTuple_int, notTuple_slice, notTuple_bool, notTuple_agg])
    · rw [if_neg (by omega)]
      conv at hr =>
        rhs
        rw [hTe]
        simp only [neaptideref01_ReadNums.code, neaptideref01_ReadNums.rs, wk, List.getD_cons_succ, List.getD_cons_zero, if_true, if_false, List.getElem?_cons_succ, List.getElem?_cons_zero, Option.map_some, eq_self, reduceIte, Nat.reduceEqDiff, Int.reduceEq, Int.reduceLT, Int.reduceLE, h1, h2, if_neg hk, bz0, bb0, c1]
      generalize hL : loopV (vcodeV Try.prog O false neaptideref01_ReadNums.loop1) _ _ = r at hr
      obtain ⟨e, T', rfl, g⟩ := neaptideref01_ReadNums.round (many := many) (by omega) many.toNat 0 l 2 [] 2 hL rfl rfl rfl rfl rfl (by omega) (by omega) Okl.own hlen Okl.own (by decide) rfl
      cases hrn : readNs many.toNat l with
      | none =>
        rw [hrn] at g
        obtain ⟨rfl, g2, g3, g4⟩ := g
        conv at hr =>
          rhs
          simp only [wk, List.getD_cons_succ, List.getD_cons_zero, if_true, if_false, List.getElem?_cons_succ, List.getElem?_cons_zero, Option.map_some, eq_self, reduceIte, Nat.reduceEqDiff, Int.reduceEq, Int.reduceLT, Int.reduceLE]
        rw [hTe] at hr
        have hrun := neaptideref01_ReadNums.runs hr (.inr rfl) (by rw [g2]; rfl) (by rw [g3]; rfl) (by rw [g4]; rfl)
        rw [g2, g3, g4] at hrun
        exact hrun
      | some ab =>
        obtain ⟨a, b⟩ := ab
        rw [hrn] at g
        obtain ⟨rfl, g2, g3, g4⟩ := g
        have hTe' := neaptideref01_ReadNums.eta g2
        rw [g3, g4] at hTe'
        simp only [ite_self, List.nil_append] at hTe'
        conv at hr =>
          rhs
          rw [hTe']
          simp only [neaptideref01_ReadNums.code, neaptideref01_ReadNums.rs, wk, List.getD_cons_succ, List.getD_cons_zero, if_true, if_false, List.getElem?_cons_succ, List.getElem?_cons_zero, Option.map_some, eq_self, reduceIte, Nat.reduceEqDiff, Int.reduceEq, Int.reduceLT, Int.reduceLE]
        rw [hTe] at hr
        simp only [ite_self]
        exact neaptideref01_ReadNums.runs hr (.inr rfl) (by simp only [List.getD_cons_succ, List.getD_cons_zero, notTuple_vs, notTuple_int, notTuple_slice, notTuple_bool, notTuple_agg]) (by simp only [List.getD_cons_succ, List.getD_cons_zero, notTuple_vs, notTuple_int, notTuple_slice, notTuple_bool, notTuple_agg]) (by simp only [List.getD_cons_succ, List.getD_cons_zero, notTuple_vs, notTuple_int, notTuple_slice, notTuple_bool, notTuple_agg])
end Go.Proofs.Ytgggklfbhmlapaa

namespace Go.Proofs.Ytgggklfbhmlapaa
open Go.Abs

/-- A number that can be read. -/
def Few (n : Int) : Prop := -1 ≤ n ∧ n ≤ 4611686018427387904
theorem readNs_iff : ∀ (m : Nat) (l : List UInt8) (a : List Int) (b : List UInt8), readNs m l = some (a, b) ↔ a.length = m ∧ l = encs a ++ b ∧ ∀ n ∈ a, Few n := by
  intro m
  induction m with
  | zero =>
    intro l a b
    constructor
    · intro h; cases h; exact ⟨rfl, rfl, fun n h => by cases h⟩
    · rintro ⟨h1, h2, _⟩
      have : a = [] := List.length_eq_zero_iff.mp h1
      subst this
      rw [h2]; rfl
  | succ m ih =>
    intro l a b
    rw [readNs]
    constructor
    · intro h
      cases hsc : scan 0 0 l with
      | none => rw [hsc] at h; cases h
      | some nr =>
        obtain ⟨n, r⟩ := nr
        rw [hsc] at h
        dsimp only at h
        split at h
        · rename_i hn
          cases hr : readNs m r with
          | none => rw [hr] at h; cases h
          | some ab =>
            obtain ⟨a', b'⟩ := ab
            rw [hr] at h
            obtain ⟨h1, h2, h3⟩ := (ih r a' b').mp hr
            cases h
            obtain ⟨f1, f2⟩ := scan_form hsc
            refine ⟨by simp [h1], ?_, fun x hx => ?_⟩
            · rw [f1, h2]
              have : ((n : Int) - 1 + 1).toNat = n := by omega
              simp [encs, this]
            · rcases List.mem_cons.1 hx with rfl | hx
              · unfold Few; omega
              · exact h3 x hx
        · cases h
    · rintro ⟨h1, h2, h3⟩
      cases a with
      | nil => simp at h1
      | cons x a =>
        have hx : Few x := h3 x (by simp)
        unfold Few at hx
        have he : encs (x :: a) ++ b = enc (x + 1).toNat ++ (encs a ++ b) := by simp [encs]
        rw [h2, he, scan_enc (by omega)]
        dsimp only
        rw [if_pos (by omega), (ih (encs a ++ b) a b).mpr ⟨by simpa using h1, rfl, fun n hn => h3 n (by simp [hn])⟩]
        have : ((x + 1).toNat : Int) - 1 = x := by omega
        simp only [this]
theorem readNs_len {m : Nat} {l : List UInt8} {a : List Int} {b : List UInt8} (h : readNs m l = some (a, b)) : a.length = m ∧ b.length ≤ l.length := by
  obtain ⟨h1, h2, _⟩ := (readNs_iff m l a b).mp h
  exact ⟨h1, by rw [h2]; simp⟩
theorem encs_inj {a c : List Int} {b d : List UInt8} (h : a.length = c.length) (ha : ∀ n ∈ a, Few n) (hc : ∀ n ∈ c, Few n) (he : encs a ++ b = encs c ++ d) : a = c ∧ b = d := by
  have h1 := (readNs_iff a.length (encs a ++ b) a b).mpr ⟨rfl, rfl, ha⟩
  have h2 := (readNs_iff a.length (encs a ++ b) c d).mpr ⟨h.symm, he, hc⟩
  rw [h1] at h2
  simpa using h2
theorem numsV_ok {k : Nat} {l : List Int} (h : l.length ≤ 64) (h1 : ∀ n ∈ l, -1 ≤ n) (h0 : l ≠ []) : numsV k l = .tuple #[by_ 2 (encs l), .int .i64 0] := by
  unfold numsV
  rw [if_neg (by rintro (h2 | ⟨n, h2, h3⟩); { omega }; { have := h1 n h2; omega }), if_neg h0]
theorem readNsV_pos {k0 k1 m : Nat} {l : List UInt8} (h0 : 0 < m) (h : m ≤ 64) : readNsV k0 k1 m l = match readNs m l with
    | some (a, b) => .tuple #[iz 2 a, by_ 2 b, .int .i64 0]
    | none => .tuple #[.slice none 0 0, .slice none 0 0, .int .i64 11] := by
  unfold readNsV
  rw [if_neg (by omega), Int.toNat_natCast]
  have : (m : Int) ≠ 0 := by omega
  simp only [if_neg this]
  all_goals (cases readNs m l <;> rfl)
/-- The thing whose bytes these are. -/
noncomputable def rd {α : Type} (ok : α → Prop) (e : α → List UInt8) (b : List UInt8) : Option α := open Classical in if h : ∃ x, ok x ∧ b = e x then some h.choose else none
theorem rd_iff {α : Type} {ok : α → Prop} {e : α → List UInt8} (inj : ∀ x y, ok x → ok y → e x = e y → x = y) (b : List UInt8) (x : α) : rd ok e b = some x ↔ ok x ∧ b = e x := by
  unfold rd
  constructor
  · intro h
    split at h
    · rename_i he
      cases h
      exact he.choose_spec
    · cases h
  · intro h
    have he : ∃ x, ok x ∧ b = e x := ⟨x, h⟩
    rw [dif_pos he]
    exact congrArg some (inj _ _ he.choose_spec.1 h.1 (he.choose_spec.2.symm.trans h.2))
/-- The thing with which bytes begin, and the rest. -/
noncomputable def rdp {α : Type} (ok : α → Prop) (e : α → List UInt8) (b : List UInt8) : Option (α × List UInt8) := open Classical in if h : ∃ x : α × List UInt8, ok x.1 ∧ b = e x.1 ++ x.2 then some h.choose else none
theorem rdp_iff {α : Type} {ok : α → Prop} {e : α → List UInt8} (inj : ∀ x y r s, ok x → ok y → e x ++ r = e y ++ s → x = y ∧ r = s) (b : List UInt8) (x : α) (r : List UInt8) : rdp ok e b = some (x, r) ↔ ok x ∧ b = e x ++ r := by
  unfold rdp
  constructor
  · intro h
    split at h
    · rename_i he
      have hs := he.choose_spec
      injection h with h
      rw [h] at hs
      exact hs
    · cases h
  · intro h
    have he : ∃ x : α × List UInt8, ok x.1 ∧ b = e x.1 ++ x.2 := ⟨(x, r), h⟩
    rw [dif_pos he]
    have hs := he.choose_spec
    obtain ⟨h1, h2⟩ := inj _ _ _ _ hs.1 h.1 (hs.2.symm.trans h.2)
    exact congrArg some (Prod.ext h1 h2)
end Go.Proofs.Ytgggklfbhmlapaa

namespace Go.Proofs.Ytgggklfbhmlapaa
open Go.Abs

def txB (t : TxV) : List UInt8 := encs [t.id, t.fee]
def txBV (t : TxV) : Value := if rightB t then .tuple #[by_ 2 (txB t), .int .i64 0] else .tuple #[.slice none 0 0, .int .i64 61]
theorem txB_len {t : TxV} (h : rightB t = true) : (txB t).length ≤ 20 := by
  obtain ⟨h1, h2, h3, h4⟩ := rightB_iff.mp h
  have := encs_len (l := [t.id, t.fee]) (by intro n hn; simp at hn; rcases hn with rfl | rfl <;> omega)
  exact this
theorem iz2_of2 (x y : Int) : sv 2 1 2 [.int .i64 x, .int .i64 y] = iz 2 [x, y] := rfl
theorem tx_Bytes.v (t : TxV) (S : AHeap) : vlim Try.prog O tx_Bytes.id [tv t] S = some (txBV t, S) := by
  obtain ⟨T, hTe⟩ : ∃ T, T = (tv t :: undef :: undef :: undef :: undef :: undef :: undef :: undef :: undef :: undef :: undef :: undef :: undef :: undef :: undef :: undef :: undef :: undef :: undef :: []) := ⟨_, rfl⟩
  have hr : vcodeV Try.prog O false tx_Bytes.code T AHeap.empty = vcodeV Try.prog O false tx_Bytes.code T AHeap.empty := rfl
  have l0 := load_int (t := 3) (o := 0 + 0) (mem1_get t) g_int rfl
  have l1 := load_int (t := 3) (o := 0 + 1) (mem1_get t) g_int rfl
  have lt := lm_api_Tx (mem1_get t)
  unfold txBV
  by_cases h : rightB t = true
  · have hh := rightB_iff.mp h
    have c1 := fun S => wire_Nums.v (l := [t.id, t.fee]) Okl.read (by decide) (by simp; omega) S
    conv at hr =>
      rhs
      rw [hTe]
      simp only [tx_Bytes.code, tx_Bytes.rs, wk, List.getD_cons_succ, List.getD_cons_zero, if_true, if_false, List.getElem?_cons_succ, List.getElem?_cons_zero, Option.map_some, eq_self, reduceIte, Nat.reduceEqDiff, Int.reduceEq, Int.reduceLT, Int.reduceLE, box1, lt, dem1_int, tx_Right.v, h, fa_api_Tx_0, fa_api_Tx_1, l0, l1, bs_L_int_2, iz2_of2, c1, numsV_ok (l := [t.id, t.fee]) (by simp) (by simp; omega) (by simp)]
    rw [hTe] at hr
    rw [if_pos h]
    exact tx_Bytes.runs hr (.inr rfl) (by simp only [List.getD_cons_succ, List.getD_cons_zero, notTuple_vs, notTuple_int, notTuple_slice, notTuple_bool, notTuple_agg]) rfl rfl (clean_tuple (all2 (clean_by (k := 2) (Nat.le_refl 2)) rfl))
  · rw [Bool.not_eq_true] at h
    conv at hr =>
      rhs
      rw [hTe]
      simp only [tx_Bytes.code, tx_Bytes.rs, wk, List.getD_cons_succ, List.getD_cons_zero, if_true, if_false, List.getElem?_cons_succ, List.getElem?_cons_zero, Option.map_some, eq_self, reduceIte, Nat.reduceEqDiff, Int.reduceEq, Int.reduceLT, Int.reduceLE, box1, lt, dem1_int, tx_Right.v, h]
    rw [hTe] at hr
    rw [if_neg (by rw [h]; decide)]
    exact tx_Bytes.runs hr (.inr rfl) rfl rfl rfl rfl
theorem tx0 : tv ⟨0, 0⟩ = .agg [Value.int .i64 0, .int .i64 0].toArray := rfl
theorem al_tx (S : AHeap) : aAlloc Try.prog 47 S = some (.pointer (some ⟨S.next, 0, none⟩), S.push (.cells (fT ⟨0, 0⟩) (.own []) 0)) := by kernel_rfl
theorem st_tx (S : AHeap) (t : TxV) : ∃ S2, vStore Try.prog 47 (.pointer (some ⟨S.next, 0, none⟩)) (tv t) (S.push (.cells (fT ⟨0, 0⟩) (.own []) 0)) = some (undef, S2) ∧ S2.get S.next = some (.cells (fT t) (.own []) 0) ∧ Ext S S2 ∧ S.next < S2.next :=
  new_store S (by rw [cells_agg, List.toList_toArray]; rfl) s_api_Tx rfl rfl
theorem re_tx {S S0 : AHeap} {q : Nat} {u : TxV} (t : TxV) (hg : S.get q = some (.cells (fT u) (.own []) 0)) (hE : Ext S0 S) (hq : S0.next ≤ q) : ∃ S2, vStore Try.prog 47 (.pointer (some ⟨q, 0, none⟩)) (tv t) S = some (undef, S2) ∧ S2.get q = some (.cells (fT t) (.own []) 0) ∧ Ext S0 S2 ∧ S2.next = S.next ∧ ∀ k, k ≠ q → S2.get k = S.get k :=
  mem_store hg s_api_Tx rfl rfl (by simp [fT]) hE hq
theorem okK_tx {R : Type} {a b : Int} (r : Option R) (p : Stay r) : okK (.agg [Value.int .i64 a, .int .i64 b].toArray) r p = r := okK_of rfl r p
theorem ld_tx {S : AHeap} {q : Nat} {t : TxV} (h : S.get q = some (.cells (fT t) (.own []) 0)) : vLoad Try.prog false 47 (.pointer (some ⟨q, 0, none⟩)) S = some (tv t, S) := lm_api_Tx h
theorem ld_tx0 {S : AHeap} {q : Nat} {t : TxV} (h : S.get q = some (.cells (fT t) (.own []) 0)) : vLoad Try.prog false 3 (.pointer (some ⟨q, 0 + 0, none⟩)) S = some (.int .i64 t.id, S) := load_int (t := 3) (o := 0 + 0) h g_int rfl
theorem ld_tx1 {S : AHeap} {q : Nat} {t : TxV} (h : S.get q = some (.cells (fT t) (.own []) 0)) : vLoad Try.prog false 3 (.pointer (some ⟨q, 0 + 1, none⟩)) S = some (.int .i64 t.fee, S) := load_int (t := 3) (o := 0 + 1) h g_int rfl

theorem iz2a (k : Nat) (hk : k ≤ 2) (a b : Int) (h : k ≠ 0) (S : AHeap) : vIndexAddr Try.prog 53 (iz k [a, b]) (.int .i64 0) S = some (EP [.int .i64 a], S) := iz_at ⟨hk, fun h0 => absurd h0 h⟩ (by decide) (by simp)
theorem iz2b (k : Nat) (hk : k ≤ 2) (a b : Int) (h : k ≠ 0) (S : AHeap) : vIndexAddr Try.prog 53 (iz k [a, b]) (.int .i64 1) S = some (EP [.int .i64 b], S) := iz_at ⟨hk, fun h0 => absurd h0 h⟩ (by decide) (by simp)
def partV (l : List UInt8) : Value := match readNs 2 l with
  | some ([a, b], r) => .tuple #[tv ⟨a, b⟩, by_ 2 r, .bool (rightB ⟨a, b⟩)]
  | _ => .tuple #[tv ⟨0, 0⟩, .slice none 0 0, .bool false]
theorem readNs2 (l : List UInt8) : readNs 2 l = none ∨ ∃ a b r, readNs 2 l = some ([a, b], r) ∧ r.length ≤ l.length := by
  cases h : readNs 2 l with
  | none => exact .inl rfl
  | some ar =>
    obtain ⟨a, r⟩ := ar
    obtain ⟨h1, h2⟩ := readNs_len h
    match a, h1 with
    | [x, y], _ => exact .inr ⟨x, y, r, rfl, h2⟩
theorem tx_part.v {k : Nat} {l : List UInt8} (hk : Okl k l) (k2 : k ≠ 2) (hl : l.length ≤ 140737488355328) (S : AHeap) : vlim Try.prog O tx_part.id [by_ k l] S = some (partV l, S) := by
  obtain ⟨T, hTe⟩ : ∃ T, T = (by_ k l :: undef :: undef :: undef :: undef :: undef :: undef :: undef :: undef :: undef :: undef :: undef :: undef :: undef :: undef :: undef :: undef :: undef :: undef :: undef :: undef :: undef :: undef :: undef :: undef :: undef :: undef :: undef :: undef :: []) := ⟨_, rfl⟩
  have hr : vcodeV Try.prog O false tx_part.code T AHeap.empty = vcodeV Try.prog O false tx_part.code T AHeap.empty := rfl
  have c1 := fun S => wire_ReadNums.v (many := 2) hk k2 hl S
  have a1 := al_tx AHeap.empty
  have g1 : (AHeap.empty.push (.cells (fT ⟨0, 0⟩) (.own []) 0)).get 0 = some (.cells (fT ⟨0, 0⟩) (.own []) 0) := by kernel_rfl
  have n1 : (AHeap.empty.push (.cells (fT ⟨0, 0⟩) (.own []) 0)).next = 1 := by kernel_rfl
  rw [show AHeap.empty.next = 0 from rfl] at a1
  have r1 : readNsV 0 (if k = 0 then 0 else 2) 2 l = _ := readNsV_pos (m := 2) (by decide) (by decide)
  rw [r1] at c1
  unfold partV
  generalize hS1 : AHeap.empty.push (.cells (fT ⟨0, 0⟩) (.own []) 0) = S1 at a1 g1 n1
  rcases readNs2 l with h | ⟨a, b, r, h, hlr⟩
  · rw [h] at c1 ⊢
    obtain ⟨S2, p1, p2, p3, p4⟩ := re_tx ⟨0, 0⟩ g1 (Ext.refl AHeap.empty |>.trans (hS1 ▸ Ext.push _ _)) (Nat.zero_le _)
    conv at hr =>
      rhs
      rw [hTe]
      simp only [tx_part.code, tx_part.rs, wk, List.getD_cons_succ, List.getD_cons_zero, if_true, if_false, List.getElem?_cons_succ, List.getElem?_cons_zero, Option.map_some, eq_self, reduceIte, Nat.reduceEqDiff, Int.reduceEq, Int.reduceLT, Int.reduceLE, if_neg k2, a1, c1, bd_api_Tx, p1]
    rw [hTe] at hr
    exact tx_part.runs hr (.inr rfl) (ld_tx p2) rfl rfl rfl (all1 (clean_by (k := k) hk.le)) rfl
  · rw [h] at c1 ⊢
    have e0 := iz2a 1 (by decide) a b (by decide)
    have e1 := iz2b 1 (by decide) a b (by decide)
    have c2 : ∀ S, vlim Try.prog O 47 [.agg [Value.int .i64 a, .int .i64 b].toArray] S = some (.bool (rightB ⟨a, b⟩), S) := fun S => tx_Right.v ⟨a, b⟩ S
    obtain ⟨S2, p1, p2, p3, p4⟩ := st_tx S1 ⟨a, b⟩
    have g2 : S2.get 0 = some (.cells (fT ⟨0, 0⟩) (.own []) 0) := by rw [p3.get 0 (by omega), g1]
    obtain ⟨S3, q1, q2, q3, q4, q5⟩ := re_tx ⟨a, b⟩ g2 (Ext.trans (hS1 ▸ Ext.push _ _ : Ext AHeap.empty S1) p3) (Nat.zero_le _)
    conv at hr =>
      rhs
      rw [hTe]
      simp only [tx_part.code, tx_part.rs, wk, List.getD_cons_succ, List.getD_cons_zero, if_true, if_false, List.getElem?_cons_succ, List.getElem?_cons_zero, Option.map_some, eq_self, reduceIte, Nat.reduceEqDiff, Int.reduceEq, Int.reduceLT, Int.reduceLE, if_neg k2, a1, c1, e0, e1, iz_load, bd_api_Tx_0_1 (cells_int) (cells_int), al_tx, p1, ld_tx p2, q1, c2, stillQ_same p2, okK_tx]
    rw [hTe] at hr
    exact tx_part.runs hr (.inr rfl) (ld_tx q2) rfl (by simp only [List.getD_cons_succ, List.getD_cons_zero, notTuple_vs, notTuple_int, notTuple_slice, notTuple_bool, notTuple_agg]) rfl (all1 (clean_by (k := k) hk.le)) (clean_tuple (all3 rfl (clean_by (k := 2) (Nat.le_refl 2)) rfl))

noncomputable def txRd (l : List UInt8) : Option TxV := rd (fun t => rightB t = true) txB l
theorem txB_inj {a b : TxV} {r s : List UInt8} (ha : rightB a = true) (hb : rightB b = true) (h : txB a ++ r = txB b ++ s) : a = b ∧ r = s := by
  obtain ⟨a1, a2, a3, a4⟩ := rightB_iff.mp ha
  obtain ⟨b1, b2, b3, b4⟩ := rightB_iff.mp hb
  obtain ⟨h1, h2⟩ := encs_inj (a := [a.id, a.fee]) (c := [b.id, b.fee]) rfl (by simp [Few]; omega) (by simp [Few]; omega) h
  refine ⟨?_, h2⟩
  cases a; cases b
  simp at h1
  rw [h1.1, h1.2]
theorem txRd_iff (l : List UInt8) (t : TxV) : txRd l = some t ↔ rightB t = true ∧ l = txB t :=
  rd_iff (fun x y hx hy h => (txB_inj (r := []) (s := []) hx hy (by simpa using h)).1) l t
theorem txRd_none {l : List UInt8} (h : ∀ t, ¬ (rightB t = true ∧ l = txB t)) : txRd l = none := by
  cases hr : txRd l with
  | none => rfl
  | some t => exact absurd ((txRd_iff l t).mp hr) (h t)
noncomputable def txRdV (l : List UInt8) : Value := match txRd l with
  | some t => .tuple #[tv t, .int .i64 0]
  | none => .tuple #[tv ⟨0, 0⟩, .int .i64 61]
theorem txRd_of {l r : List UInt8} {a b : Int} (h : readNs 2 l = some ([a, b], r)) : txRd l = if rightB ⟨a, b⟩ = true ∧ r = [] then some ⟨a, b⟩ else none := by
  obtain ⟨_, h2, h3⟩ := (readNs_iff _ _ _ _).mp h
  split
  · rename_i hc
    exact (txRd_iff _ _).mpr ⟨hc.1, by rw [h2, hc.2, List.append_nil]; rfl⟩
  · rename_i hc
    refine txRd_none fun t ht => hc ?_
    obtain ⟨b1, b2, b3, b4⟩ := rightB_iff.mp ht.1
    have h4 : encs [t.id, t.fee] ++ [] = encs [a, b] ++ r := by rw [List.append_nil, ← h2]; exact ht.2.symm
    obtain ⟨h5, h6⟩ := encs_inj (a := [t.id, t.fee]) (c := [a, b]) rfl (by simp [Few]; omega) h3 h4
    simp at h5
    rw [← h5.1, ← h5.2]
    exact ⟨ht.1, h6.symm⟩
theorem txRd_of_none {l : List UInt8} (h : readNs 2 l = none) : txRd l = none := by
  refine txRd_none fun t ht => ?_
  obtain ⟨b1, b2, b3, b4⟩ := rightB_iff.mp ht.1
  have := (readNs_iff 2 l [t.id, t.fee] []).mpr ⟨rfl, by rw [List.append_nil]; exact ht.2, by simp [Few]; omega⟩
  rw [h] at this
  cases this
end Go.Proofs.Ytgggklfbhmlapaa

namespace Go.Abs

variable {K : Type}
/-- A map in memory has these entries. -/
def MapAt (enc : K → Value) (S : AHeap) (q : Nat) (m : List (K × Value)) : Prop :=
  ∃ es c, S.get q = some (.map es c) ∧ es.map (fun e => (e.key, e.val)) = m.map fun p => (enc p.1, p.2)
theorem map_new {P : Program} {t : TypeId} (enc : K → Value) (S : AHeap) : ∃ S2, aMakeMap P t none S = some (.map (some S.next), S2) ∧ MapAt enc S2 S.next [] ∧ S2.next = S.next + 1 ∧ (∀ j, j < S.next → S2.get j = S.get j) ∧ Ext S S2 :=
  ⟨_, rfl, ⟨[], 0, by rw [AHeap.get_push, if_pos rfl], rfl⟩, by simp, fun j hj => by rw [AHeap.get_push, if_neg (by omega)], Ext.push _ _⟩
theorem MapAt.keep {enc : K → Value} {S : AHeap} {q : Nat} {m : List (K × Value)} {S2 : AHeap} (h : MapAt enc S q m) (hg : S2.get q = S.get q) : MapAt enc S2 q m := by
  obtain ⟨es, c, h1, h2⟩ := h
  exact ⟨es, c, hg.trans h1, h2⟩
variable [DecidableEq K]
def mget : List (K × Value) → K → Option Value
  | [], _ => none
  | (a, v) :: m, k => if a = k then some v else mget m k
def midx : List (K × Value) → K → Nat
  | [], _ => 0
  | (a, _) :: m, k => if a = k then 0 else midx m k + 1
def mput : List (K × Value) → K → Value → List (K × Value)
  | [], k, x => [(k, x)]
  | (a, v) :: m, k, x => if a = k then (k, x) :: m else (a, v) :: mput m k x
theorem mget_put (m : List (K × Value)) (k j : K) (x : Value) : mget (mput m k x) j = if k = j then some x else mget m j := by
  induction m with
  | nil => rfl
  | cons p m ih =>
    obtain ⟨a, v⟩ := p
    by_cases h : a = k
    · subst h
      simp only [mput, if_true, mget]
      by_cases h2 : a = j <;> simp [h2]
    · simp only [mput, if_neg h, mget, ih]
      by_cases h2 : a = j
      · rw [if_pos h2, if_pos h2]
        rw [if_neg (fun h3 => h (h2.trans h3.symm))]
      · rw [if_neg h2, if_neg h2]
theorem mput_new {m : List (K × Value)} {k : K} {x : Value} (h : mget m k = none) : mput m k x = m ++ [(k, x)] := by
  induction m with
  | nil => rfl
  | cons p m ih =>
    obtain ⟨a, v⟩ := p
    unfold mget at h
    split at h
    · cases h
    · rename_i hn
      simp only [mput, if_neg hn, ih h, List.cons_append]
/-- Keys are told apart. -/
structure KeyOk (enc : K → Value) (kd : TypeDesc) : Prop where
  kind : ∀ k, keyKind kd (enc k) = true
  same : ∀ a b, Instr.sameNow kd (enc a) (enc b) = some (decide (a = b))
theorem key_int : KeyOk (fun n : Int => Value.int .i64 n) (.int .i64) := ⟨fun _ => rfl, fun a b => by
  show (if IntKind.i64 = IntKind.i64 then some (a == b) else none) = _
  rw [if_pos rfl]; by_cases h : a = b <;> simp [h]⟩
theorem findNow_map {enc : K → Value} {kd : TypeDesc} (hK : KeyOk enc kd) (k : K) : ∀ (es : List MapEntry) (m : List (K × Value)) (i : Nat), es.map (fun e => (e.key, e.val)) = m.map (fun p => (enc p.1, p.2)) →
    Instr.findNow kd (enc k) es i = some ((mget m k).map fun v => (i + midx m k, v)) := by
  intro es
  induction es with
  | nil =>
    intro m i h
    cases m with
    | nil => rfl
    | cons p m => simp at h
  | cons e es ih =>
    intro m i h
    cases m with
    | nil => simp at h
    | cons p m =>
      obtain ⟨a, v⟩ := p
      simp only [List.map_cons, List.cons.injEq, Prod.mk.injEq] at h
      obtain ⟨⟨h1, h2⟩, h3⟩ := h
      simp only [Instr.findNow, h1, hK.same, mget, midx]
      by_cases hk : k = a
      · simp [hk, h2]
      · rw [decide_eq_false hk, if_neg (fun h => hk h.symm), if_neg (fun h => hk h.symm)]
        simp only []
        rw [ih m (i + 1) h3]
        congr 2
        funext x
        congr 1
        omega
theorem modify_at {enc : K → Value} {k : K} {x : Value} : ∀ (es : List MapEntry) (m : List (K × Value)), es.map (fun e => (e.key, e.val)) = m.map (fun p => (enc p.1, p.2)) → mget m k ≠ none →
    (es.modify (midx m k) fun e => { e with key := enc k, val := x }).map (fun e => (e.key, e.val)) = (mput m k x).map fun p => (enc p.1, p.2) := by
  intro es
  induction es with
  | nil =>
    intro m h hn
    cases m with
    | nil => exact absurd rfl hn
    | cons p m => simp at h
  | cons e es ih =>
    intro m h hn
    cases m with
    | nil => simp at h
    | cons p m =>
      obtain ⟨a, v⟩ := p
      simp only [List.map_cons, List.cons.injEq, Prod.mk.injEq] at h
      obtain ⟨⟨h1, h2⟩, h3⟩ := h
      simp only [midx, mput]
      by_cases hk : a = k
      · simp [hk, h3]
      · rw [if_neg hk, if_neg hk, List.modify_succ_cons]
        have hn' : mget m k ≠ none := by unfold mget at hn; rwa [if_neg hk] at hn
        simp only [List.map_cons, ih m h3 hn', h1, h2]
variable {P : Program} {t kt et : TypeId} {kd : TypeDesc} {z : Value} {enc : K → Value} {S S0 : AHeap} {q : Nat} {m : List (K × Value)}
theorem map_get (hK : KeyOk enc kd) (hm : MapAt enc S q m) (ht : P.underlying t = some (.map kt et)) (hk : P.underlying kt = some kd) (hz : zeroOf P et = some z) (hg : ground z = true) (k : K) :
    vLookup P false t (.map (some q)) (enc k) false S = some ((mget m k).getD z, S) := by
  obtain ⟨es, c, h1, h2⟩ := hm
  unfold vLookup aLookup
  simp only [Bool.false_eq_true, if_false, ht, hk, hK.kind, if_true, h1, findNow_map hK k es m 0 h2]
  cases mget m k with
  | none => simp [hz, hg]
  | some v => simp
theorem map_get2 (hK : KeyOk enc kd) (hm : MapAt enc S q m) (ht : P.underlying t = some (.map kt et)) (hk : P.underlying kt = some kd) (hz : zeroOf P et = some z) (hg : ground z = true) (k : K) :
    vLookup P false t (.map (some q)) (enc k) true S = some (.tuple #[(mget m k).getD z, .bool (mget m k).isSome], S) := by
  obtain ⟨es, c, h1, h2⟩ := hm
  unfold vLookup aLookup
  simp only [Bool.false_eq_true, if_false, ht, hk, hK.kind, if_true, h1, findNow_map hK k es m 0 h2]
  cases mget m k with
  | none => simp [hz, hg]
  | some v => simp
theorem map_put (hK : KeyOk enc kd) (hm : MapAt enc S q m) (ht : P.underlying t = some (.map kt et)) (hk : P.underlying kt = some kd) (k : K) (x : Value) :
    ∃ S2, aMapUpdate P t (.map (some q)) (enc k) x S = some (undef, S2) ∧ MapAt enc S2 q (mput m k x) ∧ S2.next = S.next ∧ (∀ j, j ≠ q → S2.get j = S.get j) ∧ (∀ S0, Ext S0 S → S0.next ≤ q → Ext S0 S2) := by
  obtain ⟨es, c, h1, h2⟩ := hm
  unfold aMapUpdate
  simp only [ht, hk, hK.kind, if_true, h1, findNow_map hK k es m 0 h2]
  cases hg : mget m k with
  | none =>
    refine ⟨_, rfl, ⟨es ++ [{ key := enc k, val := x, born := c }], c + 1, by rw [AHeap.get_set, if_pos rfl], ?_⟩, by simp, fun j hj => by rw [AHeap.get_set, if_neg hj], fun S0 hE hq => hE.set hq _⟩
    rw [mput_new hg]
    simp [h2]
  | some v =>
    refine ⟨_, rfl, ⟨_, c, by simp only [Option.map_some, Nat.zero_add, AHeap.get_set, if_true], modify_at es m h2 (by rw [hg]; simp)⟩, by simp, fun j hj => by rw [AHeap.get_set, if_neg hj], fun S0 hE hq => hE.set hq _⟩
end Go.Abs

namespace Go.Proofs.Ytgggklfbhmlapaa
open Go.Abs

abbrev tl (k : Nat) (l : List TxV) : Value := vs fT 2 k l
theorem fT_len (t : TxV) : (fT t).length = 2 := rfl
theorem fT_one (t : TxV) : (fT t).all (·.oneCell') = true := rfl
theorem tl_len {k : Nat} {l : List TxV} {S : AHeap} (h : Okl k l) : vLen Try.prog 27 (tl k l) S = some (.int .i64 l.length, S) := vs_len u_L_api_Tx h
theorem tl_pre {k : Nat} {l pre suf : List TxV} {t : TxV} {S : AHeap} (h : Okl k l) (hl : l = pre ++ t :: suf) : vIndexAddr Try.prog 27 (tl k l) (.int .i64 pre.length) S = some (EP [.int .i64 t.id, .int .i64 t.fee], S) := by
  have h1 : (pre.length : Int) < (l.length : Int) := by rw [hl]; simp; omega
  rw [vs_at u_L_api_Tx s_api_Tx fT_len h (by omega) h1, at_pre hl]; rfl
theorem tl_slice {k : Nat} {l : List TxV} {S : AHeap} {lo hi : Option Value} {i j : Int} (h : Okl k l) (hlo : intOr 0 lo = some i) (hhi : intOr l.length hi = some j) (h0 : 0 ≤ i) (hij : i ≤ j) (hj : j ≤ l.length) : vSlice Try.prog 27 (tl k l) lo hi S = some (tl (if k = 2 then 1 else k) ((l.drop i.toNat).take (j.toNat - i.toNat)), S) := vs_slice u_L_api_Tx s_api_Tx fT_len h hlo hhi h0 hij hj
theorem tl_more {k : Nat} {l : List TxV} {t : TxV} {S : AHeap} (h : Okl k l) (hk : k ≠ 1) (hl : l.length ≤ 8796093022000) : vAppend Try.prog 27 27 (tl k l) (tl 2 [t]) S = some (tl 2 (l ++ [t]), S) := by
  rw [vs_append u_L_api_Tx s_api_Tx o_api_Tx rfl b_api_Tx (by omega) u_L_api_Tx fT_len fT_one h hk Okl.own (by simp; omega) (by simp; omega), if_neg (fun h => by have := h.2; simp at this)]
theorem mget_set {α : Type} (g : α → Int) (v : Value) (l : List α) (k : Int) : mget (l.map fun t => (g t, v)) k = if k ∈ l.map g then some v else none := by
  induction l with
  | nil => rfl
  | cons t l ih =>
    simp only [List.map_cons, mget, ih, List.mem_cons]
    by_cases h : g t = k
    · simp [h]
    · have h' : ¬ k = g t := fun e => h e.symm
      simp [h, h']
abbrev kI : Int → Value := fun n => .int .i64 n
def unl (l : List TxV) : Bool := decide ((l.map TxV.id).Nodup) && decide (l.length ≤ 3)

theorem tx_unlike.round {k : Nat} {l : List TxV} (hk : Okl k l) (hl : l.length ≤ 8796093022208) {q : Nat} : ∀ (suf pre : List TxV) {T : List Value} {S : AHeap} {r : St}, loopV (vcodeV Try.prog O false tx_unlike.loop1) T S = r → T.length = 24 →
    T.getD 0 undef = tl k l → T.getD 3 undef = .map (some q) → T.getD 7 undef = tl k l → T.getD 8 undef = .int .i64 l.length → T.getD 9 undef = .int .i64 pre.length → l = pre ++ suf →
    MapAt kI S q (pre.map fun t => (t.id, .bool true)) → q < S.next → (pre.map TxV.id).Nodup →
    ∃ e T' S', r = some (e, T', S') ∧ if (l.map TxV.id).Nodup then e = .exit 0 ∧ T'.length = 24 ∧ T'.getD 0 undef = tl k l else e = .ret ∧ T'.getD 2 undef = .bool false := by
  intro suf
  induction suf with
  | nil =>
    intro pre T S r hL hT h0 h3 h7 h8 h9 hpre hm hq hn
    have hTe := tx_unlike.eta hT
    rw [h0, h3, h7, h8, h9] at hTe
    have hr : vcodeV Try.prog O false tx_unlike.loop1 T S = vcodeV Try.prog O false tx_unlike.loop1 T S := rfl
    have d1 : ¬ (pre.length : Int) < (l.length : Int) := by rw [hpre]; simp
    conv at hr =>
      rhs
      rw [hTe]
      simp only [tx_unlike.loop1, tx_unlike.code, tx_unlike.rs, wk, List.getD_cons_succ, List.getD_cons_zero, if_true, if_false, List.getElem?_cons_succ, List.getElem?_cons_zero, Option.map_some, eq_self, reduceIte, Nat.reduceEqDiff, Int.reduceEq, Int.reduceLT, Int.reduceLE, d1]
    refine ⟨_, _, _, hL.symm.trans (loopV_exit hr (by simp)), ?_⟩
    rw [if_pos (by rw [hpre, List.append_nil]; exact hn)]
    exact ⟨rfl, rfl, rfl⟩
  | cons t suf ih =>
    intro pre T S r hL hT h0 h3 h7 h8 h9 hpre hm hq hn
    have hTe := tx_unlike.eta hT
    rw [h0, h3, h7, h8, h9] at hTe
    have hr : vcodeV Try.prog O false tx_unlike.loop1 T S = vcodeV Try.prog O false tx_unlike.loop1 T S := rfl
    have d1 : (pre.length : Int) < (l.length : Int) := by rw [hpre]; simp; omega
    have e1 := fun S => tl_pre (S := S) hk hpre
    have wi : IntKind.i64.wrap ((pre.length : Int) + 1) = ((pre ++ [t]).length : Int) := by rw [wrap_i64 (by omega) (by omega)]; simp
    obtain ⟨S2, p1, p2, p3, p4⟩ := st_tx S t
    have hm2 : MapAt kI S2 q (pre.map fun t => (t.id, .bool true)) := hm.keep (p3.get q hq)
    have m1 : vLookup Try.prog false 77 (.map (some q)) (.int .i64 t.id) false S2 = _ := map_get key_int hm2 u_M_int_bool u_int o_bool rfl t.id
    rw [mget_set] at m1
    by_cases ht : t.id ∈ pre.map TxV.id
    · rw [if_pos ht] at m1
      conv at hr =>
        rhs
        rw [hTe]
        simp only [tx_unlike.loop1, tx_unlike.code, tx_unlike.rs, wk, List.getD_cons_succ, List.getD_cons_zero, if_true, if_false, List.getElem?_cons_succ, List.getElem?_cons_zero, Option.map_some, eq_self, reduceIte, Nat.reduceEqDiff, Int.reduceEq, Int.reduceLT, Int.reduceLE, d1, e1, le_api_Tx, al_tx, p1, fa_api_Tx_0, ld_tx0 p2, m1, Option.getD_some]
      refine ⟨_, _, _, hL.symm.trans (loopV_exit hr (by simp)), ?_⟩
      rw [if_neg (by rw [hpre]; simp only [List.map_append, List.map_cons, List.nodup_append]; intro h; exact h.2.2 _ ht _ (by simp) rfl)]
      exact ⟨rfl, rfl⟩
    · rw [if_neg ht] at m1
      obtain ⟨S3, u1, u2, u3, u4, u5⟩ := map_put key_int hm2 u_M_int_bool u_int t.id (.bool true)
      have u1' : aMapUpdate Try.prog 77 (.map (some q)) (.int .i64 t.id) (.bool true) S2 = some (undef, S3) := u1
      rw [mput_new (by rw [mget_set, if_neg ht])] at u2
      conv at hr =>
        rhs
        rw [hTe]
        simp only [tx_unlike.loop1, tx_unlike.code, tx_unlike.rs, wk, List.getD_cons_succ, List.getD_cons_zero, if_true, if_false, List.getElem?_cons_succ, List.getElem?_cons_zero, Option.map_some, eq_self, reduceIte, Nat.reduceEqDiff, Int.reduceEq, Int.reduceLT, Int.reduceLE, d1, e1, le_api_Tx, al_tx, p1, fa_api_Tx_0, ld_tx0 p2, m1, Option.getD_none, u1', wi]
      refine ih (pre ++ [t]) ((loopV_step hr).symm.trans hL) rfl rfl rfl rfl rfl rfl (by simp [hpre]) (by simpa using u2) (by omega) ?_
      simp only [List.map_append, List.map_cons, List.map_nil, List.nodup_append]
      exact ⟨hn, by simp, fun a ha b hb => by simp at hb; subst hb; exact fun h => ht (h ▸ ha)⟩
theorem tx_unlike.v {k : Nat} {l : List TxV} (hk : Okl k l) (k2 : k ≠ 2) (hl : l.length ≤ 8796093022208) (S : AHeap) : vlim Try.prog O tx_unlike.id [tl k l] S = some (.bool (unl l), S) := by
  obtain ⟨T, hTe⟩ : ∃ T, T = (tl k l :: undef :: undef :: undef :: undef :: undef :: undef :: undef :: undef :: undef :: undef :: undef :: undef :: undef :: undef :: undef :: undef :: undef :: undef :: undef :: undef :: undef :: undef :: undef :: []) := ⟨_, rfl⟩
  have hr : vcodeV Try.prog O false tx_unlike.code T AHeap.empty = vcodeV Try.prog O false tx_unlike.code T AHeap.empty := rfl
  obtain ⟨S1, m1, m2, m3, m4, m5⟩ := map_new (P := Try.prog) (t := 77) kI AHeap.empty
  conv at hr =>
    rhs
    rw [hTe]
    simp only [tx_unlike.code, tx_unlike.rs, wk, List.getD_cons_succ, List.getD_cons_zero, if_true, if_false, List.getElem?_cons_succ, List.getElem?_cons_zero, Option.map_some, eq_self, reduceIte, Nat.reduceEqDiff, Int.reduceEq, Int.reduceLT, Int.reduceLE, m1, if_neg k2, tl_len hk]
  generalize hL : loopV (vcodeV Try.prog O false tx_unlike.loop1) _ _ = r at hr
  obtain ⟨e, T', S', rfl, g⟩ := tx_unlike.round hk hl l [] hL rfl rfl rfl rfl rfl rfl rfl m2 (by omega) List.nodup_nil
  unfold unl
  by_cases h : (l.map TxV.id).Nodup
  · rw [if_pos h] at g
    obtain ⟨rfl, g2, g3⟩ := g
    have hTe' := tx_unlike.eta g2
    rw [g3] at hTe'
    have d3 : decide ((l.length : Int) ≤ 3) = decide (l.length ≤ 3) := decide_eq_decide.mpr (by omega)
    conv at hr =>
      rhs
      rw [hTe']
      simp only [tx_unlike.code, tx_unlike.rs, wk, List.getD_cons_succ, List.getD_cons_zero, if_true, if_false, List.getElem?_cons_succ, List.getElem?_cons_zero, Option.map_some, eq_self, reduceIte, Nat.reduceEqDiff, Int.reduceEq, Int.reduceLT, Int.reduceLE, if_neg k2, tl_len hk, d3]
    rw [hTe] at hr
    rw [decide_eq_true h, Bool.true_and]
    exact tx_unlike.runs hr (.inr rfl) (all1 (clean_vs hk.le fun _ _ => rfl)) rfl
  · rw [if_neg h] at g
    obtain ⟨rfl, g2⟩ := g
    conv at hr =>
      rhs
      simp only [wk, List.getD_cons_succ, List.getD_cons_zero, if_true, if_false, List.getElem?_cons_succ, List.getElem?_cons_zero, Option.map_some, eq_self, reduceIte, Nat.reduceEqDiff, Int.reduceEq, Int.reduceLT, Int.reduceLE]
    rw [hTe] at hr
    rw [decide_eq_false h, Bool.false_and]
    have hrun := tx_unlike.runs (S := S) hr (.inr rfl) (all1 (clean_vs hk.le fun _ _ => rfl)) (by rw [g2]; rfl)
    rw [g2] at hrun
    exact hrun

def txsOk (l : List TxV) : Bool := unl l && l.all rightB
def flat (l : List TxV) : List Int := l.flatMap fun t => [t.id, t.fee]
def txsB (l : List TxV) : List UInt8 := encs ((l.length : Int) :: flat l)
def txsV (l : List TxV) : Value := if txsOk l then .tuple #[by_ 2 (txsB l), .int .i64 0] else .tuple #[.slice none 0 0, .int .i64 61]
theorem flat_append (a b : List TxV) : flat (a ++ b) = flat a ++ flat b := by simp [flat]
theorem flat_len (l : List TxV) : (flat l).length = 2 * l.length := by
  induction l with
  | nil => rfl
  | cons t l ih => rw [show flat (t :: l) = [t.id, t.fee] ++ flat l from rfl, List.length_append, ih]; simp; omega
theorem flat_few {l : List TxV} (h : ∀ t ∈ l, rightB t = true) : ∀ n ∈ flat l, 0 ≤ n ∧ n ≤ 1000000 := by
  intro n hn
  simp only [flat, List.mem_flatMap] at hn
  obtain ⟨t, h1, h2⟩ := hn
  obtain ⟨b1, b2, b3, b4⟩ := rightB_iff.mp (h t h1)
  simp at h2
  omega
theorem txsB_split (l : List TxV) : txsB l = encs [(l.length : Int)] ++ encs (flat l) := encs_append [(l.length : Int)] (flat l)
theorem encs_flat_len {l : List TxV} (h : ∀ t ∈ l, rightB t = true) : (encs (flat l)).length ≤ 20 * l.length := by
  have h1 := encs_len (l := flat l) (fun n hn => by have := flat_few h n hn; omega)
  rw [flat_len] at h1
  omega

theorem tx_List.round {k : Nat} {l : List TxV} (hk : Okl k l) (hl : l.length ≤ 3) {A : List UInt8} (hA : A.length ≤ 100) : ∀ (suf pre : List TxV) {T : List Value} {S : AHeap} {r : St}, loopV (vcodeV Try.prog O false tx_List.loop1) T S = r → T.length = 39 →
    T.getD 4 undef = by_ 2 (A ++ encs (flat pre)) → T.getD 20 undef = tl k l → T.getD 21 undef = .int .i64 l.length → T.getD 22 undef = .int .i64 pre.length → l = pre ++ suf → (∀ t ∈ pre, rightB t = true) →
    ∃ e T' S', r = some (e, T', S') ∧ if l.all rightB = true then e = .exit 0 ∧ T'.length = 39 ∧ T'.getD 4 undef = by_ 2 (A ++ encs (flat l)) else e = .ret ∧ T'.getD 2 undef = .slice none 0 0 ∧ T'.getD 3 undef = .int .i64 61 := by
  intro suf
  induction suf with
  | nil =>
    intro pre T S r hL hT h4 h20 h21 h22 hpre hp
    have hTe := tx_List.eta hT
    rw [h4, h20, h21, h22] at hTe
    have hr : vcodeV Try.prog O false tx_List.loop1 T S = vcodeV Try.prog O false tx_List.loop1 T S := rfl
    have d1 : ¬ (pre.length : Int) < (l.length : Int) := by rw [hpre]; simp
    conv at hr =>
      rhs
      rw [hTe]
      simp only [tx_List.loop1, tx_List.code, tx_List.rs, wk, List.getD_cons_succ, List.getD_cons_zero, if_true, if_false, List.getElem?_cons_succ, List.getElem?_cons_zero, Option.map_some, eq_self, reduceIte, Nat.reduceEqDiff, Int.reduceEq, Int.reduceLT, Int.reduceLE, d1]
    refine ⟨_, _, _, hL.symm.trans (loopV_exit hr (by simp)), ?_⟩
    rw [List.append_nil] at hpre
    rw [hpre, if_pos (List.all_eq_true.mpr hp)]
    exact ⟨rfl, rfl, rfl⟩
  | cons t suf ih =>
    intro pre T S r hL hT h4 h20 h21 h22 hpre hp
    have hTe := tx_List.eta hT
    rw [h4, h20, h21, h22] at hTe
    have hr : vcodeV Try.prog O false tx_List.loop1 T S = vcodeV Try.prog O false tx_List.loop1 T S := rfl
    have d1 : (pre.length : Int) < (l.length : Int) := by rw [hpre]; simp; omega
    have e1 := fun S => tl_pre (S := S) hk hpre
    have wi : IntKind.i64.wrap ((pre.length : Int) + 1) = ((pre ++ [t]).length : Int) := by rw [wrap_i64 (by omega) (by omega)]; simp
    obtain ⟨S2, p1, p2, p3, p4⟩ := st_tx S t
    have c1 : ∀ S, vlim Try.prog O 39 [.agg [Value.int .i64 t.id, .int .i64 t.fee].toArray] S = some (txBV t, S) := fun S => tx_Bytes.v t S
    unfold txBV at c1
    by_cases ht : rightB t = true
    · rw [if_pos ht] at c1
      have hb := txB_len ht
      have hf := encs_flat_len hp
      have hpl : pre.length ≤ 3 := by omega
      have ap : ∀ S, vAppend Try.prog 33 33 (by_ 2 (A ++ encs (flat pre))) (by_ 1 (txB t)) S = some (by_ 2 (A ++ encs (flat (pre ++ [t]))), S) := fun S => by
        rw [by_append Okl.own (by decide) Okl.read (by simp; omega), flat_append, encs_append, ← List.append_assoc]; rfl
      conv at hr =>
        rhs
        rw [hTe]
        simp only [tx_List.loop1, tx_List.code, tx_List.rs, wk, List.getD_cons_succ, List.getD_cons_zero, if_true, if_false, List.getElem?_cons_succ, List.getElem?_cons_zero, Option.map_some, eq_self, reduceIte, Nat.reduceEqDiff, Int.reduceEq, Int.reduceLT, Int.reduceLE, d1, e1, le_api_Tx, al_tx, p1, ld_tx p2, c1, ap, wi]
      exact ih (pre ++ [t]) ((loopV_step hr).symm.trans hL) rfl rfl rfl rfl rfl (by simp [hpre]) (fun x hx => by rcases List.mem_append.1 hx with h | h; { exact hp x h }; { simp at h; rw [h]; exact ht })
    · rw [if_neg ht] at c1
      conv at hr =>
        rhs
        rw [hTe]
        simp only [tx_List.loop1, tx_List.code, tx_List.rs, wk, List.getD_cons_succ, List.getD_cons_zero, if_true, if_false, List.getElem?_cons_succ, List.getElem?_cons_zero, Option.map_some, eq_self, reduceIte, Nat.reduceEqDiff, Int.reduceEq, Int.reduceLT, Int.reduceLE, d1, e1, le_api_Tx, al_tx, p1, ld_tx p2, c1]
      refine ⟨_, _, _, hL.symm.trans (loopV_exit hr (by simp)), ?_⟩
      rw [if_neg (by rw [hpre]; simp [ht])]
      exact ⟨rfl, rfl, rfl⟩
theorem tx_List.v {k : Nat} {l : List TxV} (hk : Okl k l) (k2 : k ≠ 2) (hl : l.length ≤ 8796093022208) (S : AHeap) : vlim Try.prog O tx_List.id [tl k l] S = some (txsV l, S) := by
  obtain ⟨T, hTe⟩ : ∃ T, T = (tl k l :: undef :: undef :: undef :: undef :: undef :: undef :: undef :: undef :: undef :: undef :: undef :: undef :: undef :: undef :: undef :: undef :: undef :: undef :: undef :: undef :: undef :: undef :: undef :: undef :: undef :: undef :: undef :: undef :: undef :: undef :: undef :: undef :: undef :: undef :: undef :: undef :: undef :: undef :: []) := ⟨_, rfl⟩
  have hr : vcodeV Try.prog O false tx_List.code T AHeap.empty = vcodeV Try.prog O false tx_List.code T AHeap.empty := rfl
  have c1 := fun S => tx_unlike.v hk k2 hl S
  have cl : cleanN 16 (tl k l) = true := clean_vs hk.le fun _ _ => rfl
  unfold txsV txsOk
  by_cases hu : unl l = true
  · have h3 : l.length ≤ 3 := by unfold unl at hu; simp at hu; exact hu.2
    have c2 := fun S => wire_Nums.v (l := [(l.length : Int)]) Okl.read (by decide) (by simp; omega) S
    have hA : (encs [(l.length : Int)]).length ≤ 100 := by
      have := encs_len (l := [(l.length : Int)]) (by simp; omega)
      simp at this; omega
    conv at hr =>
      rhs
      rw [hTe]
      simp only [tx_List.code, tx_List.rs, wk, List.getD_cons_succ, List.getD_cons_zero, if_true, if_false, List.getElem?_cons_succ, List.getElem?_cons_zero, Option.map_some, eq_self, reduceIte, Nat.reduceEqDiff, Int.reduceEq, Int.reduceLT, Int.reduceLE, if_neg k2, c1, hu, tl_len hk, bs_L_int_1, iz2_1, c2, numsV_ok (l := [(l.length : Int)]) (by simp) (by intro n hn; simp at hn; omega) (by simp)]
    generalize hL : loopV (vcodeV Try.prog O false tx_List.loop1) _ _ = r at hr
    obtain ⟨e, T', S', rfl, g⟩ := tx_List.round hk h3 hA l [] hL rfl (by rw [show flat [] = [] from rfl, show encs [] = [] from rfl, List.append_nil]; rfl) rfl rfl rfl rfl (fun t h => by cases h)
    by_cases ha : l.all rightB = true
    · rw [if_pos ha] at g
      obtain ⟨rfl, g2, g3⟩ := g
      have hTe' := tx_List.eta g2
      rw [g3] at hTe'
      conv at hr =>
        rhs
        rw [hTe']
        simp only [tx_List.code, tx_List.rs, wk, List.getD_cons_succ, List.getD_cons_zero, if_true, if_false, List.getElem?_cons_succ, List.getElem?_cons_zero, Option.map_some, eq_self, reduceIte, Nat.reduceEqDiff, Int.reduceEq, Int.reduceLT, Int.reduceLE]
      rw [hTe] at hr
      rw [if_pos (by rw [hu, ha]; rfl), txsB_split]
      exact tx_List.runs hr (.inr rfl) (by simp only [List.getD_cons_succ, List.getD_cons_zero, notTuple_vs, notTuple_int, notTuple_slice, notTuple_bool, notTuple_agg]) rfl (all1 cl) (clean_tuple (all2 (clean_by (k := 2) (Nat.le_refl 2)) rfl))
    · rw [if_neg ha] at g
      obtain ⟨rfl, g2, g3⟩ := g
      conv at hr =>
        rhs
        simp only [wk, List.getD_cons_succ, List.getD_cons_zero, if_true, if_false, List.getElem?_cons_succ, List.getElem?_cons_zero, Option.map_some, eq_self, reduceIte, Nat.reduceEqDiff, Int.reduceEq, Int.reduceLT, Int.reduceLE]
      rw [hTe] at hr
      rw [if_neg (by rw [hu, Bool.true_and]; exact ha)]
      have hrun := tx_List.runs (S := S) hr (.inr rfl) (by rw [g2]; rfl) (by rw [g3]; rfl) (all1 cl) (by rw [g2, g3]; rfl)
      rw [g2, g3] at hrun
      exact hrun
  · rw [Bool.not_eq_true] at hu
    conv at hr =>
      rhs
      rw [hTe]
      simp only [tx_List.code, tx_List.rs, wk, List.getD_cons_succ, List.getD_cons_zero, if_true, if_false, List.getElem?_cons_succ, List.getElem?_cons_zero, Option.map_some, eq_self, reduceIte, Nat.reduceEqDiff, Int.reduceEq, Int.reduceLT, Int.reduceLE, if_neg k2, c1, hu]
    rw [hTe] at hr
    rw [if_neg (by rw [hu]; simp)]
    exact tx_List.runs hr (.inr rfl) rfl rfl (all1 cl) rfl
def good (l : List TxV) : Prop := (l.map TxV.id).Nodup ∧ ∀ t ∈ l, rightB t = true
theorem txsOk_iff {l : List TxV} : txsOk l = true ↔ good l ∧ l.length ≤ 3 := by
  unfold txsOk unl good
  simp [and_assoc, and_comm, and_left_comm]
theorem neaptideref06_List.inner {k : Nat} {l : List TxV} (hk : Okl k l) (hl : l.length ≤ 3) {t : TxV} {q : Nat} :
    ∀ (suf pre : List TxV) {T : List Value} {S : AHeap} {r : St}, loopV (vcodeV Try.prog O false neaptideref06_List.loop1) T S = r → T.length = 51 → T.getD 6 undef = .pointer (some ⟨q, 0, none⟩) → T.getD 27 undef = tl k l → T.getD 28 undef = .int .i64 l.length → T.getD 29 undef = .int .i64 pre.length → l = pre ++ suf →
    S.get q = some (.cells (fT t) (.own []) 0) → q < S.next →
    ∃ e T' S', r = some (e, T', S') ∧ Ext S S' ∧ if t.id ∈ suf.map TxV.id then e = .ret ∧ T'.getD 2 undef = .slice none 0 0 ∧ T'.getD 3 undef = .int .i64 61 else e = .exit 2 ∧ T'.length = 51 ∧
      T'.getD 0 undef = T.getD 0 undef ∧ T'.getD 4 undef = T.getD 4 undef ∧ T'.getD 6 undef = T.getD 6 undef ∧ T'.getD 15 undef = T.getD 15 undef ∧ T'.getD 16 undef = T.getD 16 undef ∧ T'.getD 17 undef = T.getD 17 undef := by
  intro suf
  induction suf with
  | nil =>
    intro pre T S r hL hT h6 h27 h28 h29 hpre hg hq
    have hTe := neaptideref06_List.eta hT
    rw [h27, h28, h29] at hTe
    have hr : vcodeV Try.prog O false neaptideref06_List.loop1 T S = vcodeV Try.prog O false neaptideref06_List.loop1 T S := rfl
    have d1 : ¬ (pre.length : Int) < (l.length : Int) := by rw [hpre]; simp
    conv at hr =>
      rhs
      rw [hTe]
      simp only [neaptideref06_List.loop1, neaptideref06_List.code, neaptideref06_List.rs, wk, List.getD_cons_succ, List.getD_cons_zero, if_true, if_false, List.getElem?_cons_succ, List.getElem?_cons_zero, Option.map_some, eq_self, reduceIte, Nat.reduceEqDiff, Int.reduceEq, Int.reduceLT, Int.reduceLE, d1]
    refine ⟨_, _, _, hL.symm.trans (loopV_exit hr (by simp)), Ext.refl _, ?_⟩
    rw [if_neg (by simp)]
    exact ⟨rfl, rfl, rfl, rfl, rfl, rfl, rfl, rfl⟩
  | cons u suf ih =>
    intro pre T S r hL hT h6 h27 h28 h29 hpre hg hq
    have hTe := neaptideref06_List.eta hT
    rw [h6, h27, h28, h29] at hTe
    have hr : vcodeV Try.prog O false neaptideref06_List.loop1 T S = vcodeV Try.prog O false neaptideref06_List.loop1 T S := rfl
    have d1 : (pre.length : Int) < (l.length : Int) := by rw [hpre]; simp; omega
    have e1 := fun S => tl_pre (S := S) hk hpre
    have wi : IntKind.i64.wrap ((pre.length : Int) + 1) = ((pre ++ [u]).length : Int) := by rw [wrap_i64 (by omega) (by omega)]; simp
    obtain ⟨S2, p1, p2, p3, p4⟩ := st_tx S u
    have g2 : S2.get q = some (.cells (fT t) (.own []) 0) := (p3.get q hq).trans hg
    by_cases ht : u.id = t.id
    · conv at hr =>
        rhs
        rw [hTe]
        simp only [neaptideref06_List.loop1, neaptideref06_List.code, neaptideref06_List.rs, wk, List.getD_cons_succ, List.getD_cons_zero, if_true, if_false, List.getElem?_cons_succ, List.getElem?_cons_zero, Option.map_some, eq_self, reduceIte, Nat.reduceEqDiff, Int.reduceEq, Int.reduceLT, Int.reduceLE, d1, e1, le_api_Tx, al_tx, p1, fa_api_Tx_0, ld_tx0 p2, ld_tx0 g2, decide_eq_true ht]
      refine ⟨_, _, _, hL.symm.trans (loopV_exit hr (by simp)), p3, ?_⟩
      rw [if_pos (by simp [ht])]
      exact ⟨rfl, rfl, rfl⟩
    · conv at hr =>
        rhs
        rw [hTe]
        simp only [neaptideref06_List.loop1, neaptideref06_List.code, neaptideref06_List.rs, wk, List.getD_cons_succ, List.getD_cons_zero, if_true, if_false, List.getElem?_cons_succ, List.getElem?_cons_zero, Option.map_some, eq_self, reduceIte, Nat.reduceEqDiff, Int.reduceEq, Int.reduceLT, Int.reduceLE, d1, e1, le_api_Tx, al_tx, p1, fa_api_Tx_0, ld_tx0 p2, ld_tx0 g2, decide_eq_false ht, wi]
      obtain ⟨e, T', S', i1, i2, i3⟩ := ih (pre ++ [u]) ((loopV_step hr).symm.trans hL) rfl rfl rfl rfl rfl (by simp [hpre]) g2 (by omega)
      refine ⟨e, T', S', i1, p3.trans i2, ?_⟩
      have hm : t.id ∈ (u :: suf).map TxV.id ↔ t.id ∈ suf.map TxV.id := by
        simp only [List.map_cons, List.mem_cons]
        exact ⟨fun h => h.resolve_left (fun e => ht e.symm), .inr⟩
      by_cases hc : t.id ∈ suf.map TxV.id
      · rw [if_pos hc] at i3
        rw [if_pos (hm.mpr hc)]
        exact i3
      · rw [if_neg hc] at i3
        rw [if_neg (fun h => hc (hm.mp h))]
        obtain ⟨j1, j2, j3, j4, j5, j6, j7, j8⟩ := i3
        exact ⟨j1, j2, j3, j4, j5.trans h6.symm, j6, j7, j8⟩
theorem neaptideref06_List.round {k : Nat} {l : List TxV} (hk : Okl k l) (k2 : k ≠ 2) (hl : l.length ≤ 3) {n : Int} : ∀ (suf pre : List TxV) {T : List Value} {S : AHeap} {r : St}, loopV (vcodeV Try.prog O false neaptideref06_List.loop2) T S = r → T.length = 51 →
    T.getD 0 undef = tl k l → T.getD 4 undef = iz 2 (n :: flat pre) → T.getD 15 undef = tl k l → T.getD 16 undef = .int .i64 l.length → T.getD 17 undef = .int .i64 pre.length → l = pre ++ suf → good pre →
    ∃ e T' S', r = some (e, T', S') ∧ ((good l ∧ e = .exit 0 ∧ T'.length = 51 ∧ T'.getD 4 undef = iz 2 (n :: flat l)) ∨ (¬ good l ∧ e = .ret ∧ T'.getD 2 undef = .slice none 0 0 ∧ T'.getD 3 undef = .int .i64 61)) := by
  intro suf
  induction suf with
  | nil =>
    intro pre T S r hL hT h0 h4 h15 h16 h17 hpre hp
    have hTe := neaptideref06_List.eta hT
    rw [h0, h4, h15, h16, h17] at hTe
    have hr : vcodeV Try.prog O false neaptideref06_List.loop2 T S = vcodeV Try.prog O false neaptideref06_List.loop2 T S := rfl
    have d1 : ¬ (pre.length : Int) < (l.length : Int) := by rw [hpre]; simp
    conv at hr =>
      rhs
      rw [hTe]
      simp only [neaptideref06_List.loop2, neaptideref06_List.code, neaptideref06_List.rs, wk, List.getD_cons_succ, List.getD_cons_zero, if_true, if_false, List.getElem?_cons_succ, List.getElem?_cons_zero, Option.map_some, eq_self, reduceIte, Nat.reduceEqDiff, Int.reduceEq, Int.reduceLT, Int.reduceLE, d1]
    refine ⟨_, _, _, hL.symm.trans (loopV_exit hr (by simp)), .inl ?_⟩
    rw [List.append_nil] at hpre
    rw [hpre]
    exact ⟨hp, rfl, rfl, rfl⟩
  | cons t suf ih =>
    intro pre T S r hL hT h0 h4 h15 h16 h17 hpre hp
    have hTe := neaptideref06_List.eta hT
    rw [h0, h4, h15, h16, h17] at hTe
    have hr : vcodeV Try.prog O false neaptideref06_List.loop2 T S = vcodeV Try.prog O false neaptideref06_List.loop2 T S := rfl
    have d1 : (pre.length : Int) < (l.length : Int) := by rw [hpre]; simp; omega
    have e1 := fun S => tl_pre (S := S) hk hpre
    have wi : IntKind.i64.wrap ((pre.length : Int) + 1) = ((pre ++ [t]).length : Int) := by rw [wrap_i64 (by omega) (by omega)]; simp
    obtain ⟨S2, p1, p2, p3, p4⟩ := st_tx S t
    have c1 : ∀ S, vlim Try.prog O 42 [.agg [Value.int .i64 t.id, .int .i64 t.fee].toArray] S = some (.bool (rightB t), S) := fun S => neaptideref06_Right.v t S
    by_cases ht : rightB t = true
    · have sl : ∀ S, vSlice Try.prog 27 (tl k l) none (some (.int .i64 pre.length)) S = some (tl k pre, S) := fun S => by
        rw [tl_slice hk rfl rfl (by omega) (by omega) (by omega), if_neg k2, hpre]
        simp
      have hkp : Okl k pre := ⟨hk.le, fun h => by have := hk.nil h; rw [hpre] at this; simp at this⟩
      conv at hr =>
        rhs
        rw [hTe]
        simp only [neaptideref06_List.loop2, neaptideref06_List.code, neaptideref06_List.rs, wk, List.getD_cons_succ, List.getD_cons_zero, if_true, if_false, List.getElem?_cons_succ, List.getElem?_cons_zero, Option.map_some, eq_self, reduceIte, Nat.reduceEqDiff, Int.reduceEq, Int.reduceLT, Int.reduceLE, d1, e1, le_api_Tx, al_tx, p1, ld_tx p2, c1, ht, if_neg k2, sl, tl_len hkp]
      generalize hL2 : loopV (vcodeV Try.prog O false neaptideref06_List.loop1) _ _ = r2 at hr
      obtain ⟨e, T', S', rfl, g1, g⟩ := neaptideref06_List.inner (t := t) hkp (by rw [hpre] at hl; simp at hl; omega) pre [] hL2 rfl rfl rfl rfl rfl rfl p2 p4
      by_cases hin : t.id ∈ pre.map TxV.id
      · rw [if_pos hin] at g
        obtain ⟨rfl, g2, g3⟩ := g
        conv at hr =>
          rhs
          simp only [wk, List.getD_cons_succ, List.getD_cons_zero, if_true, if_false, List.getElem?_cons_succ, List.getElem?_cons_zero, Option.map_some, eq_self, reduceIte, Nat.reduceEqDiff, Int.reduceEq, Int.reduceLT, Int.reduceLE]
        refine ⟨_, _, _, hL.symm.trans (loopV_exit hr (by simp)), .inr ⟨?_, rfl, g2, g3⟩⟩
        intro hgd
        have := hgd.1
        rw [hpre] at this
        simp only [List.map_append, List.map_cons, List.nodup_append] at this
        exact this.2.2 _ hin _ (by simp) rfl
      · rw [if_neg hin] at g
        obtain ⟨rfl, g2, f0, f4, f6, f15, f16, f17⟩ := g
        have hTe' := neaptideref06_List.eta g2
        rw [f0, f4, f6, f15, f16, f17] at hTe'
        simp only [List.getD_cons_succ, List.getD_cons_zero] at hTe'
        have g3 : S'.get S.next = some (.cells (fT t) (.own []) 0) := (g1.get _ p4).trans p2
        have ap : ∀ S, vAppend Try.prog 53 53 (iz 2 (n :: flat pre)) (iz 2 [t.id, t.fee]) S = some (iz 2 (n :: flat (pre ++ [t])), S) := fun S => by
          rw [iz_append Okl.own (by decide) Okl.own (by simp [flat_len]; omega), flat_append]; rfl
        conv at hr =>
          rhs
          rw [hTe']
          simp only [neaptideref06_List.code, neaptideref06_List.rs, wk, List.getD_cons_succ, List.getD_cons_zero, if_true, if_false, List.getElem?_cons_succ, List.getElem?_cons_zero, Option.map_some, eq_self, reduceIte, Nat.reduceEqDiff, Int.reduceEq, Int.reduceLT, Int.reduceLE, fa_api_Tx_0, fa_api_Tx_1, ld_tx0 g3, ld_tx1 g3, bs_L_int_2, iz2_of2, ap, wi]
        refine ih (pre ++ [t]) ((loopV_step hr).symm.trans hL) rfl rfl rfl rfl rfl rfl (by simp [hpre]) ?_
        refine ⟨?_, fun x hx => by rcases List.mem_append.1 hx with h | h; { exact hp.2 x h }; { simp at h; rw [h]; exact ht }⟩
        simp only [List.map_append, List.map_cons, List.map_nil, List.nodup_append]
        exact ⟨hp.1, by simp, fun a ha b hb => by simp at hb; subst hb; exact fun h => hin (h ▸ ha)⟩
    · have ht' := ht
      rw [Bool.not_eq_true] at ht'
      conv at hr =>
        rhs
        rw [hTe]
        simp only [neaptideref06_List.loop2, neaptideref06_List.code, neaptideref06_List.rs, wk, List.getD_cons_succ, List.getD_cons_zero, if_true, if_false, List.getElem?_cons_succ, List.getElem?_cons_zero, Option.map_some, eq_self, reduceIte, Nat.reduceEqDiff, Int.reduceEq, Int.reduceLT, Int.reduceLE, d1, e1, le_api_Tx, al_tx, p1, ld_tx p2, c1, ht']
      refine ⟨_, _, _, hL.symm.trans (loopV_exit hr (by simp)), .inr ⟨?_, rfl, rfl, rfl⟩⟩
      intro hgd
      exact ht (hgd.2 t (by rw [hpre]; simp))
theorem neaptideref06_List.v {k : Nat} {l : List TxV} (hk : Okl k l) (k2 : k ≠ 2) (hl : l.length ≤ 8796093022208) (S : AHeap) : vlim Try.prog O neaptideref06_List.id [tl k l] S = some (txsV l, S) := by
  obtain ⟨T, hTe⟩ : ∃ T, T = (tl k l :: undef :: undef :: undef :: undef :: undef :: undef :: undef :: undef :: undef :: undef :: undef :: undef :: undef :: undef :: undef :: undef :: undef :: undef :: undef :: undef :: undef :: undef :: undef :: undef :: undef :: undef :: undef :: undef :: undef :: undef :: undef :: undef :: undef :: undef :: undef :: undef :: undef :: undef :: undef :: undef :: undef :: undef :: undef :: undef :: undef :: undef :: undef :: undef :: undef :: undef :: []) := ⟨_, rfl⟩
  have hr : vcodeV Try.prog O false neaptideref06_List.code T AHeap.empty = vcodeV Try.prog O false neaptideref06_List.code T AHeap.empty := rfl
  have cl : cleanN 16 (tl k l) = true := clean_vs hk.le fun _ _ => rfl
  unfold txsV
  by_cases h3 : l.length ≤ 3
  · have d3 : ¬ (3 : Int) < (l.length : Int) := by omega
    conv at hr =>
      rhs
      rw [hTe]
      simp only [neaptideref06_List.code, neaptideref06_List.rs, wk, List.getD_cons_succ, List.getD_cons_zero, if_true, if_false, List.getElem?_cons_succ, List.getElem?_cons_zero, Option.map_some, eq_self, reduceIte, Nat.reduceEqDiff, Int.reduceEq, Int.reduceLT, Int.reduceLE, if_neg k2, tl_len hk, d3, bs_L_int_1, iz2_1]
    generalize hL : loopV (vcodeV Try.prog O false neaptideref06_List.loop2) _ _ = r at hr
    obtain ⟨e, T', S', rfl, ⟨g0, rfl, g2, g3⟩ | ⟨g0, rfl, g2, g3⟩⟩ := neaptideref06_List.round hk k2 h3 l [] hL rfl rfl rfl rfl rfl rfl rfl ⟨List.nodup_nil, fun t h => by cases h⟩
    · have hTe' := neaptideref06_List.eta g2
      rw [g3] at hTe'
      have few := flat_few g0.2
      have c2 := fun S => neaptideref01_Nums.v (l := (l.length : Int) :: flat l) Okl.read (by decide) (by intro n hn; rcases List.mem_cons.1 hn with rfl | hn; { omega }; { have := few n hn; omega }) S
      have n2 := numsV_ok (k := 2) (l := (l.length : Int) :: flat l) (by simp [flat_len]; omega) (by intro n hn; rcases List.mem_cons.1 hn with rfl | hn; { omega }; { have := few n hn; omega }) (by simp)
      conv at hr =>
        rhs
        rw [hTe']
        simp only [neaptideref06_List.code, neaptideref06_List.rs, wk, List.getD_cons_succ, List.getD_cons_zero, if_true, if_false, List.getElem?_cons_succ, List.getElem?_cons_zero, Option.map_some, eq_self, reduceIte, Nat.reduceEqDiff, Int.reduceEq, Int.reduceLT, Int.reduceLE, c2, n2]
      rw [hTe] at hr
      rw [if_pos (txsOk_iff.mpr ⟨g0, h3⟩)]
      exact neaptideref06_List.runs hr (.inr rfl) (by simp only [List.getD_cons_succ, List.getD_cons_zero, notTuple_vs, notTuple_int, notTuple_slice, notTuple_bool, notTuple_agg]) rfl (all1 cl) (clean_tuple (all2 (clean_by (k := 2) (Nat.le_refl 2)) rfl))
    · conv at hr =>
        rhs
        simp only [wk, List.getD_cons_succ, List.getD_cons_zero, if_true, if_false, List.getElem?_cons_succ, List.getElem?_cons_zero, Option.map_some, eq_self, reduceIte, Nat.reduceEqDiff, Int.reduceEq, Int.reduceLT, Int.reduceLE]
      rw [hTe] at hr
      rw [if_neg (fun h => g0 (txsOk_iff.mp h).1)]
      have hrun := neaptideref06_List.runs (S := S) hr (.inr rfl) (by rw [g2]; rfl) (by rw [g3]; rfl) (all1 cl) (by rw [g2, g3]; rfl)
      rw [g2, g3] at hrun
      exact hrun
  · have d3 : (3 : Int) < (l.length : Int) := by omega
    conv at hr =>
      rhs
      rw [hTe]
      simp only [neaptideref06_List.code, neaptideref06_List.rs, wk, List.getD_cons_succ, List.getD_cons_zero, if_true, if_false, List.getElem?_cons_succ, List.getElem?_cons_zero, Option.map_some, eq_self, reduceIte, Nat.reduceEqDiff, Int.reduceEq, Int.reduceLT, Int.reduceLE, if_neg k2, tl_len hk, d3]
    rw [hTe] at hr
    rw [if_neg (fun h => h3 (txsOk_iff.mp h).2)]
    exact neaptideref06_List.runs hr (.inr rfl) rfl rfl (all1 cl) rfl
end Go.Proofs.Ytgggklfbhmlapaa

namespace Go.Abs

variable {P : Program} {t : TypeId} {xs ys : Array Value} {d : Nat}
theorem pr_program (P : Program) : pureRun P program = some P := rfl
/-- The fields are the same or not, each. -/
def FEq (P : Program) (d : Nat) (xs ys : Array Value) : List Field → List Bool → Prop
  | [], [] => True
  | f :: fs, b :: bs => (f.name ≠ "_" ∧ ∃ v w, pureRun P (part f.type xs f.offset) = some v ∧ pureRun P (part f.type ys f.offset) = some w ∧ pureRun P (Op.equalIn d f.type v w) = some b) ∧ FEq P d xs ys fs bs
  | _, _ => False
theorem eq_struct {fs : List Field} (hu : P.underlying t = some (.struct fs.toArray)) (hs : P.stoodInHeld t = false) {bs : List Bool} (h : FEq P d xs ys fs bs) : pureRun P (Op.equalIn (d + 1) t (.agg xs) (.agg ys)) = some (bs.all id) := by
  rw [Op.equalIn]
  simp only [pureRun_bind, pureRun_underlying hu, Option.bind_some, pr_program, hs, Bool.false_eq_true, if_false, List.forIn_toArray]
  clear hu hs
  induction fs generalizing bs with
  | nil =>
    cases bs with
    | nil => rfl
    | cons b bs => exact absurd h id
  | cons f fs ih =>
    cases bs with
    | nil => exact absurd h id
    | cons b bs =>
      obtain ⟨⟨h1, v, w, h2, h3, h4⟩, h5⟩ := h
      rw [List.forIn_cons]
      simp only [pureRun_bind, if_pos h1, h2, h3, h4, Option.bind_some]
      cases b with
      | true =>
        simp only [Bool.not_true, Bool.false_eq_true, if_false, pureRun_pure, Option.bind_some, List.all_cons, id, Bool.true_and]
        exact ih h5
      | false =>
        simp only [Bool.not_false, if_true, pureRun_pure, Option.bind_some, List.all_cons, id, Bool.false_and]
theorem eql_struct {fs : List Field} {S : AHeap} (hu : P.underlying t = some (.struct fs.toArray)) (hs : P.stoodInHeld t = false) (hg : P.eqGuardType P.depth t = false) {bs : List Bool} (h : FEq P 9999 xs ys fs bs)
    (gx : ground (.agg xs) = true) (gy : ground (.agg ys) = true) : vBin P .eql t (.agg xs) (.agg ys) S = some (.bool (bs.all id), S) ∧ vBin P .neq t (.agg xs) (.agg ys) S = some (.bool (!bs.all id), S) := by
  rw [vBin_agg, vBin_agg]
  have e : pureRun P (Op.equal t (.agg xs) (.agg ys)) = some (bs.all id) := eq_struct hu hs h
  have g : pureRun P (eqGuard .eql t (.tmp 0) (.tmp 0) (.agg xs) (.agg ys)) = some () := by
    unfold eqGuard
    simp only [Bool.not_true, Bool.false_eq_true, if_false, pureRun_bind, pr_program, Option.bind_some, hg, Bool.not_false, if_true]
    rfl
  have g' : pureRun P (eqGuard .neq t (.tmp 0) (.tmp 0) (.agg xs) (.agg ys)) = some () := by
    unfold eqGuard
    simp only [Bool.not_true, Bool.false_eq_true, if_false, pureRun_bind, pr_program, Option.bind_some, hg, Bool.not_false, if_true]
    rfl
  have ha : [Value.agg xs, .agg ys].all ground = true := by simp [gx, gy]
  constructor
  · unfold aBin nilTest
    simp only [hu]
    show aGround P [Value.agg xs, .agg ys] _ S = _
    refine aGround_pure ha ?_ rfl
    simp only [pureRun_bind, g, Option.bind_some]
    unfold binOp
    simp only [pureRun_bind, e, Option.bind_some, pureRun_pure]
  · unfold aBin nilTest
    simp only [hu]
    show aGround P [Value.agg xs, .agg ys] _ S = _
    refine aGround_pure ha ?_ rfl
    simp only [pureRun_bind, g', Option.bind_some]
    unfold binOp
    simp only [pureRun_bind, e, Option.bind_some, pureRun_pure]
end Go.Abs

namespace Go.Proofs.Ytgggklfbhmlapaa
open Go.Abs

theorem TxV.ext_iff' {t u : TxV} : t = u ↔ t.id = u.id ∧ t.fee = u.fee := by cases t; cases u; simp
theorem eq_tx (t u : TxV) (S : AHeap) : vBin Try.prog .eql 47 (tv t) (tv u) S = some (.bool (decide (t = u)), S) ∧ vBin Try.prog .neq 47 (tv t) (tv u) S = some (.bool (!decide (t = u)), S) := by
  have h := eql_struct (S := S) (xs := #[Value.int .i64 t.id, .int .i64 t.fee]) (ys := #[Value.int .i64 u.id, .int .i64 u.fee]) (bs := [t.id == u.id, t.fee == u.fee]) u_api_Tx (by kernel_rfl) (by kernel_rfl)
    ⟨⟨by decide, .int .i64 t.id, .int .i64 u.id, by kernel_rfl, by kernel_rfl, by kernel_rfl⟩, ⟨by decide, .int .i64 t.fee, .int .i64 u.fee, by kernel_rfl, by kernel_rfl, by kernel_rfl⟩, trivial⟩ rfl rfl
  have e : [t.id == u.id, t.fee == u.fee].all id = decide (t = u) := by
    rw [Bool.eq_iff_iff]
    simp [TxV.ext_iff']
  rw [e] at h
  exact h
theorem neaptideref06_Same.round {k j : Nat} {a b : List TxV} (hk : Okl k a) (hj : Okl j b) (k2 : k ≠ 2) (j2 : j ≠ 2) (hab : a.length = b.length) (hlen : a.length ≤ 17592186044416) {S : AHeap} : ∀ (sa sb pa pb : List TxV) {T : List Value} {r : St}, loopV (vcodeV Try.prog O false neaptideref06_Same.loop1) T S = r → T.length = 26 →
    T.getD 0 undef = tl k a → T.getD 1 undef = tl j b → T.getD 12 undef = .int .i64 a.length → T.getD 13 undef = .int .i64 pa.length → a = pa ++ sa → b = pb ++ sb → pa.length = pb.length → pa = pb →
    ∃ e T', r = some (e, T', S) ∧ if a = b then e = .exit 0 ∧ T'.length = 26 else e = .ret ∧ T'.getD 4 undef = .bool false := by
  intro sa
  induction sa with
  | nil =>
    intro sb pa pb T r hL hT h0 h1 h12 h13 ha hb hp hpp
    have hTe := neaptideref06_Same.eta hT
    rw [h0, h1, h12, h13] at hTe
    have hr : vcodeV Try.prog O false neaptideref06_Same.loop1 T S = vcodeV Try.prog O false neaptideref06_Same.loop1 T S := rfl
    have hd : ¬ (pa.length : Int) < (a.length : Int) := by rw [ha]; simp
    conv at hr =>
      rhs
      rw [hTe]
      simp only [neaptideref06_Same.loop1, neaptideref06_Same.code, neaptideref06_Same.rs, wk, List.getD_cons_succ, List.getD_cons_zero, if_true, if_false, List.getElem?_cons_succ, List.getElem?_cons_zero, Option.map_some, eq_self, reduceIte, Nat.reduceEqDiff, Int.reduceEq, Int.reduceLT, Int.reduceLE, hd]
    have hsb : sb = [] := by rw [ha, hb] at hab; simp [hp] at hab; exact hab
    refine ⟨_, _, hL.symm.trans (loopV_exit hr (by simp)), ?_⟩
    rw [if_pos (by rw [ha, hb, hsb, hpp])]
    exact ⟨rfl, rfl⟩
  | cons x sa ih =>
    intro sb pa pb T r hL hT h0 h1 h12 h13 ha hb hp hpp
    have hTe := neaptideref06_Same.eta hT
    rw [h0, h1, h12, h13] at hTe
    have hr : vcodeV Try.prog O false neaptideref06_Same.loop1 T S = vcodeV Try.prog O false neaptideref06_Same.loop1 T S := rfl
    have hd : (pa.length : Int) < (a.length : Int) := by rw [ha]; simp; omega
    cases sb with
    | nil => rw [ha, hb] at hab; simp [hp] at hab
    | cons y sb =>
      have e1 := fun S => tl_pre (S := S) hk ha
      have e2 : ∀ S, vIndexAddr Try.prog 27 (tl j b) (.int .i64 pa.length) S = some (EP [.int .i64 y.id, .int .i64 y.fee], S) := fun S => by rw [hp]; exact tl_pre hj hb
      have wi : IntKind.i64.wrap ((pa.length : Int) + 1) = ((pa ++ [x]).length : Int) := by rw [wrap_i64 (by omega) (by omega)]; simp
      have q : ∀ S, vBin Try.prog .neq 47 (.agg [Value.int .i64 x.id, .int .i64 x.fee].toArray) (.agg [Value.int .i64 y.id, .int .i64 y.fee].toArray) S = some (.bool (!decide (x = y)), S) := fun S => (eq_tx x y S).2
      by_cases hxy : x = y
      · conv at hr =>
          rhs
          rw [hTe]
          simp only [neaptideref06_Same.loop1, neaptideref06_Same.code, neaptideref06_Same.rs, wk, List.getD_cons_succ, List.getD_cons_zero, if_true, if_false, List.getElem?_cons_succ, List.getElem?_cons_zero, Option.map_some, eq_self, reduceIte, Nat.reduceEqDiff, Int.reduceEq, Int.reduceLT, Int.reduceLE, hd, if_neg k2, if_neg j2, e1, e2, le_api_Tx, q, decide_eq_true hxy, wi]
        subst hxy
        exact ih sb (pa ++ [x]) (pb ++ [x]) ((loopV_step hr).symm.trans hL) rfl rfl rfl rfl rfl (by simp [ha]) (by simp [hb]) (by simp [hp]) (by rw [hpp])
      · conv at hr =>
          rhs
          rw [hTe]
          simp only [neaptideref06_Same.loop1, neaptideref06_Same.code, neaptideref06_Same.rs, wk, List.getD_cons_succ, List.getD_cons_zero, if_true, if_false, List.getElem?_cons_succ, List.getElem?_cons_zero, Option.map_some, eq_self, reduceIte, Nat.reduceEqDiff, Int.reduceEq, Int.reduceLT, Int.reduceLE, hd, if_neg k2, if_neg j2, e1, e2, le_api_Tx, q, decide_eq_false hxy]
        refine ⟨_, _, hL.symm.trans (loopV_exit hr (by simp)), ?_⟩
        rw [if_neg (by rw [ha, hb, hpp]; simp [hxy])]
        exact ⟨rfl, rfl⟩
theorem neaptideref06_Same.v {k j : Nat} {a b : List TxV} (hk : Okl k a) (hj : Okl j b) (k2 : k ≠ 2) (j2 : j ≠ 2) (hlen : a.length ≤ 17592186044416) (S : AHeap) : vlim Try.prog O neaptideref06_Same.id [tl k a, tl j b] S = some (.bool (decide (a = b)), S) := by
  obtain ⟨T, hTe⟩ : ∃ T, T = (tl k a :: tl j b :: undef :: undef :: undef :: undef :: undef :: undef :: undef :: undef :: undef :: undef :: undef :: undef :: undef :: undef :: undef :: undef :: undef :: undef :: undef :: undef :: undef :: undef :: undef :: undef :: []) := ⟨_, rfl⟩
  have hr : vcodeV Try.prog O false neaptideref06_Same.code T S = vcodeV Try.prog O false neaptideref06_Same.code T S := rfl
  by_cases hab : a.length = b.length
  · have d1 : ¬ (a.length : Int) ≠ (b.length : Int) := by omega
    conv at hr =>
      rhs
      rw [hTe]
      simp only [neaptideref06_Same.code, neaptideref06_Same.rs, wk, List.getD_cons_succ, List.getD_cons_zero, if_true, if_false, List.getElem?_cons_succ, List.getElem?_cons_zero, Option.map_some, eq_self, reduceIte, Nat.reduceEqDiff, Int.reduceEq, Int.reduceLT, Int.reduceLE, if_neg k2, if_neg j2, tl_len hk, tl_len hj, hab]
    rw [← hab] at hr
    generalize hL : loopV (vcodeV Try.prog O false neaptideref06_Same.loop1) _ _ = r at hr
    obtain ⟨e, T', rfl, g⟩ := neaptideref06_Same.round hk hj k2 j2 hab hlen a b [] [] hL rfl rfl rfl rfl rfl rfl rfl rfl rfl
    by_cases h : a = b
    · rw [if_pos h] at g
      obtain ⟨rfl, g2⟩ := g
      have hTe' := neaptideref06_Same.eta g2
      conv at hr =>
        rhs
        rw [hTe']
        simp only [neaptideref06_Same.code, neaptideref06_Same.rs, wk, List.getD_cons_succ, List.getD_cons_zero, if_true, if_false, List.getElem?_cons_succ, List.getElem?_cons_zero, Option.map_some, eq_self, reduceIte, Nat.reduceEqDiff, Int.reduceEq, Int.reduceLT, Int.reduceLE]
      rw [hTe] at hr
      rw [decide_eq_true h]
      exact neaptideref06_Same.runs hr (.inr rfl)
    · rw [if_neg h] at g
      obtain ⟨rfl, g2⟩ := g
      conv at hr =>
        rhs
        simp only [wk, List.getD_cons_succ, List.getD_cons_zero, if_true, if_false, List.getElem?_cons_succ, List.getElem?_cons_zero, Option.map_some, eq_self, reduceIte, Nat.reduceEqDiff, Int.reduceEq, Int.reduceLT, Int.reduceLE]
      rw [hTe] at hr
      have hrun := neaptideref06_Same.runs hr (.inr rfl)
      rw [g2] at hrun
      rw [decide_eq_false h]
      exact hrun
  · have d1 : ¬ (a.length : Int) = (b.length : Int) := by omega
    conv at hr =>
      rhs
      rw [hTe]
      simp only [neaptideref06_Same.code, neaptideref06_Same.rs, wk, List.getD_cons_succ, List.getD_cons_zero, if_true, if_false, List.getElem?_cons_succ, List.getElem?_cons_zero, Option.map_some, eq_self, reduceIte, Nat.reduceEqDiff, Int.reduceEq, Int.reduceLT, Int.reduceLE, if_neg k2, if_neg j2, tl_len hk, tl_len hj, d1]
    rw [hTe] at hr
    rw [decide_eq_false (fun h : a = b => hab (by rw [h]))]
    exact neaptideref06_Same.runs hr (.inr rfl)
theorem slices_Equal.round {k j : Nat} {a b : List TxV} (hk : Okl k a) (hj : Okl j b) (k2 : k ≠ 2) (j2 : j ≠ 2) (hab : a.length = b.length) (hlen : a.length ≤ 17592186044416) {S : AHeap} : ∀ (sa sb pa pb : List TxV) {T : List Value} {r : St}, loopV (vcodeV Try.prog O false slices_Equal.loop1) T S = r → T.length = 26 →
    T.getD 0 undef = tl k a → T.getD 1 undef = tl j b → T.getD 12 undef = .int .i64 a.length → T.getD 13 undef = .int .i64 pa.length → a = pa ++ sa → b = pb ++ sb → pa.length = pb.length → pa = pb →
    ∃ e T', r = some (e, T', S) ∧ if a = b then e = .exit 0 ∧ T'.length = 26 else e = .ret ∧ T'.getD 4 undef = .bool false := by
  intro sa
  induction sa with
  | nil =>
    intro sb pa pb T r hL hT h0 h1 h12 h13 ha hb hp hpp
    have hTe := slices_Equal.eta hT
    rw [h0, h1, h12, h13] at hTe
    have hr : vcodeV Try.prog O false slices_Equal.loop1 T S = vcodeV Try.prog O false slices_Equal.loop1 T S := rfl
    have hd : ¬ (pa.length : Int) < (a.length : Int) := by rw [ha]; simp
    conv at hr =>
      rhs
      rw [hTe]
      simp only [slices_Equal.loop1, slices_Equal.code, slices_Equal.rs, wk, List.getD_cons_succ, List.getD_cons_zero, if_true, if_false, List.getElem?_cons_succ, List.getElem?_cons_zero, Option.map_some, eq_self, reduceIte, Nat.reduceEqDiff, Int.reduceEq, Int.reduceLT, Int.reduceLE, hd]
    have hsb : sb = [] := by rw [ha, hb] at hab; simp [hp] at hab; exact hab
    refine ⟨_, _, hL.symm.trans (loopV_exit hr (by simp)), ?_⟩
    rw [if_pos (by rw [ha, hb, hsb, hpp])]
    exact ⟨rfl, rfl⟩
  | cons x sa ih =>
    intro sb pa pb T r hL hT h0 h1 h12 h13 ha hb hp hpp
    have hTe := slices_Equal.eta hT
    rw [h0, h1, h12, h13] at hTe
    have hr : vcodeV Try.prog O false slices_Equal.loop1 T S = vcodeV Try.prog O false slices_Equal.loop1 T S := rfl
    have hd : (pa.length : Int) < (a.length : Int) := by rw [ha]; simp; omega
    cases sb with
    | nil => rw [ha, hb] at hab; simp [hp] at hab
    | cons y sb =>
      have e1 := fun S => tl_pre (S := S) hk ha
      have e2 : ∀ S, vIndexAddr Try.prog 27 (tl j b) (.int .i64 pa.length) S = some (EP [.int .i64 y.id, .int .i64 y.fee], S) := fun S => by rw [hp]; exact tl_pre hj hb
      have wi : IntKind.i64.wrap ((pa.length : Int) + 1) = ((pa ++ [x]).length : Int) := by rw [wrap_i64 (by omega) (by omega)]; simp
      have q : ∀ S, vBin Try.prog .neq 47 (.agg [Value.int .i64 x.id, .int .i64 x.fee].toArray) (.agg [Value.int .i64 y.id, .int .i64 y.fee].toArray) S = some (.bool (!decide (x = y)), S) := fun S => (eq_tx x y S).2
      by_cases hxy : x = y
      · conv at hr =>
          rhs
          rw [hTe]
          simp only [slices_Equal.loop1, slices_Equal.code, slices_Equal.rs, wk, List.getD_cons_succ, List.getD_cons_zero, if_true, if_false, List.getElem?_cons_succ, List.getElem?_cons_zero, Option.map_some, eq_self, reduceIte, Nat.reduceEqDiff, Int.reduceEq, Int.reduceLT, Int.reduceLE, hd, if_neg k2, if_neg j2, e1, e2, le_api_Tx, q, decide_eq_true hxy, wi]
        subst hxy
        exact ih sb (pa ++ [x]) (pb ++ [x]) ((loopV_step hr).symm.trans hL) rfl rfl rfl rfl rfl (by simp [ha]) (by simp [hb]) (by simp [hp]) (by rw [hpp])
      · conv at hr =>
          rhs
          rw [hTe]
          simp only [slices_Equal.loop1, slices_Equal.code, slices_Equal.rs, wk, List.getD_cons_succ, List.getD_cons_zero, if_true, if_false, List.getElem?_cons_succ, List.getElem?_cons_zero, Option.map_some, eq_self, reduceIte, Nat.reduceEqDiff, Int.reduceEq, Int.reduceLT, Int.reduceLE, hd, if_neg k2, if_neg j2, e1, e2, le_api_Tx, q, decide_eq_false hxy]
        refine ⟨_, _, hL.symm.trans (loopV_exit hr (by simp)), ?_⟩
        rw [if_neg (by rw [ha, hb, hpp]; simp [hxy])]
        exact ⟨rfl, rfl⟩
theorem slices_Equal.v {k j : Nat} {a b : List TxV} (hk : Okl k a) (hj : Okl j b) (k2 : k ≠ 2) (j2 : j ≠ 2) (hlen : a.length ≤ 17592186044416) (S : AHeap) : vlim Try.prog O slices_Equal.id [tl k a, tl j b] S = some (.bool (decide (a = b)), S) := by
  obtain ⟨T, hTe⟩ : ∃ T, T = (tl k a :: tl j b :: undef :: undef :: undef :: undef :: undef :: undef :: undef :: undef :: undef :: undef :: undef :: undef :: undef :: undef :: undef :: undef :: undef :: undef :: undef :: undef :: undef :: undef :: undef :: undef :: []) := ⟨_, rfl⟩
  have hr : vcodeV Try.prog O false slices_Equal.code T S = vcodeV Try.prog O false slices_Equal.code T S := rfl
  by_cases hab : a.length = b.length
  · have d1 : ¬ (a.length : Int) ≠ (b.length : Int) := by omega
    conv at hr =>
      rhs
      rw [hTe]
      simp only [slices_Equal.code, slices_Equal.rs, wk, List.getD_cons_succ, List.getD_cons_zero, if_true, if_false, List.getElem?_cons_succ, List.getElem?_cons_zero, Option.map_some, eq_self, reduceIte, Nat.reduceEqDiff, Int.reduceEq, Int.reduceLT, Int.reduceLE, if_neg k2, if_neg j2, tl_len hk, tl_len hj, hab]
    rw [← hab] at hr
    generalize hL : loopV (vcodeV Try.prog O false slices_Equal.loop1) _ _ = r at hr
    obtain ⟨e, T', rfl, g⟩ := slices_Equal.round hk hj k2 j2 hab hlen a b [] [] hL rfl rfl rfl rfl rfl rfl rfl rfl rfl
    by_cases h : a = b
    · rw [if_pos h] at g
      obtain ⟨rfl, g2⟩ := g
      have hTe' := slices_Equal.eta g2
      conv at hr =>
        rhs
        rw [hTe']
        simp only [slices_Equal.code, slices_Equal.rs, wk, List.getD_cons_succ, List.getD_cons_zero, if_true, if_false, List.getElem?_cons_succ, List.getElem?_cons_zero, Option.map_some, eq_self, reduceIte, Nat.reduceEqDiff, Int.reduceEq, Int.reduceLT, Int.reduceLE]
      rw [hTe] at hr
      rw [decide_eq_true h]
      exact slices_Equal.runs hr (.inr rfl)
    · rw [if_neg h] at g
      obtain ⟨rfl, g2⟩ := g
      conv at hr =>
        rhs
        simp only [wk, List.getD_cons_succ, List.getD_cons_zero, if_true, if_false, List.getElem?_cons_succ, List.getElem?_cons_zero, Option.map_some, eq_self, reduceIte, Nat.reduceEqDiff, Int.reduceEq, Int.reduceLT, Int.reduceLE]
      rw [hTe] at hr
      have hrun := slices_Equal.runs hr (.inr rfl)
      rw [g2] at hrun
      rw [decide_eq_false h]
      exact hrun
  · have d1 : ¬ (a.length : Int) = (b.length : Int) := by omega
    conv at hr =>
      rhs
      rw [hTe]
      simp only [slices_Equal.code, slices_Equal.rs, wk, List.getD_cons_succ, List.getD_cons_zero, if_true, if_false, List.getElem?_cons_succ, List.getElem?_cons_zero, Option.map_some, eq_self, reduceIte, Nat.reduceEqDiff, Int.reduceEq, Int.reduceLT, Int.reduceLE, if_neg k2, if_neg j2, tl_len hk, tl_len hj, d1]
    rw [hTe] at hr
    rw [decide_eq_false (fun h : a = b => hab (by rw [h]))]
    exact slices_Equal.runs hr (.inr rfl)

theorem flat_inj : ∀ {a b : List TxV}, flat a = flat b → a = b := by
  intro a
  induction a with
  | nil => intro b h; cases b with
    | nil => rfl
    | cons u b => simp [flat] at h
  | cons t a ih =>
    intro b h
    cases b with
    | nil => simp [flat] at h
    | cons u b =>
      have h' : [t.id, t.fee] ++ flat a = [u.id, u.fee] ++ flat b := h
      simp at h'
      rw [ih h'.2.2, TxV.ext_iff'.mpr ⟨h'.1, h'.2.1⟩]
theorem few_of {l : List TxV} (h : ∀ t ∈ l, rightB t = true) : ∀ n ∈ flat l, Few n := fun n hn => by have := flat_few h n hn; unfold Few; omega
theorem txs_split {a b : List TxV} {r s : List UInt8} (la : a.length ≤ 1000) (lb : b.length ≤ 1000) (ha : ∀ t ∈ a, rightB t = true) (hb : ∀ t ∈ b, rightB t = true) (h : txsB a ++ r = txsB b ++ s) : a = b ∧ r = s := by
  rw [txsB_split, txsB_split, List.append_assoc, List.append_assoc] at h
  obtain ⟨h1, h2⟩ := encs_inj (a := [(a.length : Int)]) (c := [(b.length : Int)]) rfl (by simp [Few]; omega) (by simp [Few]; omega) h
  simp at h1
  obtain ⟨h3, h4⟩ := encs_inj (by rw [flat_len, flat_len]; omega) (few_of ha) (few_of hb) h2
  exact ⟨flat_inj h3, h4⟩
theorem txsB_inj {a b : List TxV} {r s : List UInt8} (ha : txsOk a = true) (hb : txsOk b = true) (h : txsB a ++ r = txsB b ++ s) : a = b ∧ r = s := by
  obtain ⟨h1, h2⟩ := txsOk_iff.mp ha
  obtain ⟨h3, h4⟩ := txsOk_iff.mp hb
  exact txs_split (by omega) (by omega) h1.2 h3.2 h
noncomputable def txsRd (l : List UInt8) : Option (List TxV) := rd (fun t => txsOk t = true) txsB l
theorem txsRd_iff (l : List UInt8) (t : List TxV) : txsRd l = some t ↔ txsOk t = true ∧ l = txsB t :=
  rd_iff (fun x y hx hy h => (txsB_inj (r := []) (s := []) hx hy (by simpa using h)).1) l t
theorem txsRd_none {l : List UInt8} (h : ∀ t, ¬ (txsOk t = true ∧ l = txsB t)) : txsRd l = none := by
  cases hr : txsRd l with
  | none => rfl
  | some t => exact absurd ((txsRd_iff l t).mp hr) (h t)
noncomputable def txsRdV (k : Nat) (l : List UInt8) : Value := match txsRd l with
  | some t => .tuple #[tl (if t = [] then k else 2) t, .int .i64 0]
  | none => .tuple #[.slice none 0 0, .int .i64 61]
/-- So many transactions, and the rest. -/
def readTs : Nat → List UInt8 → Option (List TxV × List UInt8)
  | 0, l => some ([], l)
  | m + 1, l => match readNs 2 l with
    | some ([a, b], r) => if rightB ⟨a, b⟩ then (match readTs m r with
      | some (x, y) => some (⟨a, b⟩ :: x, y)
      | none => none) else none
    | _ => none
theorem readTs_iff : ∀ (m : Nat) (l : List UInt8) (a : List TxV) (b : List UInt8), readTs m l = some (a, b) ↔ a.length = m ∧ (∀ t ∈ a, rightB t = true) ∧ l = encs (flat a) ++ b := by
  intro m
  induction m with
  | zero =>
    intro l a b
    constructor
    · intro h; cases h; exact ⟨rfl, (fun t h => by cases h), rfl⟩
    · rintro ⟨h1, h2, h3⟩
      have : a = [] := List.length_eq_zero_iff.mp h1
      subst this
      rw [h3]; rfl
  | succ m ih =>
    intro l a b
    rw [readTs]
    constructor
    · intro h
      rcases readNs2 l with hn | ⟨x, y, r, hn, hlr⟩
      · rw [hn] at h; cases h
      · rw [hn] at h
        dsimp only at h
        split at h
        · rename_i hok
          cases hr : readTs m r with
          | none => rw [hr] at h; cases h
          | some ab =>
            obtain ⟨a', b'⟩ := ab
            rw [hr] at h
            obtain ⟨h1, h2, h3⟩ := (ih r a' b').mp hr
            cases h
            obtain ⟨f1, f2, f3⟩ := (readNs_iff _ _ _ _).mp hn
            refine ⟨by simp [h1], fun t ht => ?_, ?_⟩
            · rcases List.mem_cons.1 ht with rfl | ht
              · exact hok
              · exact h2 t ht
            · rw [f2, h3, show flat (⟨x, y⟩ :: a') = [x, y] ++ flat a' from rfl, encs_append, List.append_assoc]
        · cases h
    · rintro ⟨h1, h2, h3⟩
      cases a with
      | nil => simp at h1
      | cons t a =>
        have ht := h2 t (by simp)
        obtain ⟨b1, b2, b3, b4⟩ := rightB_iff.mp ht
        have hn := (readNs_iff 2 l [t.id, t.fee] (encs (flat a) ++ b)).mpr ⟨rfl, by rw [h3, show flat (t :: a) = [t.id, t.fee] ++ flat a from rfl, encs_append, List.append_assoc], by simp [Few]; omega⟩
        rw [hn]
        dsimp only
        rw [if_pos ht, (ih (encs (flat a) ++ b) a b).mpr ⟨by simpa using h1, fun u hu => h2 u (by simp [hu]), rfl⟩]
theorem readNs1 (l : List UInt8) : readNs 1 l = none ∨ ∃ a r, readNs 1 l = some ([a], r) ∧ r.length ≤ l.length := by
  cases h : readNs 1 l with
  | none => exact .inl rfl
  | some ar =>
    obtain ⟨a, r⟩ := ar
    obtain ⟨h1, h2⟩ := readNs_len h
    match a, h1 with
    | [x], _ => exact .inr ⟨x, r, rfl, h2⟩
theorem txsRd_of {l r : List UInt8} {n : Int} (h : readNs 1 l = some ([n], r)) (t : List TxV) : txsRd l = some t ↔ 0 ≤ n ∧ n ≤ 3 ∧ readTs n.toNat r = some (t, []) ∧ unl t = true := by
  obtain ⟨_, h2, h3⟩ := (readNs_iff _ _ _ _).mp h
  rw [txsRd_iff, readTs_iff]
  constructor
  · rintro ⟨g1, g2⟩
    obtain ⟨h5, h6⟩ := txsOk_iff.mp g1
    rw [txsB_split, h2] at g2
    obtain ⟨h7, h8⟩ := encs_inj (a := [n]) (c := [(t.length : Int)]) rfl h3 (by simp [Few]; omega) g2
    simp at h7
    refine ⟨by omega, by omega, ⟨by omega, h5.2, by simpa using h8⟩, ?_⟩
    unfold txsOk at g1
    simp at g1
    exact g1.1
  · rintro ⟨g1, g2, ⟨g3, g4, g5⟩, g6⟩
    refine ⟨?_, ?_⟩
    · unfold txsOk
      rw [g6, Bool.true_and, List.all_eq_true]
      exact g4
    · have : n = (t.length : Int) := by omega
      rw [h2, g5, List.append_nil, txsB_split, this]
theorem txsRd_of_none {l : List UInt8} (h : readNs 1 l = none) : txsRd l = none := by
  refine txsRd_none fun t ht => ?_
  obtain ⟨h5, h6⟩ := txsOk_iff.mp ht.1
  have := (readNs_iff 1 l [(t.length : Int)] (encs (flat t))).mpr ⟨rfl, by rw [ht.2, txsB_split], by simp [Few]; omega⟩
  rw [h] at this
  cases this
end Go.Proofs.Ytgggklfbhmlapaa

namespace Go.Proofs.Ytgggklfbhmlapaa
open Go.Abs

theorem bs_tx1 (t : TxV) (S : AHeap) : vBuildSlice Try.prog 27 1 [(0, tv t)] S = some (tl 2 [t], S) := by kernel_rfl
theorem iz1a (k : Nat) (hk : k ≤ 2) (a : Int) (h : k ≠ 0) (S : AHeap) : vIndexAddr Try.prog 53 (iz k [a]) (.int .i64 0) S = some (EP [.int .i64 a], S) := iz_at ⟨hk, fun h0 => absurd h0 h⟩ (by decide) (by simp)
theorem okl_tl {k : Nat} (hk : k ≤ 2) (l : List TxV) : Okl (if l = [] then k else 2) l := ⟨by split <;> omega, fun h => by split at h <;> first | assumption | omega⟩
theorem tx_ReadList.round {n : Int} (hn : n ≤ 3) : ∀ (m : Nat) (i : Int) (rest : List UInt8) (out : List TxV) {T : List Value} {S : AHeap} {r : St}, loopV (vcodeV Try.prog O false tx_ReadList.loop1) T S = r → T.length = 59 →
    T.getD 5 undef = by_ 2 rest → T.getD 7 undef = tl (if out = [] then 0 else 2) out → T.getD 33 undef = .int .i64 n → T.getD 34 undef = .int .i64 i → 0 ≤ i → n = i + m → out.length ≤ 3 - m → rest.length ≤ 140737488355328 →
    ∃ e T' S', r = some (e, T', S') ∧ match readTs m rest with
      | some (ts, r') => e = .exit 0 ∧ T'.length = 59 ∧ T'.getD 5 undef = by_ 2 r' ∧ T'.getD 7 undef = tl (if out ++ ts = [] then 0 else 2) (out ++ ts)
      | none => e = .ret ∧ T'.getD 2 undef = .slice none 0 0 ∧ T'.getD 3 undef = .int .i64 61 := by
  intro m
  induction m with
  | zero =>
    intro i rest out T S r hL hT h5 h7 h33 h34 hi hm ho hl
    have hTe := tx_ReadList.eta hT
    rw [h5, h7, h33, h34] at hTe
    have hr : vcodeV Try.prog O false tx_ReadList.loop1 T S = vcodeV Try.prog O false tx_ReadList.loop1 T S := rfl
    have d1 : ¬ i < n := by omega
    conv at hr =>
      rhs
      rw [hTe]
      simp only [tx_ReadList.loop1, tx_ReadList.code, tx_ReadList.rs, wk, List.getD_cons_succ, List.getD_cons_zero, if_true, if_false, List.getElem?_cons_succ, List.getElem?_cons_zero, Option.map_some, eq_self, reduceIte, Nat.reduceEqDiff, Int.reduceEq, Int.reduceLT, Int.reduceLE, d1]
    refine ⟨_, _, _, hL.symm.trans (loopV_exit hr (by simp)), ?_⟩
    rw [readTs]
    exact ⟨rfl, rfl, rfl, by rw [List.append_nil]; rfl⟩
  | succ m ih =>
    intro i rest out T S r hL hT h5 h7 h33 h34 hi hm ho hl
    have hTe := tx_ReadList.eta hT
    rw [h5, h7, h33, h34] at hTe
    have hr : vcodeV Try.prog O false tx_ReadList.loop1 T S = vcodeV Try.prog O false tx_ReadList.loop1 T S := rfl
    have d1 : i < n := by omega
    have c1 := fun S => tx_part.v (k := 1) (l := rest) Okl.read (by decide) hl S
    unfold partV at c1
    rw [readTs]
    rcases readNs2 rest with h | ⟨a, b, q, h, hlr⟩
    · rw [h] at c1
      rw [h]
      obtain ⟨S2, p1, p2, p3, p4⟩ := st_tx S ⟨0, 0⟩
      conv at hr =>
        rhs
        rw [hTe]
        simp only [tx_ReadList.loop1, tx_ReadList.code, tx_ReadList.rs, wk, List.getD_cons_succ, List.getD_cons_zero, if_true, if_false, List.getElem?_cons_succ, List.getElem?_cons_zero, Option.map_some, eq_self, reduceIte, Nat.reduceEqDiff, Int.reduceEq, Int.reduceLT, Int.reduceLE, d1, c1, al_tx, p1]
      exact ⟨_, _, _, hL.symm.trans (loopV_exit hr (by simp)), rfl, rfl, rfl⟩
    · rw [h] at c1
      rw [h]
      obtain ⟨S2, p1, p2, p3, p4⟩ := st_tx S ⟨a, b⟩
      by_cases hok : rightB ⟨a, b⟩ = true
      · have wi : IntKind.i64.wrap (i + 1) = i + 1 := wrap_i64 (by omega) (by omega)
        have ap : ∀ S, vAppend Try.prog 27 27 (tl (if out = [] then 0 else 2) out) (tl 2 [⟨a, b⟩]) S = some (tl 2 (out ++ [⟨a, b⟩]), S) := fun S => tl_more ⟨by split <;> omega, fun h => by split at h <;> first | assumption | omega⟩ (by split <;> omega) (by omega)
        have c2 : ∀ S, vBuildSlice Try.prog 27 1 [(0, .agg [Value.int .i64 a, .int .i64 b].toArray)] S = some (tl 2 [⟨a, b⟩], S) := fun S => bs_tx1 ⟨a, b⟩ S
        have c3 : vLoad Try.prog false 47 (.pointer (some ⟨S.next, 0, none⟩)) S2 = some (.agg [Value.int .i64 a, .int .i64 b].toArray, S2) := ld_tx p2
        conv at hr =>
          rhs
          rw [hTe]
          simp only [tx_ReadList.loop1, tx_ReadList.code, tx_ReadList.rs, wk, List.getD_cons_succ, List.getD_cons_zero, if_true, if_false, List.getElem?_cons_succ, List.getElem?_cons_zero, Option.map_some, eq_self, reduceIte, Nat.reduceEqDiff, Int.reduceEq, Int.reduceLT, Int.reduceLE, d1, c1, al_tx, p1, hok, c3, c2, ap, wi]
        obtain ⟨e, T', S', j1, j2⟩ := ih (i + 1) q (out ++ [⟨a, b⟩]) ((loopV_step hr).symm.trans hL) rfl rfl (by rw [show (if out ++ [TxV.mk a b] = [] then 0 else 2) = 2 from if_neg (by simp)]; rfl) rfl rfl (by omega) (by omega) (by simp; omega) (by omega)
        refine ⟨e, T', S', j1, ?_⟩
        dsimp only
        rw [if_pos hok]
        cases hq : readTs m q with
        | none => rw [hq] at j2; exact j2
        | some tr =>
          obtain ⟨ts, r'⟩ := tr
          rw [hq] at j2
          dsimp only at j2 ⊢
          rw [List.append_assoc] at j2
          exact j2
      · dsimp only
        rw [if_neg hok]
        rw [Bool.not_eq_true] at hok
        conv at hr =>
          rhs
          rw [hTe]
          simp only [tx_ReadList.loop1, tx_ReadList.code, tx_ReadList.rs, wk, List.getD_cons_succ, List.getD_cons_zero, if_true, if_false, List.getElem?_cons_succ, List.getElem?_cons_zero, Option.map_some, eq_self, reduceIte, Nat.reduceEqDiff, Int.reduceEq, Int.reduceLT, Int.reduceLE, d1, c1, al_tx, p1, hok]
        exact ⟨_, _, _, hL.symm.trans (loopV_exit hr (by simp)), rfl, rfl, rfl⟩
theorem tx_ReadList.v {k : Nat} {l : List UInt8} (hk : Okl k l) (k2 : k ≠ 2) (hl : l.length ≤ 140737488355328) (S : AHeap) : vlim Try.prog O tx_ReadList.id [by_ k l] S = some (txsRdV 0 l, S) := by
  obtain ⟨T, hTe⟩ : ∃ T, T = (by_ k l :: undef :: undef :: undef :: undef :: undef :: undef :: undef :: undef :: undef :: undef :: undef :: undef :: undef :: undef :: undef :: undef :: undef :: undef :: undef :: undef :: undef :: undef :: undef :: undef :: undef :: undef :: undef :: undef :: undef :: undef :: undef :: undef :: undef :: undef :: undef :: undef :: undef :: undef :: undef :: undef :: undef :: undef :: undef :: undef :: undef :: undef :: undef :: undef :: undef :: undef :: undef :: undef :: undef :: undef :: undef :: undef :: undef :: undef :: []) := ⟨_, rfl⟩
  have hr : vcodeV Try.prog O false tx_ReadList.code T AHeap.empty = vcodeV Try.prog O false tx_ReadList.code T AHeap.empty := rfl
  have c1 := fun S => wire_ReadNums.v (many := 1) hk k2 hl S
  have r1 : readNsV 0 (if k = 0 then 0 else 2) 1 l = _ := readNsV_pos (m := 1) (by decide) (by decide)
  rw [r1] at c1
  have cl : [by_ k l].all (cleanN 16) = true := all1 (clean_by (k := k) hk.le)
  unfold txsRdV
  rcases readNs1 l with h | ⟨n, rest, h, hlr⟩
  · rw [h] at c1
    rw [txsRd_of_none h]
    conv at hr =>
      rhs
      rw [hTe]
      simp only [tx_ReadList.code, tx_ReadList.rs, wk, List.getD_cons_succ, List.getD_cons_zero, if_true, if_false, List.getElem?_cons_succ, List.getElem?_cons_zero, Option.map_some, eq_self, reduceIte, Nat.reduceEqDiff, Int.reduceEq, Int.reduceLT, Int.reduceLE, if_neg k2, c1]
    rw [hTe] at hr
    exact tx_ReadList.runs hr (.inr rfl) rfl rfl cl rfl
  · rw [h] at c1
    have e0 := iz1a 1 (by decide) n (by decide)
    by_cases h0 : n < 0
    · have hno : txsRd l = none := by
        cases hx : txsRd l with
        | none => rfl
        | some t => have := (txsRd_of h t).mp hx; omega
      rw [hno]
      conv at hr =>
        rhs
        rw [hTe]
        simp only [tx_ReadList.code, tx_ReadList.rs, wk, List.getD_cons_succ, List.getD_cons_zero, if_true, if_false, List.getElem?_cons_succ, List.getElem?_cons_zero, Option.map_some, eq_self, reduceIte, Nat.reduceEqDiff, Int.reduceEq, Int.reduceLT, Int.reduceLE, if_neg k2, c1, e0, iz_load, h0]
      rw [hTe] at hr
      exact tx_ReadList.runs hr (.inr rfl) rfl rfl cl rfl
    · by_cases h3 : 3 < n
      · have hno : txsRd l = none := by
          cases hx : txsRd l with
          | none => rfl
          | some t => have := (txsRd_of h t).mp hx; omega
        rw [hno]
        conv at hr =>
          rhs
          rw [hTe]
          simp only [tx_ReadList.code, tx_ReadList.rs, wk, List.getD_cons_succ, List.getD_cons_zero, if_true, if_false, List.getElem?_cons_succ, List.getElem?_cons_zero, Option.map_some, eq_self, reduceIte, Nat.reduceEqDiff, Int.reduceEq, Int.reduceLT, Int.reduceLE, if_neg k2, c1, e0, iz_load, h0, h3]
        rw [hTe] at hr
        exact tx_ReadList.runs hr (.inr rfl) rfl rfl cl rfl
      · conv at hr =>
          rhs
          rw [hTe]
          simp only [tx_ReadList.code, tx_ReadList.rs, wk, List.getD_cons_succ, List.getD_cons_zero, if_true, if_false, List.getElem?_cons_succ, List.getElem?_cons_zero, Option.map_some, eq_self, reduceIte, Nat.reduceEqDiff, Int.reduceEq, Int.reduceLT, Int.reduceLE, if_neg k2, c1, e0, iz_load, h0, h3]
        generalize hL : loopV (vcodeV Try.prog O false tx_ReadList.loop1) _ _ = r at hr
        obtain ⟨e, T', S', rfl, g⟩ := tx_ReadList.round (n := n) (by omega) n.toNat 0 rest [] hL rfl rfl rfl rfl rfl (by omega) (by omega) (by simp) (by omega)
        cases hts : readTs n.toNat rest with
        | none =>
          rw [hts] at g
          obtain ⟨rfl, g2, g3⟩ := g
          have hno : txsRd l = none := by
            cases hx : txsRd l with
            | none => rfl
            | some t => have := (txsRd_of h t).mp hx; rw [hts] at this; simp at this
          rw [hno]
          conv at hr =>
            rhs
            simp only [wk, List.getD_cons_succ, List.getD_cons_zero, if_true, if_false, List.getElem?_cons_succ, List.getElem?_cons_zero, Option.map_some, eq_self, reduceIte, Nat.reduceEqDiff, Int.reduceEq, Int.reduceLT, Int.reduceLE]
          rw [hTe] at hr
          have hrun := tx_ReadList.runs (S := S) hr (.inr rfl) (by rw [g2]; rfl) (by rw [g3]; rfl) cl (by rw [g2, g3]; rfl)
          rw [g2, g3] at hrun
          exact hrun
        | some tr =>
          obtain ⟨ts, r'⟩ := tr
          rw [hts] at g
          obtain ⟨rfl, g2, g3, g4⟩ := g
          rw [List.nil_append] at g4
          have hTe' := tx_ReadList.eta g2
          rw [g3, g4] at hTe'
          by_cases hr0 : r' = []
          · subst hr0
            have hts3 : ts.length ≤ 3 := by have := (readTs_iff _ _ _ _).mp hts; omega
            have c3 := fun S => tx_unlike.v (okl_tl (by decide) ts).dem (dem_ne2 (if ts = [] then 0 else 2)) (by omega) S
            by_cases hu : unl ts = true
            · have hyes : txsRd l = some ts := (txsRd_of h ts).mpr ⟨by omega, by omega, hts, hu⟩
              rw [hyes]
              conv at hr =>
                rhs
                rw [hTe']
                simp only [tx_ReadList.code, tx_ReadList.rs, wk, List.getD_cons_succ, List.getD_cons_zero, if_true, if_false, List.getElem?_cons_succ, List.getElem?_cons_zero, Option.map_some, eq_self, reduceIte, Nat.reduceEqDiff, Int.reduceEq, Int.reduceLT, Int.reduceLE, by_len Okl.read, goInt, List.length_nil, Int.natCast_zero, Int.lt_irrefl, dem2, c3, hu]
              rw [hTe] at hr

              exact tx_ReadList.runs hr (.inr rfl) (by simp only [List.getD_cons_succ, List.getD_cons_zero, notTuple_vs, notTuple_int, notTuple_slice, notTuple_bool, notTuple_agg]) rfl cl (clean_tuple (all2 (clean_vs (okl_tl (by decide) ts).le fun _ _ => rfl) rfl))
            · have hno : txsRd l = none := by
                cases hx : txsRd l with
                | none => rfl
                | some t => have := (txsRd_of h t).mp hx; rw [hts] at this; simp at this; rw [this.2.2.1] at hu; exact absurd this.2.2.2 hu
              rw [hno]
              rw [Bool.not_eq_true] at hu
              conv at hr =>
                rhs
                rw [hTe']
                simp only [tx_ReadList.code, tx_ReadList.rs, wk, List.getD_cons_succ, List.getD_cons_zero, if_true, if_false, List.getElem?_cons_succ, List.getElem?_cons_zero, Option.map_some, eq_self, reduceIte, Nat.reduceEqDiff, Int.reduceEq, Int.reduceLT, Int.reduceLE, by_len Okl.read, goInt, List.length_nil, Int.natCast_zero, Int.lt_irrefl, dem2, c3, hu]
              rw [hTe] at hr
              exact tx_ReadList.runs hr (.inr rfl) rfl rfl cl rfl
          · have hp : (0 : Int) < (r'.length : Int) := by have := List.length_pos_iff.mpr hr0; omega
            have hno : txsRd l = none := by
              cases hx : txsRd l with
              | none => rfl
              | some t => have := (txsRd_of h t).mp hx; rw [hts] at this; simp at this; exact absurd this.2.2.1.2 hr0
            rw [hno]
            conv at hr =>
              rhs
              rw [hTe']
              simp only [tx_ReadList.code, tx_ReadList.rs, wk, List.getD_cons_succ, List.getD_cons_zero, if_true, if_false, List.getElem?_cons_succ, List.getElem?_cons_zero, Option.map_some, eq_self, reduceIte, Nat.reduceEqDiff, Int.reduceEq, Int.reduceLT, Int.reduceLE, by_len Okl.read, goInt, decide_eq_true hp]
            rw [hTe] at hr
            exact tx_ReadList.runs hr (.inr rfl) rfl rfl cl rfl
end Go.Proofs.Ytgggklfbhmlapaa

namespace Go.Proofs.Ytgggklfbhmlapaa
open Go.Abs

theorem flat_of : ∀ (m : Nat) (l : List Int), l.length = 2 * m → ∃ ts : List TxV, l = flat ts ∧ ts.length = m := by
  intro m
  induction m with
  | zero => intro l h; exact ⟨[], List.length_eq_zero_iff.mp (by omega), rfl⟩
  | succ m ih =>
    intro l h
    match l, h with
    | a :: b :: l, h =>
      obtain ⟨ts, h1, h2⟩ := ih l (by simp at h; omega)
      exact ⟨⟨a, b⟩ :: ts, by rw [h1]; rfl, by simp [h2]⟩
theorem flat_at {n0 : Int} {pre suf : List TxV} {t : TxV} {l : List Int} (hl : l = n0 :: flat (pre ++ t :: suf)) : l[1 + 2 * pre.length]? = some t.id ∧ l[2 + 2 * pre.length]? = some t.fee := by
  have e : l = (n0 :: flat pre) ++ (t.id :: t.fee :: flat suf) := by rw [hl, flat_append]; rfl
  have hlen : (n0 :: flat pre).length = 1 + 2 * pre.length := by rw [List.length_cons, flat_len]; omega
  constructor
  · rw [e, List.getElem?_append_right (by omega), hlen, Nat.sub_self]; rfl
  · rw [e, List.getElem?_append_right (by omega), hlen, show 2 + 2 * pre.length - (1 + 2 * pre.length) = 1 by omega]; rfl
theorem iz_atq {k : Nat} {l : List Int} {i : Int} {x : Int} {m : Nat} (h : Okl k l) (hi : i = (m : Int)) (hx : l[m]? = some x) (S : AHeap) : vIndexAddr Try.prog 53 (iz k l) (.int .i64 i) S = some (EP [.int .i64 x], S) := by
  obtain ⟨h1, h2⟩ := List.getElem?_eq_some_iff.mp hx
  subst hi
  rw [iz_at h (by omega) (by omega)]
  simp [← h2]
theorem neaptideref06_ReadList.inner {ns : List Int} {n0 : Int} {ts : List TxV} (hns : ns = n0 :: flat ts) (hts : ts.length ≤ 3) : ∀ (suf pre : List TxV) {T : List Value} {S : AHeap} {r : St}, loopV (vcodeV Try.prog O false neaptideref06_ReadList.loop1) T S = r → T.length = 69 →
    T.getD 4 undef = .int .i64 ts.length → T.getD 5 undef = iz 2 ns → T.getD 8 undef = tl 2 pre → T.getD 9 undef = .int .i64 pre.length → ts = pre ++ suf →
    ∃ T', r = some (.exit 2, T', S) ∧ T'.length = 69 ∧ T'.getD 8 undef = tl 2 ts ∧ T'.getD 4 undef = .int .i64 ts.length ∧ T'.getD 0 undef = T.getD 0 undef := by
  intro suf
  induction suf with
  | nil =>
    intro pre T S r hL hT h4 h5 h8 h9 hpre
    have hTe := neaptideref06_ReadList.eta hT
    rw [h4, h5, h8, h9] at hTe
    have hr : vcodeV Try.prog O false neaptideref06_ReadList.loop1 T S = vcodeV Try.prog O false neaptideref06_ReadList.loop1 T S := rfl
    have d1 : ¬ (pre.length : Int) < (ts.length : Int) := by rw [hpre]; simp
    conv at hr =>
      rhs
      rw [hTe]
      simp only [neaptideref06_ReadList.loop1, neaptideref06_ReadList.code, neaptideref06_ReadList.rs, wk, List.getD_cons_succ, List.getD_cons_zero, if_true, if_false, List.getElem?_cons_succ, List.getElem?_cons_zero, Option.map_some, eq_self, reduceIte, Nat.reduceEqDiff, Int.reduceEq, Int.reduceLT, Int.reduceLE, d1]
    rw [List.append_nil] at hpre
    exact ⟨_, hL.symm.trans (loopV_exit hr (by simp)), rfl, by rw [hpre]; rfl, rfl, rfl⟩
  | cons t suf ih =>
    intro pre T S r hL hT h4 h5 h8 h9 hpre
    have hTe := neaptideref06_ReadList.eta hT
    rw [h4, h5, h8, h9] at hTe
    have hr : vcodeV Try.prog O false neaptideref06_ReadList.loop1 T S = vcodeV Try.prog O false neaptideref06_ReadList.loop1 T S := rfl
    have d1 : (pre.length : Int) < (ts.length : Int) := by rw [hpre]; simp; omega
    obtain ⟨f1, f2⟩ := flat_at (by rw [hns, hpre] : ns = n0 :: flat (pre ++ t :: suf))
    have w1 : IntKind.i64.wrap (2 * (pre.length : Int)) = 2 * (pre.length : Int) := wrap_i64 (by omega) (by omega)
    have w2 : IntKind.i64.wrap (1 + 2 * (pre.length : Int)) = 1 + 2 * (pre.length : Int) := wrap_i64 (by omega) (by omega)
    have w3 : IntKind.i64.wrap (2 + 2 * (pre.length : Int)) = 2 + 2 * (pre.length : Int) := wrap_i64 (by omega) (by omega)
    have wi : IntKind.i64.wrap ((pre.length : Int) + 1) = ((pre ++ [t]).length : Int) := by rw [wrap_i64 (by omega) (by omega)]; simp
    have i1 := fun S => iz_atq (k := 1) (i := 1 + 2 * (pre.length : Int)) Okl.read (by omega) f1 S
    have i2 := fun S => iz_atq (k := 1) (i := 2 + 2 * (pre.length : Int)) Okl.read (by omega) f2 S
    have ap : ∀ S, vAppend Try.prog 27 27 (tl 2 pre) (tl 2 [t]) S = some (tl 2 (pre ++ [t]), S) := fun S => tl_more Okl.own (by decide) (by omega)
    have c2 : ∀ S, vBuildSlice Try.prog 27 1 [(0, .agg [Value.int .i64 t.id, .int .i64 t.fee].toArray)] S = some (tl 2 [t], S) := fun S => bs_tx1 t S
    conv at hr =>
      rhs
      rw [hTe]
      simp only [neaptideref06_ReadList.loop1, neaptideref06_ReadList.code, neaptideref06_ReadList.rs, wk, List.getD_cons_succ, List.getD_cons_zero, if_true, if_false, List.getElem?_cons_succ, List.getElem?_cons_zero, Option.map_some, eq_self, reduceIte, Nat.reduceEqDiff, Int.reduceEq, Int.reduceLT, Int.reduceLE, d1, w1, w2, w3, i1, i2, iz_load, bd_api_Tx_0_1 cells_int cells_int, c2, ap, wi]
    obtain ⟨T', j1, j2, j3, j4, j5⟩ := ih (pre ++ [t]) ((loopV_step hr).symm.trans hL) rfl rfl rfl rfl rfl (by simp [hpre])
    exact ⟨T', j1, j2, j3, j4, j5⟩
theorem neaptideref06_ReadList.round {k : Nat} {l : List UInt8} (hk : Okl k l) (k2 : k ≠ 2) (hl : l.length ≤ 140737488355328) : ∀ (m : Nat) (n : Nat) {T : List Value} {S : AHeap} {r : St}, loopV (vcodeV Try.prog O false neaptideref06_ReadList.loop2) T S = r → T.length = 69 →
    T.getD 0 undef = by_ k l → T.getD 4 undef = .int .i64 n → n + m = 4 → (∀ ts, txsRd l = some ts → n ≤ ts.length) →
    ∃ e T', r = some (e, T', S) ∧ match txsRd l with
      | some ts => e = .ret ∧ T'.getD 2 undef = tl 2 ts ∧ T'.getD 3 undef = .int .i64 0
      | none => e = .exit 0 ∧ T'.length = 69 := by
  intro m
  induction m with
  | zero =>
    intro n T S r hL hT h0 h4 hn hno
    have hTe := neaptideref06_ReadList.eta hT
    rw [h0, h4] at hTe
    have hr : vcodeV Try.prog O false neaptideref06_ReadList.loop2 T S = vcodeV Try.prog O false neaptideref06_ReadList.loop2 T S := rfl
    have d1 : ¬ (n : Int) ≤ 3 := by omega
    conv at hr =>
      rhs
      rw [hTe]
      simp only [neaptideref06_ReadList.loop2, neaptideref06_ReadList.code, neaptideref06_ReadList.rs, wk, List.getD_cons_succ, List.getD_cons_zero, if_true, if_false, List.getElem?_cons_succ, List.getElem?_cons_zero, Option.map_some, eq_self, reduceIte, Nat.reduceEqDiff, Int.reduceEq, Int.reduceLT, Int.reduceLE, d1]
    refine ⟨_, _, hL.symm.trans (loopV_exit hr (by simp)), ?_⟩
    have hx : txsRd l = none := by
      cases hx : txsRd l with
      | none => rfl
      | some ts => have h1 := hno ts hx; have h2 := (txsOk_iff.mp ((txsRd_iff l ts).mp hx).1).2; omega
    rw [hx]
    exact ⟨rfl, rfl⟩
  | succ m ih =>
    intro n T S r hL hT h0 h4 hn hno
    have hTe := neaptideref06_ReadList.eta hT
    rw [h0, h4] at hTe
    have hr : vcodeV Try.prog O false neaptideref06_ReadList.loop2 T S = vcodeV Try.prog O false neaptideref06_ReadList.loop2 T S := rfl
    have d1 : (n : Int) ≤ 3 := by omega
    have w1 : IntKind.i64.wrap (2 * (n : Int)) = 2 * (n : Int) := wrap_i64 (by omega) (by omega)
    have w2 : IntKind.i64.wrap (1 + 2 * (n : Int)) = ((1 + 2 * n : Nat) : Int) := by rw [wrap_i64 (by omega) (by omega)]; omega
    have wi : IntKind.i64.wrap ((n : Int) + 1) = ((n + 1 : Nat) : Int) := by rw [wrap_i64 (by omega) (by omega)]; omega
    have c1 := fun S => neaptideref01_ReadNums.v (many := ((1 + 2 * n : Nat) : Int)) hk k2 hl S
    have r1 : readNsV 2 2 ((1 + 2 * n : Nat) : Int) l = _ := readNsV_pos (by omega) (by omega)
    rw [r1] at c1
    have key : ∀ ts, txsRd l = some ts → ts.length = n → readNs (1 + 2 * n) l = some ((ts.length : Int) :: flat ts, []) := by
      intro ts hx hlen
      obtain ⟨g1, g2⟩ := (txsRd_iff l ts).mp hx
      obtain ⟨h5, h6⟩ := txsOk_iff.mp g1
      refine (readNs_iff _ _ _ _).mpr ⟨by simp [flat_len]; omega, by rw [g2, List.append_nil]; rfl, ?_⟩
      intro x hx
      rcases List.mem_cons.1 hx with rfl | hx
      · unfold Few; omega
      · exact few_of h5.2 x hx
    cases hns : readNs (1 + 2 * n) l with
    | none =>
      rw [hns] at c1
      conv at hr =>
        rhs
        rw [hTe]
        simp only [neaptideref06_ReadList.loop2, neaptideref06_ReadList.code, neaptideref06_ReadList.rs, wk, List.getD_cons_succ, List.getD_cons_zero, if_true, if_false, List.getElem?_cons_succ, List.getElem?_cons_zero, Option.map_some, eq_self, reduceIte, Nat.reduceEqDiff, Int.reduceEq, Int.reduceLT, Int.reduceLE, d1, w1, w2, if_neg k2, c1, wi]
      refine ih (n + 1) ((loopV_step hr).symm.trans hL) rfl rfl rfl (by omega) ?_
      intro ts hx
      have h1 := hno ts hx
      by_cases h2 : ts.length = n
      · rw [key ts hx h2] at hns; cases hns
      · omega
    | some nr =>
      obtain ⟨ns, rest⟩ := nr
      rw [hns] at c1
      by_cases hr0 : rest = []
      · subst hr0
        obtain ⟨f1, f2, f3⟩ := (readNs_iff _ _ _ _).mp hns
        obtain ⟨n0, nl, rfl⟩ : ∃ n0 nl, ns = n0 :: nl := by
          cases ns with
          | nil => simp at f1; omega
          | cons a b => exact ⟨a, b, rfl⟩
        obtain ⟨ts, t1, t2⟩ := flat_of n nl (by simp at f1; omega)
        subst t1
        conv at hr =>
          rhs
          rw [hTe]
          simp only [neaptideref06_ReadList.loop2, neaptideref06_ReadList.code, neaptideref06_ReadList.rs, wk, List.getD_cons_succ, List.getD_cons_zero, if_true, if_false, List.getElem?_cons_succ, List.getElem?_cons_zero, Option.map_some, eq_self, reduceIte, Nat.reduceEqDiff, Int.reduceEq, Int.reduceLT, Int.reduceLE, d1, w1, w2, if_neg k2, c1, by_len Okl.read, goInt, List.length_nil, Int.natCast_zero, Int.lt_irrefl, bs_L_api_Tx_0]
        generalize hL2 : loopV (vcodeV Try.prog O false neaptideref06_ReadList.loop1) _ _ = r2 at hr
        obtain ⟨T', rfl, g1, g2, g3, g4⟩ := neaptideref06_ReadList.inner (n0 := n0) (ts := ts) rfl (by omega) ts [] hL2 rfl (by rw [t2]; rfl) rfl rfl rfl rfl
        have hTe' := neaptideref06_ReadList.eta g1
        rw [g2, g3, g4, t2] at hTe'
        simp only [List.getD_cons_zero] at hTe'
        have c3 := fun S => neaptideref06_List.v (k := 1) (l := ts) Okl.read (by decide) (by omega) S
        unfold txsV at c3
        have s1 : ∀ S, vConv Try.prog 33 9 (by_ k l) S = some (.string ⟨l.toArray⟩, S) := fun S => by_str hk
        have s2 : ∀ S, vConv Try.prog 33 9 (by_ 1 (txsB ts)) S = some (.string ⟨(txsB ts).toArray⟩, S) := fun S => by_str Okl.read
        by_cases hok : txsOk ts = true
        · rw [if_pos hok] at c3
          by_cases hb : txsB ts = l
          · conv at hr =>
              rhs
              rw [hTe']
              simp only [neaptideref06_ReadList.code, neaptideref06_ReadList.rs, wk, List.getD_cons_succ, List.getD_cons_zero, if_true, if_false, List.getElem?_cons_succ, List.getElem?_cons_zero, Option.map_some, eq_self, reduceIte, Nat.reduceEqDiff, Int.reduceEq, Int.reduceLT, Int.reduceLE, if_neg k2, c3, s1, s2, tx_eql, decide_eq_true hb]
            refine ⟨_, _, hL.symm.trans (loopV_exit hr (by simp)), ?_⟩
            rw [(txsRd_iff l ts).mpr ⟨hok, hb.symm⟩]
            exact ⟨rfl, rfl, rfl⟩
          · conv at hr =>
              rhs
              rw [hTe']
              simp only [neaptideref06_ReadList.code, neaptideref06_ReadList.rs, wk, List.getD_cons_succ, List.getD_cons_zero, if_true, if_false, List.getElem?_cons_succ, List.getElem?_cons_zero, Option.map_some, eq_self, reduceIte, Nat.reduceEqDiff, Int.reduceEq, Int.reduceLT, Int.reduceLE, if_neg k2, c3, s1, s2, tx_eql, decide_eq_false hb, wi]
            refine ih (n + 1) ((loopV_step hr).symm.trans hL) rfl rfl rfl (by omega) ?_
            intro us hx
            have h1 := hno us hx
            by_cases h2 : us.length = n
            · have := key us hx h2
              rw [hns] at this
              simp at this
              have e := flat_inj this.2
              subst e
              exact absurd ((txsRd_iff _ _).mp hx).2.symm hb
            · omega
        · rw [if_neg hok] at c3
          conv at hr =>
            rhs
            rw [hTe']
            simp only [neaptideref06_ReadList.code, neaptideref06_ReadList.rs, wk, List.getD_cons_succ, List.getD_cons_zero, if_true, if_false, List.getElem?_cons_succ, List.getElem?_cons_zero, Option.map_some, eq_self, reduceIte, Nat.reduceEqDiff, Int.reduceEq, Int.reduceLT, Int.reduceLE, c3, wi]
          refine ih (n + 1) ((loopV_step hr).symm.trans hL) rfl rfl rfl (by omega) ?_
          intro us hx
          have h1 := hno us hx
          by_cases h2 : us.length = n
          · have := key us hx h2
            rw [hns] at this
            simp at this
            have e := flat_inj this.2
            subst e
            exact absurd ((txsRd_iff _ _).mp hx).1 hok
          · omega
      · have hp : (0 : Int) < (rest.length : Int) := by have := List.length_pos_iff.mpr hr0; omega
        conv at hr =>
          rhs
          rw [hTe]
          simp only [neaptideref06_ReadList.loop2, neaptideref06_ReadList.code, neaptideref06_ReadList.rs, wk, List.getD_cons_succ, List.getD_cons_zero, if_true, if_false, List.getElem?_cons_succ, List.getElem?_cons_zero, Option.map_some, eq_self, reduceIte, Nat.reduceEqDiff, Int.reduceEq, Int.reduceLT, Int.reduceLE, d1, w1, w2, if_neg k2, c1, by_len Okl.read, goInt, decide_eq_true hp, wi]
        refine ih (n + 1) ((loopV_step hr).symm.trans hL) rfl rfl rfl (by omega) ?_
        intro ts hx
        have h1 := hno ts hx
        by_cases h2 : ts.length = n
        · rw [key ts hx h2] at hns; simp at hns; exact absurd hns.2 hr0
        · omega
theorem neaptideref06_ReadList.v {k : Nat} {l : List UInt8} (hk : Okl k l) (k2 : k ≠ 2) (hl : l.length ≤ 140737488355328) (S : AHeap) : vlim Try.prog O neaptideref06_ReadList.id [by_ k l] S = some (txsRdV 2 l, S) := by
  obtain ⟨T, hTe⟩ : ∃ T, T = (by_ k l :: undef :: undef :: undef :: undef :: undef :: undef :: undef :: undef :: undef :: undef :: undef :: undef :: undef :: undef :: undef :: undef :: undef :: undef :: undef :: undef :: undef :: undef :: undef :: undef :: undef :: undef :: undef :: undef :: undef :: undef :: undef :: undef :: undef :: undef :: undef :: undef :: undef :: undef :: undef :: undef :: undef :: undef :: undef :: undef :: undef :: undef :: undef :: undef :: undef :: undef :: undef :: undef :: undef :: undef :: undef :: undef :: undef :: undef :: undef :: undef :: undef :: undef :: undef :: undef :: undef :: undef :: undef :: undef :: []) := ⟨_, rfl⟩
  have hr : vcodeV Try.prog O false neaptideref06_ReadList.code T S = vcodeV Try.prog O false neaptideref06_ReadList.code T S := rfl
  conv at hr =>
    rhs
    rw [hTe]
    simp only [neaptideref06_ReadList.code, neaptideref06_ReadList.rs, wk, List.getD_cons_succ, List.getD_cons_zero, if_true, if_false, List.getElem?_cons_succ, List.getElem?_cons_zero, Option.map_some, eq_self, reduceIte, Nat.reduceEqDiff, Int.reduceEq, Int.reduceLT, Int.reduceLE]
  generalize hL : loopV (vcodeV Try.prog O false neaptideref06_ReadList.loop2) _ _ = r at hr
  obtain ⟨e, T', rfl, g⟩ := neaptideref06_ReadList.round hk k2 hl 4 0 hL rfl rfl rfl rfl (fun ts h => Nat.zero_le _)
  unfold txsRdV
  cases hx : txsRd l with
  | none =>
    rw [hx] at g
    obtain ⟨rfl, g2⟩ := g
    have hTe' := neaptideref06_ReadList.eta g2
    conv at hr =>
      rhs
      rw [hTe']
      simp only [neaptideref06_ReadList.code, neaptideref06_ReadList.rs, wk, List.getD_cons_succ, List.getD_cons_zero, if_true, if_false, List.getElem?_cons_succ, List.getElem?_cons_zero, Option.map_some, eq_self, reduceIte, Nat.reduceEqDiff, Int.reduceEq, Int.reduceLT, Int.reduceLE]
    rw [hTe] at hr
    exact neaptideref06_ReadList.runs hr (.inr rfl) rfl rfl
  | some ts =>
    rw [hx] at g
    obtain ⟨rfl, g2, g3⟩ := g
    conv at hr =>
      rhs
      simp only [wk, List.getD_cons_succ, List.getD_cons_zero, if_true, if_false, List.getElem?_cons_succ, List.getElem?_cons_zero, Option.map_some, eq_self, reduceIte, Nat.reduceEqDiff, Int.reduceEq, Int.reduceLT, Int.reduceLE]
    rw [hTe] at hr
    have hrun := neaptideref06_ReadList.runs (S := S) hr (.inr rfl) (by rw [g2]; exact notTuple_vs) (by rw [g3]; rfl)
    rw [g2, g3] at hrun
    dsimp only
    rw [ite_self]
    exact hrun
end Go.Proofs.Ytgggklfbhmlapaa

namespace Go.Proofs.Ytgggklfbhmlapaa
open Go.Abs

theorem txBV_form (t : TxV) : ∃ k b e, Okl k b ∧ List.length b ≤ 20 ∧ txBV t = .tuple #[by_ k b, .int .i64 e] ∧ ((e = 0 ∧ rightB t = true ∧ b = txB t ∧ k = 2) ∨ (e = 61 ∧ rightB t = false ∧ b = [] ∧ k = 0)) := by
  unfold txBV
  by_cases h : rightB t = true
  · exact ⟨2, txB t, 0, Okl.own, txB_len h, by rw [if_pos h], .inl ⟨rfl, h, rfl, rfl⟩⟩
  · exact ⟨0, [], 61, Okl.none, by simp, by rw [if_neg h]; rfl, .inr ⟨rfl, by simpa using h, rfl, rfl⟩⟩
theorem txsB_len {l : List TxV} (h : txsOk l = true) : (txsB l).length ≤ 100 := by
  obtain ⟨h1, h2⟩ := txsOk_iff.mp h
  have h3 := encs_flat_len h1.2
  have h4 := encs_len (l := [(l.length : Int)]) (by simp; omega)
  rw [txsB_split, List.length_append]
  simp at h4
  omega
theorem txsV_form (l : List TxV) : ∃ k b e, Okl k b ∧ List.length b ≤ 100 ∧ txsV l = .tuple #[by_ k b, .int .i64 e] ∧ ((e = 0 ∧ txsOk l = true ∧ b = txsB l ∧ k = 2) ∨ (e = 61 ∧ txsOk l = false ∧ b = [] ∧ k = 0)) := by
  unfold txsV
  by_cases h : txsOk l = true
  · exact ⟨2, txsB l, 0, Okl.own, txsB_len h, by rw [if_pos h], .inl ⟨rfl, h, rfl, rfl⟩⟩
  · exact ⟨0, [], 61, Okl.none, by simp, by rw [if_neg h]; rfl, .inr ⟨rfl, by simpa using h, rfl, rfl⟩⟩
theorem txRdV_form (l : List UInt8) : ∃ t e, txRdV l = .tuple #[tv t, .int .i64 e] ∧ ((e = 0 ∧ txRd l = some t) ∨ (e = 61 ∧ txRd l = none ∧ t = ⟨0, 0⟩)) := by
  unfold txRdV
  cases h : txRd l with
  | none => exact ⟨⟨0, 0⟩, 61, rfl, .inr ⟨rfl, rfl, rfl⟩⟩
  | some t => exact ⟨t, 0, rfl, .inl ⟨rfl, rfl⟩⟩
theorem txsRdV_form {j : Nat} (hj : j ≤ 2) (l : List UInt8) : ∃ k t e, Okl k t ∧ List.length t ≤ 3 ∧ txsRdV j l = .tuple #[tl k t, .int .i64 e] ∧ ((e = 0 ∧ txsRd l = some t) ∨ (e = 61 ∧ txsRd l = none ∧ t = [])) := by
  unfold txsRdV
  cases h : txsRd l with
  | none => exact ⟨0, [], 61, Okl.none, by simp, rfl, .inr ⟨rfl, rfl, rfl⟩⟩
  | some t => exact ⟨_, t, 0, okl_tl hj t, (txsOk_iff.mp ((txsRd_iff l t).mp h).1).2, rfl, .inl ⟨rfl, rfl⟩⟩
theorem txsRd_both (l : List UInt8) : ∃ k1 k2 t e, Okl k1 t ∧ Okl k2 t ∧ List.length t ≤ 3 ∧ txsRdV 0 l = .tuple #[tl k1 t, .int .i64 e] ∧ txsRdV 2 l = .tuple #[tl k2 t, .int .i64 e] := by
  obtain ⟨k1, t1, e1, a1, a2, a3, a4⟩ := txsRdV_form (j := 0) (by decide) l
  obtain ⟨k2, t2, e2, b1, b2, b3, b4⟩ := txsRdV_form (j := 2) (by decide) l
  have : t1 = t2 ∧ e1 = e2 := by
    rcases a4 with ⟨rfl, a⟩ | ⟨rfl, a, rfl⟩ <;> rcases b4 with ⟨rfl, b⟩ | ⟨rfl, b, rfl⟩
    · rw [a] at b; cases b; exact ⟨rfl, rfl⟩
    · rw [a] at b; cases b
    · rw [a] at b; cases b
    · exact ⟨rfl, rfl⟩
  obtain ⟨rfl, rfl⟩ := this
  exact ⟨k1, k2, t1, e1, a1, b1, a2, a3, b3⟩
theorem box_tx (t : TxV) (S : AHeap) : ∃ S2, aBox (tv t) S = some (.pointer (some ⟨S.next, 0, none⟩), S2) ∧ S2.get S.next = some (.cells (fT t) (.own []) 0) ∧ Ext S S2 ∧ S.next < S2.next := box_at (tv t) S
theorem in_txs (x : (Ty.slc 16 tTx).Val) (hg : (Ty.slc 16 tTx).Good x) : ∃ k l, Okl k l ∧ k ≠ 2 ∧ (Ty.slc 16 tTx).vval x = [tl k l] ∧ l.length * 16 ≤ 140737488351232 ∧ ∀ t ∈ l, t.Ok :=
  in_slc (b := 16) fT TxV.Ok in_tx fT_len x hg
theorem tl_copy {k : Nat} {l : List TxV} {S : AHeap} (h : Okl k l) (hl : l.length ≤ 8796093022208) : vAppend Try.prog 27 27 (tl 2 []) (tl k l) S = some (tl 2 l, S) := by
  rw [vs_append u_L_api_Tx s_api_Tx o_api_Tx rfl b_api_Tx (by omega) u_L_api_Tx fT_len fT_one Okl.own (by decide) h (by simp; omega) (by simp; omega)]; rfl
theorem tl0 (S : AHeap) : vBuildSlice Try.prog 27 0 [] S = some (tl 2 [], S) := by rw [bs_L_api_Tx_0]; rfl
end Go.Proofs.Ytgggklfbhmlapaa

namespace Go.Proofs.Ytgggklfbhmlapaa
open Go.Abs

/-- A block; k: whether its transactions are nil. -/
structure BlkV where
  slot : Int
  miner : Int
  variant : Int
  parent : Int
  k : Nat
  txs : List TxV
def fBk (b : BlkV) : List Value := [.int .i64 b.slot, .int .i64 b.miner, .int .i64 b.variant, .int .i64 b.parent, tl b.k b.txs]
abbrev bv (b : BlkV) : Value := .agg [Value.int .i64 b.slot, .int .i64 b.miner, .int .i64 b.variant, .int .i64 b.parent, tl b.k b.txs].toArray
structure BlkV.Ok (b : BlkV) : Prop where
  okl : Okl b.k b.txs
  ne : b.k ≠ 2
  len : b.txs.length * 16 ≤ 140737488351232
  par : b.parent < 9223372036854775808
abbrev tBk : Ty := .pair (.int .i64) (.pair (.int .i64) (.pair (.int .i64) (.pair (.int .i64) (.pair (.slc 16 tTx) .unit))))
/-- The numbers of a block can be. -/
def headB (b : BlkV) : Bool := btw b.slot 1 4095 && btw b.miner 0 6 && btw b.variant 0 255 && (decide (b.parent = 0) || (namedB b.parent && decide (b.parent / 65536 < b.slot)))
def rightBk (b : BlkV) : Bool := headB b && txsOk b.txs
def nameOf (b : BlkV) : Int := if rightBk b = true then b.slot * 65536 + b.miner * 256 + b.variant else 0
theorem head_iff {b : BlkV} : headB b = true ↔ (1 ≤ b.slot ∧ b.slot ≤ 4095) ∧ (0 ≤ b.miner ∧ b.miner ≤ 6) ∧ (0 ≤ b.variant ∧ b.variant ≤ 255) ∧ (b.parent = 0 ∨ (namedB b.parent = true ∧ b.parent / 65536 < b.slot)) := by
  simp [headB, btw_iff, and_assoc]
theorem clean_bv {b : BlkV} {d : Nat} (h : b.k ≤ 2) : cleanN (d + 6) (bv b) = true := by
  have h1 : cleanN (d + 5) (tl b.k b.txs) = true := clean_vs (d := d + 1) h fun _ _ => rfl
  refine clean_agg ?_
  simp only [List.all_cons, List.all_nil, h1, Bool.and_true]
  rfl
abbrev memb (b : BlkV) : AHeap := AHeap.empty.push (.cells (fBk b) (.own []) 0)
theorem boxb (b : BlkV) : aBox (bv b) AHeap.empty = some (.pointer (some ⟨0, 0, none⟩), memb b) := rfl
theorem memb_get (b : BlkV) : (memb b).get 0 = some (.cells (fBk b) (.own []) 0) := rfl
theorem ld_b0 {S : AHeap} {q : Nat} {b : BlkV} (h : S.get q = some (.cells (fBk b) (.own []) 0)) : vLoad Try.prog false 3 (.pointer (some ⟨q, 0 + 0, none⟩)) S = some (.int .i64 b.slot, S) := load_int (t := 3) (o := 0 + 0) h g_int rfl
theorem ld_b1 {S : AHeap} {q : Nat} {b : BlkV} (h : S.get q = some (.cells (fBk b) (.own []) 0)) : vLoad Try.prog false 3 (.pointer (some ⟨q, 0 + 1, none⟩)) S = some (.int .i64 b.miner, S) := load_int (t := 3) (o := 0 + 1) h g_int rfl
theorem ld_b2 {S : AHeap} {q : Nat} {b : BlkV} (h : S.get q = some (.cells (fBk b) (.own []) 0)) : vLoad Try.prog false 3 (.pointer (some ⟨q, 0 + 2, none⟩)) S = some (.int .i64 b.variant, S) := load_int (t := 3) (o := 0 + 2) h g_int rfl
theorem ld_b3 {S : AHeap} {q : Nat} {b : BlkV} (h : S.get q = some (.cells (fBk b) (.own []) 0)) : vLoad Try.prog false 3 (.pointer (some ⟨q, 0 + 3, none⟩)) S = some (.int .i64 b.parent, S) := load_int (t := 3) (o := 0 + 3) h g_int rfl
theorem ld_b4 {S : AHeap} {q : Nat} {b : BlkV} (h : S.get q = some (.cells (fBk b) (.own []) 0)) (hk : b.k ≠ 2) : vLoad Try.prog false 27 (.pointer (some ⟨q, 0 + 4, none⟩)) S = some (tl b.k b.txs, S) := by
  rw [load_mem (o := 0 + 4) (v := tl b.k b.txs) h g_L_api_Tx rfl (fun l h => by unfold tl vs sv at h; split at h <;> cases h), dem_vs, if_neg hk]
theorem ld_b {S : AHeap} {q : Nat} {b : BlkV} (h : S.get q = some (.cells (fBk b) (.own []) 0)) (hk : b.k ≠ 2) : vLoad Try.prog false 29 (.pointer (some ⟨q, 0, none⟩)) S = some (bv b, S) := by
  rw [lm_api_Block h, dem1_int, dem1_int, dem1_int, dem1_int, dem1_vs, if_neg hk]
-- printed by genb.py
theorem block_Right.v {b : BlkV} (hb : b.Ok) (S : AHeap) : vlim Try.prog O block_Right.id [bv b] S = some (.bool (rightBk b), S) := by
  obtain ⟨T, hTe⟩ : ∃ T, T = (bv b :: undef :: undef :: undef :: undef :: undef :: undef :: undef :: undef :: undef :: undef :: undef :: undef :: undef :: undef :: undef :: undef :: undef :: undef :: undef :: undef :: undef :: undef :: undef :: undef :: undef :: undef :: undef :: undef :: undef :: undef :: undef :: undef :: undef :: undef :: undef :: undef :: undef :: undef :: undef :: undef :: undef :: undef :: undef :: undef :: undef :: []) := ⟨_, rfl⟩
  have hr : vcodeV Try.prog O false block_Right.code T AHeap.empty = vcodeV Try.prog O false block_Right.code T AHeap.empty := rfl
  have l0 := ld_b0 (memb_get b)
  have l1 := ld_b1 (memb_get b)
  have l2 := ld_b2 (memb_get b)
  have l3 := ld_b3 (memb_get b)
  have l4 := ld_b4 (memb_get b) hb.ne
  have c1 := fun S => tx_List.v hb.okl hb.ne (by have := hb.len; omega) S
  unfold txsV at c1
  cases h1 : btw b.slot 1 4095
  · have e : rightBk b = false := by simp [rightBk, headB, h1]
    rw [e]
    conv at hr =>
      rhs
      rw [hTe]
      simp only [block_Right.code, block_Right.rs, wk, List.getD_cons_succ, List.getD_cons_zero, if_true, if_false, List.getElem?_cons_succ, List.getElem?_cons_zero, Option.map_some, eq_self, reduceIte, Nat.reduceEqDiff, Int.reduceEq, Int.reduceLT, Int.reduceLE, boxb, fa_api_Block_0, fa_api_Block_1, fa_api_Block_2, fa_api_Block_3, fa_api_Block_4, l0, l1, l2, l3, l4, if_neg hb.ne, block_between.v, h1]
    rw [hTe] at hr
    exact block_Right.runs hr (.inr rfl) (all1 (clean_bv hb.okl.le)) rfl
  · cases h2 : btw b.miner 0 6
    · have e : rightBk b = false := by simp [rightBk, headB, h1, h2]
      rw [e]
      conv at hr =>
        rhs
        rw [hTe]
        simp only [block_Right.code, block_Right.rs, wk, List.getD_cons_succ, List.getD_cons_zero, if_true, if_false, List.getElem?_cons_succ, List.getElem?_cons_zero, Option.map_some, eq_self, reduceIte, Nat.reduceEqDiff, Int.reduceEq, Int.reduceLT, Int.reduceLE, boxb, fa_api_Block_0, fa_api_Block_1, fa_api_Block_2, fa_api_Block_3, fa_api_Block_4, l0, l1, l2, l3, l4, if_neg hb.ne, block_between.v, h1, h2]
      rw [hTe] at hr
      exact block_Right.runs hr (.inr rfl) (all1 (clean_bv hb.okl.le)) rfl
    · cases h3 : btw b.variant 0 255
      · have e : rightBk b = false := by simp [rightBk, headB, h1, h2, h3]
        rw [e]
        conv at hr =>
          rhs
          rw [hTe]
          simp only [block_Right.code, block_Right.rs, wk, List.getD_cons_succ, List.getD_cons_zero, if_true, if_false, List.getElem?_cons_succ, List.getElem?_cons_zero, Option.map_some, eq_self, reduceIte, Nat.reduceEqDiff, Int.reduceEq, Int.reduceLT, Int.reduceLE, boxb, fa_api_Block_0, fa_api_Block_1, fa_api_Block_2, fa_api_Block_3, fa_api_Block_4, l0, l1, l2, l3, l4, if_neg hb.ne, block_between.v, h1, h2, h3]
        rw [hTe] at hr
        exact block_Right.runs hr (.inr rfl) (all1 (clean_bv hb.okl.le)) rfl
      · by_cases h4 : b.parent = 0
        · by_cases h7 : txsOk b.txs = true
          · rw [if_pos h7] at c1
            have e : rightBk b = true := by simp [rightBk, headB, h1, h2, h3, h4, h7]
            rw [e]
            conv at hr =>
              rhs
              rw [hTe]
              simp only [block_Right.code, block_Right.rs, wk, List.getD_cons_succ, List.getD_cons_zero, if_true, if_false, List.getElem?_cons_succ, List.getElem?_cons_zero, Option.map_some, eq_self, reduceIte, Nat.reduceEqDiff, Int.reduceEq, Int.reduceLT, Int.reduceLE, boxb, fa_api_Block_0, fa_api_Block_1, fa_api_Block_2, fa_api_Block_3, fa_api_Block_4, l0, l1, l2, l3, l4, if_neg hb.ne, block_between.v, h1, h2, h3, decide_eq_true h4, c1]
            rw [hTe] at hr
            exact block_Right.runs hr (.inr rfl) (all1 (clean_bv hb.okl.le)) rfl
          · rw [if_neg h7] at c1
            have e : rightBk b = false := by simp [rightBk, h7]
            rw [e]
            conv at hr =>
              rhs
              rw [hTe]
              simp only [block_Right.code, block_Right.rs, wk, List.getD_cons_succ, List.getD_cons_zero, if_true, if_false, List.getElem?_cons_succ, List.getElem?_cons_zero, Option.map_some, eq_self, reduceIte, Nat.reduceEqDiff, Int.reduceEq, Int.reduceLT, Int.reduceLE, boxb, fa_api_Block_0, fa_api_Block_1, fa_api_Block_2, fa_api_Block_3, fa_api_Block_4, l0, l1, l2, l3, l4, if_neg hb.ne, block_between.v, h1, h2, h3, decide_eq_true h4, c1]
            rw [hTe] at hr
            exact block_Right.runs hr (.inr rfl) (all1 (clean_bv hb.okl.le)) rfl
        · cases h5 : namedB b.parent
          · have e : rightBk b = false := by simp [rightBk, headB, h1, h2, h3, h4, h5]
            rw [e]
            conv at hr =>
              rhs
              rw [hTe]
              simp only [block_Right.code, block_Right.rs, wk, List.getD_cons_succ, List.getD_cons_zero, if_true, if_false, List.getElem?_cons_succ, List.getElem?_cons_zero, Option.map_some, eq_self, reduceIte, Nat.reduceEqDiff, Int.reduceEq, Int.reduceLT, Int.reduceLE, boxb, fa_api_Block_0, fa_api_Block_1, fa_api_Block_2, fa_api_Block_3, fa_api_Block_4, l0, l1, l2, l3, l4, if_neg hb.ne, block_between.v, h1, h2, h3, decide_eq_false h4, block_named.v, h5]
            rw [hTe] at hr
            exact block_Right.runs hr (.inr rfl) (all1 (clean_bv hb.okl.le)) rfl
          · have hn := named_iff.mp h5
            have q1 : IntKind.i64.wrap (b.parent.tdiv 65536) = b.parent / 65536 := by rw [tdiv_pos (by omega), wrap_i64 (by omega) (by omega)]
            by_cases h6 : b.parent / 65536 < b.slot
            · have h6' : ¬ b.slot ≤ b.parent / 65536 := by omega
              by_cases h7 : txsOk b.txs = true
              · rw [if_pos h7] at c1
                have e : rightBk b = true := by simp [rightBk, headB, h1, h2, h3, h4, h5, h6, h7]
                rw [e]
                conv at hr =>
                  rhs
                  rw [hTe]
                  simp only [block_Right.code, block_Right.rs, wk, List.getD_cons_succ, List.getD_cons_zero, if_true, if_false, List.getElem?_cons_succ, List.getElem?_cons_zero, Option.map_some, eq_self, reduceIte, Nat.reduceEqDiff, Int.reduceEq, Int.reduceLT, Int.reduceLE, boxb, fa_api_Block_0, fa_api_Block_1, fa_api_Block_2, fa_api_Block_3, fa_api_Block_4, l0, l1, l2, l3, l4, if_neg hb.ne, block_between.v, h1, h2, h3, decide_eq_false h4, block_named.v, h5, aBin_quo _ _ _ d65536, q1, decide_eq_false h6', c1]
                rw [hTe] at hr
                exact block_Right.runs hr (.inr rfl) (all1 (clean_bv hb.okl.le)) rfl
              · rw [if_neg h7] at c1
                have e : rightBk b = false := by simp [rightBk, h7]
                rw [e]
                conv at hr =>
                  rhs
                  rw [hTe]
                  simp only [block_Right.code, block_Right.rs, wk, List.getD_cons_succ, List.getD_cons_zero, if_true, if_false, List.getElem?_cons_succ, List.getElem?_cons_zero, Option.map_some, eq_self, reduceIte, Nat.reduceEqDiff, Int.reduceEq, Int.reduceLT, Int.reduceLE, boxb, fa_api_Block_0, fa_api_Block_1, fa_api_Block_2, fa_api_Block_3, fa_api_Block_4, l0, l1, l2, l3, l4, if_neg hb.ne, block_between.v, h1, h2, h3, decide_eq_false h4, block_named.v, h5, aBin_quo _ _ _ d65536, q1, decide_eq_false h6', c1]
                rw [hTe] at hr
                exact block_Right.runs hr (.inr rfl) (all1 (clean_bv hb.okl.le)) rfl
            · have h6' : b.slot ≤ b.parent / 65536 := by omega
              have e : rightBk b = false := by simp [rightBk, headB, h1, h2, h3, h4, h5, h6]
              rw [e]
              conv at hr =>
                rhs
                rw [hTe]
                simp only [block_Right.code, block_Right.rs, wk, List.getD_cons_succ, List.getD_cons_zero, if_true, if_false, List.getElem?_cons_succ, List.getElem?_cons_zero, Option.map_some, eq_self, reduceIte, Nat.reduceEqDiff, Int.reduceEq, Int.reduceLT, Int.reduceLE, boxb, fa_api_Block_0, fa_api_Block_1, fa_api_Block_2, fa_api_Block_3, fa_api_Block_4, l0, l1, l2, l3, l4, if_neg hb.ne, block_between.v, h1, h2, h3, decide_eq_false h4, block_named.v, h5, aBin_quo _ _ _ d65536, q1, decide_eq_true h6']
              rw [hTe] at hr
              exact block_Right.runs hr (.inr rfl) (all1 (clean_bv hb.okl.le)) rfl
theorem neaptideref07_Right.v {b : BlkV} (hb : b.Ok) (S : AHeap) : vlim Try.prog O neaptideref07_Right.id [bv b] S = some (.bool (rightBk b), S) := by
  obtain ⟨T, hTe⟩ : ∃ T, T = (bv b :: undef :: undef :: undef :: undef :: undef :: undef :: undef :: undef :: undef :: undef :: undef :: undef :: undef :: undef :: undef :: undef :: undef :: undef :: undef :: undef :: undef :: undef :: undef :: undef :: undef :: undef :: undef :: undef :: undef :: undef :: undef :: undef :: undef :: undef :: undef :: undef :: undef :: undef :: undef :: undef :: undef :: undef :: undef :: undef :: undef :: undef :: undef :: undef :: undef :: undef :: undef :: undef :: undef :: undef :: undef :: undef :: undef :: undef :: undef :: undef :: undef :: undef :: []) := ⟨_, rfl⟩
  have hr : vcodeV Try.prog O false neaptideref07_Right.code T AHeap.empty = vcodeV Try.prog O false neaptideref07_Right.code T AHeap.empty := rfl
  have l0 := ld_b0 (memb_get b)
  have l1 := ld_b1 (memb_get b)
  have l2 := ld_b2 (memb_get b)
  have l3 := ld_b3 (memb_get b)
  have l4 := ld_b4 (memb_get b) hb.ne
  have c1 := fun S => neaptideref06_List.v hb.okl hb.ne (by have := hb.len; omega) S
  unfold txsV at c1
  by_cases h1 : b.slot < 1
  · have e : rightBk b = false := by 
      cases h : rightBk b with
        | false => rfl
        | true => simp only [rightBk, Bool.and_eq_true, head_iff] at h; omega
    rw [e]
    conv at hr =>
      rhs
      rw [hTe]
      simp only [neaptideref07_Right.code, neaptideref07_Right.rs, wk, List.getD_cons_succ, List.getD_cons_zero, if_true, if_false, List.getElem?_cons_succ, List.getElem?_cons_zero, Option.map_some, eq_self, reduceIte, Nat.reduceEqDiff, Int.reduceEq, Int.reduceLT, Int.reduceLE, boxb, fa_api_Block_0, fa_api_Block_1, fa_api_Block_2, fa_api_Block_3, fa_api_Block_4, l0, l1, l2, l3, l4, if_neg hb.ne, decide_eq_true h1]
    rw [hTe] at hr
    exact neaptideref07_Right.runs hr (.inr rfl) (all1 (clean_bv hb.okl.le)) rfl
  · by_cases h2 : 4095 < b.slot
    · have e : rightBk b = false := by 
        cases h : rightBk b with
          | false => rfl
          | true => simp only [rightBk, Bool.and_eq_true, head_iff] at h; omega
      rw [e]
      conv at hr =>
        rhs
        rw [hTe]
        simp only [neaptideref07_Right.code, neaptideref07_Right.rs, wk, List.getD_cons_succ, List.getD_cons_zero, if_true, if_false, List.getElem?_cons_succ, List.getElem?_cons_zero, Option.map_some, eq_self, reduceIte, Nat.reduceEqDiff, Int.reduceEq, Int.reduceLT, Int.reduceLE, boxb, fa_api_Block_0, fa_api_Block_1, fa_api_Block_2, fa_api_Block_3, fa_api_Block_4, l0, l1, l2, l3, l4, if_neg hb.ne, decide_eq_false h1, decide_eq_true h2]
      rw [hTe] at hr
      exact neaptideref07_Right.runs hr (.inr rfl) (all1 (clean_bv hb.okl.le)) rfl
    · by_cases h3 : b.miner < 0
      · have e : rightBk b = false := by 
          cases h : rightBk b with
            | false => rfl
            | true => simp only [rightBk, Bool.and_eq_true, head_iff] at h; omega
        rw [e]
        conv at hr =>
          rhs
          rw [hTe]
          simp only [neaptideref07_Right.code, neaptideref07_Right.rs, wk, List.getD_cons_succ, List.getD_cons_zero, if_true, if_false, List.getElem?_cons_succ, List.getElem?_cons_zero, Option.map_some, eq_self, reduceIte, Nat.reduceEqDiff, Int.reduceEq, Int.reduceLT, Int.reduceLE, boxb, fa_api_Block_0, fa_api_Block_1, fa_api_Block_2, fa_api_Block_3, fa_api_Block_4, l0, l1, l2, l3, l4, if_neg hb.ne, decide_eq_false h1, decide_eq_false h2, decide_eq_true h3]
        rw [hTe] at hr
        exact neaptideref07_Right.runs hr (.inr rfl) (all1 (clean_bv hb.okl.le)) rfl
      · by_cases h4 : 6 < b.miner
        · have e : rightBk b = false := by 
            cases h : rightBk b with
              | false => rfl
              | true => simp only [rightBk, Bool.and_eq_true, head_iff] at h; omega
          rw [e]
          conv at hr =>
            rhs
            rw [hTe]
            simp only [neaptideref07_Right.code, neaptideref07_Right.rs, wk, List.getD_cons_succ, List.getD_cons_zero, if_true, if_false, List.getElem?_cons_succ, List.getElem?_cons_zero, Option.map_some, eq_self, reduceIte, Nat.reduceEqDiff, Int.reduceEq, Int.reduceLT, Int.reduceLE, boxb, fa_api_Block_0, fa_api_Block_1, fa_api_Block_2, fa_api_Block_3, fa_api_Block_4, l0, l1, l2, l3, l4, if_neg hb.ne, decide_eq_false h1, decide_eq_false h2, decide_eq_false h3, decide_eq_true h4]
          rw [hTe] at hr
          exact neaptideref07_Right.runs hr (.inr rfl) (all1 (clean_bv hb.okl.le)) rfl
        · by_cases h5 : b.variant < 0
          · have e : rightBk b = false := by 
              cases h : rightBk b with
                | false => rfl
                | true => simp only [rightBk, Bool.and_eq_true, head_iff] at h; omega
            rw [e]
            conv at hr =>
              rhs
              rw [hTe]
              simp only [neaptideref07_Right.code, neaptideref07_Right.rs, wk, List.getD_cons_succ, List.getD_cons_zero, if_true, if_false, List.getElem?_cons_succ, List.getElem?_cons_zero, Option.map_some, eq_self, reduceIte, Nat.reduceEqDiff, Int.reduceEq, Int.reduceLT, Int.reduceLE, boxb, fa_api_Block_0, fa_api_Block_1, fa_api_Block_2, fa_api_Block_3, fa_api_Block_4, l0, l1, l2, l3, l4, if_neg hb.ne, decide_eq_false h1, decide_eq_false h2, decide_eq_false h3, decide_eq_false h4, decide_eq_true h5]
            rw [hTe] at hr
            exact neaptideref07_Right.runs hr (.inr rfl) (all1 (clean_bv hb.okl.le)) rfl
          · by_cases h6 : 255 < b.variant
            · have e : rightBk b = false := by 
                cases h : rightBk b with
                  | false => rfl
                  | true => simp only [rightBk, Bool.and_eq_true, head_iff] at h; omega
              rw [e]
              conv at hr =>
                rhs
                rw [hTe]
                simp only [neaptideref07_Right.code, neaptideref07_Right.rs, wk, List.getD_cons_succ, List.getD_cons_zero, if_true, if_false, List.getElem?_cons_succ, List.getElem?_cons_zero, Option.map_some, eq_self, reduceIte, Nat.reduceEqDiff, Int.reduceEq, Int.reduceLT, Int.reduceLE, boxb, fa_api_Block_0, fa_api_Block_1, fa_api_Block_2, fa_api_Block_3, fa_api_Block_4, l0, l1, l2, l3, l4, if_neg hb.ne, decide_eq_false h1, decide_eq_false h2, decide_eq_false h3, decide_eq_false h4, decide_eq_false h5, decide_eq_true h6]
              rw [hTe] at hr
              exact neaptideref07_Right.runs hr (.inr rfl) (all1 (clean_bv hb.okl.le)) rfl
            · by_cases h7 : txsOk b.txs = true
              · rw [if_pos h7] at c1
                have hh : headB b = (decide (b.parent = 0) || (namedB b.parent && decide (b.parent / 65536 < b.slot))) := by
                  have a1 := btw_iff.mpr (show 1 ≤ b.slot ∧ b.slot ≤ 4095 by omega)
                  have a2 := btw_iff.mpr (show 0 ≤ b.miner ∧ b.miner ≤ 6 by omega)
                  have a3 := btw_iff.mpr (show 0 ≤ b.variant ∧ b.variant ≤ 255 by omega)
                  simp [headB, a1, a2, a3]
                by_cases h8 : b.parent = 0
                · have e : rightBk b = true := by simp [rightBk, hh, h8, h7]
                  rw [e]
                  conv at hr =>
                    rhs
                    rw [hTe]
                    simp only [neaptideref07_Right.code, neaptideref07_Right.rs, wk, List.getD_cons_succ, List.getD_cons_zero, if_true, if_false, List.getElem?_cons_succ, List.getElem?_cons_zero, Option.map_some, eq_self, reduceIte, Nat.reduceEqDiff, Int.reduceEq, Int.reduceLT, Int.reduceLE, boxb, fa_api_Block_0, fa_api_Block_1, fa_api_Block_2, fa_api_Block_3, fa_api_Block_4, l0, l1, l2, l3, l4, if_neg hb.ne, decide_eq_false h1, decide_eq_false h2, decide_eq_false h3, decide_eq_false h4, decide_eq_false h5, decide_eq_false h6, c1, decide_eq_true h8]
                  rw [hTe] at hr
                  exact neaptideref07_Right.runs hr (.inr rfl) (all1 (clean_bv hb.okl.le)) rfl
                · have c2 := fun S => neaptideref07_Parts.v b.parent hb.par S
                  unfold partsV at c2
                  by_cases h9 : b.parent < 0
                  · rw [if_pos h9] at c2
                    have hn : namedB b.parent = false := by
                      cases h : namedB b.parent with
                      | false => rfl
                      | true => have := named_iff.mp h; omega
                    have e : rightBk b = false := by simp [rightBk, hh, h8, hn]
                    rw [e]
                    conv at hr =>
                      rhs
                      rw [hTe]
                      simp only [neaptideref07_Right.code, neaptideref07_Right.rs, wk, List.getD_cons_succ, List.getD_cons_zero, if_true, if_false, List.getElem?_cons_succ, List.getElem?_cons_zero, Option.map_some, eq_self, reduceIte, Nat.reduceEqDiff, Int.reduceEq, Int.reduceLT, Int.reduceLE, boxb, fa_api_Block_0, fa_api_Block_1, fa_api_Block_2, fa_api_Block_3, fa_api_Block_4, l0, l1, l2, l3, l4, if_neg hb.ne, decide_eq_false h1, decide_eq_false h2, decide_eq_false h3, decide_eq_false h4, decide_eq_false h5, decide_eq_false h6, c1, decide_eq_false h8, c2]
                    rw [hTe] at hr
                    exact neaptideref07_Right.runs hr (.inr rfl) (all1 (clean_bv hb.okl.le)) rfl
                  · rw [if_neg h9] at c2
                    cases hn : namedB b.parent
                    · rw [hn] at c2
                      have e : rightBk b = false := by simp [rightBk, hh, h8, hn]
                      rw [e]
                      conv at hr =>
                        rhs
                        rw [hTe]
                        simp only [neaptideref07_Right.code, neaptideref07_Right.rs, wk, List.getD_cons_succ, List.getD_cons_zero, if_true, if_false, List.getElem?_cons_succ, List.getElem?_cons_zero, Option.map_some, eq_self, reduceIte, Nat.reduceEqDiff, Int.reduceEq, Int.reduceLT, Int.reduceLE, boxb, fa_api_Block_0, fa_api_Block_1, fa_api_Block_2, fa_api_Block_3, fa_api_Block_4, l0, l1, l2, l3, l4, if_neg hb.ne, decide_eq_false h1, decide_eq_false h2, decide_eq_false h3, decide_eq_false h4, decide_eq_false h5, decide_eq_false h6, c1, decide_eq_false h8, c2]
                      rw [hTe] at hr
                      exact neaptideref07_Right.runs hr (.inr rfl) (all1 (clean_bv hb.okl.le)) rfl
                    · rw [hn] at c2
                      have e : rightBk b = decide (b.parent / 65536 < b.slot) := by simp [rightBk, hh, h8, hn, h7]
                      rw [e]
                      conv at hr =>
                        rhs
                        rw [hTe]
                        simp only [neaptideref07_Right.code, neaptideref07_Right.rs, wk, List.getD_cons_succ, List.getD_cons_zero, if_true, if_false, List.getElem?_cons_succ, List.getElem?_cons_zero, Option.map_some, eq_self, reduceIte, Nat.reduceEqDiff, Int.reduceEq, Int.reduceLT, Int.reduceLE, boxb, fa_api_Block_0, fa_api_Block_1, fa_api_Block_2, fa_api_Block_3, fa_api_Block_4, l0, l1, l2, l3, l4, if_neg hb.ne, decide_eq_false h1, decide_eq_false h2, decide_eq_false h3, decide_eq_false h4, decide_eq_false h5, decide_eq_false h6, c1, decide_eq_false h8, c2]
                      rw [hTe] at hr
                      exact neaptideref07_Right.runs hr (.inr rfl) (all1 (clean_bv hb.okl.le)) rfl
              · rw [if_neg h7] at c1
                have e : rightBk b = false := by simp [rightBk, h7]
                rw [e]
                conv at hr =>
                  rhs
                  rw [hTe]
                  simp only [neaptideref07_Right.code, neaptideref07_Right.rs, wk, List.getD_cons_succ, List.getD_cons_zero, if_true, if_false, List.getElem?_cons_succ, List.getElem?_cons_zero, Option.map_some, eq_self, reduceIte, Nat.reduceEqDiff, Int.reduceEq, Int.reduceLT, Int.reduceLE, boxb, fa_api_Block_0, fa_api_Block_1, fa_api_Block_2, fa_api_Block_3, fa_api_Block_4, l0, l1, l2, l3, l4, if_neg hb.ne, decide_eq_false h1, decide_eq_false h2, decide_eq_false h3, decide_eq_false h4, decide_eq_false h5, decide_eq_false h6, c1]
                rw [hTe] at hr
                exact neaptideref07_Right.runs hr (.inr rfl) (all1 (clean_bv hb.okl.le)) rfl
theorem block_Name.v {b : BlkV} (hb : b.Ok) (S : AHeap) : vlim Try.prog O block_Name.id [bv b] S = some (.int .i64 (nameOf b), S) := by
  obtain ⟨T, hTe⟩ : ∃ T, T = (bv b :: undef :: undef :: undef :: undef :: undef :: undef :: undef :: undef :: undef :: undef :: undef :: undef :: undef :: undef :: undef :: []) := ⟨_, rfl⟩
  have hr : vcodeV Try.prog O false block_Name.code T AHeap.empty = vcodeV Try.prog O false block_Name.code T AHeap.empty := rfl
  have l0 := ld_b0 (memb_get b)
  have l1 := ld_b1 (memb_get b)
  have l2 := ld_b2 (memb_get b)
  have lb := ld_b (memb_get b) hb.ne
  have c1 := fun S => block_Right.v hb S
  unfold nameOf
  cases hR : rightBk b
  · rw [hR] at c1
    conv at hr =>
      rhs
      rw [hTe]
      simp only [block_Name.code, block_Name.rs, wk, List.getD_cons_succ, List.getD_cons_zero, if_true, if_false, List.getElem?_cons_succ, List.getElem?_cons_zero, Option.map_some, eq_self, reduceIte, Nat.reduceEqDiff, Int.reduceEq, Int.reduceLT, Int.reduceLE, boxb, lb, c1]
    rw [hTe] at hr
    exact block_Name.runs hr (.inr rfl) (all1 (clean_bv hb.okl.le)) rfl
  · rw [hR] at c1
    have hh := hR
    simp only [rightBk, Bool.and_eq_true, head_iff] at hh
    obtain ⟨⟨h1, h2, h3, _⟩, _⟩ := hh
    have w1 : IntKind.i64.wrap (b.slot * 65536) = b.slot * 65536 := wrap_i64 (by omega) (by omega)
    have w2 : IntKind.i64.wrap (b.miner * 256) = b.miner * 256 := wrap_i64 (by omega) (by omega)
    have w3 : IntKind.i64.wrap (b.slot * 65536 + b.miner * 256) = b.slot * 65536 + b.miner * 256 := wrap_i64 (by omega) (by omega)
    have w4 : IntKind.i64.wrap (b.slot * 65536 + b.miner * 256 + b.variant) = b.slot * 65536 + b.miner * 256 + b.variant := wrap_i64 (by omega) (by omega)
    conv at hr =>
      rhs
      rw [hTe]
      simp only [block_Name.code, block_Name.rs, wk, List.getD_cons_succ, List.getD_cons_zero, if_true, if_false, List.getElem?_cons_succ, List.getElem?_cons_zero, Option.map_some, eq_self, reduceIte, Nat.reduceEqDiff, Int.reduceEq, Int.reduceLT, Int.reduceLE, boxb, lb, c1, fa_api_Block_0, fa_api_Block_1, fa_api_Block_2, l0, l1, l2, w1, w2, w3, w4]
    rw [hTe] at hr
    exact block_Name.runs hr (.inr rfl) (all1 (clean_bv hb.okl.le)) rfl
theorem neaptideref07_Name.v {b : BlkV} (hb : b.Ok) (S : AHeap) : vlim Try.prog O neaptideref07_Name.id [bv b] S = some (.int .i64 (nameOf b), S) := by
  obtain ⟨T, hTe⟩ : ∃ T, T = (bv b :: undef :: undef :: undef :: undef :: undef :: undef :: undef :: undef :: undef :: undef :: undef :: undef :: undef :: undef :: undef :: []) := ⟨_, rfl⟩
  have hr : vcodeV Try.prog O false neaptideref07_Name.code T AHeap.empty = vcodeV Try.prog O false neaptideref07_Name.code T AHeap.empty := rfl
  have l0 := ld_b0 (memb_get b)
  have l1 := ld_b1 (memb_get b)
  have l2 := ld_b2 (memb_get b)
  have lb := ld_b (memb_get b) hb.ne
  have c1 := fun S => neaptideref07_Right.v hb S
  unfold nameOf
  cases hR : rightBk b
  · rw [hR] at c1
    conv at hr =>
      rhs
      rw [hTe]
      simp only [neaptideref07_Name.code, neaptideref07_Name.rs, wk, List.getD_cons_succ, List.getD_cons_zero, if_true, if_false, List.getElem?_cons_succ, List.getElem?_cons_zero, Option.map_some, eq_self, reduceIte, Nat.reduceEqDiff, Int.reduceEq, Int.reduceLT, Int.reduceLE, boxb, lb, c1]
    rw [hTe] at hr
    exact neaptideref07_Name.runs hr (.inr rfl) (all1 (clean_bv hb.okl.le)) rfl
  · rw [hR] at c1
    have hh := hR
    simp only [rightBk, Bool.and_eq_true, head_iff] at hh
    obtain ⟨⟨h1, h2, h3, _⟩, _⟩ := hh
    have w1 : IntKind.i64.wrap (b.slot * 256) = b.slot * 256 := wrap_i64 (by omega) (by omega)
    have w2 : IntKind.i64.wrap (b.slot * 256 + b.miner) = b.slot * 256 + b.miner := wrap_i64 (by omega) (by omega)
    have w3 : IntKind.i64.wrap ((b.slot * 256 + b.miner) * 256) = b.slot * 65536 + b.miner * 256 := by rw [wrap_i64 (by omega) (by omega)]; omega
    have w4 : IntKind.i64.wrap (b.slot * 65536 + b.miner * 256 + b.variant) = b.slot * 65536 + b.miner * 256 + b.variant := wrap_i64 (by omega) (by omega)
    conv at hr =>
      rhs
      rw [hTe]
      simp only [neaptideref07_Name.code, neaptideref07_Name.rs, wk, List.getD_cons_succ, List.getD_cons_zero, if_true, if_false, List.getElem?_cons_succ, List.getElem?_cons_zero, Option.map_some, eq_self, reduceIte, Nat.reduceEqDiff, Int.reduceEq, Int.reduceLT, Int.reduceLE, boxb, lb, c1, fa_api_Block_0, fa_api_Block_1, fa_api_Block_2, l0, l1, l2, w1, w2, w3, w4]
    rw [hTe] at hr
    exact neaptideref07_Name.runs hr (.inr rfl) (all1 (clean_bv hb.okl.le)) rfl
end Go.Proofs.Ytgggklfbhmlapaa

namespace Go.Proofs.Ytgggklfbhmlapaa
open Go.Abs

def sameB (a b : BlkV) : Bool := decide (a.slot = b.slot) && (decide (a.miner = b.miner) && (decide (a.variant = b.variant) && (decide (a.parent = b.parent) && decide (a.txs = b.txs))))
abbrev mem2b (a b : BlkV) : AHeap := (memb a).push (.cells (fBk b) (.own []) 0)
theorem box2b (a b : BlkV) : aBox (bv b) (memb a) = some (.pointer (some ⟨1, 0, none⟩), mem2b a b) := by kernel_rfl
theorem mem2b_0 (a b : BlkV) : (mem2b a b).get 0 = some (.cells (fBk a) (.own []) 0) := by kernel_rfl
theorem mem2b_1 (a b : BlkV) : (mem2b a b).get 1 = some (.cells (fBk b) (.own []) 0) := by kernel_rfl
theorem block_Same.v {a b : BlkV} (ha : a.Ok) (hb : b.Ok) (S : AHeap) : vlim Try.prog O block_Same.id [bv a, bv b] S = some (.bool (sameB a b), S) := by
  obtain ⟨T, hTe⟩ : ∃ T, T = (bv a :: bv b :: undef :: undef :: undef :: undef :: undef :: undef :: undef :: undef :: undef :: undef :: undef :: undef :: undef :: undef :: undef :: undef :: undef :: undef :: undef :: undef :: undef :: undef :: undef :: undef :: undef :: undef :: undef :: undef :: undef :: undef :: undef :: undef :: undef :: undef :: undef :: undef :: []) := ⟨_, rfl⟩
  have hr : vcodeV Try.prog O false block_Same.code T AHeap.empty = vcodeV Try.prog O false block_Same.code T AHeap.empty := rfl
  have l0 := ld_b0 (mem2b_0 a b)
  have m0 := ld_b0 (mem2b_1 a b)
  have l1 := ld_b1 (mem2b_0 a b)
  have m1 := ld_b1 (mem2b_1 a b)
  have l2 := ld_b2 (mem2b_0 a b)
  have m2 := ld_b2 (mem2b_1 a b)
  have l3 := ld_b3 (mem2b_0 a b)
  have m3 := ld_b3 (mem2b_1 a b)
  have l4 := ld_b4 (mem2b_0 a b) ha.ne
  have m4 := ld_b4 (mem2b_1 a b) hb.ne
  have c1 := fun S => slices_Equal.v ha.okl hb.okl ha.ne hb.ne (by have := ha.len; omega) S
  have cc : [bv a, bv b].all (cleanN 16) = true := all2 (clean_bv ha.okl.le) (clean_bv hb.okl.le)
  unfold sameB
  by_cases h1 : a.slot = b.slot
  · have e1 := decide_eq_true h1
    by_cases h2 : a.miner = b.miner
    · have e2 := decide_eq_true h2
      by_cases h3 : a.variant = b.variant
      · have e3 := decide_eq_true h3
        by_cases h4 : a.parent = b.parent
        · have e4 := decide_eq_true h4
          conv at hr =>
            rhs
            rw [hTe]
            simp only [block_Same.code, block_Same.rs, wk, List.getD_cons_succ, List.getD_cons_zero, if_true, if_false, List.getElem?_cons_succ, List.getElem?_cons_zero, Option.map_some, eq_self, reduceIte, Nat.reduceEqDiff, Int.reduceEq, Int.reduceLT, Int.reduceLE, boxb, box2b, fa_api_Block_0, fa_api_Block_1, fa_api_Block_2, fa_api_Block_3, fa_api_Block_4, l0, l1, l2, l3, l4, m0, m1, m2, m3, m4, if_neg ha.ne, if_neg hb.ne, e1, e2, e3, e4, c1]
          rw [hTe] at hr
          rw [e1, Bool.true_and, e2, Bool.true_and, e3, Bool.true_and, e4, Bool.true_and]
          exact block_Same.runs hr (.inr rfl) cc rfl
        · have e4 := decide_eq_false h4
          conv at hr =>
            rhs
            rw [hTe]
            simp only [block_Same.code, block_Same.rs, wk, List.getD_cons_succ, List.getD_cons_zero, if_true, if_false, List.getElem?_cons_succ, List.getElem?_cons_zero, Option.map_some, eq_self, reduceIte, Nat.reduceEqDiff, Int.reduceEq, Int.reduceLT, Int.reduceLE, boxb, box2b, fa_api_Block_0, fa_api_Block_1, fa_api_Block_2, fa_api_Block_3, fa_api_Block_4, l0, l1, l2, l3, l4, m0, m1, m2, m3, m4, if_neg ha.ne, if_neg hb.ne, e1, e2, e3, e4]
          rw [hTe] at hr
          rw [e1, Bool.true_and, e2, Bool.true_and, e3, Bool.true_and, e4, Bool.false_and]
          exact block_Same.runs hr (.inr rfl) cc rfl
      · have e3 := decide_eq_false h3
        conv at hr =>
          rhs
          rw [hTe]
          simp only [block_Same.code, block_Same.rs, wk, List.getD_cons_succ, List.getD_cons_zero, if_true, if_false, List.getElem?_cons_succ, List.getElem?_cons_zero, Option.map_some, eq_self, reduceIte, Nat.reduceEqDiff, Int.reduceEq, Int.reduceLT, Int.reduceLE, boxb, box2b, fa_api_Block_0, fa_api_Block_1, fa_api_Block_2, fa_api_Block_3, fa_api_Block_4, l0, l1, l2, l3, l4, m0, m1, m2, m3, m4, if_neg ha.ne, if_neg hb.ne, e1, e2, e3]
        rw [hTe] at hr
        rw [e1, Bool.true_and, e2, Bool.true_and, e3, Bool.false_and]
        exact block_Same.runs hr (.inr rfl) cc rfl
    · have e2 := decide_eq_false h2
      conv at hr =>
        rhs
        rw [hTe]
        simp only [block_Same.code, block_Same.rs, wk, List.getD_cons_succ, List.getD_cons_zero, if_true, if_false, List.getElem?_cons_succ, List.getElem?_cons_zero, Option.map_some, eq_self, reduceIte, Nat.reduceEqDiff, Int.reduceEq, Int.reduceLT, Int.reduceLE, boxb, box2b, fa_api_Block_0, fa_api_Block_1, fa_api_Block_2, fa_api_Block_3, fa_api_Block_4, l0, l1, l2, l3, l4, m0, m1, m2, m3, m4, if_neg ha.ne, if_neg hb.ne, e1, e2]
      rw [hTe] at hr
      rw [e1, Bool.true_and, e2, Bool.false_and]
      exact block_Same.runs hr (.inr rfl) cc rfl
  · have e1 := decide_eq_false h1
    conv at hr =>
      rhs
      rw [hTe]
      simp only [block_Same.code, block_Same.rs, wk, List.getD_cons_succ, List.getD_cons_zero, if_true, if_false, List.getElem?_cons_succ, List.getElem?_cons_zero, Option.map_some, eq_self, reduceIte, Nat.reduceEqDiff, Int.reduceEq, Int.reduceLT, Int.reduceLE, boxb, box2b, fa_api_Block_0, fa_api_Block_1, fa_api_Block_2, fa_api_Block_3, fa_api_Block_4, l0, l1, l2, l3, l4, m0, m1, m2, m3, m4, if_neg ha.ne, if_neg hb.ne, e1]
    rw [hTe] at hr
    rw [e1, Bool.false_and]
    exact block_Same.runs hr (.inr rfl) cc rfl
theorem neaptideref07_Same.v {a b : BlkV} (ha : a.Ok) (hb : b.Ok) (S : AHeap) : vlim Try.prog O neaptideref07_Same.id [bv a, bv b] S = some (.bool (sameB a b), S) := by
  obtain ⟨T, hTe⟩ : ∃ T, T = (bv a :: bv b :: undef :: undef :: undef :: undef :: undef :: undef :: undef :: undef :: undef :: undef :: undef :: undef :: undef :: undef :: undef :: undef :: undef :: undef :: undef :: undef :: undef :: undef :: undef :: undef :: undef :: undef :: undef :: undef :: undef :: undef :: undef :: undef :: undef :: undef :: undef :: undef :: []) := ⟨_, rfl⟩
  have hr : vcodeV Try.prog O false neaptideref07_Same.code T AHeap.empty = vcodeV Try.prog O false neaptideref07_Same.code T AHeap.empty := rfl
  have l0 := ld_b0 (mem2b_0 a b)
  have m0 := ld_b0 (mem2b_1 a b)
  have l1 := ld_b1 (mem2b_0 a b)
  have m1 := ld_b1 (mem2b_1 a b)
  have l2 := ld_b2 (mem2b_0 a b)
  have m2 := ld_b2 (mem2b_1 a b)
  have l3 := ld_b3 (mem2b_0 a b)
  have m3 := ld_b3 (mem2b_1 a b)
  have l4 := ld_b4 (mem2b_0 a b) ha.ne
  have m4 := ld_b4 (mem2b_1 a b) hb.ne
  have c1 := fun S => neaptideref06_Same.v ha.okl hb.okl ha.ne hb.ne (by have := ha.len; omega) S
  have cc : [bv a, bv b].all (cleanN 16) = true := all2 (clean_bv ha.okl.le) (clean_bv hb.okl.le)
  unfold sameB
  by_cases h1 : a.slot = b.slot
  · have e1 := decide_eq_true h1
    by_cases h2 : a.miner = b.miner
    · have e2 := decide_eq_true h2
      by_cases h3 : a.variant = b.variant
      · have e3 := decide_eq_true h3
        by_cases h4 : a.parent = b.parent
        · have e4 := decide_eq_true h4
          conv at hr =>
            rhs
            rw [hTe]
            simp only [neaptideref07_Same.code, neaptideref07_Same.rs, wk, List.getD_cons_succ, List.getD_cons_zero, if_true, if_false, List.getElem?_cons_succ, List.getElem?_cons_zero, Option.map_some, eq_self, reduceIte, Nat.reduceEqDiff, Int.reduceEq, Int.reduceLT, Int.reduceLE, boxb, box2b, fa_api_Block_0, fa_api_Block_1, fa_api_Block_2, fa_api_Block_3, fa_api_Block_4, l0, l1, l2, l3, l4, m0, m1, m2, m3, m4, if_neg ha.ne, if_neg hb.ne, e1, e2, e3, e4, c1]
          rw [hTe] at hr
          rw [e1, Bool.true_and, e2, Bool.true_and, e3, Bool.true_and, e4, Bool.true_and]
          exact neaptideref07_Same.runs hr (.inr rfl) cc rfl
        · have e4 := decide_eq_false h4
          conv at hr =>
            rhs
            rw [hTe]
            simp only [neaptideref07_Same.code, neaptideref07_Same.rs, wk, List.getD_cons_succ, List.getD_cons_zero, if_true, if_false, List.getElem?_cons_succ, List.getElem?_cons_zero, Option.map_some, eq_self, reduceIte, Nat.reduceEqDiff, Int.reduceEq, Int.reduceLT, Int.reduceLE, boxb, box2b, fa_api_Block_0, fa_api_Block_1, fa_api_Block_2, fa_api_Block_3, fa_api_Block_4, l0, l1, l2, l3, l4, m0, m1, m2, m3, m4, if_neg ha.ne, if_neg hb.ne, e1, e2, e3, e4]
          rw [hTe] at hr
          rw [e1, Bool.true_and, e2, Bool.true_and, e3, Bool.true_and, e4, Bool.false_and]
          exact neaptideref07_Same.runs hr (.inr rfl) cc rfl
      · have e3 := decide_eq_false h3
        conv at hr =>
          rhs
          rw [hTe]
          simp only [neaptideref07_Same.code, neaptideref07_Same.rs, wk, List.getD_cons_succ, List.getD_cons_zero, if_true, if_false, List.getElem?_cons_succ, List.getElem?_cons_zero, Option.map_some, eq_self, reduceIte, Nat.reduceEqDiff, Int.reduceEq, Int.reduceLT, Int.reduceLE, boxb, box2b, fa_api_Block_0, fa_api_Block_1, fa_api_Block_2, fa_api_Block_3, fa_api_Block_4, l0, l1, l2, l3, l4, m0, m1, m2, m3, m4, if_neg ha.ne, if_neg hb.ne, e1, e2, e3]
        rw [hTe] at hr
        rw [e1, Bool.true_and, e2, Bool.true_and, e3, Bool.false_and]
        exact neaptideref07_Same.runs hr (.inr rfl) cc rfl
    · have e2 := decide_eq_false h2
      conv at hr =>
        rhs
        rw [hTe]
        simp only [neaptideref07_Same.code, neaptideref07_Same.rs, wk, List.getD_cons_succ, List.getD_cons_zero, if_true, if_false, List.getElem?_cons_succ, List.getElem?_cons_zero, Option.map_some, eq_self, reduceIte, Nat.reduceEqDiff, Int.reduceEq, Int.reduceLT, Int.reduceLE, boxb, box2b, fa_api_Block_0, fa_api_Block_1, fa_api_Block_2, fa_api_Block_3, fa_api_Block_4, l0, l1, l2, l3, l4, m0, m1, m2, m3, m4, if_neg ha.ne, if_neg hb.ne, e1, e2]
      rw [hTe] at hr
      rw [e1, Bool.true_and, e2, Bool.false_and]
      exact neaptideref07_Same.runs hr (.inr rfl) cc rfl
  · have e1 := decide_eq_false h1
    conv at hr =>
      rhs
      rw [hTe]
      simp only [neaptideref07_Same.code, neaptideref07_Same.rs, wk, List.getD_cons_succ, List.getD_cons_zero, if_true, if_false, List.getElem?_cons_succ, List.getElem?_cons_zero, Option.map_some, eq_self, reduceIte, Nat.reduceEqDiff, Int.reduceEq, Int.reduceLT, Int.reduceLE, boxb, box2b, fa_api_Block_0, fa_api_Block_1, fa_api_Block_2, fa_api_Block_3, fa_api_Block_4, l0, l1, l2, l3, l4, m0, m1, m2, m3, m4, if_neg ha.ne, if_neg hb.ne, e1]
    rw [hTe] at hr
    rw [e1, Bool.false_and]
    exact neaptideref07_Same.runs hr (.inr rfl) cc rfl

def blkB (b : BlkV) : List UInt8 := encs [b.slot, b.miner, b.variant, b.parent] ++ txsB b.txs
def blkBV (b : BlkV) : Value := if rightBk b then .tuple #[by_ 2 (blkB b), .int .i64 0] else .tuple #[.slice none 0 0, .int .i64 71]
theorem head_few {b : BlkV} (h : headB b = true) : ∀ n ∈ [b.slot, b.miner, b.variant, b.parent], 0 ≤ n ∧ n ≤ 268435455 := by
  obtain ⟨h1, h2, h3, h4⟩ := head_iff.mp h
  have h5 : 0 ≤ b.parent ∧ b.parent ≤ 268435455 := by
    rcases h4 with h4 | ⟨h4, _⟩
    · omega
    · have := named_iff.mp h4; omega
  intro n hn
  simp only [List.mem_cons, List.not_mem_nil, or_false] at hn
  rcases hn with rfl | rfl | rfl | rfl <;> omega
theorem bs4 (a b c d : Int) (S : AHeap) : vBuildSlice Try.prog 53 4 [(0, .int .i64 a), (1, .int .i64 b), (2, .int .i64 c), (3, .int .i64 d)] S = some (iz 2 [a, b, c, d], S) := by kernel_rfl
theorem head_len {b : BlkV} (h : headB b = true) : (encs [b.slot, b.miner, b.variant, b.parent]).length ≤ 40 := by
  have h1 := head_few h
  have := encs_len (l := [b.slot, b.miner, b.variant, b.parent]) (fun n hn => by have := h1 n hn; omega)
  exact this
theorem block_Bytes.v {b : BlkV} (hb : b.Ok) (S : AHeap) : vlim Try.prog O block_Bytes.id [bv b] S = some (blkBV b, S) := by
  obtain ⟨T, hTe⟩ : ∃ T, T = (bv b :: undef :: undef :: undef :: undef :: undef :: undef :: undef :: undef :: undef :: undef :: undef :: undef :: undef :: undef :: undef :: undef :: undef :: undef :: undef :: undef :: undef :: undef :: undef :: undef :: undef :: undef :: undef :: undef :: undef :: undef :: undef :: undef :: []) := ⟨_, rfl⟩
  have hr : vcodeV Try.prog O false block_Bytes.code T AHeap.empty = vcodeV Try.prog O false block_Bytes.code T AHeap.empty := rfl
  have l0 := ld_b0 (memb_get b)
  have l1 := ld_b1 (memb_get b)
  have l2 := ld_b2 (memb_get b)
  have l3 := ld_b3 (memb_get b)
  have l4 := ld_b4 (memb_get b) hb.ne
  have lb := ld_b (memb_get b) hb.ne
  have c1 := fun S => block_Right.v hb S
  unfold blkBV
  cases hR : rightBk b
  · rw [hR] at c1
    conv at hr =>
      rhs
      rw [hTe]
      simp only [block_Bytes.code, block_Bytes.rs, wk, List.getD_cons_succ, List.getD_cons_zero, if_true, if_false, List.getElem?_cons_succ, List.getElem?_cons_zero, Option.map_some, eq_self, reduceIte, Nat.reduceEqDiff, Int.reduceEq, Int.reduceLT, Int.reduceLE, boxb, lb, c1]
    rw [hTe] at hr
    exact block_Bytes.runs hr (.inr rfl) rfl rfl (all1 (clean_bv hb.okl.le)) rfl
  · rw [hR] at c1
    have hh : headB b = true ∧ txsOk b.txs = true := by simpa [rightBk] using hR
    have few := head_few hh.1
    have c2 := fun S => wire_Nums.v (l := [b.slot, b.miner, b.variant, b.parent]) Okl.read (by decide) (fun n hn => by have := few n hn; omega) S
    have n2 := numsV_ok (k := 0) (l := [b.slot, b.miner, b.variant, b.parent]) (by simp) (fun n hn => by have := few n hn; omega) (by simp)
    have c3 := fun S => tx_List.v hb.okl hb.ne (by have := hb.len; omega) S
    have t3 : txsV b.txs = .tuple #[by_ 2 (txsB b.txs), .int .i64 0] := if_pos hh.2
    have ap : ∀ S, vAppend Try.prog 33 33 (by_ 2 (encs [b.slot, b.miner, b.variant, b.parent])) (by_ 1 (txsB b.txs)) S = some (by_ 2 (blkB b), S) := fun S => by
      rw [by_append Okl.own (by decide) Okl.read (by have := head_len hh.1; have := txsB_len hh.2; omega)]; rfl
    conv at hr =>
      rhs
      rw [hTe]
      simp only [block_Bytes.code, block_Bytes.rs, wk, List.getD_cons_succ, List.getD_cons_zero, if_true, if_false, List.getElem?_cons_succ, List.getElem?_cons_zero, Option.map_some, eq_self, reduceIte, Nat.reduceEqDiff, Int.reduceEq, Int.reduceLT, Int.reduceLE, boxb, lb, c1, fa_api_Block_0, fa_api_Block_1, fa_api_Block_2, fa_api_Block_3, fa_api_Block_4, l0, l1, l2, l3, l4, if_neg hb.ne, bs4, c2, n2, c3, t3, ap]
    rw [hTe] at hr
    exact block_Bytes.runs hr (.inr rfl) (by simp only [List.getD_cons_succ, List.getD_cons_zero, notTuple_vs, notTuple_int, notTuple_slice, notTuple_bool, notTuple_agg]) rfl (all1 (clean_bv hb.okl.le)) (clean_tuple (all2 (clean_by (k := 2) (Nat.le_refl 2)) rfl))
theorem neaptideref07_Bytes.v {b : BlkV} (hb : b.Ok) (S : AHeap) : vlim Try.prog O neaptideref07_Bytes.id [bv b] S = some (blkBV b, S) := by
  obtain ⟨T, hTe⟩ : ∃ T, T = (bv b :: undef :: undef :: undef :: undef :: undef :: undef :: undef :: undef :: undef :: undef :: undef :: undef :: undef :: undef :: undef :: undef :: undef :: undef :: undef :: undef :: undef :: undef :: undef :: undef :: undef :: undef :: undef :: undef :: undef :: undef :: undef :: undef :: []) := ⟨_, rfl⟩
  have hr : vcodeV Try.prog O false neaptideref07_Bytes.code T AHeap.empty = vcodeV Try.prog O false neaptideref07_Bytes.code T AHeap.empty := rfl
  have l0 := ld_b0 (memb_get b)
  have l1 := ld_b1 (memb_get b)
  have l2 := ld_b2 (memb_get b)
  have l3 := ld_b3 (memb_get b)
  have l4 := ld_b4 (memb_get b) hb.ne
  have lb := ld_b (memb_get b) hb.ne
  have c1 := fun S => neaptideref07_Right.v hb S
  unfold blkBV
  cases hR : rightBk b
  · rw [hR] at c1
    conv at hr =>
      rhs
      rw [hTe]
      simp only [neaptideref07_Bytes.code, neaptideref07_Bytes.rs, wk, List.getD_cons_succ, List.getD_cons_zero, if_true, if_false, List.getElem?_cons_succ, List.getElem?_cons_zero, Option.map_some, eq_self, reduceIte, Nat.reduceEqDiff, Int.reduceEq, Int.reduceLT, Int.reduceLE, boxb, lb, c1]
    rw [hTe] at hr
    exact neaptideref07_Bytes.runs hr (.inr rfl) rfl rfl (all1 (clean_bv hb.okl.le)) rfl
  · rw [hR] at c1
    have hh : headB b = true ∧ txsOk b.txs = true := by simpa [rightBk] using hR
    have few := head_few hh.1
    have c2 := fun S => neaptideref01_Nums.v (l := [b.slot, b.miner, b.variant, b.parent]) Okl.read (by decide) (fun n hn => by have := few n hn; omega) S
    have n2 := numsV_ok (k := 2) (l := [b.slot, b.miner, b.variant, b.parent]) (by simp) (fun n hn => by have := few n hn; omega) (by simp)
    have c3 := fun S => neaptideref06_List.v hb.okl hb.ne (by have := hb.len; omega) S
    have t3 : txsV b.txs = .tuple #[by_ 2 (txsB b.txs), .int .i64 0] := if_pos hh.2
    have ap : ∀ S, vAppend Try.prog 33 33 (by_ 2 (encs [b.slot, b.miner, b.variant, b.parent])) (by_ 1 (txsB b.txs)) S = some (by_ 2 (blkB b), S) := fun S => by
      rw [by_append Okl.own (by decide) Okl.read (by have := head_len hh.1; have := txsB_len hh.2; omega)]; rfl
    conv at hr =>
      rhs
      rw [hTe]
      simp only [neaptideref07_Bytes.code, neaptideref07_Bytes.rs, wk, List.getD_cons_succ, List.getD_cons_zero, if_true, if_false, List.getElem?_cons_succ, List.getElem?_cons_zero, Option.map_some, eq_self, reduceIte, Nat.reduceEqDiff, Int.reduceEq, Int.reduceLT, Int.reduceLE, boxb, lb, c1, fa_api_Block_0, fa_api_Block_1, fa_api_Block_2, fa_api_Block_3, fa_api_Block_4, l0, l1, l2, l3, l4, if_neg hb.ne, bs4, c2, n2, c3, t3, ap]
    rw [hTe] at hr
    exact neaptideref07_Bytes.runs hr (.inr rfl) (by simp only [List.getD_cons_succ, List.getD_cons_zero, notTuple_vs, notTuple_int, notTuple_slice, notTuple_bool, notTuple_agg]) rfl (all1 (clean_bv hb.okl.le)) (clean_tuple (all2 (clean_by (k := 2) (Nat.le_refl 2)) rfl))
end Go.Proofs.Ytgggklfbhmlapaa

namespace Go.Proofs.Ytgggklfbhmlapaa
open Go.Abs

theorem okq_vs {α : Type} {f : α → List Value} {e k : Nat} {l : List α} {d : Nat} : okq d (vs f e k l) = true := by unfold vs sv; cases d <;> split <;> rfl
theorem okK_bv {R : Type} {a b c d : Int} {k : Nat} {l : List TxV} (r : Option R) (p : Stay r) : okK (.agg [Value.int .i64 a, .int .i64 b, .int .i64 c, .int .i64 d, tl k l].toArray) r p = r := okK_of (by
  show ([Value.int .i64 a, .int .i64 b, .int .i64 c, .int .i64 d, tl k l].toArray.toList.all (okq 2)) = true
  simp only [List.toList_toArray, List.all_cons, List.all_nil, okq_vs, Bool.and_true]
  rfl) r p
theorem blkBV_form (b : BlkV) : ∃ k x e, Okl k x ∧ List.length x ≤ 140 ∧ blkBV b = .tuple #[by_ k x, .int .i64 e] ∧ ((e = 0 ∧ rightBk b = true ∧ x = blkB b ∧ k = 2) ∨ (e = 71 ∧ rightBk b = false ∧ x = [] ∧ k = 0)) := by
  unfold blkBV
  by_cases h : rightBk b = true
  · have hh : headB b = true ∧ txsOk b.txs = true := by simpa [rightBk] using h
    exact ⟨2, blkB b, 0, Okl.own, by unfold blkB; rw [List.length_append]; have := head_len hh.1; have := txsB_len hh.2; omega, by rw [if_pos h], .inl ⟨rfl, h, rfl, rfl⟩⟩
  · exact ⟨0, [], 71, Okl.none, by simp, by rw [if_neg h]; rfl, .inr ⟨rfl, by simpa using h, rfl, rfl⟩⟩
theorem box_bk (b : BlkV) (S : AHeap) : ∃ S2, aBox (bv b) S = some (.pointer (some ⟨S.next, 0, none⟩), S2) ∧ S2.get S.next = some (.cells (fBk b) (.own []) 0) ∧ Ext S S2 ∧ S.next < S2.next := box_at (bv b) S
theorem neaptidelaw07_blockAlive.v (S : AHeap) : vlim Try.prog O 11 [] S = some (.bool true, S) := vlim_run (n := 20) (by kernel_rfl)
theorem in_bk (x : tBk.Val) (hg : tBk.Good x) : ∃ b : BlkV, tBk.vval x = fBk b ∧ b.Ok := by
  obtain ⟨s, m, v, p, ts, u⟩ := x
  obtain ⟨h1, h2, h3, h4, h5, _⟩ := hg
  obtain ⟨k, l, p1, p2, p3, p4, p5⟩ := in_txs ts h5
  refine ⟨⟨s, m, v, p, k, l⟩, ?_, ⟨p1, p2, p4, (in_int h4).2⟩⟩
  show [Value.int .i64 s] ++ ([Value.int .i64 m] ++ ([Value.int .i64 v] ++ ([Value.int .i64 p] ++ ((Ty.slc 16 tTx).vval ts ++ [])))) = _
  rw [p3]; rfl
end Go.Proofs.Ytgggklfbhmlapaa

namespace Go.Proofs.Ytgggklfbhmlapaa
open Go.Abs

abbrev bk0 : BlkV := ⟨0, 0, 0, 0, 0, []⟩
theorem al_bk (S : AHeap) : aAlloc Try.prog 29 S = some (.pointer (some ⟨S.next, 0, none⟩), S.push (.cells (fBk bk0) (.own []) 0)) := by kernel_rfl
theorem one_bk (b : BlkV) : (fBk b).all (·.oneCell') = true := by
  simp only [fBk, List.all_cons, List.all_nil, one_int, one_vs, Bool.and_true]
theorem st_bk (S : AHeap) (b : BlkV) : ∃ S2, vStore Try.prog 29 (.pointer (some ⟨S.next, 0, none⟩)) (bv b) (S.push (.cells (fBk bk0) (.own []) 0)) = some (undef, S2) ∧ S2.get S.next = some (.cells (fBk b) (.own []) 0) ∧ Ext S S2 ∧ S.next < S2.next :=
  new_store S (by rw [cells_agg, List.toList_toArray]; rfl) s_api_Block rfl (one_bk b)
theorem re_bk {S S0 : AHeap} {q : Nat} {u : BlkV} (b : BlkV) (hg : S.get q = some (.cells (fBk u) (.own []) 0)) (hE : Ext S0 S) (hq : S0.next ≤ q) : ∃ S2, vStore Try.prog 29 (.pointer (some ⟨q, 0, none⟩)) (bv b) S = some (undef, S2) ∧ S2.get q = some (.cells (fBk b) (.own []) 0) ∧ Ext S0 S2 ∧ S2.next = S.next ∧ ∀ k, k ≠ q → S2.get k = S.get k :=
  mem_store hg s_api_Block rfl (one_bk b) (by simp [fBk]) hE hq
theorem blkB_inj {x y : BlkV} {r s : List UInt8} (hx : rightBk x = true) (hy : rightBk y = true) (h : blkB x ++ r = blkB y ++ s) : (x.slot = y.slot ∧ x.miner = y.miner ∧ x.variant = y.variant ∧ x.parent = y.parent ∧ x.txs = y.txs) ∧ r = s := by
  have h1 : headB x = true ∧ txsOk x.txs = true := by simpa [rightBk] using hx
  have h2 : headB y = true ∧ txsOk y.txs = true := by simpa [rightBk] using hy
  have f1 := head_few h1.1
  have f2 := head_few h2.1
  unfold blkB at h
  rw [List.append_assoc, List.append_assoc] at h
  obtain ⟨e1, e2⟩ := encs_inj (a := [x.slot, x.miner, x.variant, x.parent]) (c := [y.slot, y.miner, y.variant, y.parent]) rfl (fun n hn => by have := f1 n hn; unfold Few; omega) (fun n hn => by have := f2 n hn; unfold Few; omega) h
  obtain ⟨e3, e4⟩ := txsB_inj h1.2 h2.2 e2
  simp only [List.cons.injEq, and_true] at e1
  exact ⟨⟨e1.1, e1.2.1, e1.2.2.1, e1.2.2.2, e3⟩, e4⟩
noncomputable def bkRd (l : List UInt8) : Option BlkV := rd (fun b => rightBk b = true ∧ b.k = 0) blkB l
theorem bk_eq {x y : BlkV} (h : x.slot = y.slot ∧ x.miner = y.miner ∧ x.variant = y.variant ∧ x.parent = y.parent ∧ x.txs = y.txs) (hk : x.k = y.k) : x = y := by
  cases x; cases y
  simp at h hk
  obtain ⟨rfl, rfl, rfl, rfl, rfl⟩ := h
  rw [hk]
theorem bkRd_iff (l : List UInt8) (b : BlkV) : bkRd l = some b ↔ (rightBk b = true ∧ b.k = 0) ∧ l = blkB b :=
  rd_iff (fun x y hx hy h => bk_eq (blkB_inj (r := []) (s := []) hx.1 hy.1 (by rw [List.append_nil, List.append_nil]; exact h)).1 (hx.2.trans hy.2.symm)) l b
theorem bkRd_none {l : List UInt8} (h : ∀ b : BlkV, b.k = 0 → rightBk b = true → l ≠ blkB b) : bkRd l = none := by
  cases hr : bkRd l with
  | none => rfl
  | some b => obtain ⟨⟨h1, h2⟩, h3⟩ := (bkRd_iff l b).mp hr; exact absurd h3 (h b h2 h1)
theorem readNs4 (l : List UInt8) : readNs 4 l = none ∨ ∃ a b c d r, readNs 4 l = some ([a, b, c, d], r) ∧ r.length ≤ l.length := by
  cases h : readNs 4 l with
  | none => exact .inl rfl
  | some ar =>
    obtain ⟨a, r⟩ := ar
    obtain ⟨h1, h2⟩ := readNs_len h
    match a, h1 with
    | [x, y, z, w], _ => exact .inr ⟨x, y, z, w, r, rfl, h2⟩
theorem bk_read {l r : List UInt8} {b : BlkV} (hb : rightBk b = true) (h : l = blkB b ++ r) : readNs 4 l = some ([b.slot, b.miner, b.variant, b.parent], txsB b.txs ++ r) := by
  have h1 : headB b = true ∧ txsOk b.txs = true := by simpa [rightBk] using hb
  have f1 := head_few h1.1
  exact (readNs_iff _ _ _ _).mpr ⟨rfl, by rw [h, blkB, List.append_assoc], fun n hn => by have := f1 n hn; unfold Few; omega⟩
theorem bkRd_none1 {l : List UInt8} (h : readNs 4 l = none) : bkRd l = none := bkRd_none fun b _ hb hl => by
  have := bk_read (l := l) (r := []) hb (by rw [List.append_nil]; exact hl)
  rw [h] at this; cases this
theorem bkRd_none2 {l r : List UInt8} {a b c d : Int} (h : readNs 4 l = some ([a, b, c, d], r)) (h2 : txsRd r = none) : bkRd l = none := bkRd_none fun x _ hb hl => by
  have := bk_read (l := l) (r := []) hb (by rw [List.append_nil]; exact hl)
  rw [h] at this
  simp only [Option.some.injEq, Prod.mk.injEq, List.append_nil] at this
  have h1 : headB x = true ∧ txsOk x.txs = true := by simpa [rightBk] using hb
  rw [(txsRd_iff r x.txs).mpr ⟨h1.2, this.2⟩] at h2
  cases h2
theorem bkRd_of {l r : List UInt8} {a b c d : Int} {ts : List TxV} (h : readNs 4 l = some ([a, b, c, d], r)) (h2 : txsRd r = some ts) : bkRd l = if rightBk ⟨a, b, c, d, 0, ts⟩ = true then some ⟨a, b, c, d, 0, ts⟩ else none := by
  obtain ⟨_, g2, _⟩ := (readNs_iff _ _ _ _).mp h
  obtain ⟨t1, t2⟩ := (txsRd_iff r ts).mp h2
  split
  · rename_i hR
    exact (bkRd_iff _ _).mpr ⟨⟨hR, rfl⟩, by rw [g2, t2]; rfl⟩
  · rename_i hR
    refine bkRd_none fun x _ hb hl => hR ?_
    have := bk_read (l := l) (r := []) hb (by rw [List.append_nil]; exact hl)
    rw [h] at this
    simp only [Option.some.injEq, Prod.mk.injEq, List.append_nil, List.cons.injEq, and_true] at this
    have h1 : headB x = true ∧ txsOk x.txs = true := by simpa [rightBk] using hb
    have h3 := (txsRd_iff r x.txs).mpr ⟨h1.2, this.2⟩
    rw [h2] at h3
    injection h3 with h3
    obtain ⟨⟨i1, i2, i3, i4⟩, _⟩ := this
    rw [i1, i2, i3, i4, h3]
    exact hb
theorem right_k (a b c d : Int) (k j : Nat) (t : List TxV) : rightBk ⟨a, b, c, d, k, t⟩ = rightBk ⟨a, b, c, d, j, t⟩ := rfl
/-- What Read answers: a block, or none. -/
def ReadsBk (l : List UInt8) (b : BlkV) (e : Int) : Prop := b.Ok ∧ b.txs.length ≤ 3 ∧ ((e = 0 ∧ bkRd l = some ⟨b.slot, b.miner, b.variant, b.parent, 0, b.txs⟩ ∧ rightBk b = true) ∨ (e = 71 ∧ bkRd l = none ∧ b = bk0))
theorem ok0 : bk0.Ok := ⟨Okl.none, by decide, by simp, by decide⟩
theorem block_Read.v {k : Nat} {l : List UInt8} (hk : Okl k l) (k2 : k ≠ 2) (hl : l.length ≤ 140737488355328) : ∃ b e, ReadsBk l b e ∧ ∀ S, vlim Try.prog O block_Read.id [by_ k l] S = some (.tuple #[bv b, .int .i64 e], S) := by
  have a1 := al_bk AHeap.empty
  have g1 : (AHeap.empty.push (.cells (fBk bk0) (.own []) 0)).get 0 = some (.cells (fBk bk0) (.own []) 0) := by kernel_rfl
  have n1 : (AHeap.empty.push (.cells (fBk bk0) (.own []) 0)).next = 1 := by kernel_rfl
  rw [show AHeap.empty.next = 0 from rfl] at a1
  have hE1 : Ext AHeap.empty (AHeap.empty.push (.cells (fBk bk0) (.own []) 0)) := Ext.push _ _
  have cl : [by_ k l].all (cleanN 16) = true := all1 (clean_by (k := k) hk.le)
  obtain ⟨T, hTe⟩ : ∃ T, T = (by_ k l :: undef :: undef :: undef :: undef :: undef :: undef :: undef :: undef :: undef :: undef :: undef :: undef :: undef :: undef :: undef :: undef :: undef :: undef :: undef :: undef :: undef :: undef :: undef :: undef :: undef :: undef :: undef :: undef :: undef :: undef :: undef :: undef :: undef :: undef :: undef :: undef :: undef :: undef :: undef :: undef :: undef :: undef :: undef :: undef :: undef :: []) := ⟨_, rfl⟩
  have hr : vcodeV Try.prog O false block_Read.code T AHeap.empty = vcodeV Try.prog O false block_Read.code T AHeap.empty := rfl
  have c1 := fun S => wire_ReadNums.v (many := 4) hk k2 hl S
  have r1 : ∀ k0 k1, readNsV k0 k1 4 l = _ := fun k0 k1 => readNsV_pos (m := 4) (by decide) (by decide)
  rw [r1] at c1
  have z0 : ∀ S, aBuild Try.prog 29 [] S = some (bv bk0, S) := fun S => bd_api_Block S
  generalize AHeap.empty.push (.cells (fBk bk0) (.own []) 0) = S1 at a1 g1 n1 hE1
  rcases readNs4 l with h | ⟨a, b, c, d, r, h, hlr⟩
  · rw [h] at c1
    obtain ⟨S3, q1, q2, q3, q4, q5⟩ := re_bk bk0 g1 hE1 (Nat.zero_le _)
    refine ⟨bk0, 71, ⟨ok0, by simp, .inr ⟨rfl, bkRd_none1 h, rfl⟩⟩, fun S => ?_⟩
    conv at hr =>
      rhs
      rw [hTe]
      simp only [block_Read.code, block_Read.rs, wk, List.getD_cons_succ, List.getD_cons_zero, if_true, if_false, List.getElem?_cons_succ, List.getElem?_cons_zero, Option.map_some, eq_self, reduceIte, Nat.reduceEqDiff, Int.reduceEq, Int.reduceLT, Int.reduceLE, if_neg k2, a1, c1, z0, q1]
    rw [hTe] at hr
    exact block_Read.runs hr (.inr rfl) (ld_b q2 (by decide)) rfl rfl cl rfl
  · rw [h] at c1
    have i0 := fun S => iz_atq (k := 1) (i := 0) (m := 0) (l := [a, b, c, d]) Okl.read rfl rfl S
    have i1 := fun S => iz_atq (k := 1) (i := 1) (m := 1) (l := [a, b, c, d]) Okl.read rfl rfl S
    have i2 := fun S => iz_atq (k := 1) (i := 2) (m := 2) (l := [a, b, c, d]) Okl.read rfl rfl S
    have i3 := fun S => iz_atq (k := 1) (i := 3) (m := 3) (l := [a, b, c, d]) Okl.read rfl rfl S
    have few := ((readNs_iff _ _ _ _).mp h).2.2
    have fd : d ≤ 4611686018427387904 := (few d (by simp)).2
    obtain ⟨j, t, e, o1, o2, o3, o4⟩ := txsRdV_form (j := 0) (by decide) r
    have c2 := fun S => tx_ReadList.v (k := 1) (l := r) Okl.read (by decide) (by omega) S
    rw [o3] at c2
    have hok : BlkV.Ok ⟨a, b, c, d, if j = 2 then 1 else j, t⟩ := ⟨o1.dem, dem_ne2 j, by show t.length * 16 ≤ _; omega, by show d < _; omega⟩
    obtain ⟨S2, p1, p2, p3, p4⟩ := st_bk S1 ⟨a, b, c, d, if j = 2 then 1 else j, t⟩
    have g2 : S2.get 0 = some (.cells (fBk bk0) (.own []) 0) := by rw [p3.get 0 (by omega), g1]
    have bd := fun S => bd_api_Block_0_1_2_3_4 (y0 := .int .i64 a) (y1 := .int .i64 b) (y2 := .int .i64 c) (y3 := .int .i64 d) (y4 := tl (if j = 2 then 1 else j) t) cells_int cells_int cells_int cells_int cells_vs S
    have c3 : ∀ S, vlim Try.prog O 14 [.agg [Value.int .i64 a, .int .i64 b, .int .i64 c, .int .i64 d, tl (if j = 2 then 1 else j) t].toArray] S = some (.bool (rightBk ⟨a, b, c, d, if j = 2 then 1 else j, t⟩), S) := fun S => block_Right.v hok S
    have lb : vLoad Try.prog false 29 (.pointer (some ⟨S1.next, 0, none⟩)) S2 = some (.agg [Value.int .i64 a, .int .i64 b, .int .i64 c, .int .i64 d, tl (if j = 2 then 1 else j) t].toArray, S2) := ld_b p2 (dem_ne2 j)
    rcases o4 with ⟨rfl, hx⟩ | ⟨rfl, hx, rfl⟩
    · cases hR : rightBk ⟨a, b, c, d, if j = 2 then 1 else j, t⟩
      · rw [hR] at c3
        obtain ⟨S3, q1, q2, q3, q4, q5⟩ := re_bk bk0 g2 (Ext.trans hE1 p3) (Nat.zero_le _)
        refine ⟨bk0, 71, ⟨ok0, by simp, .inr ⟨rfl, ?_, rfl⟩⟩, fun S => ?_⟩
        · rw [bkRd_of h hx, if_neg (by rw [right_k a b c d 0 (if j = 2 then 1 else j) t, hR]; decide)]
        conv at hr =>
          rhs
          rw [hTe]
          simp only [block_Read.code, block_Read.rs, wk, List.getD_cons_succ, List.getD_cons_zero, if_true, if_false, List.getElem?_cons_succ, List.getElem?_cons_zero, Option.map_some, eq_self, reduceIte, Nat.reduceEqDiff, Int.reduceEq, Int.reduceLT, Int.reduceLE, if_neg k2, a1, c1, c2, i0, i1, i2, i3, iz_load, dem2, bd, okK_bv, al_bk, p1, lb, c3, z0, q1]
        rw [hTe] at hr
        exact block_Read.runs hr (.inr rfl) (ld_b q2 (by decide)) rfl rfl cl rfl
      · rw [hR] at c3
        obtain ⟨S3, q1, q2, q3, q4, q5⟩ := re_bk ⟨a, b, c, d, if j = 2 then 1 else j, t⟩ g2 (Ext.trans hE1 p3) (Nat.zero_le _)
        refine ⟨⟨a, b, c, d, if j = 2 then 1 else j, t⟩, 0, ⟨hok, o2, .inl ⟨rfl, ?_, hR⟩⟩, fun S => ?_⟩
        · rw [bkRd_of h hx, if_pos (by rw [right_k a b c d 0 (if j = 2 then 1 else j) t, hR])]
        conv at hr =>
          rhs
          rw [hTe]
          simp only [block_Read.code, block_Read.rs, wk, List.getD_cons_succ, List.getD_cons_zero, if_true, if_false, List.getElem?_cons_succ, List.getElem?_cons_zero, Option.map_some, eq_self, reduceIte, Nat.reduceEqDiff, Int.reduceEq, Int.reduceLT, Int.reduceLE, if_neg k2, a1, c1, c2, i0, i1, i2, i3, iz_load, dem2, bd, okK_bv, al_bk, p1, lb, c3, q1]
        rw [hTe] at hr
        exact block_Read.runs hr (.inr rfl) (ld_b q2 (dem_ne2 j)) rfl rfl cl (clean_tuple (all2 (clean_bv (b := ⟨a, b, c, d, if j = 2 then 1 else j, t⟩) hok.okl.le) rfl))
    · obtain ⟨S3, q1, q2, q3, q4, q5⟩ := re_bk bk0 g2 (Ext.trans hE1 p3) (Nat.zero_le _)
      refine ⟨bk0, 71, ⟨ok0, by simp, .inr ⟨rfl, bkRd_none2 h hx, rfl⟩⟩, fun S => ?_⟩
      conv at hr =>
        rhs
        rw [hTe]
        simp only [block_Read.code, block_Read.rs, wk, List.getD_cons_succ, List.getD_cons_zero, if_true, if_false, List.getElem?_cons_succ, List.getElem?_cons_zero, Option.map_some, eq_self, reduceIte, Nat.reduceEqDiff, Int.reduceEq, Int.reduceLT, Int.reduceLE, if_neg k2, a1, c1, c2, i0, i1, i2, i3, iz_load, dem2, bd, okK_bv, al_bk, p1, z0, q1]
      rw [hTe] at hr
      exact block_Read.runs hr (.inr rfl) (ld_b q2 (by decide)) rfl rfl cl rfl
theorem neaptideref07_Read.v {k : Nat} {l : List UInt8} (hk : Okl k l) (k2 : k ≠ 2) (hl : l.length ≤ 140737488355328) : ∃ b e, ReadsBk l b e ∧ ∀ S, vlim Try.prog O neaptideref07_Read.id [by_ k l] S = some (.tuple #[bv b, .int .i64 e], S) := by
  have a1 := al_bk AHeap.empty
  have g1 : (AHeap.empty.push (.cells (fBk bk0) (.own []) 0)).get 0 = some (.cells (fBk bk0) (.own []) 0) := by kernel_rfl
  have n1 : (AHeap.empty.push (.cells (fBk bk0) (.own []) 0)).next = 1 := by kernel_rfl
  rw [show AHeap.empty.next = 0 from rfl] at a1
  have hE1 : Ext AHeap.empty (AHeap.empty.push (.cells (fBk bk0) (.own []) 0)) := Ext.push _ _
  have cl : [by_ k l].all (cleanN 16) = true := all1 (clean_by (k := k) hk.le)
  obtain ⟨T, hTe⟩ : ∃ T, T = (by_ k l :: undef :: undef :: undef :: undef :: undef :: undef :: undef :: undef :: undef :: undef :: undef :: undef :: undef :: undef :: undef :: undef :: undef :: undef :: undef :: undef :: undef :: undef :: undef :: undef :: undef :: undef :: undef :: undef :: undef :: undef :: undef :: undef :: undef :: undef :: undef :: undef :: undef :: undef :: undef :: undef :: undef :: undef :: undef :: undef :: undef :: undef :: []) := ⟨_, rfl⟩
  have hr : vcodeV Try.prog O false neaptideref07_Read.code T AHeap.empty = vcodeV Try.prog O false neaptideref07_Read.code T AHeap.empty := rfl
  have c1 := fun S => neaptideref01_ReadNums.v (many := 4) hk k2 hl S
  have r1 : ∀ k0 k1, readNsV k0 k1 4 l = _ := fun k0 k1 => readNsV_pos (m := 4) (by decide) (by decide)
  rw [r1] at c1
  have z0 : ∀ S, aBuild Try.prog 29 [] S = some (bv bk0, S) := fun S => bd_api_Block S
  generalize AHeap.empty.push (.cells (fBk bk0) (.own []) 0) = S1 at a1 g1 n1 hE1
  rcases readNs4 l with h | ⟨a, b, c, d, r, h, hlr⟩
  · rw [h] at c1
    obtain ⟨S3, q1, q2, q3, q4, q5⟩ := re_bk bk0 g1 hE1 (Nat.zero_le _)
    refine ⟨bk0, 71, ⟨ok0, by simp, .inr ⟨rfl, bkRd_none1 h, rfl⟩⟩, fun S => ?_⟩
    conv at hr =>
      rhs
      rw [hTe]
      simp only [neaptideref07_Read.code, neaptideref07_Read.rs, wk, List.getD_cons_succ, List.getD_cons_zero, if_true, if_false, List.getElem?_cons_succ, List.getElem?_cons_zero, Option.map_some, eq_self, reduceIte, Nat.reduceEqDiff, Int.reduceEq, Int.reduceLT, Int.reduceLE, if_neg k2, a1, c1, z0, q1]
    rw [hTe] at hr
    exact neaptideref07_Read.runs hr (.inr rfl) (ld_b q2 (by decide)) rfl rfl cl rfl
  · rw [h] at c1
    have i0 := fun S => iz_atq (k := 1) (i := 0) (m := 0) (l := [a, b, c, d]) Okl.read rfl rfl S
    have i1 := fun S => iz_atq (k := 1) (i := 1) (m := 1) (l := [a, b, c, d]) Okl.read rfl rfl S
    have i2 := fun S => iz_atq (k := 1) (i := 2) (m := 2) (l := [a, b, c, d]) Okl.read rfl rfl S
    have i3 := fun S => iz_atq (k := 1) (i := 3) (m := 3) (l := [a, b, c, d]) Okl.read rfl rfl S
    have few := ((readNs_iff _ _ _ _).mp h).2.2
    have fd : d ≤ 4611686018427387904 := (few d (by simp)).2
    obtain ⟨j, t, e, o1, o2, o3, o4⟩ := txsRdV_form (j := 2) (by decide) r
    have c2 := fun S => neaptideref06_ReadList.v (k := 1) (l := r) Okl.read (by decide) (by omega) S
    rw [o3] at c2
    have hok : BlkV.Ok ⟨a, b, c, d, if j = 2 then 1 else j, t⟩ := ⟨o1.dem, dem_ne2 j, by show t.length * 16 ≤ _; omega, by show d < _; omega⟩
    obtain ⟨S2, p1, p2, p3, p4⟩ := st_bk S1 ⟨a, b, c, d, if j = 2 then 1 else j, t⟩
    have g2 : S2.get 0 = some (.cells (fBk bk0) (.own []) 0) := by rw [p3.get 0 (by omega), g1]
    have bd := fun S => bd_api_Block_0_1_2_3_4 (y0 := .int .i64 a) (y1 := .int .i64 b) (y2 := .int .i64 c) (y3 := .int .i64 d) (y4 := tl (if j = 2 then 1 else j) t) cells_int cells_int cells_int cells_int cells_vs S
    have c3 : ∀ S, vlim Try.prog O 18 [.agg [Value.int .i64 a, .int .i64 b, .int .i64 c, .int .i64 d, tl (if j = 2 then 1 else j) t].toArray] S = some (.bool (rightBk ⟨a, b, c, d, if j = 2 then 1 else j, t⟩), S) := fun S => neaptideref07_Right.v hok S
    have lb : vLoad Try.prog false 29 (.pointer (some ⟨S1.next, 0, none⟩)) S2 = some (.agg [Value.int .i64 a, .int .i64 b, .int .i64 c, .int .i64 d, tl (if j = 2 then 1 else j) t].toArray, S2) := ld_b p2 (dem_ne2 j)
    rcases o4 with ⟨rfl, hx⟩ | ⟨rfl, hx, rfl⟩
    · cases hR : rightBk ⟨a, b, c, d, if j = 2 then 1 else j, t⟩
      · rw [hR] at c3
        obtain ⟨S3, q1, q2, q3, q4, q5⟩ := re_bk bk0 g2 (Ext.trans hE1 p3) (Nat.zero_le _)
        refine ⟨bk0, 71, ⟨ok0, by simp, .inr ⟨rfl, ?_, rfl⟩⟩, fun S => ?_⟩
        · rw [bkRd_of h hx, if_neg (by rw [right_k a b c d 0 (if j = 2 then 1 else j) t, hR]; decide)]
        conv at hr =>
          rhs
          rw [hTe]
          simp only [neaptideref07_Read.code, neaptideref07_Read.rs, wk, List.getD_cons_succ, List.getD_cons_zero, if_true, if_false, List.getElem?_cons_succ, List.getElem?_cons_zero, Option.map_some, eq_self, reduceIte, Nat.reduceEqDiff, Int.reduceEq, Int.reduceLT, Int.reduceLE, if_neg k2, a1, c1, c2, i0, i1, i2, i3, iz_load, dem2, bd, okK_bv, al_bk, p1, lb, c3, z0, q1]
        rw [hTe] at hr
        exact neaptideref07_Read.runs hr (.inr rfl) (ld_b q2 (by decide)) rfl rfl cl rfl
      · rw [hR] at c3
        obtain ⟨S3, q1, q2, q3, q4, q5⟩ := re_bk ⟨a, b, c, d, if j = 2 then 1 else j, t⟩ g2 (Ext.trans hE1 p3) (Nat.zero_le _)
        refine ⟨⟨a, b, c, d, if j = 2 then 1 else j, t⟩, 0, ⟨hok, o2, .inl ⟨rfl, ?_, hR⟩⟩, fun S => ?_⟩
        · rw [bkRd_of h hx, if_pos (by rw [right_k a b c d 0 (if j = 2 then 1 else j) t, hR])]
        conv at hr =>
          rhs
          rw [hTe]
          simp only [neaptideref07_Read.code, neaptideref07_Read.rs, wk, List.getD_cons_succ, List.getD_cons_zero, if_true, if_false, List.getElem?_cons_succ, List.getElem?_cons_zero, Option.map_some, eq_self, reduceIte, Nat.reduceEqDiff, Int.reduceEq, Int.reduceLT, Int.reduceLE, if_neg k2, a1, c1, c2, i0, i1, i2, i3, iz_load, dem2, bd, okK_bv, al_bk, p1, lb, c3, q1]
        rw [hTe] at hr
        exact neaptideref07_Read.runs hr (.inr rfl) (ld_b q2 (dem_ne2 j)) rfl rfl cl (clean_tuple (all2 (clean_bv (b := ⟨a, b, c, d, if j = 2 then 1 else j, t⟩) hok.okl.le) rfl))
    · obtain ⟨S3, q1, q2, q3, q4, q5⟩ := re_bk bk0 g2 (Ext.trans hE1 p3) (Nat.zero_le _)
      refine ⟨bk0, 71, ⟨ok0, by simp, .inr ⟨rfl, bkRd_none2 h hx, rfl⟩⟩, fun S => ?_⟩
      conv at hr =>
        rhs
        rw [hTe]
        simp only [neaptideref07_Read.code, neaptideref07_Read.rs, wk, List.getD_cons_succ, List.getD_cons_zero, if_true, if_false, List.getElem?_cons_succ, List.getElem?_cons_zero, Option.map_some, eq_self, reduceIte, Nat.reduceEqDiff, Int.reduceEq, Int.reduceLT, Int.reduceLE, if_neg k2, a1, c1, c2, i0, i1, i2, i3, iz_load, dem2, bd, okK_bv, al_bk, p1, z0, q1]
      rw [hTe] at hr
      exact neaptideref07_Read.runs hr (.inr rfl) (ld_b q2 (by decide)) rfl rfl cl rfl
end Go.Proofs.Ytgggklfbhmlapaa
