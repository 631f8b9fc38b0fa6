/-
Whether at most one wins in each slot: the document's answer.
-/
import Derived.Test.YtooljmmlekmkeaaVL3
set_option linter.unusedVariables false
set_option linter.unusedSimpArgs false
namespace Go.Proofs.Ytooljmmlekmkeaa
open Go.Abs

section
variable {k j : Nat} {l who : List Int}
theorem neaptideref10_Single.in1 (hj : Okl j who) (hw : who.length ≤ 17592186044416) {x : Int} {S : AHeap} : ∀ (suf pre : List Int) (acc : Bool) {T : List Value} {r : St}, loopV (vcodeV Try.prog O false neaptideref10_Single.loop1) T S = r → T.length = 46 →
    T.getD 30 undef = iz j who → T.getD 31 undef = .int .i64 who.length → T.getD 32 undef = .int .i64 pre.length → T.getD 8 undef = .int .i64 x → T.getD 9 undef = .bool acc → who = pre ++ suf →
    ∃ T', r = some (.exit 4, T', S) ∧ T'.length = 46 ∧ T'.getD 9 undef = .bool (acc || suf.any fun w => decide (x = w)) ∧ T'.getD 0 undef = T.getD 0 undef ∧ T'.getD 1 undef = T.getD 1 undef ∧ T'.getD 5 undef = T.getD 5 undef ∧
      T'.getD 24 undef = T.getD 24 undef ∧ T'.getD 25 undef = T.getD 25 undef ∧ T'.getD 26 undef = T.getD 26 undef := by
  intro suf
  induction suf with
  | nil =>
    intro pre acc T r hL hT h0 h1 h2 h8 h9 hl
    have hTe := neaptideref10_Single.eta hT
    rw [h0, h1, h2, h8, h9] at hTe
    have hr : vcodeV Try.prog O false neaptideref10_Single.loop1 T S = vcodeV Try.prog O false neaptideref10_Single.loop1 T S := rfl
    have d1 : ¬ (pre.length : Int) < (who.length : Int) := by rw [hl]; simp
    conv at hr =>
      rhs
      rw [hTe]
      simp only [neaptideref10_Single.loop1, neaptideref10_Single.r12, wk, List.getD_cons_succ, List.getD_cons_zero, if_true, if_false, List.getElem?_cons_succ, List.getElem?_cons_zero, Option.map_some, eq_self, reduceIte, Nat.reduceEqDiff, Int.reduceEq, Int.reduceLT, Int.reduceLE, d1]
    exact ⟨_, hL.symm.trans (loopV_exit hr (by simp)), rfl, by simp only [List.any_nil, Bool.or_false]; rfl, rfl, rfl, rfl, rfl, rfl, rfl⟩
  | cons y suf ih =>
    intro pre acc T r hL hT h0 h1 h2 h8 h9 hl
    have hTe := neaptideref10_Single.eta hT
    rw [h0, h1, h2, h8, h9] at hTe
    have hr : vcodeV Try.prog O false neaptideref10_Single.loop1 T S = vcodeV Try.prog O false neaptideref10_Single.loop1 T S := rfl
    have d1 : (pre.length : Int) < (who.length : Int) := by rw [hl]; simp; omega
    have e1 : ∀ S, vIndexAddr Try.prog 22 (iz j who) (.int .i64 pre.length) S = some (EP [.int .i64 y], S) := fun S => by
      rw [iz_at hj (by omega) d1]; rw [iz_at_pre hl]
    have wi : IntKind.i64.wrap ((pre.length : Int) + 1) = ((pre ++ [y]).length : Int) := by rw [wrap_i64 (by omega) (by omega)]; simp
    have hb : ∃ T1, vcodeV Try.prog O false neaptideref10_Single.loop1 T S = some (.normal, T1, S) ∧ T1.length = 46 ∧ T1.getD 30 undef = iz j who ∧ T1.getD 31 undef = .int .i64 who.length ∧ T1.getD 32 undef = .int .i64 (pre ++ [y]).length ∧ T1.getD 8 undef = .int .i64 x ∧ T1.getD 9 undef = .bool (acc || decide (x = y)) ∧
        T1.getD 0 undef = T.getD 0 undef ∧ T1.getD 1 undef = T.getD 1 undef ∧ T1.getD 5 undef = T.getD 5 undef ∧ T1.getD 24 undef = T.getD 24 undef ∧ T1.getD 25 undef = T.getD 25 undef ∧ T1.getD 26 undef = T.getD 26 undef := by
      have hxy : decide (y = x) = decide (x = y) := by rw [decide_eq_decide]; exact eq_comm
      cases acc with
      | true =>
        conv at hr =>
          rhs
          rw [hTe]
          simp only [neaptideref10_Single.loop1, neaptideref10_Single.r12, neaptideref10_Single.r13, neaptideref10_Single.r14, neaptideref10_Single.r15, wk, List.getD_cons_succ, List.getD_cons_zero, if_true, if_false, List.getElem?_cons_succ, List.getElem?_cons_zero, Option.map_some, eq_self, reduceIte, Nat.reduceEqDiff, Int.reduceEq, Int.reduceLT, Int.reduceLE, d1, e1, iz_load, wi]
        exact ⟨_, hr, rfl, rfl, rfl, rfl, rfl, rfl, rfl, rfl, rfl, rfl, rfl, rfl⟩
      | false =>
        conv at hr =>
          rhs
          rw [hTe]
          simp only [neaptideref10_Single.loop1, neaptideref10_Single.r12, neaptideref10_Single.r13, neaptideref10_Single.r14, neaptideref10_Single.r15, wk, List.getD_cons_succ, List.getD_cons_zero, if_true, if_false, List.getElem?_cons_succ, List.getElem?_cons_zero, Option.map_some, eq_self, reduceIte, Nat.reduceEqDiff, Int.reduceEq, Int.reduceLT, Int.reduceLE, d1, e1, iz_load, wi, hxy]
        exact ⟨_, hr, rfl, rfl, rfl, rfl, rfl, rfl, rfl, rfl, rfl, rfl, rfl, rfl⟩
    obtain ⟨T1, b0, b1, b2, b3, b4, b5, b6, b7, b8, b9, b10, b11, b12⟩ := hb
    obtain ⟨T', g1, g2, g3, g4, g5, g6, g7, g8, g9⟩ := ih (pre ++ [y]) (acc || decide (x = y)) ((loopV_step b0).symm.trans hL) b1 b2 b3 b4 b5 b6 (by simp [hl])
    exact ⟨T', g1, g2, by rw [g3, List.any_cons, Bool.or_assoc], g4.trans b7, g5.trans b8, g6.trans b9, g7.trans b10, g8.trans b11, g9.trans b12⟩
theorem neaptideref10_Single.in2 (hj : Okl j who) (j2 : j ≠ 2) (hw : who.length ≤ 17592186044416) {w : List Int} {kw : Nat} (hkw : Okl kw w) (hwl : w.length ≤ 7) {S : AHeap} : ∀ (suf pre : List Int) {T : List Value} {r : St}, loopV (vcodeV Try.prog O false neaptideref10_Single.loop2) T S = r → T.length = 46 →
    T.getD 24 undef = iz kw w → T.getD 25 undef = .int .i64 w.length → T.getD 26 undef = .int .i64 pre.length → T.getD 1 undef = iz j who → w = pre ++ suf →
    ∃ e T', r = some (e, T', S) ∧ if suf.all (fun x => who.any fun w => decide (x = w)) then e = .exit 2 ∧ T'.length = 46 ∧ T'.getD 0 undef = T.getD 0 undef ∧ T'.getD 1 undef = iz j who ∧ T'.getD 5 undef = T.getD 5 undef else e = .ret ∧ T'.getD 4 undef = .bool false := by
  intro suf
  induction suf with
  | nil =>
    intro pre T r hL hT h24 h25 h26 h1 hl
    have hTe := neaptideref10_Single.eta hT
    rw [h24, h25, h26, h1] at hTe
    have hr : vcodeV Try.prog O false neaptideref10_Single.loop2 T S = vcodeV Try.prog O false neaptideref10_Single.loop2 T S := rfl
    have d1 : ¬ (pre.length : Int) < (w.length : Int) := by rw [hl]; simp
    conv at hr =>
      rhs
      rw [hTe]
      simp only [neaptideref10_Single.loop2, neaptideref10_Single.r8, wk, List.getD_cons_succ, List.getD_cons_zero, if_true, if_false, List.getElem?_cons_succ, List.getElem?_cons_zero, Option.map_some, eq_self, reduceIte, Nat.reduceEqDiff, Int.reduceEq, Int.reduceLT, Int.reduceLE, d1]
    exact ⟨_, _, hL.symm.trans (loopV_exit hr (by simp)), rfl, rfl, rfl, rfl, rfl⟩
  | cons x suf ih =>
    intro pre T r hL hT h24 h25 h26 h1 hl
    have hTe := neaptideref10_Single.eta hT
    rw [h24, h25, h26, h1] at hTe
    have hr : vcodeV Try.prog O false neaptideref10_Single.loop2 T S = vcodeV Try.prog O false neaptideref10_Single.loop2 T S := rfl
    have d1 : (pre.length : Int) < (w.length : Int) := by rw [hl]; simp; omega
    have e1 : ∀ S, vIndexAddr Try.prog 22 (iz kw w) (.int .i64 pre.length) S = some (EP [.int .i64 x], S) := fun S => by
      rw [iz_at hkw (by omega) d1]; rw [iz_at_pre hl]
    have wi : IntKind.i64.wrap ((pre.length : Int) + 1) = ((pre ++ [x]).length : Int) := by rw [wrap_i64 (by omega) (by omega)]; simp
    conv at hr =>
      rhs
      rw [hTe]
      simp only [neaptideref10_Single.loop2, neaptideref10_Single.r8, neaptideref10_Single.r9, neaptideref10_Single.r10, neaptideref10_Single.r11, wk, List.getD_cons_succ, List.getD_cons_zero, if_true, if_false, List.getElem?_cons_succ, List.getElem?_cons_zero, Option.map_some, eq_self, reduceIte, Nat.reduceEqDiff, Int.reduceEq, Int.reduceLT, Int.reduceLE, d1, e1, iz_load, if_neg j2, iz_len hj, goInt]
    generalize hL1 : loopV (vcodeV Try.prog O false neaptideref10_Single.loop1) _ _ = r1 at hr
    obtain ⟨T1, rfl, g2, g3, g4, g5, g6, g7, g8, g9⟩ := neaptideref10_Single.in1 hj hw (x := x) who [] false hL1 rfl rfl rfl rfl rfl rfl rfl
    simp only [List.getD_cons_succ, List.getD_cons_zero, Bool.false_or] at g3 g4 g5 g6 g7 g8 g9
    have hT1 := neaptideref10_Single.eta g2
    rw [g3, g4, g5, g6, g7, g8, g9] at hT1
    rw [List.all_cons]
    cases ha : who.any fun w => decide (x = w) with
    | true =>
      rw [ha] at hT1
      conv at hr =>
        rhs
        rw [hT1]
        simp only [neaptideref10_Single.r16, neaptideref10_Single.r18, wk, List.getD_cons_succ, List.getD_cons_zero, if_true, if_false, List.getElem?_cons_succ, List.getElem?_cons_zero, Option.map_some, eq_self, reduceIte, Nat.reduceEqDiff, Int.reduceEq, Int.reduceLT, Int.reduceLE, wi]
      obtain ⟨e, T', q1, q2⟩ := ih (pre ++ [x]) ((loopV_step hr).symm.trans hL) rfl rfl rfl rfl rfl (by simp [hl])
      exact ⟨e, T', q1, q2⟩
    | false =>
      rw [ha] at hT1
      conv at hr =>
        rhs
        rw [hT1]
        simp only [neaptideref10_Single.r16, neaptideref10_Single.r17, wk, List.getD_cons_succ, List.getD_cons_zero, if_true, if_false, List.getElem?_cons_succ, List.getElem?_cons_zero, Option.map_some, eq_self, reduceIte, Nat.reduceEqDiff, Int.reduceEq, Int.reduceLT, Int.reduceLE]
      exact ⟨_, _, hL.symm.trans (loopV_exit hr (by simp)), rfl, rfl⟩
theorem neaptideref10_Single.in3 (hv : Okl k l) (hk : k ≠ 2) (hl : l.length ≤ 200) (hd : ∀ d ∈ l, 0 ≤ d ∧ d ≤ 127) (hj : Okl j who) (j2 : j ≠ 2) (hw : who.length ≤ 17592186044416) {S : AHeap} : ∀ (m : Nat) (i : Int) {T : List Value} {r : St}, loopV (vcodeV Try.prog O false neaptideref10_Single.loop3) T S = r → T.length = 46 →
    T.getD 0 undef = iz k l → T.getD 1 undef = iz j who → T.getD 5 undef = .int .i64 i → 1 ≤ i → i + m = l.length + 1 →
    ∃ e T', r = some (e, T', S) ∧ if single l who i m then e = .exit 0 ∧ T'.length = 46 else e = .ret ∧ T'.getD 4 undef = .bool false := by
  intro m
  induction m with
  | zero =>
    intro i T r hL hT h0 h1 h5 hi him
    have hTe := neaptideref10_Single.eta hT
    rw [h0, h1, h5] at hTe
    have hr : vcodeV Try.prog O false neaptideref10_Single.loop3 T S = vcodeV Try.prog O false neaptideref10_Single.loop3 T S := rfl
    have d1 : ¬ i ≤ (l.length : Int) := by omega
    conv at hr =>
      rhs
      rw [hTe]
      simp only [neaptideref10_Single.loop3, neaptideref10_Single.r2, wk, List.getD_cons_succ, List.getD_cons_zero, if_true, if_false, List.getElem?_cons_succ, List.getElem?_cons_zero, Option.map_some, eq_self, reduceIte, Nat.reduceEqDiff, Int.reduceEq, Int.reduceLT, Int.reduceLE, if_neg hk, iz_len hv, goInt, d1]
    exact ⟨_, _, hL.symm.trans (loopV_exit hr (by simp)), rfl, rfl⟩
  | succ m ih =>
    intro i T r hL hT h0 h1 h5 hi him
    have hTe := neaptideref10_Single.eta hT
    rw [h0, h1, h5] at hTe
    have hr : vcodeV Try.prog O false neaptideref10_Single.loop3 T S = vcodeV Try.prog O false neaptideref10_Single.loop3 T S := rfl
    have d1 : i ≤ (l.length : Int) := by omega
    have c1 := fun S => neaptideref10_Winners.v (slot := i) hv hk hl hd S
    rw [ite_self] at c1
    have w1 : IntKind.i64.wrap (i + 1) = i + 1 := wrap_i64 (by omega) (by omega)
    have hs : single l who i (m + 1) = (oneOf who (winners l i) && single l who (i + 1) m) := by
      simp only [single, ints, List.all_cons]
    rw [hs]
    have h7 := winners_len l i
    generalize winners l i = w at c1 h7
    by_cases h2 : 1 < w.length
    · have d2 : (1 : Int) < (w.length : Int) := by omega
      conv at hr =>
        rhs
        rw [hTe]
        simp only [neaptideref10_Single.loop3, neaptideref10_Single.r2, neaptideref10_Single.r4, neaptideref10_Single.r5, neaptideref10_Single.r6, wk, List.getD_cons_succ, List.getD_cons_zero, if_true, if_false, List.getElem?_cons_succ, List.getElem?_cons_zero, Option.map_some, eq_self, reduceIte, Nat.reduceEqDiff, Int.reduceEq, Int.reduceLT, Int.reduceLE, if_neg hk, iz_len hv, iz_len (Okl.read (l := w)), goInt, d1, c1, d2]
      refine ⟨_, _, hL.symm.trans (loopV_exit hr (by simp)), ?_⟩
      rw [show oneOf who w = false by match w, h2 with | x :: y :: w, _ => rfl, Bool.false_and]
      exact ⟨rfl, rfl⟩
    · have d2 : ¬ (1 : Int) < (w.length : Int) := by omega
      conv at hr =>
        rhs
        rw [hTe]
        simp only [neaptideref10_Single.loop3, neaptideref10_Single.r2, neaptideref10_Single.r4, neaptideref10_Single.r5, neaptideref10_Single.r7, wk, List.getD_cons_succ, List.getD_cons_zero, if_true, if_false, List.getElem?_cons_succ, List.getElem?_cons_zero, Option.map_some, eq_self, reduceIte, Nat.reduceEqDiff, Int.reduceEq, Int.reduceLT, Int.reduceLE, if_neg hk, if_neg j2, iz_len hv, iz_len (Okl.read (l := w)), goInt, d1, c1, d2]
      generalize hL2 : loopV (vcodeV Try.prog O false neaptideref10_Single.loop2) _ _ = r2 at hr
      obtain ⟨e2, T2, rfl, g⟩ := neaptideref10_Single.in2 hj j2 hw (Okl.read (l := w)) h7 w [] hL2 rfl rfl rfl rfl rfl rfl
      have ho : oneOf who w = w.all (fun x => who.any fun w => decide (x = w)) := by
        match w, h2 with
        | [], _ => rfl
        | [x], _ => simp [oneOf]
        | x :: y :: w, h2 => simp at h2
      rw [ho]
      cases ha : w.all (fun x => who.any fun w => decide (x = w)) with
      | true =>
        rw [ha] at g
        obtain ⟨rfl, q2, q3, q4, q5⟩ := g
        simp only [List.getD_cons_succ, List.getD_cons_zero] at q3 q5
        have hT2 := neaptideref10_Single.eta q2
        rw [q3, q4, q5] at hT2
        conv at hr =>
          rhs
          rw [hT2]
          simp only [neaptideref10_Single.r3, wk, List.getD_cons_succ, List.getD_cons_zero, if_true, if_false, List.getElem?_cons_succ, List.getElem?_cons_zero, Option.map_some, eq_self, reduceIte, Nat.reduceEqDiff, Int.reduceEq, Int.reduceLT, Int.reduceLE, w1]
        obtain ⟨e, T', p1, p2⟩ := ih (i + 1) ((loopV_step hr).symm.trans hL) rfl rfl rfl rfl (by omega) (by omega)
        exact ⟨e, T', p1, p2⟩
      | false =>
        rw [ha] at g
        obtain ⟨rfl, q2⟩ := g
        conv at hr =>
          rhs
          simp only [wk, List.getD_cons_succ, List.getD_cons_zero, if_true, if_false, List.getElem?_cons_succ, List.getElem?_cons_zero, Option.map_some, eq_self, reduceIte, Nat.reduceEqDiff, Int.reduceEq, Int.reduceLT, Int.reduceLE]
        exact ⟨_, _, hL.symm.trans (loopV_exit hr (by simp)), rfl, q2⟩
theorem neaptideref10_Single.v (hv : Okl k l) (hk : k ≠ 2) (hl : l.length ≤ 200) (hd : ∀ d ∈ l, 0 ≤ d ∧ d ≤ 127) (hj : Okl j who) (j2 : j ≠ 2) (hw : who.length ≤ 17592186044416) (S : AHeap) : vlim Try.prog O neaptideref10_Single.id [iz k l, iz j who] S = some (.bool (single l who 1 l.length), S) := by
  obtain ⟨T, hTe⟩ : ∃ T, T = (iz k l :: iz j who :: undef :: undef :: undef :: undef :: undef :: undef :: undef :: undef :: undef :: undef :: undef :: undef :: undef :: undef :: undef :: undef :: undef :: undef :: undef :: undef :: undef :: undef :: undef :: undef :: undef :: undef :: undef :: undef :: undef :: undef :: undef :: undef :: undef :: undef :: undef :: undef :: undef :: undef :: undef :: undef :: undef :: undef :: undef :: undef :: []) := ⟨_, rfl⟩
  have hr : vcodeV Try.prog O false neaptideref10_Single.code T S = vcodeV Try.prog O false neaptideref10_Single.code T S := rfl
  conv at hr =>
    rhs
    rw [hTe]
    simp only [neaptideref10_Single.code, neaptideref10_Single.rs, wk, List.getD_cons_succ, List.getD_cons_zero, if_true, if_false, List.getElem?_cons_succ, List.getElem?_cons_zero, Option.map_some, eq_self, reduceIte, Nat.reduceEqDiff, Int.reduceEq, Int.reduceLT, Int.reduceLE]
  generalize hL : loopV (vcodeV Try.prog O false neaptideref10_Single.loop3) _ _ = r at hr
  obtain ⟨e, T', rfl, g⟩ := neaptideref10_Single.in3 hv hk hl hd hj j2 hw l.length 1 hL rfl rfl rfl rfl (by omega) (by omega)
  cases h : single l who 1 l.length with
  | true =>
    rw [h] at g
    obtain ⟨rfl, g2⟩ := g
    have hTe' := neaptideref10_Single.eta g2
    conv at hr =>
      rhs
      rw [hTe']
      simp only [neaptideref10_Single.code, neaptideref10_Single.rs, wk, List.getD_cons_succ, List.getD_cons_zero, if_true, if_false, List.getElem?_cons_succ, List.getElem?_cons_zero, Option.map_some, eq_self, reduceIte, Nat.reduceEqDiff, Int.reduceEq, Int.reduceLT, Int.reduceLE]
    rw [hTe] at hr
    exact neaptideref10_Single.runs hr (.inr rfl)
  | false =>
    rw [h] at g
    obtain ⟨rfl, g2⟩ := g
    conv at hr =>
      rhs
      simp only [wk, List.getD_cons_succ, List.getD_cons_zero, if_true, if_false, List.getElem?_cons_succ, List.getElem?_cons_zero, Option.map_some, eq_self, reduceIte, Nat.reduceEqDiff, Int.reduceEq, Int.reduceLT, Int.reduceLE]
    rw [hTe] at hr
    have hrun := neaptideref10_Single.runs hr (.inr rfl)
    rw [g2] at hrun
    exact hrun
end
end Go.Proofs.Ytooljmmlekmkeaa
