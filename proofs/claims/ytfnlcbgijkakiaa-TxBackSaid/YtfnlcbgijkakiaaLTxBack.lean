/-
There and back, both ways; of two unlike ones just one goes ahead: the law's run.
-/
import Derived.Test.YtfnlcbgijkakiaaF9
import Derived.Test.YtfnlcbgijkakiaaPk3
set_option linter.unusedVariables false
set_option linter.unusedSimpArgs false
set_option maxRecDepth 100000
namespace Go.Proofs.Ytfnlcbgijkakiaa
open Go.Abs

namespace txBack
def codes : List (Bool × Ty) := [(false, .slc 16 tTx), (false, .slc 1 (.int .u8))]
theorem coded : argsOf Try.prog 9 [34, 24] = some codes := by kernel_rfl
theorem less_iff (a b : TxV) : lessB a b = true ↔ b.fee < a.fee ∨ (a.fee = b.fee ∧ a.id < b.id) := by
  unfold lessB
  split
  · rename_i h; simp [h]
  · rename_i h; simp [h]
theorem inner {k : Nat} {l : List TxV} (hk : Okl k l) (hl : l.length ≤ 8796093022208) {t : TxV} {q : Nat} : ∀ (suf pre : List TxV) {T : List Value} {S : AHeap} {r : St}, loopV (vcodeV Try.prog O false neaptidelaw06_TxBack.loop1) T S = r → T.length = 107 →
    T.getD 10 undef = .pointer (some ⟨q, 0, none⟩) → T.getD 48 undef = tl k l → T.getD 49 undef = .int .i64 l.length → T.getD 50 undef = .int .i64 pre.length → l = pre ++ suf → S.get q = some (.cells (fT t) (.own []) 0) → q < S.next →
    ∃ T' S', r = some (.exit 2, T', S') ∧ T'.length = 107 ∧ T'.getD 0 undef = T.getD 0 undef ∧ T'.getD 1 undef = T.getD 1 undef ∧ T'.getD 42 undef = T.getD 42 undef ∧ T'.getD 43 undef = T.getD 43 undef ∧ T'.getD 44 undef = T.getD 44 undef := by
  intro suf
  induction suf with
  | nil =>
    intro pre T S r hL hT h10 h48 h49 h50 hpre hg hq
    have hTe := neaptidelaw06_TxBack.eta hT
    rw [h48, h49, h50] at hTe
    have hr : vcodeV Try.prog O false neaptidelaw06_TxBack.loop1 T S = vcodeV Try.prog O false neaptidelaw06_TxBack.loop1 T S := rfl
    have d1 : ¬ (pre.length : Int) < (l.length : Int) := by rw [hpre]; simp
    conv at hr =>
      rhs
      rw [hTe]
      simp only [neaptidelaw06_TxBack.loop1, neaptidelaw06_TxBack.code, neaptidelaw06_TxBack.rs, wk, List.getD_cons_succ, List.getD_cons_zero, if_true, if_false, List.getElem?_cons_succ, List.getElem?_cons_zero, Option.map_some, eq_self, reduceIte, Nat.reduceEqDiff, Int.reduceEq, Int.reduceLT, Int.reduceLE, d1]
    exact ⟨_, _, hL.symm.trans (loopV_exit hr (by simp)), rfl, rfl, rfl, rfl, rfl, rfl⟩
  | cons u suf ih =>
    intro pre T S r hL hT h10 h48 h49 h50 hpre hg hq
    have hTe := neaptidelaw06_TxBack.eta hT
    rw [h10, h48, h49, h50] at hTe
    have hr : vcodeV Try.prog O false neaptidelaw06_TxBack.loop1 T S = vcodeV Try.prog O false neaptidelaw06_TxBack.loop1 T S := rfl
    have d1 : (pre.length : Int) < (l.length : Int) := by rw [hpre]; simp; omega
    have e1 := fun S => tl_pre (S := S) hk hpre
    have wi : IntKind.i64.wrap ((pre.length : Int) + 1) = ((pre ++ [u]).length : Int) := by rw [wrap_i64 (by omega) (by omega)]; simp
    obtain ⟨S2, p1, p2, p3, p4⟩ := st_tx S u
    have g2 : S2.get q = some (.cells (fT t) (.own []) 0) := (p3.get q hq).trans hg
    have c1 : ∀ S, vlim Try.prog O 15 [.agg [Value.int .i64 t.id, .int .i64 t.fee].toArray, .agg [Value.int .i64 u.id, .int .i64 u.fee].toArray] S = some (.bool (lessB t u), S) := fun S => tx_Less.v t u S
    have c2 : ∀ S, vlim Try.prog O 15 [.agg [Value.int .i64 u.id, .int .i64 u.fee].toArray, .agg [Value.int .i64 t.id, .int .i64 t.fee].toArray] S = some (.bool (lessB u t), S) := fun S => tx_Less.v u t S
    have q1 : ∀ S, vBin Try.prog .neq 23 (.agg [Value.int .i64 t.id, .int .i64 t.fee].toArray) (.agg [Value.int .i64 u.id, .int .i64 u.fee].toArray) S = some (.bool (!decide (t = u)), S) := fun S => (eq_tx t u S).2
    cases h1 : lessB t u
    · cases h2 : lessB u t
      · have htu : t = u := by
          have n1 : ¬ (u.fee < t.fee ∨ (t.fee = u.fee ∧ t.id < u.id)) := fun h => by rw [(less_iff t u).mpr h] at h1; cases h1
          have n2 : ¬ (t.fee < u.fee ∨ (u.fee = t.fee ∧ u.id < t.id)) := fun h => by rw [(less_iff u t).mpr h] at h2; cases h2
          exact TxV.ext_iff'.mpr ⟨by omega, by omega⟩
        rw [h1] at c1
        rw [h2] at c2
        subst htu
        rw [decide_eq_true rfl] at q1
        conv at hr =>
          rhs
          rw [hTe]
          simp only [neaptidelaw06_TxBack.loop1, neaptidelaw06_TxBack.code, neaptidelaw06_TxBack.rs, wk, List.getD_cons_succ, List.getD_cons_zero, if_true, if_false, List.getElem?_cons_succ, List.getElem?_cons_zero, Option.map_some, eq_self, reduceIte, Nat.reduceEqDiff, Int.reduceEq, Int.reduceLT, Int.reduceLE, d1, e1, le_api_Tx, al_tx, p1, ld_tx p2, ld_tx g2, c1, c2, q1, wi]
        obtain ⟨T', S', i1, i2, i3, i4, i5, i6, i7⟩ := ih (pre ++ [t]) ((loopV_step hr).symm.trans hL) rfl rfl rfl rfl rfl (by simp [hpre]) g2 (by omega)
        exact ⟨T', S', i1, i2, i3, i4, i5, i6, i7⟩
      · rw [h1] at c1
        rw [h2] at c2
        conv at hr =>
          rhs
          rw [hTe]
          simp only [neaptidelaw06_TxBack.loop1, neaptidelaw06_TxBack.code, neaptidelaw06_TxBack.rs, wk, List.getD_cons_succ, List.getD_cons_zero, if_true, if_false, List.getElem?_cons_succ, List.getElem?_cons_zero, Option.map_some, eq_self, reduceIte, Nat.reduceEqDiff, Int.reduceEq, Int.reduceLT, Int.reduceLE, d1, e1, le_api_Tx, al_tx, p1, ld_tx p2, ld_tx g2, c1, c2, wi]
        obtain ⟨T', S', i1, i2, i3, i4, i5, i6, i7⟩ := ih (pre ++ [u]) ((loopV_step hr).symm.trans hL) rfl rfl rfl rfl rfl (by simp [hpre]) g2 (by omega)
        exact ⟨T', S', i1, i2, i3, i4, i5, i6, i7⟩
    · have h2 : lessB u t = false := by
        cases h : lessB u t with
        | false => rfl
        | true => have a1 := (less_iff t u).mp h1; have a2 := (less_iff u t).mp h; omega
      rw [h1] at c1
      rw [h2] at c2
      conv at hr =>
        rhs
        rw [hTe]
        simp only [neaptidelaw06_TxBack.loop1, neaptidelaw06_TxBack.code, neaptidelaw06_TxBack.rs, wk, List.getD_cons_succ, List.getD_cons_zero, if_true, if_false, List.getElem?_cons_succ, List.getElem?_cons_zero, Option.map_some, eq_self, reduceIte, Nat.reduceEqDiff, Int.reduceEq, Int.reduceLT, Int.reduceLE, d1, e1, le_api_Tx, al_tx, p1, ld_tx p2, ld_tx g2, c1, c2, wi]
      obtain ⟨T', S', i1, i2, i3, i4, i5, i6, i7⟩ := ih (pre ++ [u]) ((loopV_step hr).symm.trans hL) rfl rfl rfl rfl rfl (by simp [hpre]) g2 (by omega)
      exact ⟨T', S', i1, i2, i3, i4, i5, i6, i7⟩
theorem round {k : Nat} {l : List TxV} (hk : Okl k l) (k2 : k ≠ 2) (hl : l.length ≤ 8796093022208) : ∀ (suf pre : List TxV) {T : List Value} {S : AHeap} {r : St}, loopV (vcodeV Try.prog O false neaptidelaw06_TxBack.loop2) T S = r → T.length = 107 →
    T.getD 0 undef = tl k l → T.getD 42 undef = tl k l → T.getD 43 undef = .int .i64 l.length → T.getD 44 undef = .int .i64 pre.length → l = pre ++ suf →
    ∃ T' S', r = some (.exit 0, T', S') ∧ T'.length = 107 ∧ T'.getD 1 undef = T.getD 1 undef := by
  intro suf
  induction suf with
  | nil =>
    intro pre T S r hL hT h0 h42 h43 h44 hpre
    have hTe := neaptidelaw06_TxBack.eta hT
    rw [h42, h43, h44] at hTe
    have hr : vcodeV Try.prog O false neaptidelaw06_TxBack.loop2 T S = vcodeV Try.prog O false neaptidelaw06_TxBack.loop2 T S := rfl
    have d1 : ¬ (pre.length : Int) < (l.length : Int) := by rw [hpre]; simp
    conv at hr =>
      rhs
      rw [hTe]
      simp only [neaptidelaw06_TxBack.loop2, neaptidelaw06_TxBack.code, neaptidelaw06_TxBack.rs, wk, List.getD_cons_succ, List.getD_cons_zero, if_true, if_false, List.getElem?_cons_succ, List.getElem?_cons_zero, Option.map_some, eq_self, reduceIte, Nat.reduceEqDiff, Int.reduceEq, Int.reduceLT, Int.reduceLE, d1]
    exact ⟨_, _, hL.symm.trans (loopV_exit hr (by simp)), rfl, rfl⟩
  | cons t suf ih =>
    intro pre T S r hL hT h0 h42 h43 h44 hpre
    have hTe := neaptidelaw06_TxBack.eta hT
    rw [h0, h42, h43, h44] at hTe
    have hr : vcodeV Try.prog O false neaptidelaw06_TxBack.loop2 T S = vcodeV Try.prog O false neaptidelaw06_TxBack.loop2 T S := rfl
    have d1 : (pre.length : Int) < (l.length : Int) := by rw [hpre]; simp; omega
    have e1 := fun S => tl_pre (S := S) hk hpre
    have wi : IntKind.i64.wrap ((pre.length : Int) + 1) = ((pre ++ [t]).length : Int) := by rw [wrap_i64 (by omega) (by omega)]; simp
    obtain ⟨S2, p1, p2, p3, p4⟩ := st_tx S t
    conv at hr =>
      rhs
      rw [hTe]
      simp only [neaptidelaw06_TxBack.loop2, neaptidelaw06_TxBack.code, neaptidelaw06_TxBack.rs, wk, List.getD_cons_succ, List.getD_cons_zero, if_true, if_false, List.getElem?_cons_succ, List.getElem?_cons_zero, Option.map_some, eq_self, reduceIte, Nat.reduceEqDiff, Int.reduceEq, Int.reduceLT, Int.reduceLE, d1, e1, le_api_Tx, al_tx, p1, if_neg k2, tl_len hk]
    generalize hL2 : loopV (vcodeV Try.prog O false neaptidelaw06_TxBack.loop1) _ _ = r2 at hr
    obtain ⟨T', S', rfl, g2, f0, f1, f42, f43, f44⟩ := inner (t := t) hk hl l [] hL2 rfl rfl rfl rfl rfl rfl p2 p4
    have hTe' := neaptidelaw06_TxBack.eta g2
    rw [f0, f1, f42, f43, f44] at hTe'
    simp only [List.getD_cons_succ, List.getD_cons_zero] at hTe'
    conv at hr =>
      rhs
      rw [hTe']
      simp only [neaptidelaw06_TxBack.code, neaptidelaw06_TxBack.rs, wk, List.getD_cons_succ, List.getD_cons_zero, if_true, if_false, List.getElem?_cons_succ, List.getElem?_cons_zero, Option.map_some, eq_self, reduceIte, Nat.reduceEqDiff, Int.reduceEq, Int.reduceLT, Int.reduceLE, wi]
    obtain ⟨T2, S'', i1, i2, i3⟩ := ih (pre ++ [t]) ((loopV_step hr).symm.trans hL) rfl rfl rfl rfl rfl (by simp [hpre])
    exact ⟨T2, S'', i1, i2, i3⟩
theorem last {j : Nat} {b : List UInt8} (hj : Okl j b) (j2 : j ≠ 2) (hb : b.length ≤ 140737488351232) {T : List Value} {S : AHeap} (hT : T.length = 107) (h1 : T.getD 1 undef = by_ j b) :
    ∃ T', vcodeV Try.prog O false (.seq (.region 20 (reg Try.f9 20) false) (.seq (.seq (.region 21 (reg Try.f9 21) false) (.cond (.tmp 89) (.seq (.region 22 (reg Try.f9 22) false) .ret) .skip)) (.seq (.region 23 (reg Try.f9 23) false) (.seq (.region 24 (reg Try.f9 24) false) .ret)))) T S = some (.ret, T', S) ∧ T'.getD 4 undef = .bool true := by
  have hTe := neaptidelaw06_TxBack.eta hT
  rw [h1] at hTe
  obtain ⟨C, hC⟩ : ∃ C, C = Code.seq (.region 20 (reg Try.f9 20) false) (.seq (.seq (.region 21 (reg Try.f9 21) false) (.cond (.tmp 89) (.seq (.region 22 (reg Try.f9 22) false) .ret) .skip)) (.seq (.region 23 (reg Try.f9 23) false) (.seq (.region 24 (reg Try.f9 24) false) .ret))) := ⟨_, rfl⟩
  rw [← hC]
  have hr : vcodeV Try.prog O false C T S = vcodeV Try.prog O false C T S := rfl
  obtain ⟨k, ts, e, o1, o2, o3, o4⟩ := txsRdV_form (j := 0) (by decide) b
  have c1 := fun S => tx_ReadList.v (k := 1) (l := b) Okl.read (by decide) (by omega) S
  rw [o3] at c1
  have cp := fun S => by_copy (S := S) hj (by omega)
  rcases o4 with ⟨rfl, hx⟩ | ⟨rfl, hx, rfl⟩
  · obtain ⟨ok, hbb⟩ := (txsRd_iff b ts).mp hx
    have c2 := fun S => tx_List.v o1.dem (dem_ne2 k) (by omega) S
    have c2' : txsV ts = .tuple #[by_ 2 (txsB ts), .int .i64 0] := if_pos ok
    rw [c2', ← hbb] at c2
    have s1 : ∀ S, vConv Try.prog 24 9 (by_ 1 b) S = some (.string ⟨b.toArray⟩, S) := fun S => by_str Okl.read
    have s2 : ∀ S, vConv Try.prog 24 9 (by_ j b) S = some (.string ⟨b.toArray⟩, S) := fun S => by_str hj
    conv at hr =>
      rhs
      rw [hTe, hC]
      simp only [neaptidelaw06_TxBack.rs, wk, List.getD_cons_succ, List.getD_cons_zero, if_true, if_false, List.getElem?_cons_succ, List.getElem?_cons_zero, Option.map_some, eq_self, reduceIte, Nat.reduceEqDiff, Int.reduceEq, Int.reduceLT, Int.reduceLE, if_neg j2, bb0, cp, c1, dem2, c2, s1, s2, tx_eql]
    exact ⟨_, hr, rfl⟩
  · have lx : ∀ S, vLen Try.prog 34 (tl (if k = 2 then 1 else k) []) S = some (.int .i64 0, S) := fun S => tl_len o1.dem
    conv at hr =>
      rhs
      rw [hTe, hC]
      simp only [neaptidelaw06_TxBack.rs, wk, List.getD_cons_succ, List.getD_cons_zero, if_true, if_false, List.getElem?_cons_succ, List.getElem?_cons_zero, Option.map_some, eq_self, reduceIte, Nat.reduceEqDiff, Int.reduceEq, Int.reduceLT, Int.reduceLE, if_neg j2, bb0, cp, c1, dem2, lx]
    exact ⟨_, hr, rfl⟩
theorem run {k j : Nat} {l : List TxV} {b : List UInt8} (hk : Okl k l) (k2 : k ≠ 2) (hl : l.length * 16 ≤ 140737488351232) (hj : Okl j b) (j2 : j ≠ 2) (hb : b.length ≤ 140737488351232) (S : AHeap) : ∃ S', vlim Try.prog O 9 [tl k l, by_ j b] S = some (.bool true, S') := by
  obtain ⟨T, hTe⟩ : ∃ T, T = (tl k l :: by_ j b :: undef :: undef :: undef :: undef :: undef :: undef :: undef :: undef :: undef :: undef :: undef :: undef :: undef :: undef :: undef :: undef :: undef :: undef :: undef :: undef :: undef :: undef :: undef :: undef :: undef :: undef :: undef :: undef :: undef :: undef :: undef :: undef :: undef :: undef :: undef :: undef :: undef :: undef :: undef :: undef :: undef :: undef :: undef :: undef :: undef :: undef :: undef :: undef :: undef :: undef :: undef :: undef :: undef :: undef :: undef :: undef :: undef :: undef :: undef :: undef :: undef :: undef :: undef :: undef :: undef :: undef :: undef :: undef :: undef :: undef :: undef :: undef :: undef :: undef :: undef :: undef :: undef :: undef :: undef :: undef :: undef :: undef :: undef :: undef :: undef :: undef :: undef :: undef :: undef :: undef :: undef :: undef :: undef :: undef :: undef :: undef :: undef :: undef :: undef :: undef :: undef :: undef :: undef :: undef :: undef :: []) := ⟨_, rfl⟩
  have hr : vcodeV Try.prog O false neaptidelaw06_TxBack.code T S = vcodeV Try.prog O false neaptidelaw06_TxBack.code T S := rfl
  by_cases h10 : 10 < (l.length : Int)
  · conv at hr =>
      rhs
      rw [hTe]
      simp only [neaptidelaw06_TxBack.code, neaptidelaw06_TxBack.rs, wk, List.getD_cons_succ, List.getD_cons_zero, if_true, if_false, List.getElem?_cons_succ, List.getElem?_cons_zero, Option.map_some, eq_self, reduceIte, Nat.reduceEqDiff, Int.reduceEq, Int.reduceLT, Int.reduceLE, neaptidelaw06_txAlive.v, if_neg k2, tl_len hk, decide_eq_true h10]
    rw [hTe] at hr
    exact ⟨_, neaptidelaw06_TxBack.runs hr (.inr rfl)⟩
  · have c1 := fun S => tx_List.v hk k2 (by omega) S
    obtain ⟨k1, x, e, q1, q2, q3, q4⟩ := txsV_form l
    rw [q3] at c1
    have mid : ∃ T' S', T'.length = 107 ∧ T'.getD 1 undef = by_ j b ∧ vcodeV Try.prog O false neaptidelaw06_TxBack.code T S = vcodeV Try.prog O false (.seq (.region 20 (reg Try.f9 20) false) (.seq (.seq (.region 21 (reg Try.f9 21) false) (.cond (.tmp 89) (.seq (.region 22 (reg Try.f9 22) false) .ret) .skip)) (.seq (.region 23 (reg Try.f9 23) false) (.seq (.region 24 (reg Try.f9 24) false) .ret)))) T' S' := by
      generalize hC : Code.seq (.region 20 (reg Try.f9 20) false) (.seq (.seq (.region 21 (reg Try.f9 21) false) (.cond (.tmp 89) (.seq (.region 22 (reg Try.f9 22) false) .ret) .skip)) (.seq (.region 23 (reg Try.f9 23) false) (.seq (.region 24 (reg Try.f9 24) false) .ret))) = C
      rcases q4 with ⟨rfl, ok, x1, rfl⟩ | ⟨rfl, ok, x1, rfl⟩
      · have hxl : txsRd x = some l := (txsRd_iff x l).mpr ⟨ok, x1⟩
        have c2 := fun S => tx_ReadList.v (k := 1) (l := x) Okl.read (by decide) (by omega) S
        have c2' : txsRdV 0 x = .tuple #[tl (if l = [] then 0 else 2) l, .int .i64 0] := by unfold txsRdV; rw [hxl]
        rw [c2'] at c2
        have c3 := fun S => neaptideref06_Same.v (okl_tl (by decide) l).dem hk (dem_ne2 (if l = [] then 0 else 2)) k2 (by omega) S
        rw [decide_eq_true rfl] at c3
        conv at hr =>
          rhs
          rw [hTe]
          simp only [neaptidelaw06_TxBack.code, hC]
          simp only [neaptidelaw06_TxBack.rs, wk, List.getD_cons_succ, List.getD_cons_zero, if_true, if_false, List.getElem?_cons_succ, List.getElem?_cons_zero, Option.map_some, eq_self, reduceIte, Nat.reduceEqDiff, Int.reduceEq, Int.reduceLT, Int.reduceLE, neaptidelaw06_txAlive.v, if_neg k2, tl_len hk, decide_eq_false h10, c1, c2, dem2, c3]
        generalize hL : loopV (vcodeV Try.prog O false neaptidelaw06_TxBack.loop2) _ _ = r at hr
        obtain ⟨T', S', rfl, g2, g3⟩ := round hk k2 (by omega) l [] hL rfl rfl rfl rfl rfl rfl
        conv at hr =>
          rhs
          simp only [wk, List.getD_cons_succ, List.getD_cons_zero, if_true, if_false, List.getElem?_cons_succ, List.getElem?_cons_zero, Option.map_some, eq_self, reduceIte, Nat.reduceEqDiff, Int.reduceEq, Int.reduceLT, Int.reduceLE]
        exact ⟨T', S', g2, g3, hr⟩
      · conv at hr =>
          rhs
          rw [hTe]
          simp only [neaptidelaw06_TxBack.code, hC]
          simp only [neaptidelaw06_TxBack.rs, wk, List.getD_cons_succ, List.getD_cons_zero, if_true, if_false, List.getElem?_cons_succ, List.getElem?_cons_zero, Option.map_some, eq_self, reduceIte, Nat.reduceEqDiff, Int.reduceEq, Int.reduceLT, Int.reduceLE, neaptidelaw06_txAlive.v, if_neg k2, tl_len hk, decide_eq_false h10, c1]
        generalize hL : loopV (vcodeV Try.prog O false neaptidelaw06_TxBack.loop2) _ _ = r at hr
        obtain ⟨T', S', rfl, g2, g3⟩ := round hk k2 (by omega) l [] hL rfl rfl rfl rfl rfl rfl
        conv at hr =>
          rhs
          simp only [wk, List.getD_cons_succ, List.getD_cons_zero, if_true, if_false, List.getElem?_cons_succ, List.getElem?_cons_zero, Option.map_some, eq_self, reduceIte, Nat.reduceEqDiff, Int.reduceEq, Int.reduceLT, Int.reduceLE]
        exact ⟨T', S', g2, g3, hr⟩
    obtain ⟨T', S', m1, m2, m3⟩ := mid
    obtain ⟨T2, n1, n2⟩ := last hj j2 hb m1 m2 (S := S')
    rw [n1, hTe] at m3
    have hrun := neaptidelaw06_TxBack.runs m3 (.inr rfl)
    rw [n2] at hrun
    exact ⟨_, hrun⟩
theorem law (x : Args codes) (h : Args.Good codes x) : ∃ k, (acall Try.prog k 9 (Args.place codes x AHeap.empty).1 (Args.place codes x AHeap.empty).2).map (·.1) = some (.bool true) := by
  obtain ⟨a, b, u⟩ := x
  obtain ⟨h1, h2, _⟩ := h
  obtain ⟨k, l, p1, p2, p3, p4, p5⟩ := in_txs a h1
  obtain ⟨j, m, q1, q2, q3, q4⟩ := in_bytes b h2
  obtain ⟨S', e⟩ := run p1 p2 p4 q1 q2 q4 AHeap.empty
  refine law_of_vlim ora_ok (S' := S') ?_
  have e2 : Args.vval codes (a, b, u) = [tl k l, by_ j m] := by
    show [argOf false ((Ty.slc 16 tTx).vval a), argOf false ((Ty.slc 1 (.int .u8)).vval b)] = _
    rw [p3, q3]; rfl
  rw [e2]
  exact e
end txBack
end Go.Proofs.Ytfnlcbgijkakiaa
