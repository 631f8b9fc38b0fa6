/-
Unlike lists have unlike bytes: the law's run.
-/
import Derived.Test.YtfnlcbgijkakiaaF7
import Derived.Test.YtfnlcbgijkakiaaPk3
set_option linter.unusedVariables false
set_option linter.unusedSimpArgs false
set_option maxRecDepth 100000
namespace Go.Proofs.Ytfnlcbgijkakiaa
open Go.Abs

namespace txApart
def codes : List (Bool × Ty) := [(false, .slc 16 tTx), (false, .slc 16 tTx)]
theorem coded : argsOf Try.prog 9 [34, 34] = some codes := by kernel_rfl
theorem txRd_self {t : TxV} (h : rightB t = true) : txRdV (txB t) = .tuple #[tv t, .int .i64 0] := by
  unfold txRdV
  rw [(txRd_iff _ t).mpr ⟨h, rfl⟩]
theorem round {k : Nat} {l : List TxV} (hk : Okl k l) (hl : l.length ≤ 8796093022208) (hr0 : ∀ t ∈ l, rightB t = true) : ∀ (suf pre : List TxV) {T : List Value} {S : AHeap} {r : St}, loopV (vcodeV Try.prog O false neaptidelaw06_TxApart.loop1) T S = r → T.length = 86 →
    T.getD 58 undef = tl k l → T.getD 59 undef = .int .i64 l.length → T.getD 60 undef = .int .i64 pre.length → l = pre ++ suf → ∃ T' S', r = some (.exit 0, T', S') ∧ T'.length = 86 := by
  intro suf
  induction suf with
  | nil =>
    intro pre T S r hL hT h58 h59 h60 hpre
    have hTe := neaptidelaw06_TxApart.eta hT
    rw [h58, h59, h60] at hTe
    have hr : vcodeV Try.prog O false neaptidelaw06_TxApart.loop1 T S = vcodeV Try.prog O false neaptidelaw06_TxApart.loop1 T S := rfl
    have d1 : ¬ (pre.length : Int) < (l.length : Int) := by rw [hpre]; simp
    conv at hr =>
      rhs
      rw [hTe]
      simp only [neaptidelaw06_TxApart.loop1, neaptidelaw06_TxApart.code, neaptidelaw06_TxApart.rs, wk, List.getD_cons_succ, List.getD_cons_zero, if_true, if_false, List.getElem?_cons_succ, List.getElem?_cons_zero, Option.map_some, eq_self, reduceIte, Nat.reduceEqDiff, Int.reduceEq, Int.reduceLT, Int.reduceLE, d1]
    exact ⟨_, _, hL.symm.trans (loopV_exit hr (by simp)), rfl⟩
  | cons t suf ih =>
    intro pre T S r hL hT h58 h59 h60 hpre
    have hTe := neaptidelaw06_TxApart.eta hT
    rw [h58, h59, h60] at hTe
    have hr : vcodeV Try.prog O false neaptidelaw06_TxApart.loop1 T S = vcodeV Try.prog O false neaptidelaw06_TxApart.loop1 T S := rfl
    have d1 : (pre.length : Int) < (l.length : Int) := by rw [hpre]; simp; omega
    have e1 := fun S => tl_pre (S := S) hk hpre
    have wi : IntKind.i64.wrap ((pre.length : Int) + 1) = ((pre ++ [t]).length : Int) := by rw [wrap_i64 (by omega) (by omega)]; simp
    have ht : rightB t = true := hr0 t (by rw [hpre]; simp)
    obtain ⟨S2, p1, p2, p3, p4⟩ := st_tx S t
    obtain ⟨S3, q1, q2, q3, q4⟩ := st_tx S2 t
    have g2 : S3.get S.next = some (.cells (fT t) (.own []) 0) := (q3.get _ p4).trans p2
    have c1 : ∀ S, vlim Try.prog O 10 [.agg [Value.int .i64 t.id, .int .i64 t.fee].toArray] S = some (txBV t, S) := fun S => tx_Bytes.v t S
    have c1' : txBV t = .tuple #[by_ 2 (txB t), .int .i64 0] := if_pos ht
    rw [c1'] at c1
    have c2 := fun S => tx_Read.v (k := 1) (l := txB t) Okl.read (by decide) (by have := txB_len ht; omega) S
    rw [txRd_self ht] at c2
    have q : ∀ S, vBin Try.prog .neq 23 (.agg [Value.int .i64 t.id, .int .i64 t.fee].toArray) (.agg [Value.int .i64 t.id, .int .i64 t.fee].toArray) S = some (.bool false, S) := fun S => by
      have := (eq_tx t t S).2; rw [decide_eq_true rfl] at this; exact this
    conv at hr =>
      rhs
      rw [hTe]
      simp only [neaptidelaw06_TxApart.loop1, neaptidelaw06_TxApart.code, neaptidelaw06_TxApart.rs, wk, List.getD_cons_succ, List.getD_cons_zero, if_true, if_false, List.getElem?_cons_succ, List.getElem?_cons_zero, Option.map_some, eq_self, reduceIte, Nat.reduceEqDiff, Int.reduceEq, Int.reduceLT, Int.reduceLE, d1, e1, le_api_Tx, al_tx, p1, ld_tx p2, c1, c2, q1, ld_tx q2, ld_tx g2, q, wi]
    exact ih (pre ++ [t]) ((loopV_step hr).symm.trans hL) rfl rfl rfl rfl (by simp [hpre])
theorem run {k j : Nat} {a b : List TxV} (hk : Okl k a) (k2 : k ≠ 2) (ha : a.length * 16 ≤ 140737488351232) (hj : Okl j b) (j2 : j ≠ 2) (hb : b.length * 16 ≤ 140737488351232) (S : AHeap) : ∃ S', vlim Try.prog O 7 [tl k a, tl j b] S = some (.bool true, S') := by
  obtain ⟨T, hTe⟩ : ∃ T, T = (tl k a :: tl j b :: undef :: undef :: undef :: undef :: undef :: undef :: undef :: undef :: undef :: undef :: undef :: undef :: undef :: undef :: undef :: undef :: undef :: undef :: undef :: undef :: undef :: undef :: undef :: undef :: undef :: undef :: undef :: undef :: undef :: undef :: undef :: undef :: undef :: undef :: undef :: undef :: undef :: undef :: undef :: undef :: undef :: undef :: undef :: undef :: undef :: undef :: undef :: undef :: undef :: undef :: undef :: undef :: undef :: undef :: undef :: undef :: undef :: undef :: undef :: undef :: undef :: undef :: undef :: undef :: undef :: undef :: undef :: undef :: undef :: undef :: undef :: undef :: undef :: undef :: undef :: undef :: undef :: undef :: undef :: undef :: undef :: undef :: undef :: undef :: []) := ⟨_, rfl⟩
  have hr : vcodeV Try.prog O false neaptidelaw06_TxApart.code T S = vcodeV Try.prog O false neaptidelaw06_TxApart.code T S := rfl
  have c1 := fun S => tx_List.v hk k2 (by omega) S
  have c2 := fun S => tx_List.v hj j2 (by omega) S
  have c3 := fun S => neaptideref06_Same.v hk hj k2 j2 (by omega) S
  obtain ⟨k1, x, e, q1, q2, q3, q4⟩ := txsV_form a
  obtain ⟨k3, y, f, r1, r2, r3, r4⟩ := txsV_form b
  rw [q3] at c1
  rw [r3] at c2
  have lx : ∀ S, vLen Try.prog 24 (by_ (if k1 = 2 then 1 else k1) x) S = some (.int .i64 x.length, S) := fun S => by_len q1.dem
  have ly : ∀ S, vLen Try.prog 24 (by_ (if k3 = 2 then 1 else k3) y) S = some (.int .i64 y.length, S) := fun S => by_len r1.dem
  have s1 : ∀ S, vConv Try.prog 24 9 (by_ (if k1 = 2 then 1 else k1) x) S = some (.string ⟨x.toArray⟩, S) := fun S => by_str q1.dem
  have s2 : ∀ S, vConv Try.prog 24 9 (by_ (if k3 = 2 then 1 else k3) y) S = some (.string ⟨y.toArray⟩, S) := fun S => by_str r1.dem
  rcases q4 with ⟨rfl, ok1, x1, _⟩ | ⟨rfl, ok1, x1, _⟩
  · rcases r4 with ⟨rfl, ok2, y1, _⟩ | ⟨rfl, ok2, y1, _⟩
    · have same : decide (x = y) = decide (a = b) := by
        rw [decide_eq_decide, x1, y1]
        exact ⟨fun h => (txsB_inj (r := []) (s := []) ok1 ok2 (by rw [List.append_nil, List.append_nil]; exact h)).1, fun h => by rw [h]⟩
      conv at hr =>
        rhs
        rw [hTe]
        simp only [neaptidelaw06_TxApart.code, neaptidelaw06_TxApart.rs, wk, List.getD_cons_succ, List.getD_cons_zero, if_true, if_false, List.getElem?_cons_succ, List.getElem?_cons_zero, Option.map_some, eq_self, reduceIte, Nat.reduceEqDiff, Int.reduceEq, Int.reduceLT, Int.reduceLE, neaptidelaw06_txAlive.v, if_neg k2, if_neg j2, c1, c2, s1, s2, tx_eql, same, c3, tf_neq, bne_self_eq_false, tl_len hk, dem2]
      generalize hL : loopV (vcodeV Try.prog O false neaptidelaw06_TxApart.loop1) _ _ = r at hr
      obtain ⟨T', S', rfl, g2⟩ := round hk (by omega) (txsOk_iff.mp ok1).1.2 a [] hL rfl rfl rfl rfl rfl
      have hTe' := neaptidelaw06_TxApart.eta g2
      conv at hr =>
        rhs
        rw [hTe']
        simp only [neaptidelaw06_TxApart.code, neaptidelaw06_TxApart.rs, wk, List.getD_cons_succ, List.getD_cons_zero, if_true, if_false, List.getElem?_cons_succ, List.getElem?_cons_zero, Option.map_some, eq_self, reduceIte, Nat.reduceEqDiff, Int.reduceEq, Int.reduceLT, Int.reduceLE]
      rw [hTe] at hr
      exact ⟨_, neaptidelaw06_TxApart.runs hr (.inr rfl)⟩
    · have y0 : (y.length : Int) = 0 := by rw [y1]; rfl
      conv at hr =>
        rhs
        rw [hTe]
        simp only [neaptidelaw06_TxApart.code, neaptidelaw06_TxApart.rs, wk, List.getD_cons_succ, List.getD_cons_zero, if_true, if_false, List.getElem?_cons_succ, List.getElem?_cons_zero, Option.map_some, eq_self, reduceIte, Nat.reduceEqDiff, Int.reduceEq, Int.reduceLT, Int.reduceLE, neaptidelaw06_txAlive.v, if_neg k2, if_neg j2, c1, c2, lx, ly, y0, dem2]
      rw [hTe] at hr
      exact ⟨_, neaptidelaw06_TxApart.runs hr (.inr rfl)⟩
  · have x0 : (x.length : Int) = 0 := by rw [x1]; rfl
    rcases r4 with ⟨rfl, ok2, y1, _⟩ | ⟨rfl, ok2, y1, _⟩
    · conv at hr =>
        rhs
        rw [hTe]
        simp only [neaptidelaw06_TxApart.code, neaptidelaw06_TxApart.rs, wk, List.getD_cons_succ, List.getD_cons_zero, if_true, if_false, List.getElem?_cons_succ, List.getElem?_cons_zero, Option.map_some, eq_self, reduceIte, Nat.reduceEqDiff, Int.reduceEq, Int.reduceLT, Int.reduceLE, neaptidelaw06_txAlive.v, if_neg k2, if_neg j2, c1, c2, lx, ly, x0, dem2]
      rw [hTe] at hr
      exact ⟨_, neaptidelaw06_TxApart.runs hr (.inr rfl)⟩
    · have y0 : (y.length : Int) = 0 := by rw [y1]; rfl
      conv at hr =>
        rhs
        rw [hTe]
        simp only [neaptidelaw06_TxApart.code, neaptidelaw06_TxApart.rs, wk, List.getD_cons_succ, List.getD_cons_zero, if_true, if_false, List.getElem?_cons_succ, List.getElem?_cons_zero, Option.map_some, eq_self, reduceIte, Nat.reduceEqDiff, Int.reduceEq, Int.reduceLT, Int.reduceLE, neaptidelaw06_txAlive.v, if_neg k2, if_neg j2, c1, c2, lx, ly, x0, y0, dem2]
      rw [hTe] at hr
      exact ⟨_, neaptidelaw06_TxApart.runs hr (.inr rfl)⟩
theorem law (x : Args codes) (h : Args.Good codes x) : ∃ k, (acall Try.prog k 7 (Args.place codes x AHeap.empty).1 (Args.place codes x AHeap.empty).2).map (·.1) = some (.bool true) := by
  obtain ⟨a, b, u⟩ := x
  obtain ⟨h1, h2, _⟩ := h
  obtain ⟨k, l, p1, p2, p3, p4, p5⟩ := in_txs a h1
  obtain ⟨j, m, q1, q2, q3, q4, q5⟩ := in_txs b h2
  obtain ⟨S', e⟩ := run p1 p2 p4 q1 q2 q4 AHeap.empty
  refine law_of_vlim ora_ok (S' := S') ?_
  have e2 : Args.vval codes (a, b, u) = [tl k l, tl j m] := by
    show [argOf false ((Ty.slc 16 tTx).vval a), argOf false ((Ty.slc 16 tTx).vval b)] = _
    rw [p3, q3]; rfl
  rw [e2]
  exact e
end txApart
end Go.Proofs.Ytfnlcbgijkakiaa
