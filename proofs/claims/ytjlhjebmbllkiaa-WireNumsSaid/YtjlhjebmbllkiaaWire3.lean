/-
slices.Clone of bytes; what wire.ReadNum answers.
-/
import Derived.Test.YtjlhjebmbllkiaaF25
import Derived.Test.YtjlhjebmbllkiaaF11
import Derived.Test.YtjlhjebmbllkiaaWire2
set_option linter.unusedVariables false
set_option linter.unusedSimpArgs false
namespace Go.Proofs.Ytjlhjebmbllkiaa
open Go.Abs

theorem aBin_isnil {t e : TypeId} {H : AHeap} {P : Program} (ht : P.underlying t = some (.slice e)) (a : Option Addr) (n c : Nat) : aBin P .eql t (.slice a n c) (.slice none 0 0) H = some (.bool a.isNone, H) := by
  cases a <;> simp [aBin, nilTest, ht, nilEq]

theorem slices_Clone.spec {H : AHeap} {l : List UInt8} {v : Value} (h : Sb H l v) (hl : l.length ≤ 140737488355328) : ∃ v' H', lim Try.prog slices_Clone.id [v] H = some (v', H') ∧ Keeps H.next H H' ∧ Sob H.next H' l v' := by
  obtain ⟨T, hTe⟩ : ∃ T, T = (v :: undef :: undef :: undef :: undef :: undef :: undef :: undef :: []) := ⟨_, rfl⟩
  have hr : codeV Try.prog slices_Clone.code T H = codeV Try.prog slices_Clone.code T H := rfl
  obtain ⟨a, ha⟩ := sl_len h
  conv at hr =>
    rhs
    rw [hTe, ha]
    simp only [slices_Clone.code, codeV_seq, codeV_region, codeV_block, codeV_skip, codeV_ret, codeV_exit, codeV_cond, codeV_loop, andThen_some, regV_some, seqV_normal, seqV_exit, seqV_ret, blockV_normal, blockV_ret, blockV_exit, condV_true, condV_false, List.getD_cons_succ, List.getD_cons_zero, gd_tt, gd_ff, gd_tf, gd_ft, gd_ut, ret_run, aPick_bool, if_true, if_false, reduceIte, Nat.reduceEqDiff, Bool.false_eq_true, slices_Clone.r0, slices_Clone.r1, aBin_isnil u_L_uint8]
  cases a with
  | none =>
    have hl0 : l = [] := by
      rcases h.2 with ⟨h1, h2⟩ | ⟨h1, h2⟩ | ⟨r, o, cs, own, h1, _⟩
      · exact List.length_eq_zero_iff.1 h2
      · rw [h1] at ha; cases ha
      · rw [h1] at ha; cases ha
    subst hl0
    conv at hr =>
      rhs
      simp only [Option.isNone_none, codeV_seq, codeV_region, codeV_block, codeV_skip, codeV_ret, codeV_exit, codeV_cond, codeV_loop, andThen_some, regV_some, seqV_normal, seqV_exit, seqV_ret, blockV_normal, blockV_ret, blockV_exit, condV_true, condV_false, List.getD_cons_succ, List.getD_cons_zero, gd_tt, gd_ff, gd_tf, gd_ft, gd_ut, ret_run, aPick_bool, if_true, if_false, reduceIte, Nat.reduceEqDiff, Bool.false_eq_true, slices_Clone.r2]
    rw [hTe] at hr
    exact ⟨_, _, slices_Clone.runs hr (.inr rfl), Keeps.refl _ _, Sob.nil _ _⟩
  | some a =>
    conv at hr =>
      rhs
      simp only [Option.isNone_some, codeV_seq, codeV_region, codeV_block, codeV_skip, codeV_ret, codeV_exit, codeV_cond, codeV_loop, andThen_some, regV_some, seqV_normal, seqV_exit, seqV_ret, blockV_normal, blockV_ret, blockV_exit, condV_true, condV_false, List.getD_cons_succ, List.getD_cons_zero, gd_tt, gd_ff, gd_tf, gd_ft, gd_ut, ret_run, aPick_bool, if_true, if_false, reduceIte, Nat.reduceEqDiff, Bool.false_eq_true, slices_Clone.r3, bs_L_uint8_0]
    rw [ha] at h
    obtain ⟨v', H2, e1, e2, e3⟩ := aAppend_bytes u_L_uint8 s_uint8 o_uint8 rfl b_uint8 u_L_uint8 (push0 (H := H)) (h.keeps (Keeps.push _ (Nat.le_refl _))) (by simp) (by simpa using hl)
    conv at hr =>
      rhs
      simp only [e1, codeV_seq, codeV_region, codeV_block, codeV_skip, codeV_ret, codeV_exit, codeV_cond, codeV_loop, andThen_some, regV_some, seqV_normal, seqV_exit, seqV_ret, blockV_normal, blockV_ret, blockV_exit, condV_true, condV_false, List.getD_cons_succ, List.getD_cons_zero, gd_tt, gd_ff, gd_tf, gd_ft, gd_ut, ret_run, aPick_bool, if_true, if_false, reduceIte, Nat.reduceEqDiff, Bool.false_eq_true]
    rw [hTe] at hr
    exact ⟨_, _, slices_Clone.runs hr (.inr rfl), (Keeps.push _ (Nat.le_refl _)).trans e2, e3⟩

/-- The number with which bytes begin. -/
def scan : Nat → Nat → List UInt8 → Option (Nat × List UInt8)
  | _, _, [] => none
  | i, acc, x :: r => if (i = 9 ∧ 1 < x.toNat) ∨ (0 < i ∧ x.toNat = 0) then none else if x.toNat < 128 then some (acc + x.toNat * 128 ^ i, r) else scan (i + 1) (acc + (x.toNat - 128) * 128 ^ i) r

/-- Does it stop here? -/
theorem wire_ReadNum.stop (x0 x1 x2 x3 x4 x5 x6 x7 x8 x9 x10 x11 x12 x13 x14 x15 x16 x17 x18 x19 x20 x21 x22 x23 x24 x25 x26 x27 x28 x29 x30 x31 x32 x33 x34 x35 x36 x37 x38 x39 x40 x41 x42 x43 x44 x45 : Value) (i x : Int) (H : AHeap) (h6 : x6 = .int .i64 i) (h7 : x7 = .int .u8 x) : ∃ y15 y16 y17 y18 y19 y20 y21 y22 y23 y24 y25 y26 y27, aOps Try.prog (lim Try.prog) (reg Try.f11 5) (reg Try.f11 5).toList (x0 :: x1 :: x2 :: x3 :: x4 :: x5 :: x6 :: x7 :: x8 :: x9 :: x10 :: x11 :: x12 :: x13 :: x14 :: x15 :: x16 :: x17 :: x18 :: x19 :: x20 :: x21 :: x22 :: x23 :: x24 :: x25 :: x26 :: x27 :: x28 :: x29 :: x30 :: x31 :: x32 :: x33 :: x34 :: x35 :: x36 :: x37 :: x38 :: x39 :: x40 :: x41 :: x42 :: x43 :: x44 :: x45 :: []) H =
    some ((x0 :: x1 :: x2 :: x3 :: x4 :: x5 :: x6 :: x7 :: x8 :: x9 :: x10 :: x11 :: x12 :: x13 :: x14 :: y15 :: y16 :: y17 :: y18 :: y19 :: y20 :: y21 :: y22 :: y23 :: y24 :: y25 :: y26 :: y27 :: .bool (decide ((i = 9 ∧ 1 < x) ∨ (0 < i ∧ x = 0))) :: x29 :: x30 :: x31 :: x32 :: x33 :: x34 :: x35 :: x36 :: x37 :: x38 :: x39 :: x40 :: x41 :: x42 :: x43 :: x44 :: x45 :: []), H) := by
  subst h6 h7
  rw [wire_ReadNum.r5]
  simp only [aBin_eql, codeV_seq, codeV_region, codeV_block, codeV_skip, codeV_ret, codeV_exit, codeV_cond, codeV_loop, andThen_some, regV_some, seqV_normal, seqV_exit, seqV_ret, blockV_normal, blockV_ret, blockV_exit, condV_true, condV_false, List.getD_cons_succ, List.getD_cons_zero, gd_tt, gd_ff, gd_tf, gd_ft, gd_ut, ret_run, aPick_bool, if_true, if_false, reduceIte, Nat.reduceEqDiff, Bool.false_eq_true]
  rcases Bool.eq_false_or_eq_true (decide (i = 9)) with d1 | d1 <;> rcases Bool.eq_false_or_eq_true (decide (1 < x)) with d2 | d2 <;> rcases Bool.eq_false_or_eq_true (decide (0 < i)) with d3 | d3 <;> rcases Bool.eq_false_or_eq_true (decide (x = 0)) with d4 | d4 <;>
    simp only [d1, d2, d3, d4, aBin_gtr, aBin_eql, codeV_seq, codeV_region, codeV_block, codeV_skip, codeV_ret, codeV_exit, codeV_cond, codeV_loop, andThen_some, regV_some, seqV_normal, seqV_exit, seqV_ret, blockV_normal, blockV_ret, blockV_exit, condV_true, condV_false, List.getD_cons_succ, List.getD_cons_zero, gd_tt, gd_ff, gd_tf, gd_ft, gd_ut, ret_run, aPick_bool, if_true, if_false, reduceIte, Nat.reduceEqDiff, Bool.false_eq_true] <;> simp only [decide_eq_true_eq, decide_eq_false_iff_not] at d1 d2 d3 d4 <;>
    simp only [d1, d2, d3, d4, true_and, false_and, and_true, and_false, or_true, true_or, or_false, false_or, decide_true, decide_false, not_true, not_false_iff] <;> first | exact ⟨_, _, _, _, _, _, _, _, _, _, _, _, _, rfl⟩ | omega
end Go.Proofs.Ytjlhjebmbllkiaa
