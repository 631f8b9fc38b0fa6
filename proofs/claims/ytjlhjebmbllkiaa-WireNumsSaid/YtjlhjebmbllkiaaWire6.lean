/-
Texts as bytes: what wire.Text and the document's Text answer.
-/
import Derived.Test.YtjlhjebmbllkiaaF16
import Derived.Test.YtjlhjebmbllkiaaF17
import Derived.Test.YtjlhjebmbllkiaaWire5
set_option linter.unusedVariables false
set_option linter.unusedSimpArgs false
namespace Go.Proofs.Ytjlhjebmbllkiaa
open Go.Abs

/-- A text's bytes. -/
def encT (l : List UInt8) : List UInt8 := enc l.length ++ l
def ReadsText (b : Nat) (l : List UInt8) (r : Value) (H : AHeap) : Prop := ∃ v e, r = .tuple #[v, .int .i64 e] ∧ if 4096 < l.length then v = .slice none 0 0 ∧ e = 11 else Sob b H (encT l) v ∧ e = 0

theorem wire_Text.spec {l : List UInt8} {v : Value} {H : AHeap} (hv : Sb H l v) : ∃ r H', lim Try.prog wire_Text.id [v] H = some (r, H') ∧ Keeps H.next H H' ∧ ReadsText H.next l r H' := by
  obtain ⟨T, hTe⟩ : ∃ T, T = (v :: undef :: undef :: undef :: undef :: undef :: undef :: undef :: undef :: undef :: undef :: undef :: undef :: []) := ⟨_, rfl⟩
  have hr : codeV Try.prog wire_Text.code T H = codeV Try.prog wire_Text.code T H := rfl
  conv at hr =>
    rhs
    rw [hTe]
    simp only [wire_Text.code, codeV_seq, codeV_region, codeV_block, codeV_skip, codeV_ret, codeV_exit, codeV_cond, codeV_loop, andThen_some, regV_some, seqV_normal, seqV_exit, seqV_ret, blockV_normal, blockV_ret, blockV_exit, condV_true, condV_false, List.getD_cons_succ, List.getD_cons_zero, gd_tt, gd_ff, gd_tf, gd_ft, gd_ut, ret_run, aPick_bool, if_true, if_false, reduceIte, Nat.reduceEqDiff, Bool.false_eq_true, wire_Text.r0, wire_Text.r1, aLen_sl u_L_uint8 hv, goInt, aBin_gtr]
  by_cases hl : 4096 < l.length
  · have hd : decide ((4096 : Int) < (l.length : Int)) = true := by rw [decide_eq_true_eq]; omega
    conv at hr =>
      rhs
      simp only [hd, codeV_seq, codeV_region, codeV_block, codeV_skip, codeV_ret, codeV_exit, codeV_cond, codeV_loop, andThen_some, regV_some, seqV_normal, seqV_exit, seqV_ret, blockV_normal, blockV_ret, blockV_exit, condV_true, condV_false, List.getD_cons_succ, List.getD_cons_zero, gd_tt, gd_ff, gd_tf, gd_ft, gd_ut, ret_run, aPick_bool, if_true, if_false, reduceIte, Nat.reduceEqDiff, Bool.false_eq_true, wire_Text.r2]
    rw [hTe] at hr
    exact ⟨_, _, wire_Text.runs hr (.inr rfl), Keeps.refl _ _, _, _, rfl, by rw [if_pos hl]; exact ⟨rfl, rfl⟩⟩
  · have hd : decide ((4096 : Int) < (l.length : Int)) = false := by rw [decide_eq_false_iff_not]; omega
    obtain ⟨own, H2, e5, k5, s5⟩ := wire_Num.spec l.length (by omega) H
    have h10 := enc_len10 (n := l.length) (by omega)
    obtain ⟨v2, H3, e8, e9, e10⟩ := aAppend_bytes u_L_uint8 s_uint8 o_uint8 rfl b_uint8 u_L_uint8 s5 (hv.keeps k5) k5.1 (by omega)
    conv at hr =>
      rhs
      simp only [hd, codeV_seq, codeV_region, codeV_block, codeV_skip, codeV_ret, codeV_exit, codeV_cond, codeV_loop, andThen_some, regV_some, seqV_normal, seqV_exit, seqV_ret, blockV_normal, blockV_ret, blockV_exit, condV_true, condV_false, List.getD_cons_succ, List.getD_cons_zero, gd_tt, gd_ff, gd_tf, gd_ft, gd_ut, ret_run, aPick_bool, if_true, if_false, reduceIte, Nat.reduceEqDiff, Bool.false_eq_true, wire_Text.r3, aLen_sl u_L_uint8 hv, goInt, cv_int_uint64, wrap_u64s (show l.length < 2 ^ 64 by omega), e5, e8]
    rw [hTe] at hr
    exact ⟨_, _, wire_Text.runs hr (.inr rfl), k5.trans e9, _, _, rfl, by rw [if_neg hl]; exact ⟨e10, rfl⟩⟩
theorem neaptideref01_Text.spec {l : List UInt8} {v : Value} {H : AHeap} (hv : Sb H l v) : ∃ r H', lim Try.prog neaptideref01_Text.id [v] H = some (r, H') ∧ Keeps H.next H H' ∧ ReadsText H.next l r H' := by
  obtain ⟨T, hTe⟩ : ∃ T, T = (v :: undef :: undef :: undef :: undef :: undef :: undef :: undef :: undef :: undef :: undef :: undef :: undef :: []) := ⟨_, rfl⟩
  have hr : codeV Try.prog neaptideref01_Text.code T H = codeV Try.prog neaptideref01_Text.code T H := rfl
  conv at hr =>
    rhs
    rw [hTe]
    simp only [neaptideref01_Text.code, codeV_seq, codeV_region, codeV_block, codeV_skip, codeV_ret, codeV_exit, codeV_cond, codeV_loop, andThen_some, regV_some, seqV_normal, seqV_exit, seqV_ret, blockV_normal, blockV_ret, blockV_exit, condV_true, condV_false, List.getD_cons_succ, List.getD_cons_zero, gd_tt, gd_ff, gd_tf, gd_ft, gd_ut, ret_run, aPick_bool, if_true, if_false, reduceIte, Nat.reduceEqDiff, Bool.false_eq_true, neaptideref01_Text.r0, neaptideref01_Text.r1, aLen_sl u_L_uint8 hv, goInt, aBin_gtr]
  by_cases hl : 4096 < l.length
  · have hd : decide ((4096 : Int) < (l.length : Int)) = true := by rw [decide_eq_true_eq]; omega
    conv at hr =>
      rhs
      simp only [hd, codeV_seq, codeV_region, codeV_block, codeV_skip, codeV_ret, codeV_exit, codeV_cond, codeV_loop, andThen_some, regV_some, seqV_normal, seqV_exit, seqV_ret, blockV_normal, blockV_ret, blockV_exit, condV_true, condV_false, List.getD_cons_succ, List.getD_cons_zero, gd_tt, gd_ff, gd_tf, gd_ft, gd_ut, ret_run, aPick_bool, if_true, if_false, reduceIte, Nat.reduceEqDiff, Bool.false_eq_true, neaptideref01_Text.r2]
    rw [hTe] at hr
    exact ⟨_, _, neaptideref01_Text.runs hr (.inr rfl), Keeps.refl _ _, _, _, rfl, by rw [if_pos hl]; exact ⟨rfl, rfl⟩⟩
  · have hd : decide ((4096 : Int) < (l.length : Int)) = false := by rw [decide_eq_false_iff_not]; omega
    obtain ⟨own, H2, e5, k5, s5⟩ := neaptideref01_Num.spec l.length (by omega) H
    have h10 := enc_len10 (n := l.length) (by omega)
    obtain ⟨v2, H3, e8, e9, e10⟩ := aAppend_bytes u_L_uint8 s_uint8 o_uint8 rfl b_uint8 u_L_uint8 s5 (hv.keeps k5) k5.1 (by omega)
    conv at hr =>
      rhs
      simp only [hd, codeV_seq, codeV_region, codeV_block, codeV_skip, codeV_ret, codeV_exit, codeV_cond, codeV_loop, andThen_some, regV_some, seqV_normal, seqV_exit, seqV_ret, blockV_normal, blockV_ret, blockV_exit, condV_true, condV_false, List.getD_cons_succ, List.getD_cons_zero, gd_tt, gd_ff, gd_tf, gd_ft, gd_ut, ret_run, aPick_bool, if_true, if_false, reduceIte, Nat.reduceEqDiff, Bool.false_eq_true, neaptideref01_Text.r3, aLen_sl u_L_uint8 hv, goInt, cv_int_uint64, wrap_u64s (show l.length < 2 ^ 64 by omega), e5, e8]
    rw [hTe] at hr
    exact ⟨_, _, neaptideref01_Text.runs hr (.inr rfl), k5.trans e9, _, _, rfl, by rw [if_neg hl]; exact ⟨e10, rfl⟩⟩
end Go.Proofs.Ytjlhjebmbllkiaa
