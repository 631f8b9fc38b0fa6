/-
The law WireNums: its run.
-/
import Derived.Test.YtjlhjebmbllkiaaF4
import Derived.Test.YtjlhjebmbllkiaaWire7
set_option linter.unusedVariables false
set_option linter.unusedSimpArgs false
namespace Go.Proofs.Ytjlhjebmbllkiaa
open Go.Abs

theorem placeAll_int (k : IntKind) : ∀ (xs : List Int) (H : AHeap), placeAll (α := Int) (fun x H => ([Value.int k x], H)) xs H = (xs.map fun x => Value.int k x, H) := by
  intro xs
  induction xs with
  | nil => intro H; rfl
  | cons x xs ih => intro H; simp only [placeAll, ih]; rfl
def toBytes (xs : List Int) : List UInt8 := xs.map fun n => UInt8.ofNat n.toNat
theorem toBytes_length (xs : List Int) : (toBytes xs).length = xs.length := by simp [toBytes]
theorem bc_toBytes (xs : List Int) (h : ∀ n ∈ xs, (Lit.int .u8 n).wf = true) : (xs.map fun n => Value.int .u8 n) = bc (toBytes xs) := by
  unfold bc toBytes
  rw [List.map_map]
  refine List.map_congr_left (fun n hn => ?_)
  have hw := h n hn
  simp [Lit.wf, IntKind.min, IntKind.max, IntKind.signed, IntKind.bits] at hw
  simp only [Function.comp, UInt8.toNat_ofNat']
  congr 1
  omega
theorem place_some (x : Int) (l : List Int) (H : AHeap) (h : ∀ n ∈ x :: l, (Lit.int .u8 n).wf = true) : (Ty.slc 1 (.int .u8)).place (some (x :: l) : Option (List Int)) H = ([.slice (some ⟨H.next, 0, none⟩) (l.length + 1) (l.length + 1)], H.push (.cells (bc (toBytes (x :: l))) false 1)) := by
  rw [← bc_toBytes _ h]
  have e := placeAll_int .u8 (x :: l) H
  show (([.slice (some ⟨(placeAll (α := Int) (fun x H => ([Value.int .u8 x], H)) (x :: l) H).2.next, 0, none⟩) (l.length + 1) (l.length + 1)],
        (placeAll (α := Int) (fun x H => ([Value.int .u8 x], H)) (x :: l) H).2.push (.cells (placeAll (α := Int) (fun x H => ([Value.int .u8 x], H)) (x :: l) H).1 false 1)) : List Value × AHeap) = _
  rw [e]
/-- Bytes that come in. -/
theorem place_bytes (xs : (Ty.slc 1 (.int .u8)).Val) (hg : (Ty.slc 1 (.int .u8)).Good xs) (H : AHeap) : ∃ l v H', (Ty.slc 1 (.int .u8)).place xs H = ([v], H') ∧ Sb H' l v ∧ l.length ≤ 140737488351232 ∧ Keeps H.next H H' := by
  match xs, hg with
  | none, _ => exact ⟨[], _, H, rfl, (Sob.nil 0 H).sb, by simp, Keeps.refl _ _⟩
  | some [], _ => exact ⟨[], _, H, rfl, ⟨rfl, .inr (.inl ⟨rfl, rfl⟩)⟩, by simp, Keeps.refl _ _⟩
  | some (x :: l), hg =>
    obtain ⟨h1, h2, h3⟩ := hg
    have e := place_some x l H h3
    have hlen : (toBytes (x :: l : List Int)).length = l.length + 1 := toBytes_length _
    refine ⟨toBytes (x :: l : List Int), _, _, e, ⟨by rw [bc_length, Nat.mul_one], .inr (.inr ⟨H.next, 0, _, false, congrArg (fun k => Value.slice (some ⟨H.next, 0, none⟩) k k) hlen.symm, Nat.lt_succ_self _, by rw [AHeap.get_push, if_pos rfl], by rw [bc_length, Nat.zero_add, Nat.mul_one]; exact Nat.le_refl _, ?_⟩)⟩, ?_, Keeps.push _ (Nat.le_refl _)⟩
    · rw [List.drop_zero, List.take_of_length_le (by rw [bc_length, Nat.mul_one]; exact Nat.le_refl _)]
    · rw [hlen]; rw [Nat.mul_one] at h1; exact h1

namespace wireNums
def codes : List (Bool × Ty) := [(false, .int .u64), (false, .slc 1 (.int .u8))]
theorem coded : argsOf Try.prog 9 [22, 23] = some codes := by kernel_rfl

theorem run (n : Nat) (hn : n < 2 ^ 64) {l : List UInt8} {v : Value} {H : AHeap} (hv : Sb H l v) (hl : l.length ≤ 140737488351232) : ∃ H', lim Try.prog 4 [.int .u64 n, v] H = some (.bool true, H') := by
  obtain ⟨T, hTe⟩ : ∃ T, T = (.int .u64 n :: v :: undef :: undef :: undef :: undef :: undef :: undef :: undef :: undef :: undef :: undef :: undef :: undef :: undef :: undef :: undef :: undef :: undef :: undef :: undef :: undef :: undef :: undef :: undef :: undef :: undef :: undef :: undef :: undef :: undef :: undef :: undef :: undef :: undef :: undef :: undef :: undef :: undef :: undef :: undef :: undef :: undef :: undef :: undef :: undef :: undef :: undef :: undef :: undef :: undef :: undef :: []) := ⟨_, rfl⟩
  have hr : codeV Try.prog neaptidelaw01_WireNums.code T H = codeV Try.prog neaptidelaw01_WireNums.code T H := rfl
  obtain ⟨va, H1, e1, k1, s1⟩ := aAppend_bytes u_L_uint8 s_uint8 o_uint8 rfl b_uint8 u_L_uint8 (push0 (H := H)) (hv.keeps (Keeps.push _ (Nat.le_refl _))) (by simp) (by simp; omega)
  rw [List.nil_append] at s1
  have k1 : Keeps H.next H H1 := (Keeps.push _ (Nat.le_refl _)).trans k1
  obtain ⟨r2, H2, e2, k2, m, v2, er, rfl, s2⟩ := wire_ReadNum.spec s1.sb (by omega)
  have hv2 := (hv.keeps k1).keeps k2
  obtain ⟨r3, H3, e3, k3, m3, v3, er3, rfl, s3⟩ := neaptideref01_ReadNum.spec hv2 (by omega)
  conv at hr =>
    rhs
    rw [hTe]
    simp only [neaptidelaw01_WireNums.code, codeV_seq, codeV_region, codeV_block, codeV_skip, codeV_ret, codeV_exit, codeV_cond, codeV_loop, andThen_some, regV_some, seqV_normal, seqV_exit, seqV_ret, blockV_normal, blockV_ret, blockV_exit, condV_true, condV_false, List.getD_cons_succ, List.getD_cons_zero, gd_tt, gd_ff, gd_tf, gd_ft, gd_ut, ret_run, aPick_bool, if_true, if_false, reduceIte, Nat.reduceEqDiff, Bool.false_eq_true, neaptidelaw01_WireNums.r0, neaptidelaw01_WireNums.r1, bs_L_uint8_0, e1, e2, aExtract, neaptidelaw01_WireNums.r2, e3]
    simp only [List.getElem?_toArray, List.getElem?_cons_zero, List.getElem?_cons_succ, codeV_seq, codeV_region, codeV_block, codeV_skip, codeV_ret, codeV_exit, codeV_cond, codeV_loop, andThen_some, regV_some, seqV_normal, seqV_exit, seqV_ret, blockV_normal, blockV_ret, blockV_exit, condV_true, condV_false, List.getD_cons_succ, List.getD_cons_zero, gd_tt, gd_ff, gd_tf, gd_ft, gd_ut, ret_run, aPick_bool, if_true, if_false, reduceIte, Nat.reduceEqDiff, Bool.false_eq_true, neaptidelaw01_WireNums.r2, e3, aExtract]
  obtain ⟨rest, hm, her, t2, t3⟩ : ∃ rest, m3 = m ∧ er3 = er ∧ Sb H2 rest v2 ∧ Sb H3 rest v3 := by
    cases hsc : scan 0 0 l with
    | none =>
      rw [hsc] at s2 s3
      obtain ⟨rfl, rfl, rfl⟩ := s2
      obtain ⟨rfl, rfl, rfl⟩ := s3
      exact ⟨[], rfl, rfl, (Sob.nil 0 _).sb, (Sob.nil 0 _).sb⟩
    | some mr =>
      obtain ⟨m0, rest⟩ := mr
      rw [hsc] at s2 s3
      obtain ⟨rfl, _, q2, rfl⟩ := s2
      obtain ⟨rfl, _, q3, rfl⟩ := s3
      exact ⟨rest, rfl, rfl, q2.sb, q3.sb⟩
  subst hm her
  obtain ⟨H4, e4, k4⟩ := neaptidelaw01_wireAlive.spec H3
  obtain ⟨v5, H5, e5, k5, s5⟩ := wire_Num.spec n hn H4
  obtain ⟨v6, H6, e6, k6, s6⟩ := neaptideref01_Num.spec n hn H5
  have c5 := aConv_bytes (dst := 9) u_L_uint8 u_uint8 u_string s5.sb
  have c5' := aConv_bytes (dst := 9) u_L_uint8 u_uint8 u_string (s5.sb.keeps k6)
  have c6 := aConv_bytes (dst := 9) u_L_uint8 u_uint8 u_string s6.sb
  have c2 := aConv_bytes (dst := 9) u_L_uint8 u_uint8 u_string ((((t2.keeps k3).keeps k4).keeps k5).keeps k6)
  have c3 := aConv_bytes (dst := 9) u_L_uint8 u_uint8 u_string (((t3.keeps k4).keeps k5).keeps k6)
  have b8 : ∀ H, aBin Try.prog BinOp.eql 9 (.string ⟨(enc n).toArray⟩) (.string ⟨(enc n).toArray⟩) H = some (.bool true, H) := fun H => by rw [aBin_streq]; simp
  have b13 : ∀ H, aBin Try.prog BinOp.eql 22 (.int .u64 (m3 : Nat)) (.int .u64 (m3 : Nat)) H = some (.bool true, H) := fun H => by rw [aBin_eql]; simp
  have b20 : ∀ H, aBin Try.prog BinOp.eql 9 (.string ⟨rest.toArray⟩) (.string ⟨rest.toArray⟩) H = some (.bool true, H) := fun H => by rw [aBin_streq]; simp
  have b25 : ∀ H, aBin Try.prog BinOp.eql 3 (.int .i64 er3) (.int .i64 er3) H = some (.bool true, H) := fun H => by rw [aBin_eql]; simp
  have pk : ∀ H, aPick (.bool true) (.bool true) (.bool false) H = some (.bool true, H) := fun H => rfl
  rw [codeV_drawn, neaptidelaw01_WireNums.w3 e4 rfl ((gst_tt _ _).trans e5) ((gst_tt _ _).trans c5) rfl ((gst_tt _ _).trans e6) ((gst_tt _ _).trans c6) ((gst_tt _ _).trans (b8 _)) (pk _)
    rfl rfl ((gst_tt _ _).trans (b13 _)) (pk _) rfl ((gst_tt _ _).trans c2) rfl ((gst_tt _ _).trans c3) ((gst_tt _ _).trans (b20 _)) (pk _) rfl rfl ((gst_tt _ _).trans (b25 _)) (pk _) (fun _ => ⟨_, c5'⟩) (by simp [veqN]) (by simp [veqN])] at hr
  conv at hr =>
    rhs
    simp only [codeV_seq, codeV_region, codeV_block, codeV_skip, codeV_ret, codeV_exit, codeV_cond, codeV_loop, andThen_some, regV_some, seqV_normal, seqV_exit, seqV_ret, blockV_normal, blockV_ret, blockV_exit, condV_true, condV_false, List.getD_cons_succ, List.getD_cons_zero, gd_tt, gd_ff, gd_tf, gd_ft, gd_ut, ret_run, aPick_bool, if_true, if_false, reduceIte, Nat.reduceEqDiff, Bool.false_eq_true]
  rw [hTe] at hr
  exact ⟨_, neaptidelaw01_WireNums.runs hr (.inr rfl)⟩
theorem nat64 {n : Int} (h : (Lit.int .u64 n).wf = true) : ∃ k : Nat, n = k ∧ k < 2 ^ 64 := by
  simp [Lit.wf, IntKind.min, IntKind.max, IntKind.signed, IntKind.bits] at h
  exact ⟨n.toNat, by omega, by omega⟩
theorem law (x : Args codes) (h : Args.Good codes x) : ∃ k, (acall Try.prog k 4 (Args.place codes x AHeap.empty).1 (Args.place codes x AHeap.empty).2).map (·.1) = some (.bool true) := by
  obtain ⟨n, bs, u⟩ := x
  obtain ⟨h1, h2, _⟩ := h
  obtain ⟨k, hk, hlt⟩ := nat64 h1
  obtain ⟨l, v, H', e1, e2, e3, e4⟩ := place_bytes bs h2 AHeap.empty
  obtain ⟨H2, hrun⟩ := run k hlt e2 e3
  have e : Args.place codes (n, bs, u) AHeap.empty = ([.int .u64 k, v], H') := by
    subst hk
    show ([Value.int .u64 k, argOf false ((Ty.slc 1 (.int .u8)).place bs AHeap.empty).1], ((Ty.slc 1 (.int .u8)).place bs AHeap.empty).2) = _
    rw [e1]; rfl
  rw [e]
  exact law_of_lim hrun
end wireNums
end Go.Proofs.Ytjlhjebmbllkiaa
