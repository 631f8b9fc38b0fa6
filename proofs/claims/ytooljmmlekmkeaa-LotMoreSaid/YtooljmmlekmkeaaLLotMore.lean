/-
One more winner: the law's run.
-/
import Derived.Test.YtooljmmlekmkeaaF7
import Derived.Test.YtooljmmlekmkeaaVL5
import Derived.Test.YtooljmmlekmkeaaVLend
import Derived.Test.YtooljmmlekmkeaaVMem
import Derived.Test.YtooljmmlekmkeaaVWords
set_option linter.unusedVariables false
set_option linter.unusedSimpArgs false
set_option maxRecDepth 100000
namespace Go.Proofs.Ytooljmmlekmkeaa
open Go.Abs

theorem flat_ci (l : List Int) : l.flatMap ci = l.map fun n => Value.int .i64 n := by
  induction l with
  | nil => rfl
  | cons x l ih => rw [List.flatMap_cons, ih]; rfl
theorem ci_all (l : List Int) : (l.flatMap ci).all (·.oneCell') = true := by rw [List.all_flatMap, List.all_eq_true]; exact fun x _ => rfl
theorem ci_len : ∀ n : Int, (ci n).length = 1 := fun _ => rfl
theorem splice_one {cs : List Value} {o : Nat} {x : Value} (h : o < cs.length) : splice cs o [x] = cs.set o x := by
  unfold splice
  rw [List.set_eq_take_append_cons_drop, if_pos h]; simp
theorem dem_ms (a : Addr) (n c : Nat) : dem (.slice (some a) n c) = .slice (some a) n c := Eq.trans rfl rfl
theorem bm0 (S : AHeap) : aBuildSlice Try.prog 22 0 [] S = some (.slice (some ⟨S.next, 0, none⟩) 0 0, S.push (.cells [] (.own []) 1)) := by kernel_rfl
theorem bm7 (S : AHeap) : aBuildSlice Try.prog 22 7 [(0, (.int .i64 0)), (1, (.int .i64 1)), (2, (.int .i64 2)), (3, (.int .i64 3)), (4, (.int .i64 4)), (5, (.int .i64 5)), (6, (.int .i64 6))] S = some (.slice (some ⟨S.next, 0, none⟩) 7 7, S.push (.cells (([0, 1, 2, 3, 4, 5, 6] : List Int).flatMap ci) (.own []) 1)) := by kernel_rfl
theorem own_copy {k : Nat} {l : List Int} (hk : Okl k l) (hl : l.length ≤ 17592186044000) (S : AHeap) : ∃ q S2, vAppendG Try.prog true 22 22 (.slice (some ⟨S.next, 0, none⟩) 0 0) (iz k l) (S.push (.cells [] (.own []) 1)) = some (ms q l.length, S2) ∧ S2.get q = some (.cells (l.flatMap ci) (.own []) 1) ∧ q < S2.next := by
  have hsrc : vSrcS Try.prog 22 1 (iz k l) (S.push (.cells [] (.own []) 1)) = some (l.length, l.flatMap ci) := vSrcS_sv u_L_int hk.okv (by rw [flatMap_len ci_len]) (ci_all l)
  have hg : (S.push (.cells [] (.own []) 1)).get S.next = some (.cells [] (.own []) 1) := by rw [AHeap.get_push, if_pos rfl]
  have e1 := append_mem (hp := true) (t := 22) (tx := 22) (o := 0) (n := 0) (c := 0) u_L_int s_int o_int rfl b_int (by decide) hsrc hg (by decide) (by omega) (by omega) rfl
  rw [if_pos (by rfl), Nat.zero_add] at e1
  refine ⟨_, _, e1, ?_, by simp⟩
  rw [AHeap.get_push, AHeap.next_set, if_pos rfl]
  rfl
theorem neaptidelaw10_lotAlive.v (S : AHeap) : vlim Try.prog O 8 [] S = some (.bool true, S) := vlim_run (n := 20) (by kernel_rfl)

section
variable {k : Nat} {l mo : List Int} {slot node : Int}
theorem neaptidelaw10_LotMore.in1 (hv : Okl k l) (hk : k ≠ 2) {q : Nat} {S : AHeap} (h0l : ∀ s n, callZ (vlim Try.prog O) 13 [iz k l, .int .i64 s, .int .i64 n] S = some (.bool (winB l s n), S)) (h0m : ∀ s n, callZ (vlim Try.prog O) 13 [ms q l.length, .int .i64 s, .int .i64 n] S = some (.bool (winB mo s n), S))
    (hsame : ∀ s n, ¬ (s = slot ∧ n = node) → winB mo s n = winB l s n) {s : Int} : ∀ (m : Nat) (i : Int) {T : List Value} {r : St}, loopV (vcodeV Try.prog O true neaptidelaw10_LotMore.loop1) T S = r → T.length = 114 →
    T.getD 0 undef = iz k l → T.getD 1 undef = .int .i64 slot → T.getD 2 undef = .int .i64 node → T.getD 7 undef = ms q l.length → T.getD 8 undef = .int .i64 s → T.getD 9 undef = .int .i64 i → 0 ≤ i → i + m = 7 →
    ∃ T', r = some (.exit 2, T', S) ∧ T'.length = 114 ∧ T'.getD 0 undef = iz k l ∧ T'.getD 1 undef = .int .i64 slot ∧ T'.getD 2 undef = .int .i64 node ∧ T'.getD 7 undef = ms q l.length ∧ T'.getD 8 undef = .int .i64 s := by
  intro m
  induction m with
  | zero =>
    intro i T r hL hT h0 h1 h2 h7 h8 h9 hi him
    have hTe := neaptidelaw10_LotMore.eta hT
    rw [h0, h1, h2, h7, h8, h9] at hTe
    have hr : vcodeV Try.prog O true neaptidelaw10_LotMore.loop1 T S = vcodeV Try.prog O true neaptidelaw10_LotMore.loop1 T S := rfl
    have d1 : ¬ i < 7 := by omega
    conv at hr =>
      rhs
      rw [hTe]
      simp only [neaptidelaw10_LotMore.loop1, neaptidelaw10_LotMore.code, neaptidelaw10_LotMore.rs, wk, List.getD_cons_succ, List.getD_cons_zero, if_true, if_false, List.getElem?_cons_succ, List.getElem?_cons_zero, Option.map_some, eq_self, reduceIte, Nat.reduceEqDiff, Int.reduceEq, Int.reduceLT, Int.reduceLE, d1]
    exact ⟨_, hL.symm.trans (loopV_exit hr (by simp)), rfl, rfl, rfl, rfl, rfl, rfl⟩
  | succ m ih =>
    intro i T r hL hT h0 h1 h2 h7 h8 h9 hi him
    have hTe := neaptidelaw10_LotMore.eta hT
    rw [h0, h1, h2, h7, h8, h9] at hTe
    have hr : vcodeV Try.prog O true neaptidelaw10_LotMore.loop1 T S = vcodeV Try.prog O true neaptidelaw10_LotMore.loop1 T S := rfl
    have d1 : i < 7 := by omega
    have w1 : IntKind.i64.wrap (i + 1) = i + 1 := wrap_i64 (by omega) (by omega)
    have c1 := h0l s i
    have c2 := h0m s i
    have go : ∀ {T1 : List Value}, vcodeV Try.prog O true neaptidelaw10_LotMore.loop1 T S = some (.normal, T1, S) → T1.length = 114 → T1.getD 0 undef = iz k l → T1.getD 1 undef = .int .i64 slot → T1.getD 2 undef = .int .i64 node → T1.getD 7 undef = ms q l.length → T1.getD 8 undef = .int .i64 s → T1.getD 9 undef = .int .i64 (i + 1) →
        ∃ T', r = some (.exit 2, T', S) ∧ T'.length = 114 ∧ T'.getD 0 undef = iz k l ∧ T'.getD 1 undef = .int .i64 slot ∧ T'.getD 2 undef = .int .i64 node ∧ T'.getD 7 undef = ms q l.length ∧ T'.getD 8 undef = .int .i64 s :=
      fun hr g1 g2 g3 g4 g5 g6 g7 => ih (i + 1) ((loopV_step hr).symm.trans hL) g1 g2 g3 g4 g5 g6 g7 (by omega) (by omega)
    by_cases e1 : s = slot
    · by_cases e2 : i = node
      · subst e1 e2
        conv at hr =>
          rhs
          rw [hTe]
          simp only [neaptidelaw10_LotMore.loop1, neaptidelaw10_LotMore.code, neaptidelaw10_LotMore.rs, wk, List.getD_cons_succ, List.getD_cons_zero, if_true, if_false, List.getElem?_cons_succ, List.getElem?_cons_zero, Option.map_some, eq_self, reduceIte, Nat.reduceEqDiff, Int.reduceEq, Int.reduceLT, Int.reduceLE, d1, decide_true, Bool.not_true, dem_ms, if_neg hk, w1]
        exact go hr rfl rfl rfl rfl rfl rfl rfl
      · rw [hsame s i (fun h => e2 h.2)] at c2
        conv at hr =>
          rhs
          rw [hTe]
          simp only [neaptidelaw10_LotMore.loop1, neaptidelaw10_LotMore.code, neaptidelaw10_LotMore.rs, wk, List.getD_cons_succ, List.getD_cons_zero, if_true, if_false, List.getElem?_cons_succ, List.getElem?_cons_zero, Option.map_some, eq_self, reduceIte, Nat.reduceEqDiff, Int.reduceEq, Int.reduceLT, Int.reduceLE, d1, decide_eq_true e1, decide_eq_false e2, Bool.not_true, Bool.not_false, dem_ms, if_neg hk, c1, c2, tf_neq, bne_self_eq_false, w1]
        exact go hr rfl rfl rfl rfl rfl rfl rfl
    · rw [hsame s i (fun h => e1 h.1)] at c2
      conv at hr =>
        rhs
        rw [hTe]
        simp only [neaptidelaw10_LotMore.loop1, neaptidelaw10_LotMore.code, neaptidelaw10_LotMore.rs, wk, List.getD_cons_succ, List.getD_cons_zero, if_true, if_false, List.getElem?_cons_succ, List.getElem?_cons_zero, Option.map_some, eq_self, reduceIte, Nat.reduceEqDiff, Int.reduceEq, Int.reduceLT, Int.reduceLE, d1, decide_eq_false e1, Bool.not_true, Bool.not_false, dem_ms, if_neg hk, c1, c2, tf_neq, bne_self_eq_false, w1]
      exact go hr rfl rfl rfl rfl rfl rfl rfl
theorem neaptidelaw10_LotMore.in2 (hv : Okl k l) (hk : k ≠ 2) (hl : l.length ≤ 200) {q : Nat} {S : AHeap} (h0l : ∀ s n, callZ (vlim Try.prog O) 13 [iz k l, .int .i64 s, .int .i64 n] S = some (.bool (winB l s n), S)) (h0m : ∀ s n, callZ (vlim Try.prog O) 13 [ms q l.length, .int .i64 s, .int .i64 n] S = some (.bool (winB mo s n), S))
    (hsame : ∀ s n, ¬ (s = slot ∧ n = node) → winB mo s n = winB l s n) : ∀ (m : Nat) (i : Int) {T : List Value} {r : St}, loopV (vcodeV Try.prog O true neaptidelaw10_LotMore.loop2) T S = r → T.length = 114 →
    T.getD 0 undef = iz k l → T.getD 1 undef = .int .i64 slot → T.getD 2 undef = .int .i64 node → T.getD 7 undef = ms q l.length → T.getD 8 undef = .int .i64 i → 1 ≤ i → i + m = l.length + 1 →
    ∃ T', r = some (.exit 0, T', S) ∧ T'.length = 114 ∧ T'.getD 0 undef = iz k l ∧ T'.getD 1 undef = .int .i64 slot ∧ T'.getD 2 undef = .int .i64 node ∧ T'.getD 7 undef = ms q l.length := by
  intro m
  induction m with
  | zero =>
    intro i T r hL hT h0 h1 h2 h7 h8 hi him
    have hTe := neaptidelaw10_LotMore.eta hT
    rw [h0, h1, h2, h7, h8] at hTe
    have hr : vcodeV Try.prog O true neaptidelaw10_LotMore.loop2 T S = vcodeV Try.prog O true neaptidelaw10_LotMore.loop2 T S := rfl
    have d1 : ¬ i ≤ (l.length : Int) := by omega
    conv at hr =>
      rhs
      rw [hTe]
      simp only [neaptidelaw10_LotMore.loop2, neaptidelaw10_LotMore.code, neaptidelaw10_LotMore.rs, wk, List.getD_cons_succ, List.getD_cons_zero, if_true, if_false, List.getElem?_cons_succ, List.getElem?_cons_zero, Option.map_some, eq_self, reduceIte, Nat.reduceEqDiff, Int.reduceEq, Int.reduceLT, Int.reduceLE, if_neg hk, iz_len hv, goInt, d1]
    exact ⟨_, hL.symm.trans (loopV_exit hr (by simp)), rfl, rfl, rfl, rfl, rfl⟩
  | succ m ih =>
    intro i T r hL hT h0 h1 h2 h7 h8 hi him
    have hTe := neaptidelaw10_LotMore.eta hT
    rw [h0, h1, h2, h7, h8] at hTe
    have hr : vcodeV Try.prog O true neaptidelaw10_LotMore.loop2 T S = vcodeV Try.prog O true neaptidelaw10_LotMore.loop2 T S := rfl
    have d1 : i ≤ (l.length : Int) := by omega
    have w1 : IntKind.i64.wrap (i + 1) = i + 1 := wrap_i64 (by omega) (by omega)
    conv at hr =>
      rhs
      rw [hTe]
      simp only [neaptidelaw10_LotMore.loop2, neaptidelaw10_LotMore.code, neaptidelaw10_LotMore.rs, wk, List.getD_cons_succ, List.getD_cons_zero, if_true, if_false, List.getElem?_cons_succ, List.getElem?_cons_zero, Option.map_some, eq_self, reduceIte, Nat.reduceEqDiff, Int.reduceEq, Int.reduceLT, Int.reduceLE, if_neg hk, iz_len hv, goInt, d1]
    generalize hL2 : loopV (vcodeV Try.prog O true neaptidelaw10_LotMore.loop1) _ _ = r2 at hr
    obtain ⟨T2, rfl, q1, q2, q3, q4, q5, q6⟩ := neaptidelaw10_LotMore.in1 hv hk h0l h0m hsame 7 0 hL2 rfl rfl rfl rfl rfl rfl rfl (by omega) (by omega)
    have hT2 := neaptidelaw10_LotMore.eta q1
    rw [q2, q3, q4, q5, q6] at hT2
    conv at hr =>
      rhs
      rw [hT2]
      simp only [neaptidelaw10_LotMore.code, neaptidelaw10_LotMore.rs, wk, List.getD_cons_succ, List.getD_cons_zero, if_true, if_false, List.getElem?_cons_succ, List.getElem?_cons_zero, Option.map_some, eq_self, reduceIte, Nat.reduceEqDiff, Int.reduceEq, Int.reduceLT, Int.reduceLE, w1]
    exact ih (i + 1) ((loopV_step hr).symm.trans hL) rfl rfl rfl rfl rfl rfl (by omega) (by omega)
end

namespace lotMore
def codes : List (Bool × Ty) := [(false, .slc 8 (.int .i64)), (false, .int .i64), (false, .int .i64)]
theorem coded : argsOf Try.prog 9 [22, 3, 3] = some codes := by kernel_rfl
theorem run {k : Nat} {l : List Int} {slot node : Int} (hk : Okl k l) (k2 : k ≠ 2) (hl : l.length ≤ 17592186043904) (S : AHeap) : ∃ S', vlim Try.prog O 7 [iz k l, .int .i64 slot, .int .i64 node] S = some (.bool true, S') := by
  obtain ⟨T, hTe⟩ : ∃ T, T = (iz k l :: .int .i64 slot :: .int .i64 node :: undef :: undef :: undef :: undef :: undef :: undef :: undef :: undef :: undef :: undef :: undef :: undef :: undef :: undef :: undef :: undef :: undef :: undef :: undef :: undef :: undef :: undef :: undef :: undef :: undef :: undef :: undef :: undef :: undef :: undef :: undef :: undef :: undef :: undef :: undef :: undef :: undef :: undef :: undef :: undef :: undef :: undef :: undef :: undef :: undef :: undef :: undef :: undef :: undef :: undef :: undef :: undef :: undef :: undef :: undef :: undef :: undef :: undef :: undef :: undef :: undef :: undef :: undef :: undef :: undef :: undef :: undef :: undef :: undef :: undef :: undef :: undef :: undef :: undef :: undef :: undef :: undef :: undef :: undef :: undef :: undef :: undef :: undef :: undef :: undef :: undef :: undef :: undef :: undef :: undef :: undef :: undef :: undef :: undef :: undef :: undef :: undef :: undef :: undef :: undef :: undef :: undef :: undef :: undef :: undef :: undef :: undef :: undef :: undef :: undef :: undef :: []) := ⟨_, rfl⟩
  have hr : vcodeV Try.prog O true neaptidelaw10_LotMore.code T S = vcodeV Try.prog O true neaptidelaw10_LotMore.code T S := rfl
  have c0 : ∀ S, callZ (vlim Try.prog O) 8 [] S = some (.bool true, S) := fun S => cz_nh (neaptidelaw10_lotAlive.v S) rfl
  have c1 : ∀ S, callZ (vlim Try.prog O) 12 [iz k l] S = some (.int .i64 (chkN l), S) := fun S => cz_nh (lot_Check.v hk k2 (by omega) S) (by simp only [List.all_cons, List.all_nil, nh_vs]; rfl)
  by_cases h1 : chkN l = 0
  · obtain ⟨h2, h3⟩ := chkN_ok h1
    by_cases s1 : slot < 1
    · conv at hr =>
        rhs
        rw [hTe]
        simp only [neaptidelaw10_LotMore.code, neaptidelaw10_LotMore.rs, wk, List.getD_cons_succ, List.getD_cons_zero, if_true, if_false, List.getElem?_cons_succ, List.getElem?_cons_zero, Option.map_some, eq_self, reduceIte, Nat.reduceEqDiff, Int.reduceEq, Int.reduceLT, Int.reduceLE, c0, if_neg k2, c1, h1, s1]
      rw [hTe] at hr
      exact ⟨_, neaptidelaw10_LotMore.runs hr (.inr rfl)⟩
    by_cases s2 : (l.length : Int) < slot
    · conv at hr =>
        rhs
        rw [hTe]
        simp only [neaptidelaw10_LotMore.code, neaptidelaw10_LotMore.rs, wk, List.getD_cons_succ, List.getD_cons_zero, if_true, if_false, List.getElem?_cons_succ, List.getElem?_cons_zero, Option.map_some, eq_self, reduceIte, Nat.reduceEqDiff, Int.reduceEq, Int.reduceLT, Int.reduceLE, c0, if_neg k2, c1, h1, s1, iz_len hk, goInt, s2]
      rw [hTe] at hr
      exact ⟨_, neaptidelaw10_LotMore.runs hr (.inr rfl)⟩
    by_cases s3 : node < 0
    · conv at hr =>
        rhs
        rw [hTe]
        simp only [neaptidelaw10_LotMore.code, neaptidelaw10_LotMore.rs, wk, List.getD_cons_succ, List.getD_cons_zero, if_true, if_false, List.getElem?_cons_succ, List.getElem?_cons_zero, Option.map_some, eq_self, reduceIte, Nat.reduceEqDiff, Int.reduceEq, Int.reduceLT, Int.reduceLE, c0, if_neg k2, c1, h1, s1, iz_len hk, goInt, s2, s3]
      rw [hTe] at hr
      exact ⟨_, neaptidelaw10_LotMore.runs hr (.inr rfl)⟩
    by_cases s4 : 6 < node
    · conv at hr =>
        rhs
        rw [hTe]
        simp only [neaptidelaw10_LotMore.code, neaptidelaw10_LotMore.rs, wk, List.getD_cons_succ, List.getD_cons_zero, if_true, if_false, List.getElem?_cons_succ, List.getElem?_cons_zero, Option.map_some, eq_self, reduceIte, Nat.reduceEqDiff, Int.reduceEq, Int.reduceLT, Int.reduceLE, c0, if_neg k2, c1, h1, s1, iz_len hk, goInt, s2, s3, s4]
      rw [hTe] at hr
      exact ⟨_, neaptidelaw10_LotMore.runs hr (.inr rfl)⟩
    obtain ⟨q, S2, a1, g1, n1⟩ := own_copy hk (by omega) S
    have w1 : IntKind.i64.wrap (slot - 1) = slot - 1 := wrap_i64 (by omega) (by omega)
    have i1 := fun S => idx_mem (P := Try.prog) (q := q) (o := 0) (n := l.length) (c := l.length) (k := .i64) (j := slot - 1) (S := S) u_L_int s_int (by omega) (by omega)
    have l1 := load_int (t := 3) (o := 0 + (slot - 1).toNat * 1) (k := .i64) (m := l.getD (slot - 1).toNat 0) g1 g_int (by
      rw [flat_ci, Nat.zero_add, Nat.mul_one, List.getElem?_map, List.getD_eq_getElem?_getD, List.getElem?_eq_getElem (by omega)]; rfl)
    have eo : orI .i64 (l.getD (slot - 1).toNat 0) (IntKind.i64.wrap (1 * 2 ^ (min node.toNat (IntKind.bits .i64)))) = orD (l.getD (slot - 1).toNat 0) node := rfl
    have st := store_mem (P := Try.prog) (t := 3) (o := 0 + (slot - 1).toNat * 1) (x := .int .i64 (orD (l.getD (slot - 1).toNat 0) node)) g1 s_int rfl rfl (by rw [flat_ci, List.length_map]; omega)
    generalize hS3 : (S2.kills []).set q _ = S3 at st
    have g3 : S3.get q = some (.cells ((moreL l slot node).flatMap ci ++ []) (.own []) 1) := by
      rw [← hS3, AHeap.get_set, if_pos rfl, List.append_nil]
      show some (AObj.cells (splice _ _ [_]) _ _) = _
      rw [splice_one (by rw [flat_ci, List.length_map]; omega), flat_ci, flat_ci, Nat.zero_add, Nat.mul_one]
      unfold moreL
      rw [List.map_set]
    have n3 : S3.next = S2.next := by rw [← hS3]; simp
    have md := moreL_in h3 (show 1 ≤ slot by omega) (show slot ≤ l.length by omega) (show 0 ≤ node by omega) (show node < 7 by omega)
    have ml : (moreL l slot node).length = l.length := moreL_len
    have mw := moreL_win h3 (show 1 ≤ slot by omega) (show slot ≤ l.length by omega) (show 0 ≤ node by omega) (show node < 7 by omega)
    have c2 : callZ (vlim Try.prog O) 12 [ms q l.length] S3 = some (.int .i64 0, S3) := by
      rw [← ml]
      exact lend1 ci_len g3 rfl rfl (fun S => by
        rw [← moreL_chk h2 h3 (show 1 ≤ slot by omega) (show slot ≤ l.length by omega) (show 0 ≤ node by omega) (show node < 7 by omega)]
        exact lot_Check.v Okl.read (by decide) (by omega) S)
    have c3 : ∀ s n, callZ (vlim Try.prog O) 13 [ms q l.length, .int .i64 s, .int .i64 n] S3 = some (.bool (winB (moreL l slot node) s n), S3) := fun s n => by
      rw [← ml]
      exact lend1 ci_len g3 rfl rfl (fun S => lot_Wins.v Okl.read (by decide) (by omega) md S)
    have c4 : ∀ s n, callZ (vlim Try.prog O) 13 [iz k l, .int .i64 s, .int .i64 n] S3 = some (.bool (winB l s n), S3) := fun s n => cz_nh (lot_Wins.v hk k2 h2 h3 S3) (by simp only [List.all_cons, List.all_nil, nh_vs]; rfl)
    have c3' := c3 slot node
    rw [mw slot node, decide_eq_true rfl, decide_eq_true rfl, Bool.and_self, Bool.or_true] at c3'
    conv at hr =>
      rhs
      rw [hTe]
      simp only [neaptidelaw10_LotMore.code, neaptidelaw10_LotMore.rs, wk, List.getD_cons_succ, List.getD_cons_zero, if_true, if_false, List.getElem?_cons_succ, List.getElem?_cons_zero, Option.map_some, eq_self, reduceIte, Nat.reduceEqDiff, Int.reduceEq, Int.reduceLT, Int.reduceLE, c0, if_neg k2, c1, h1, s1, iz_len hk, goInt, s2, s3, s4, bm0, dem_ms, a1, w1, i1, l1, aBin_shl _ _ _ _ (show 0 ≤ node by omega), aBin_or, eo, st, c2, c3']
    generalize hL : loopV (vcodeV Try.prog O true neaptidelaw10_LotMore.loop2) _ _ = r at hr
    obtain ⟨T', rfl, q1, q2, q3, q4, q5⟩ := neaptidelaw10_LotMore.in2 hk k2 h2 c4 c3 (fun s n h => by
      rw [mw s n]
      by_cases e : s = slot
      · rw [decide_eq_false (show ¬ n = node from fun e2 => h ⟨e, e2⟩), Bool.and_false, Bool.or_false]
      · rw [decide_eq_false e, Bool.false_and, Bool.or_false]) l.length 1 hL rfl rfl rfl rfl rfl rfl (by omega) (by omega)
    have hT' := neaptidelaw10_LotMore.eta q1
    rw [q2, q3, q4, q5] at hT'
    have c5 : ∀ S, callZ (vlim Try.prog O) 16 [iz k l, .int .i64 slot] S = some (iz (if winners l slot = [] then 0 else 2) (winners l slot), S) := fun S => cz_nh (lot_Winners.v hk k2 h2 h3 S) (by simp only [List.all_cons, List.all_nil, nh_vs]; rfl)
    have c6 : (1 < (winners l slot).length ∨ ∃ x, x ∈ winners l slot ∧ x ≠ node) → callZ (vlim Try.prog O) 10 [ms q l.length, ms S3.next 7] (S3.push (.cells (([0, 1, 2, 3, 4, 5, 6] : List Int).flatMap ci) (.own []) 1)) = some (.bool false, S3.push (.cells (([0, 1, 2, 3, 4, 5, 6] : List Int).flatMap ci) (.own []) 1)) := fun ho => by
      rw [← ml]
      refine lend2 (l2 := ([0, 1, 2, 3, 4, 5, 6] : List Int)) (rest2 := []) ci_len (by rw [AHeap.get_push, if_neg (by omega)]; exact g3) ci_len (by rw [AHeap.get_push, if_pos rfl, List.append_nil]) (by omega) rfl rfl (fun S => ?_)
      have := lot_Single.v (Okl.read (l := moreL l slot node)) (by decide) (by omega) md (Okl.read (l := [0, 1, 2, 3, 4, 5, 6])) (by decide) (by decide) S
      rw [ml, moreL_single h3 (show 1 ≤ slot by omega) (show slot ≤ l.length by omega) (show 0 ≤ node by omega) (show node < 7 by omega) ho] at this
      exact this
    generalize winners l slot = w at c5 c6
    match w with
    | [] =>
      rw [if_pos rfl] at c5
      have n1 : ∀ S, vLen Try.prog 22 (iz 0 []) S = some (.int .i64 0, S) := fun S => iz_len Okl.none
      have z1 : ¬ (0 : Int) < 0 := by omega
      conv at hr =>
        rhs
        rw [hT']
        simp only [neaptidelaw10_LotMore.code, neaptidelaw10_LotMore.rs, wk, List.getD_cons_succ, List.getD_cons_zero, if_true, if_false, List.getElem?_cons_succ, List.getElem?_cons_zero, Option.map_some, eq_self, reduceIte, Nat.reduceEqDiff, Int.reduceEq, Int.reduceLT, Int.reduceLE, bm7, dem_ms, if_neg k2, c5, n1, z1]
      rw [hTe] at hr
      exact ⟨_, neaptidelaw10_LotMore.runs hr (.inr rfl)⟩
    | [x] =>
      rw [if_neg (by simp)] at c5
      have n1 : ∀ S, vLen Try.prog 22 (iz 1 [x]) S = some (.int .i64 1, S) := fun S => iz_len Okl.read
      have n2 : ∀ S, vIndexAddr Try.prog 22 (iz 1 [x]) (.int .i64 0) S = some (EP [.int .i64 x], S) := fun S => iz_at Okl.read (by omega) (by simp)
      have z1 : ¬ (1 : Int) < 1 := by omega
      have z2 : (0 : Int) < 1 := by omega
      by_cases e : x = node
      · subst e
        conv at hr =>
          rhs
          rw [hT']
          simp only [neaptidelaw10_LotMore.code, neaptidelaw10_LotMore.rs, wk, List.getD_cons_succ, List.getD_cons_zero, if_true, if_false, List.getElem?_cons_succ, List.getElem?_cons_zero, Option.map_some, eq_self, reduceIte, Nat.reduceEqDiff, Int.reduceEq, Int.reduceLT, Int.reduceLE, bm7, dem_ms, if_neg k2, c5, n1, z1, z2, n2, iz_load, decide_true, Bool.not_true]
        rw [hTe] at hr
        exact ⟨_, neaptidelaw10_LotMore.runs hr (.inr rfl)⟩
      · have c6 := c6 (.inr ⟨x, by simp, e⟩)
        conv at hr =>
          rhs
          rw [hT']
          simp only [neaptidelaw10_LotMore.code, neaptidelaw10_LotMore.rs, wk, List.getD_cons_succ, List.getD_cons_zero, if_true, if_false, List.getElem?_cons_succ, List.getElem?_cons_zero, Option.map_some, eq_self, reduceIte, Nat.reduceEqDiff, Int.reduceEq, Int.reduceLT, Int.reduceLE, bm7, dem_ms, if_neg k2, c5, n1, z1, z2, n2, iz_load, decide_eq_false e, Bool.not_false, c6]
        rw [hTe] at hr
        exact ⟨_, neaptidelaw10_LotMore.runs hr (.inr rfl)⟩
    | x :: y :: w =>
      rw [if_neg (by simp)] at c5
      have n1 : ∀ S, vLen Try.prog 22 (iz 1 (x :: y :: w)) S = some (.int .i64 (w.length + 2 : Nat), S) := fun S => iz_len Okl.read
      have z1 : (1 : Int) < ((w.length + 2 : Nat) : Int) := by omega
      have z2 : (0 : Int) < ((w.length + 2 : Nat) : Int) := by omega
      have c6 := c6 (.inl (by simp))
      conv at hr =>
        rhs
        rw [hT']
        simp only [neaptidelaw10_LotMore.code, neaptidelaw10_LotMore.rs, wk, List.getD_cons_succ, List.getD_cons_zero, if_true, if_false, List.getElem?_cons_succ, List.getElem?_cons_zero, Option.map_some, eq_self, reduceIte, Nat.reduceEqDiff, Int.reduceEq, Int.reduceLT, Int.reduceLE, bm7, dem_ms, if_neg k2, c5, n1, z1, z2, c6]
      rw [hTe] at hr
      exact ⟨_, neaptidelaw10_LotMore.runs hr (.inr rfl)⟩
  · conv at hr =>
      rhs
      rw [hTe]
      simp only [neaptidelaw10_LotMore.code, neaptidelaw10_LotMore.rs, wk, List.getD_cons_succ, List.getD_cons_zero, if_true, if_false, List.getElem?_cons_succ, List.getElem?_cons_zero, Option.map_some, eq_self, reduceIte, Nat.reduceEqDiff, Int.reduceEq, Int.reduceLT, Int.reduceLE, c0, if_neg k2, c1, h1]
    rw [hTe] at hr
    exact ⟨_, neaptidelaw10_LotMore.runs hr (.inr rfl)⟩
theorem law (x : Args codes) (h : Args.Good codes x) : ∃ k, (acall Try.prog k 7 (Args.place codes x AHeap.empty).1 (Args.place codes x AHeap.empty).2).map (·.1) = some (.bool true) := by
  obtain ⟨a, b, c, u⟩ := x
  obtain ⟨h1, h2, _⟩ := h
  obtain ⟨k, l, p1, p2, p3, p4, p5⟩ := in_ints a h1
  obtain ⟨S', e⟩ := run (slot := b) (node := c) p1 p2 p4 AHeap.empty
  refine law_of_vlim ora_ok (S' := S') ?_
  have e2 : Args.vval codes (a, b, c, u) = [iz k l, .int .i64 b, .int .i64 c] := by
    show [argOf false ((Ty.slc 8 (.int .i64)).vval a), argOf false [.int .i64 b], argOf false [.int .i64 c]] = _
    rw [p3]; rfl
  rw [e2]
  exact e
end lotMore
end Go.Proofs.Ytooljmmlekmkeaa
