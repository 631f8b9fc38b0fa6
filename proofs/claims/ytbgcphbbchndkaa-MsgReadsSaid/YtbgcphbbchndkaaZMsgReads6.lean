/-
The law MsgReads returns true for every input, and leaves it as it was; no condition. Part 6 of 7 of the texts (put together by a program: own names are short, what isn't needed is left out).
-/
import Derived.Test.YtbgcphbbchndkaaZMsgReads5
import Derived.Test.YtbgcphbbchndkaaChecked
import Derived.KernelRfl
set_option linter.unusedVariables false
set_option linter.unusedSimpArgs false
set_option maxRecDepth 100000
namespace Go.Proofs.Ytbgcphbbchndkaa
open Go.Abs
def yM : Nat → List UInt8 → Option (List Int × List UInt8)
 | 0, l => some ([], l)
 | m + 1, l => match scan 0 0 l with
  | some (n, r) => if n ≤ 4611686018427387905 then (match yM m r with
   | some (a, b) => some (((n : Int) - 1) :: a, b)
   | none => none) else none
  | none => none
def vC (k0 k1 : Nat) (many : Int) (l : List UInt8) : Value :=
 if many < 0 ∨ 64 < many then .tuple #[.slice none 0 0, .slice none 0 0, .int .i64 11]
 else match yM many.toNat l with
  | some (a, b) => .tuple #[iz (if many = 0 then k0 else 2) a, by_ (if many = 0 then k1 else 2) b, .int .i64 0]
  | none => .tuple #[.slice none 0 0, .slice none 0 0, .int .i64 11]
theorem zG.round {many : Int} (hmany : many ≤ 64) {S : zk} : ∀ (m : Nat) (i : Int) (rest : List UInt8) (kr : Nat) (out : List Int) (ko : Nat) {T : List Value} {r : St}, qm (zF Try.prog O false zG.jI) T S = r → T.length = 45 →
  T.getD 20 undef = .int .i64 many → T.getD 21 undef = .int .i64 i → T.getD 7 undef = by_ kr rest → T.getD 8 undef = iz ko out → 0 ≤ i → many = i + m → Okl kr rest → rest.length ≤ 140737488355328 → Okl ko out → ko ≠ 1 → (out.length : Int) = i →
  ∃ e T', r = some (e, T', S) ∧ match yM m rest with
   | none => e = .ret ∧ T'.getD 4 undef = .slice none 0 0 ∧ T'.getD 5 undef = .slice none 0 0 ∧ T'.getD 6 undef = .int .i64 11
   | some (a, b) => e = .exit 0 ∧ T'.length = 45 ∧ T'.getD 8 undef = iz (if m = 0 then ko else 2) (out ++ a) ∧ T'.getD 7 undef = by_ (if m = 0 then kr else 2) b := by
 intro m
 induction m with
 | zero =>
  intro i rest kr out ko T r hL hT h1 h2 h3 h4 h0 hm hkr hlen hko hk1 hol
  have hTe := zG.eta hT
  rw [h1, h2, h3, h4] at hTe
  have hr : zF Try.prog O false zG.jI T S = zF Try.prog O false zG.jI T S := rfl
  have hd : ¬ i < many := by omega
  conv at hr =>
   rhs
   rw [hTe]
   simp only [zG.jI, zG.code, zG.rs, zSs, reduceIte, Nat.reduceEqDiff, Int.reduceEq, Int.reduceLT, Int.reduceLE, hd]
  exact ⟨_, _, hL.symm.trans (wo hr (by simp)), rfl, rfl, by simp, rfl⟩
 | succ m ih =>
  intro i rest kr out ko T r hL hT h1 h2 h3 h4 h0 hm hkr hlen hko hk1 hol
  have hTe := zG.eta hT
  rw [h1, h2, h3, h4] at hTe
  have hr : zF Try.prog O false zG.jI T S = zF Try.prog O false zG.jI T S := rfl
  have hd : i < many := by omega
  have g1 : ∀ S, jc Try.prog O jk.id [by_ (if kr = 2 then 1 else kr) rest] S = some (QY rest, S) := jk.v hkr.dem (by split <;> omega) hlen
  unfold QY at g1
  rw [yM]
  cases hsc : scan 0 0 rest with
  | none =>
   rw [hsc] at g1
   have d11 : ¬ (11 : Int) = 0 := by omega
   conv at hr =>
    rhs
    rw [hTe]
    simp only [zG.jI, zG.code, zG.rs, zSs, reduceIte, Nat.reduceEqDiff, Int.reduceEq, Int.reduceLT, Int.reduceLE, abr, hd, g1, d11]
   exact ⟨_, _, hL.symm.trans (wo hr (by simp)), rfl, rfl, rfl, rfl⟩
  | some nr =>
   obtain ⟨n, r'⟩ := nr
   rw [hsc] at g1
   obtain ⟨hn, hrl⟩ := Qx rest 0 0 (by decide) (by omega) n r' hsc
   dsimp only
   by_cases h5 : n ≤ 4611686018427387905
   ·
    have d1 : ¬ (4611686018427387905 : Int) < (n : Int) := by omega
    have w1 : IntKind.i64.wrap (n : Int) = (n : Int) := wrap_i64 (by omega) (by omega)
    have w2 : IntKind.i64.wrap ((n : Int) - 1) = (n : Int) - 1 := wrap_i64 (by omega) (by omega)
    have w3 : IntKind.i64.wrap (i + 1) = i + 1 := wrap_i64 (by omega) (by omega)
    have e1 : ∀ x S, wY Try.prog 57 57 (iz ko out) (iz 2 [x]) S = some (iz 2 (out ++ [x]), S) := fun x S => aeW hko hk1 (by omega)
    conv at hr =>
     rhs
     rw [hTe]
     simp only [zG.jI, zG.code, zG.rs, zSs, reduceIte, Nat.reduceEqDiff, Int.reduceEq, Int.reduceLT, Int.reduceLE, abr, hd, g1, d1, Yc, w1, w2, w3, JW, agD, e1]
    obtain ⟨e, T', g2, g3⟩ := ih (i + 1) r' 2 (out ++ [(n : Int) - 1]) 2 ((yg hr).symm.trans hL) rfl rfl rfl rfl rfl (by omega) (by omega) Okl.own (by omega) Okl.own (by decide) (by simp; omega)
    refine ⟨e, T', g2, ?_⟩
    rw [if_pos h5]
    cases hrn : yM m r' with
    | none => rw [hrn] at g3; exact g3
    | some ab =>
     obtain ⟨a, b⟩ := ab
     rw [hrn] at g3
     obtain ⟨q1, q2, q3, q4⟩ := g3
     refine ⟨q1, q2, ?_, ?_⟩
     ·
      rw [q3]; simp
     ·
      rw [q4]; simp
   ·
    have d1 : (4611686018427387905 : Int) < (n : Int) := by omega
    conv at hr =>
     rhs
     rw [hTe]
     simp only [zG.jI, zG.code, zG.rs, zSs, reduceIte, Nat.reduceEqDiff, Int.reduceEq, Int.reduceLT, Int.reduceLE, abr, hd, g1, d1]
    refine ⟨_, _, hL.symm.trans (wo hr (by simp)), ?_⟩
    rw [if_neg h5]
    exact ⟨rfl, rfl, rfl, rfl⟩
theorem zq.round {many : Int} (hmany : many ≤ 64) {S : zk} : ∀ (m : Nat) (i : Int) (rest : List UInt8) (kr : Nat) (out : List Int) (ko : Nat) {T : List Value} {r : St}, qm (zF Try.prog O false zq.jI) T S = r → T.length = 49 →
  T.getD 1 undef = .int .i64 many → T.getD 9 undef = .int .i64 i → T.getD 8 undef = by_ kr rest → T.getD 7 undef = iz ko out → 0 ≤ i → many = i + m → Okl kr rest → rest.length ≤ 140737488355328 → Okl ko out → ko ≠ 1 → (out.length : Int) = i →
  ∃ e T', r = some (e, T', S) ∧ match yM m rest with
   | none => e = .ret ∧ T'.getD 4 undef = .slice none 0 0 ∧ T'.getD 5 undef = .slice none 0 0 ∧ T'.getD 6 undef = .int .i64 11
   | some (a, b) => e = .exit 0 ∧ T'.length = 49 ∧ T'.getD 7 undef = iz (if m = 0 then ko else 2) (out ++ a) ∧ T'.getD 8 undef = by_ (if m = 0 then kr else 2) b := by
 intro m
 induction m with
 | zero =>
  intro i rest kr out ko T r hL hT h1 h2 h3 h4 h0 hm hkr hlen hko hk1 hol
  have hTe := zq.eta hT
  rw [h1, h2, h3, h4] at hTe
  have hr : zF Try.prog O false zq.jI T S = zF Try.prog O false zq.jI T S := rfl
  have hd : ¬ i < many := by omega
  conv at hr =>
   rhs
   rw [hTe]
   simp only [zq.jI, zq.code, zq.rs, zSs, reduceIte, Nat.reduceEqDiff, Int.reduceEq, Int.reduceLT, Int.reduceLE, hd]
  exact ⟨_, _, hL.symm.trans (wo hr (by simp)), rfl, rfl, by simp, rfl⟩
 | succ m ih =>
  intro i rest kr out ko T r hL hT h1 h2 h3 h4 h0 hm hkr hlen hko hk1 hol
  have hTe := zq.eta hT
  rw [h1, h2, h3, h4] at hTe
  have hr : zF Try.prog O false zq.jI T S = zF Try.prog O false zq.jI T S := rfl
  have hd : i < many := by omega
  have g1 : ∀ S, jc Try.prog O zx.id [by_ (if kr = 2 then 1 else kr) rest] S = some (QY rest, S) := zx.v hkr.dem (by split <;> omega) hlen
  unfold QY at g1
  rw [yM]
  cases hsc : scan 0 0 rest with
  | none =>
   rw [hsc] at g1
   have d11 : ¬ (11 : Int) = 0 := by omega
   conv at hr =>
    rhs
    rw [hTe]
    simp only [zq.jI, zq.code, zq.rs, zSs, reduceIte, Nat.reduceEqDiff, Int.reduceEq, Int.reduceLT, Int.reduceLE, abr, hd, g1, d11]
   exact ⟨_, _, hL.symm.trans (wo hr (by simp)), rfl, rfl, rfl, rfl⟩
  | some nr =>
   obtain ⟨n, r'⟩ := nr
   rw [hsc] at g1
   obtain ⟨hn, hrl⟩ := Qx rest 0 0 (by decide) (by omega) n r' hsc
   dsimp only
   by_cases h5 : n ≤ 4611686018427387905
   ·
    have d1 : ¬ (4611686018427387905 : Int) < (n : Int) := by omega
    have w1 : IntKind.i64.wrap (n : Int) = (n : Int) := wrap_i64 (by omega) (by omega)
    have w2 : IntKind.i64.wrap ((n : Int) - 1) = (n : Int) - 1 := wrap_i64 (by omega) (by omega)
    have w3 : IntKind.i64.wrap (i + 1) = i + 1 := wrap_i64 (by omega) (by omega)
    have e1 : ∀ x S, wY Try.prog 57 57 (iz ko out) (iz 2 [x]) S = some (iz 2 (out ++ [x]), S) := fun x S => aeW hko hk1 (by omega)
    conv at hr =>
     rhs
     rw [hTe]
     simp only [zq.jI, zq.code, zq.rs, zSs, reduceIte, Nat.reduceEqDiff, Int.reduceEq, Int.reduceLT, Int.reduceLE, abr, hd, g1, d1, Yc, w1, w2, w3, JW, agD, e1]
    obtain ⟨e, T', g2, g3⟩ := ih (i + 1) r' 2 (out ++ [(n : Int) - 1]) 2 ((yg hr).symm.trans hL) rfl rfl rfl rfl rfl (by omega) (by omega) Okl.own (by omega) Okl.own (by decide) (by simp; omega)
    refine ⟨e, T', g2, ?_⟩
    rw [if_pos h5]
    cases hrn : yM m r' with
    | none => rw [hrn] at g3; exact g3
    | some ab =>
     obtain ⟨a, b⟩ := ab
     rw [hrn] at g3
     obtain ⟨q1, q2, q3, q4⟩ := g3
     refine ⟨q1, q2, ?_, ?_⟩
     ·
      rw [q3]; simp
     ·
      rw [q4]; simp
   ·
    have d1 : (4611686018427387905 : Int) < (n : Int) := by omega
    conv at hr =>
     rhs
     rw [hTe]
     simp only [zq.jI, zq.code, zq.rs, zSs, reduceIte, Nat.reduceEqDiff, Int.reduceEq, Int.reduceLT, Int.reduceLE, abr, hd, g1, d1]
    refine ⟨_, _, hL.symm.trans (wo hr (by simp)), ?_⟩
    rw [if_neg h5]
    exact ⟨rfl, rfl, rfl, rfl⟩
theorem zG.v {k : Nat} {l : List UInt8} {many : Int} (hv : Okl k l) (hk : k ≠ 2) (hlen : l.length ≤ 140737488355328) (S : zk) : jc Try.prog O zG.id [by_ k l, .int .i64 many] S = some (vC 0 (if k = 0 then 0 else 2) many l, S) := by
 obtain ⟨T, hTe⟩ : ∃ T, T = (by_ k l :: .int .i64 many :: undef :: undef :: undef :: undef :: undef :: undef :: undef :: undef :: undef :: undef :: undef :: undef :: undef :: undef :: undef :: undef :: undef :: undef :: undef :: undef :: undef :: undef :: undef :: undef :: undef :: undef :: undef :: undef :: undef :: undef :: undef :: undef :: undef :: undef :: undef :: undef :: undef :: undef :: undef :: undef :: undef :: undef :: undef :: []) := ⟨_, rfl⟩
 have hr : zF Try.prog O false zG.code T S = zF Try.prog O false zG.code T S := rfl
 have c1 : ∀ S, jc Try.prog O 50 [by_ k l] S = some (by_ (if k = 0 then 0 else 2) l, S) := slices_Clone.v hv hk hlen
 unfold vC
 by_cases h1 : many < 0
 ·
  conv at hr =>
   rhs
   rw [hTe]
   simp only [zG.code, zG.rs, zSs, reduceIte, Nat.reduceEqDiff, Int.reduceEq, Int.reduceLT, Int.reduceLE, h1]
  rw [hTe] at hr
  rw [if_pos (.inl h1)]
  exact zG.runs hr (.inr rfl) (by simp only [List.getD_cons_succ, List.getD_cons_zero, jX, jT, jF, jG, jU]) (by simp only [List.getD_cons_succ, List.getD_cons_zero, jX, jT, jF, jG, jU]) (by simp only [List.getD_cons_succ, List.getD_cons_zero, jX, jT, jF, jG, jU])
 ·
  by_cases h2 : 64 < many
  ·
   conv at hr =>
    rhs
    rw [hTe]
    simp only [zG.code, zG.rs, zSs, reduceIte, Nat.reduceEqDiff, Int.reduceEq, Int.reduceLT, Int.reduceLE, h1, h2]
   rw [hTe] at hr
   rw [if_pos (.inr h2)]
   exact zG.runs hr (.inr rfl) (by simp only [List.getD_cons_succ, List.getD_cons_zero, jX, jT, jF, jG, jU]) (by simp only [List.getD_cons_succ, List.getD_cons_zero, jX, jT, jF, jG, jU]) (by simp only [List.getD_cons_succ, List.getD_cons_zero, jX, jT, jF, jG, jU])
  ·
   rw [if_neg (by omega)]
   conv at hr =>
    rhs
    rw [hTe]
    simp only [zG.code, zG.rs, zSs, reduceIte, Nat.reduceEqDiff, Int.reduceEq, Int.reduceLT, Int.reduceLE, h1, h2, if_neg hk, c1]
   generalize hL : qm (zF Try.prog O false zG.jI) _ _ = r at hr
   have okr : Okl (if k = 0 then 0 else 2) l := ⟨by split <;> omega, fun h => by split at h <;> first | (rename_i hp; exact hv.nil hp) | omega⟩
   obtain ⟨e, T', rfl, g⟩ := zG.round (many := many) (by omega) many.toNat 0 l (if k = 0 then 0 else 2) [] 0 hL rfl rfl rfl rfl rfl (by omega) (by omega) okr hlen Okl.none (by decide) rfl
   cases hrn : yM many.toNat l with
   | none =>
    rw [hrn] at g
    obtain ⟨rfl, g2, g3, g4⟩ := g
    conv at hr =>
     rhs
     simp only [zSs, reduceIte, Nat.reduceEqDiff, Int.reduceEq, Int.reduceLT, Int.reduceLE]
    rw [hTe] at hr
    have hrun := zG.runs hr (.inr rfl) (by rw [g2]; rfl) (by rw [g3]; rfl) (by rw [g4]; rfl)
    rw [g2, g3, g4] at hrun
    exact hrun
   | some ab =>
    obtain ⟨a, b⟩ := ab
    rw [hrn] at g
    obtain ⟨rfl, g2, g3, g4⟩ := g
    have hTe' := zG.eta g2
    rw [g3, g4] at hTe'
    have hz : (many.toNat = 0) ↔ (many = 0) := by omega
    simp only [hz, List.nil_append] at hTe'
    conv at hr =>
     rhs
     rw [hTe']
     simp only [zG.code, zG.rs, zSs, reduceIte, Nat.reduceEqDiff, Int.reduceEq, Int.reduceLT, Int.reduceLE]
    rw [hTe] at hr
    exact zG.runs hr (.inr rfl) (by simp only [List.getD_cons_succ, List.getD_cons_zero, jX, jT, jF, jG, jU]) (by simp only [List.getD_cons_succ, List.getD_cons_zero, jX, jT, jF, jG, jU]) (by simp only [List.getD_cons_succ, List.getD_cons_zero, jX, jT, jF, jG, jU])
theorem zq.v {k : Nat} {l : List UInt8} {many : Int} (hv : Okl k l) (hk : k ≠ 2) (hlen : l.length ≤ 140737488355328) (S : zk) : jc Try.prog O zq.id [by_ k l, .int .i64 many] S = some (vC 2 2 many l, S) := by
 obtain ⟨T, hTe⟩ : ∃ T, T = (by_ k l :: .int .i64 many :: undef :: undef :: undef :: undef :: undef :: undef :: undef :: undef :: undef :: undef :: undef :: undef :: undef :: undef :: undef :: undef :: undef :: undef :: undef :: undef :: undef :: undef :: undef :: undef :: undef :: undef :: undef :: undef :: undef :: undef :: undef :: undef :: undef :: undef :: undef :: undef :: undef :: undef :: undef :: undef :: undef :: undef :: undef :: undef :: undef :: undef :: undef :: []) := ⟨_, rfl⟩
 have hr : zF Try.prog O false zq.code T S = zF Try.prog O false zq.code T S := rfl
 have c1 := fun S => adV hv hlen (S := S)
 unfold vC
 by_cases h1 : many < 0
 ·
  conv at hr =>
   rhs
   rw [hTe]
   simp only [zq.code, zq.rs, zSs, reduceIte, Nat.reduceEqDiff, Int.reduceEq, Int.reduceLT, Int.reduceLE, h1]
  rw [hTe] at hr
  rw [if_pos (.inl h1)]
  exact zq.runs hr (.inr rfl) (by simp only [List.getD_cons_succ, List.getD_cons_zero, jX, jT, jF, jG, jU]) (by simp only [List.getD_cons_succ, List.getD_cons_zero, jX, jT, jF, jG, jU]) (by simp only [List.getD_cons_succ, List.getD_cons_zero, jX, jT, jF, jG, jU])
 ·
  by_cases h2 : 64 < many
  ·
   conv at hr =>
    rhs
    rw [hTe]
    simp only [zq.code, zq.rs, zSs, reduceIte, Nat.reduceEqDiff, Int.reduceEq, Int.reduceLT, Int.reduceLE, h1, h2]
   rw [hTe] at hr
   rw [if_pos (.inr h2)]
   exact zq.runs hr (.inr rfl) (by simp only [List.getD_cons_succ, List.getD_cons_zero, jX, jT, jF, jG, jU]) (by simp only [List.getD_cons_succ, List.getD_cons_zero, jX, jT, jF, jG, jU]) (by simp only [List.getD_cons_succ, List.getD_cons_zero, jX, jT, jF, jG, jU])
  ·
   rw [if_neg (by omega)]
   conv at hr =>
    rhs
    rw [hTe]
    simp only [zq.code, zq.rs, zSs, reduceIte, Nat.reduceEqDiff, Int.reduceEq, Int.reduceLT, Int.reduceLE, h1, h2, if_neg hk, bz0, bb0, c1]
   generalize hL : qm (zF Try.prog O false zq.jI) _ _ = r at hr
   obtain ⟨e, T', rfl, g⟩ := zq.round (many := many) (by omega) many.toNat 0 l 2 [] 2 hL rfl rfl rfl rfl rfl (by omega) (by omega) Okl.own hlen Okl.own (by decide) rfl
   cases hrn : yM many.toNat l with
   | none =>
    rw [hrn] at g
    obtain ⟨rfl, g2, g3, g4⟩ := g
    conv at hr =>
     rhs
     simp only [zSs, reduceIte, Nat.reduceEqDiff, Int.reduceEq, Int.reduceLT, Int.reduceLE]
    rw [hTe] at hr
    have hrun := zq.runs hr (.inr rfl) (by rw [g2]; rfl) (by rw [g3]; rfl) (by rw [g4]; rfl)
    rw [g2, g3, g4] at hrun
    exact hrun
   | some ab =>
    obtain ⟨a, b⟩ := ab
    rw [hrn] at g
    obtain ⟨rfl, g2, g3, g4⟩ := g
    have hTe' := zq.eta g2
    rw [g3, g4] at hTe'
    simp only [ite_self, List.nil_append] at hTe'
    conv at hr =>
     rhs
     rw [hTe']
     simp only [zq.code, zq.rs, zSs, reduceIte, Nat.reduceEqDiff, Int.reduceEq, Int.reduceLT, Int.reduceLE]
    rw [hTe] at hr
    simp only [ite_self]
    exact zq.runs hr (.inr rfl) (by simp only [List.getD_cons_succ, List.getD_cons_zero, jX, jT, jF, jG, jU]) (by simp only [List.getD_cons_succ, List.getD_cons_zero, jX, jT, jF, jG, jU]) (by simp only [List.getD_cons_succ, List.getD_cons_zero, jX, jT, jF, jG, jU])
end Go.Proofs.Ytbgcphbbchndkaa
namespace Go.Proofs.Ytbgcphbbchndkaa
open Go.Abs
def Few (n : Int) : Prop := -1 ≤ n ∧ n ≤ 4611686018427387904
theorem yB : ∀ (m : Nat) (l : List UInt8) (a : List Int) (b : List UInt8), yM m l = some (a, b) ↔ a.length = m ∧ l = encs a ++ b ∧ ∀ n ∈ a, Few n := by
 intro m
 induction m with
 | zero =>
  intro l a b
  constructor
  ·
   intro h; cases h; exact ⟨rfl, rfl, fun n h => by cases h⟩
  ·
   rintro ⟨h1, h2, _⟩
   have : a = [] := List.length_eq_zero_iff.mp h1
   subst this
   rw [h2]; rfl
 | succ m ih =>
  intro l a b
  rw [yM]
  constructor
  ·
   intro h
   cases hsc : scan 0 0 l with
   | none => rw [hsc] at h; cases h
   | some nr =>
    obtain ⟨n, r⟩ := nr
    rw [hsc] at h
    dsimp only at h
    split at h
    ·
     rename_i hn
     cases hr : yM m r with
     | none => rw [hr] at h; cases h
     | some ab =>
      obtain ⟨a', b'⟩ := ab
      rw [hr] at h
      obtain ⟨h1, h2, h3⟩ := (ih r a' b').mp hr
      cases h
      obtain ⟨f1, f2⟩ := Vw hsc
      refine ⟨by simp [h1], ?_, fun x hx => ?_⟩
      ·
       rw [f1, h2]
       have : ((n : Int) - 1 + 1).toNat = n := by omega
       simp [encs, this]
      ·
       rcases List.mem_cons.1 hx with rfl | hx
       ·
        unfold Few; omega
       ·
        exact h3 x hx
    ·
     cases h
  ·
   rintro ⟨h1, h2, h3⟩
   cases a with
   | nil => simp at h1
   | cons x a =>
    have hx : Few x := h3 x (by simp)
    unfold Few at hx
    have he : encs (x :: a) ++ b = enc (x + 1).toNat ++ (encs a ++ b) := by simp [encs]
    rw [h2, he, WT (by omega)]
    dsimp only
    rw [if_pos (by omega), (ih (encs a ++ b) a b).mpr ⟨by simpa using h1, rfl, fun n hn => h3 n (by simp [hn])⟩]
    have : ((x + 1).toNat : Int) - 1 = x := by omega
    simp only [this]
theorem JY {m : Nat} {l : List UInt8} {a : List Int} {b : List UInt8} (h : yM m l = some (a, b)) : a.length = m ∧ b.length ≤ l.length := by
 obtain ⟨h1, h2, _⟩ := (yB m l a b).mp h
 exact ⟨h1, by rw [h2]; simp⟩
theorem JH {a c : List Int} {b d : List UInt8} (h : a.length = c.length) (ha : ∀ n ∈ a, Few n) (hc : ∀ n ∈ c, Few n) (he : encs a ++ b = encs c ++ d) : a = c ∧ b = d := by
 have h1 := (yB a.length (encs a ++ b) a b).mpr ⟨rfl, rfl, ha⟩
 have h2 := (yB a.length (encs a ++ b) c d).mpr ⟨h.symm, he, hc⟩
 rw [h1] at h2
 simpa using h2
theorem JF {k : Nat} {l : List Int} (h : l.length ≤ 64) (h1 : ∀ n ∈ l, -1 ≤ n) (h0 : l ≠ []) : acF k l = .tuple #[by_ 2 (encs l), .int .i64 0] := by
 unfold acF
 rw [if_neg (by rintro (h2 | ⟨n, h2, h3⟩); { omega }; { have := h1 n h2; omega }), if_neg h0]
theorem kX {k0 k1 m : Nat} {l : List UInt8} (h0 : 0 < m) (h : m ≤ 64) : vC k0 k1 m l = match yM m l with
  | some (a, b) => .tuple #[iz 2 a, by_ 2 b, .int .i64 0]
  | none => .tuple #[.slice none 0 0, .slice none 0 0, .int .i64 11] := by
 unfold vC
 rw [if_neg (by omega), Int.toNat_natCast]
 have : (m : Int) ≠ 0 := by omega
 simp only [if_neg this]
 all_goals (cases yM m l <;> rfl)
noncomputable def rd {α : Type} (ok : α → Prop) (e : α → List UInt8) (b : List UInt8) : Option α := open Classical in if h : ∃ x, ok x ∧ b = e x then some h.choose else none
theorem ae6 {α : Type} {ok : α → Prop} {e : α → List UInt8} (inj : ∀ x y, ok x → ok y → e x = e y → x = y) (b : List UInt8) (x : α) : rd ok e b = some x ↔ ok x ∧ b = e x := by
 unfold rd
 constructor
 ·
  intro h
  split at h
  ·
   rename_i he
   cases h
   exact he.choose_spec
  ·
   cases h
 ·
  intro h
  have he : ∃ x, ok x ∧ b = e x := ⟨x, h⟩
  rw [dif_pos he]
  exact congrArg some (inj _ _ he.choose_spec.1 h.1 (he.choose_spec.2.symm.trans h.2))
end Go.Proofs.Ytbgcphbbchndkaa
namespace Go.Proofs.Ytbgcphbbchndkaa
open Go.Abs
def QX (n : Int) : Int := IntKind.u64.wrap (IntKind.u64.wrap (IntKind.u64.wrap n + 1) * 11400714819323198485)
def WV (h : Int) (x : UInt8) : Int := IntKind.u64.wrap (ab4 .u64 h (x.toNat : Int) * 1099511628211)
def ajD (h : Int) : Int := ab4 .u64 h (h.fdiv (2 ^ min (Int.toNat 29) (IntKind.bits .u64)))
def J3 (key : Int) (b : List UInt8) : Int := ajD (b.foldl WV (ab4 .u64 key 14695981039346656037))
theorem VK (x : UInt8) : IntKind.u64.wrap (x.toNat : Int) = (x.toNat : Int) := Zb (by have := x.toNat_lt; omega)
theorem YV (x : Int) : IntKind.u64.wrap x = x % 18446744073709551616 := rfl
theorem abV (a b : Int) : 0 ≤ ab4 .u64 a b ∧ ab4 .u64 a b < 18446744073709551616 := by
 unfold ab4
 have h : ∀ x : Int, 0 ≤ IntKind.u64.wrap x ∧ IntKind.u64.wrap x < 18446744073709551616 := fun x => by rw [YV]; omega
 first | exact h _ | (simp only [IntKind.ofBits, IntKind.signed]; first | exact h _ | omega)
theorem agO (h : Int) (x : UInt8) : 0 ≤ WV h x ∧ WV h x < 18446744073709551616 := by unfold WV; rw [YV]; omega
theorem qU.v (n : Int) (S : zk) : jc Try.prog O qU.id [.int .i64 n] S = some (.int .u64 (QX n), S) := by
 obtain ⟨T, hTe⟩ : ∃ T, T = (.int .i64 n :: undef :: undef :: undef :: undef :: undef :: undef :: []) := ⟨_, rfl⟩
 have hr : zF Try.prog O false qU.code T S = zF Try.prog O false qU.code T S := rfl
 conv at hr =>
  rhs
  rw [hTe]
  simp only [qU.code, qU.rs, zSs, reduceIte, Nat.reduceEqDiff, Int.reduceEq, Int.reduceLT, Int.reduceLE, WR, Z4]
 rw [hTe] at hr
 exact qU.runs hr (.inr rfl)
theorem aco (S : zk) : jc Try.prog O yH.id [.int .i64 0] S = some (.int .u64 (QX 0), S) := ZE (n := 70) (by kernel_rfl)
theorem acv (S : zk) : jc Try.prog O yH.id [.int .i64 1] S = some (.int .u64 (QX 1), S) := ZE (n := 70) (by kernel_rfl)
theorem acJ (S : zk) : jc Try.prog O yH.id [.int .i64 2] S = some (.int .u64 (QX 2), S) := ZE (n := 70) (by kernel_rfl)
theorem ac2 (S : zk) : jc Try.prog O yH.id [.int .i64 3] S = some (.int .u64 (QX 3), S) := ZE (n := 70) (by kernel_rfl)
theorem ac5 (S : zk) : jc Try.prog O yH.id [.int .i64 4] S = some (.int .u64 (QX 4), S) := ZE (n := 70) (by kernel_rfl)
theorem acL (S : zk) : jc Try.prog O yH.id [.int .i64 5] S = some (.int .u64 (QX 5), S) := ZE (n := 70) (by kernel_rfl)
theorem acC (S : zk) : jc Try.prog O yH.id [.int .i64 6] S = some (.int .u64 (QX 6), S) := ZE (n := 70) (by kernel_rfl)
theorem yH.v {n : Int} (h0 : 0 ≤ n) (h6 : n ≤ 6) (S : zk) : jc Try.prog O yH.id [.int .i64 n] S = some (.int .u64 (QX n), S) := by
 have : n = 0 ∨ n = 1 ∨ n = 2 ∨ n = 3 ∨ n = 4 ∨ n = 5 ∨ n = 6 := by omega
 rcases this with rfl | rfl | rfl | rfl | rfl | rfl | rfl
 ·
  exact aco S
 ·
  exact acv S
 ·
  exact acJ S
 ·
  exact ac2 S
 ·
  exact ac5 S
 ·
  exact acL S
 ·
  exact acC S
section
variable {l : List UInt8} {k : Nat}
theorem wB.round (hv : Okl k l) (hlen : l.length ≤ 140737488355328) {S : zk} : ∀ (suf pre : List UInt8) (h : Int) {T : List Value} {r : St}, qm (zF Try.prog O false wB.jI) T S = r → T.length = 35 →
  T.getD 5 undef = .int .u64 h → T.getD 18 undef = by_ k l → T.getD 19 undef = .int .i64 l.length → T.getD 20 undef = .int .i64 pre.length → l = pre ++ suf →
  ∃ T', r = some (.exit 2, T', S) ∧ T'.length = 35 ∧ T'.getD 5 undef = .int .u64 (suf.foldl WV h) ∧ T'.getD 12 undef = T.getD 12 undef ∧ T'.getD 13 undef = T.getD 13 undef ∧ T'.getD 14 undef = T.getD 14 undef := by
 intro suf
 induction suf with
 | nil =>
  intro pre h T r hL hT h5 h18 h19 h20 hl
  have hTe := wB.eta hT
  rw [h5, h18, h19, h20] at hTe
  have hr : zF Try.prog O false wB.jI T S = zF Try.prog O false wB.jI T S := rfl
  have d1 : ¬ (pre.length : Int) < (l.length : Int) := by rw [hl]; simp
  conv at hr =>
   rhs
   rw [hTe]
   simp only [wB.jI, wB.code, wB.rs, zSs, reduceIte, Nat.reduceEqDiff, Int.reduceEq, Int.reduceLT, Int.reduceLE, d1]
  exact ⟨_, hL.symm.trans (wo hr (by simp)), rfl, rfl, rfl, rfl, rfl⟩
 | cons x suf ih =>
  intro pre h T r hL hT h5 h18 h19 h20 hl
  have hTe := wB.eta hT
  rw [h5, h18, h19, h20] at hTe
  have hr : zF Try.prog O false wB.jI T S = zF Try.prog O false wB.jI T S := rfl
  have d1 : (pre.length : Int) < (l.length : Int) := by rw [hl]; simp; omega
  have e1 : ∀ S, jo Try.prog 23 (by_ k l) (.int .i64 pre.length) S = some (EP [.int .u8 x.toNat], S) := fun S => by
   rw [afP hv (by omega) d1]; rw [V9 hl]
  have wi : IntKind.i64.wrap ((pre.length : Int) + 1) = ((pre ++ [x]).length : Int) := by rw [wrap_i64 (by omega) (by omega)]; simp
  have em : IntKind.u64.wrap (ab4 .u64 h (x.toNat : Int) * 1099511628211) = WV h x := rfl
  conv at hr =>
   rhs
   rw [hTe]
   simp only [wB.jI, wB.code, wB.rs, zSs, reduceIte, Nat.reduceEqDiff, Int.reduceEq, Int.reduceLT, Int.reduceLE, d1, e1, Qs, xY, VK, JQ, WR, em, wi]
  obtain ⟨T', q1, q2, q3, q4, q5, q6⟩ := ih (pre ++ [x]) (WV h x) ((yg hr).symm.trans hL) rfl rfl rfl rfl rfl (by simp [hl])
  exact ⟨T', q1, q2, q3, q4, q5, q6⟩
theorem YZ (S : zk) : jR Try.prog 88 1 [(0, by_ 1 l)] S = some (sv 2 1 1 [by_ 1 l], S) := by kernel_rfl
theorem agn (i : Int) (hi : i = 0) (S : zk) : jo Try.prog 88 (sv 1 1 1 [by_ 1 l]) (.int .i64 i) S = some (EP [by_ 1 l], S) := by subst hi; exact Yh aaQ ae5 ⟨by decide, fun h => by cases h⟩ (by omega) (by omega)
theorem wB.v (hlen : l.length ≤ 140737488355328) {key : Int} (S : zk) : jc Try.prog O wB.id [.int .u64 key, sv 1 1 1 [by_ 1 l]] S = some (.int .u64 (J3 key l), S) := by
 obtain ⟨T, hTe⟩ : ∃ T, T = (.int .u64 key :: sv 1 1 1 [by_ 1 l] :: undef :: undef :: undef :: undef :: undef :: undef :: undef :: undef :: undef :: undef :: undef :: undef :: undef :: undef :: undef :: undef :: undef :: undef :: undef :: undef :: undef :: undef :: undef :: undef :: undef :: undef :: undef :: undef :: undef :: undef :: undef :: undef :: undef :: []) := ⟨_, rfl⟩
 have hr : zF Try.prog O false wB.code T S = zF Try.prog O false wB.code T S := rfl
 have ln : ∀ S, Zz Try.prog 88 (sv 1 1 1 [by_ 1 l]) S = some (.int .i64 1, S) := fun S => by kernel_rfl
 have lb : ∀ S, Zz Try.prog 23 (by_ 1 l) S = some (.int .i64 l.length, S) := fun S => vZ Okl.read
 conv at hr =>
  rhs
  rw [hTe]
  simp only [wB.code, wB.rs, zSs, reduceIte, Nat.reduceEqDiff, Int.reduceEq, Int.reduceLT, Int.reduceLE, JQ, ln]
 generalize hL : qm (zF Try.prog O false wB.xJ) _ _ = r at hr
 have key1 : ∃ T', r = some (.exit 0, T', S) ∧ T'.length = 35 ∧ T'.getD 5 undef = .int .u64 (l.foldl WV (ab4 .u64 key 14695981039346656037)) := by
  generalize hT0 : (_ :: _ : List Value) = T0 at hL
  have hT0' : T0.length = 35 := by rw [← hT0]; rfl
  have g5 : T0.getD 5 undef = .int .u64 (ab4 .u64 key 14695981039346656037) := by rw [← hT0]; rfl
  have g12 : T0.getD 12 undef = sv 1 1 1 [by_ 1 l] := by rw [← hT0]; rfl
  have g13 : T0.getD 13 undef = .int .i64 1 := by rw [← hT0]; rfl
  have g14 : T0.getD 14 undef = .int .i64 0 := by rw [← hT0]; rfl
  have hTe := wB.eta hT0'
  rw [g5, g12, g13, g14] at hTe
  have hr : zF Try.prog O false wB.xJ T0 S = zF Try.prog O false wB.xJ T0 S := rfl
  have z1 : (0 : Int) < 1 := by omega
  conv at hr =>
   rhs
   rw [hTe]
   simp only [wB.xJ, wB.code, wB.rs, zSs, reduceIte, Nat.reduceEqDiff, Int.reduceEq, Int.reduceLT, Int.reduceLE, z1, agn 0 rfl, Qv afb, lb]
  generalize hL1 : qm (zF Try.prog O false wB.jI) _ _ = r1 at hr
  obtain ⟨T1, rfl, q1, q2, q3, q4, q5⟩ := wB.round (Okl.read (l := l)) hlen l [] _ hL1 rfl rfl rfl rfl rfl rfl
  have q3 : T1.getD 12 undef = sv 1 1 1 [by_ 1 l] := q3
  have q4 : T1.getD 13 undef = .int .i64 1 := q4
  have q5 : T1.getD 14 undef = .int .i64 0 := q5
  have hT1 := wB.eta q1
  rw [q2, q3, q4, q5] at hT1
  have w1 : IntKind.i64.wrap (0 + 1) = 1 := by decide
  conv at hr =>
   rhs
   rw [hT1]
   simp only [wB.code, wB.rs, zSs, reduceIte, Nat.reduceEqDiff, Int.reduceEq, Int.reduceLT, Int.reduceLE, w1]
  have hL2 := (yg hr).symm.trans hL
  generalize hT2 : (_ :: _ : List Value) = T2 at hL2
  have hT2' : T2.length = 35 := by rw [← hT2]; rfl
  have f5 : T2.getD 5 undef = .int .u64 (l.foldl WV (ab4 .u64 key 14695981039346656037)) := by rw [← hT2]; rfl
  have f13 : T2.getD 13 undef = .int .i64 1 := by rw [← hT2]; rfl
  have f14 : T2.getD 14 undef = .int .i64 1 := by rw [← hT2]; rfl
  have hTe2 := wB.eta hT2'
  rw [f5, f13, f14] at hTe2
  have hr2 : zF Try.prog O false wB.xJ T2 S = zF Try.prog O false wB.xJ T2 S := rfl
  have z2 : ¬ (1 : Int) < 1 := by omega
  conv at hr2 =>
   rhs
   rw [hTe2]
   simp only [wB.xJ, wB.code, wB.rs, zSs, reduceIte, Nat.reduceEqDiff, Int.reduceEq, Int.reduceLT, Int.reduceLE, z2]
  exact ⟨_, hL2.symm.trans (wo hr2 (by simp)), rfl, rfl⟩
 obtain ⟨T', rfl, g1, g2⟩ := key1
 have hT' := wB.eta g1
 rw [g2] at hT'
 conv at hr =>
  rhs
  rw [hT']
  simp only [wB.code, wB.rs, zSs, reduceIte, Nat.reduceEqDiff, Int.reduceEq, Int.reduceLT, Int.reduceLE, JQ, abY _ _ _ _ (show (0 : Int) ≤ 29 by omega)]
 rw [hTe] at hr
 exact wB.runs hr (.inr rfl)
theorem yT.v (hv : Okl k l) (k1 : k = 1) (hlen : l.length ≤ 140737488355328) {key mark : Int} (S : zk) : jc Try.prog O yT.id [.int .u64 key, .int .u64 mark, by_ k l] S = some (.bool (decide (J3 key l = mark)), S) := by
 subst k1
 obtain ⟨T, hTe⟩ : ∃ T, T = (.int .u64 key :: .int .u64 mark :: by_ 1 l :: undef :: undef :: undef :: undef :: undef :: undef :: undef :: undef :: undef :: undef :: []) := ⟨_, rfl⟩
 have hr : zF Try.prog O false yT.code T S = zF Try.prog O false yT.code T S := rfl
 have c1 := fun S => wB.v hlen (key := key) S
 have z : ¬ (1 : Nat) = 2 := by decide
 conv at hr =>
  rhs
  rw [hTe]
  simp only [yT.code, yT.rs, zSs, reduceIte, Nat.reduceEqDiff, Int.reduceEq, Int.reduceLT, Int.reduceLE, if_neg z, YZ, c1]
 rw [hTe] at hr
 exact yT.runs hr (.inr rfl)
theorem mref (h : Int) : IntKind.u64.wrap (IntKind.u64.wrap (IntKind.u64.wrap (h * 2 ^ (min (Int.toNat 40) (IntKind.bits .u64))) + IntKind.u64.wrap (h * 2 ^ (min (Int.toNat 8) (IntKind.bits .u64)))) + IntKind.u64.wrap (h * 179)) = IntKind.u64.wrap (h * 1099511628211) := by
 have e1 : (2 : Int) ^ (min (Int.toNat 40) (IntKind.bits .u64)) = 1099511627776 := by decide
 have e2 : (2 : Int) ^ (min (Int.toNat 8) (IntKind.bits .u64)) = 256 := by decide
 rw [e1, e2]
 simp only [YV]
 omega
theorem af5 {h : Int} (h0 : 0 ≤ h) (h1 : h < 18446744073709551616) : ab4 .u64 h (IntKind.u64.wrap (h.tdiv 536870912)) = ajD h := by
 unfold ajD
 congr 1
 have e1 : (2 : Int) ^ (min (Int.toNat 29) (IntKind.bits .u64)) = 536870912 := by decide
 rw [e1, YV, Int.tdiv_eq_ediv_of_nonneg h0, Int.fdiv_eq_ediv_of_nonneg _ (by omega)]
 omega
theorem aev : ∀ (l : List UInt8) (h : Int), 0 ≤ h → h < 18446744073709551616 → 0 ≤ l.foldl WV h ∧ l.foldl WV h < 18446744073709551616
 | [], h, h0, h1 => ⟨h0, h1⟩
 | x :: l, h, h0, h1 => by
  have := agO h x
  exact aev l _ this.1 this.2
theorem zQ.round (hv : Okl k l) (hk : k ≠ 2) (hlen : l.length ≤ 140737488355328) {S : zk} : ∀ (suf pre : List UInt8) (h : Int) {T : List Value} {r : St}, qm (zF Try.prog O false zQ.jI) T S = r → T.length = 34 →
  T.getD 1 undef = by_ k l → T.getD 5 undef = .int .u64 h → T.getD 6 undef = .int .i64 pre.length → l = pre ++ suf →
  ∃ T', r = some (.exit 0, T', S) ∧ T'.length = 34 ∧ T'.getD 5 undef = .int .u64 (suf.foldl WV h) := by
 intro suf
 induction suf with
 | nil =>
  intro pre h T r hL hT h1 h5 h6 hl
  have hTe := zQ.eta hT
  rw [h1, h5, h6] at hTe
  have hr : zF Try.prog O false zQ.jI T S = zF Try.prog O false zQ.jI T S := rfl
  have d1 : ¬ (pre.length : Int) < (l.length : Int) := by rw [hl]; simp
  conv at hr =>
   rhs
   rw [hTe]
   simp only [zQ.jI, zQ.code, zQ.rs, zSs, reduceIte, Nat.reduceEqDiff, Int.reduceEq, Int.reduceLT, Int.reduceLE, if_neg hk, vZ hv, goInt, d1]
  exact ⟨_, hL.symm.trans (wo hr (by simp)), rfl, rfl⟩
 | cons x suf ih =>
  intro pre h T r hL hT h1 h5 h6 hl
  have hTe := zQ.eta hT
  rw [h1, h5, h6] at hTe
  have hr : zF Try.prog O false zQ.jI T S = zF Try.prog O false zQ.jI T S := rfl
  have d1 : (pre.length : Int) < (l.length : Int) := by rw [hl]; simp; omega
  have e1 : ∀ S, jo Try.prog 23 (by_ k l) (.int .i64 pre.length) S = some (EP [.int .u8 x.toNat], S) := fun S => by
   rw [afP hv (by omega) d1]; rw [V9 hl]
  have wi : IntKind.i64.wrap ((pre.length : Int) + 1) = ((pre ++ [x]).length : Int) := by rw [wrap_i64 (by omega) (by omega)]; simp
  have em : IntKind.u64.wrap (ab4 .u64 h (x.toNat : Int) * 1099511628211) = WV h x := rfl
  conv at hr =>
   rhs
   rw [hTe]
   simp only [zQ.jI, zQ.code, zQ.rs, zSs, reduceIte, Nat.reduceEqDiff, Int.reduceEq, Int.reduceLT, Int.reduceLE, if_neg hk, vZ hv, goInt, d1, e1, Qs, xY, VK, JQ, WR, Vg _ _ _ _ (show (0 : Int) ≤ 40 by omega), Vg _ _ _ _ (show (0 : Int) ≤ 8 by omega), mref, em, wi]
  obtain ⟨T', q1, q2, q3⟩ := ih (pre ++ [x]) (WV h x) ((yg hr).symm.trans hL) rfl rfl rfl rfl (by simp [hl])
  exact ⟨T', q1, q2, q3⟩
theorem zQ.v (hv : Okl k l) (hk : k ≠ 2) (hlen : l.length ≤ 140737488355328) {key : Int} (S : zk) : jc Try.prog O zQ.id [.int .u64 key, by_ k l] S = some (.int .u64 (J3 key l), S) := by
 obtain ⟨T, hTe⟩ : ∃ T, T = (.int .u64 key :: by_ k l :: undef :: undef :: undef :: undef :: undef :: undef :: undef :: undef :: undef :: undef :: undef :: undef :: undef :: undef :: undef :: undef :: undef :: undef :: undef :: undef :: undef :: undef :: undef :: undef :: undef :: undef :: undef :: undef :: undef :: undef :: undef :: undef :: []) := ⟨_, rfl⟩
 have hr : zF Try.prog O false zQ.code T S = zF Try.prog O false zQ.code T S := rfl
 conv at hr =>
  rhs
  rw [hTe]
  simp only [zQ.code, zQ.rs, zSs, reduceIte, Nat.reduceEqDiff, Int.reduceEq, Int.reduceLT, Int.reduceLE, JQ]
 generalize hL : qm (zF Try.prog O false zQ.jI) _ _ = r at hr
 obtain ⟨T', rfl, g1, g2⟩ := zQ.round hv hk hlen l [] _ hL rfl rfl rfl rfl rfl
 have hT' := zQ.eta g1
 rw [g2] at hT'
 have hx := abV key 14695981039346656037
 have hi := aev l _ hx.1 hx.2
 have em := af5 hi.1 hi.2
 conv at hr =>
  rhs
  rw [hT']
  simp only [zQ.code, zQ.rs, zSs, reduceIte, Nat.reduceEqDiff, Int.reduceEq, Int.reduceLT, Int.reduceLE, xg _ _ _ (show (536870912 : Int) ≠ 0 by omega), JQ, em]
 rw [hTe] at hr
 exact zQ.runs hr (.inr rfl)
end
end Go.Proofs.Ytbgcphbbchndkaa
namespace Go.Proofs.Ytbgcphbbchndkaa
open Go.Abs
abbrev jE.id : FuncId := 53
noncomputable def jE.code : Code := (Code.seq (Code.region 0 (reg Try.f53 0) false) (Code.seq (Code.region 1 (reg Try.f53 1) false) (Code.seq (Code.seq (Code.region 2 (reg Try.f53 2) false) (Code.cond (Operand.tmp 16) (Code.seq (Code.region 3 (reg Try.f53 3) false) Code.ret) Code.skip)) (Code.seq (Code.region 4 (reg Try.f53 4) false) (Code.seq (Code.region 5 (reg Try.f53 5) true) (Code.seq (Code.seq (Code.region 6 (reg Try.f53 6) false) (Code.cond (Operand.tmp 43) (Code.seq (Code.region 7 (reg Try.f53 7) false) Code.ret) Code.skip)) (Code.seq (Code.region 8 (reg Try.f53 8) false) Code.ret)))))))
theorem jE.body : Try.f53.body = some jE.code := by kernel_rfl
variable (U x1 X x3 a Y V W Z x9 c d f g i k l m n o p q r s t u w x y z A B C D E F G H I J K L M N P Q : Value) (S : zk)
theorem jE.r0  : jC Try.prog ⟨false, false, false⟩ (jc Try.prog O) (reg Try.f53 0) (reg Try.f53 0).toList ([U,x1,X,x3,a,Y,V,W,Z,x9,c,d,f,g,i,k,l,m,n,o,p,q,r,s,t,u,w,x,y,z,A,B,C,D,E,F,G,H,I,J,K,L,M,N,P,Q]) S =
  (zI (yF Try.prog 28 S) (fun v0 R => some ([U,x1,v0,Value.int IntKind.i64 0,a,Y,V,W,Z,x9,c,d,f,g,i,k,l,m,n,o,p,q,r,s,t,u,w,x,y,z,A,B,C,D,E,F,G,H,I,J,K,L,M,N,P,Q], R)) ()) := by
 kernel_rfl
theorem jE.r1  : jC Try.prog ⟨false, false, false⟩ (jc Try.prog O) (reg Try.f53 1) (reg Try.f53 1).toList ([U,x1,X,x3,a,Y,V,W,Z,x9,c,d,f,g,i,k,l,m,n,o,p,q,r,s,t,u,w,x,y,z,A,B,C,D,E,F,G,H,I,J,K,L,M,N,P,Q]) S =
  (zI ((jc Try.prog O) 51 [(dem (dem U)), (Value.int IntKind.i64 4)] S) (fun b R => zI (zU b 0 R) (fun v3 S2 => zI (zU (zS 0 b) 1 S2) (fun v4 S3 => zI (zU (zS 1 (zS 0 b)) 2 S3) (fun v5 S4 => some ([U,x1,X,x3,v3,v4,v5,W,Z,zS 2 (zS 1 (zS 0 b)),dem U,dem b,dem v3,dem v4,dem v5,k,l,m,n,o,p,q,r,s,t,u,w,x,y,z,A,B,C,D,E,F,G,H,I,J,K,L,M,N,P,Q], S4)) ()) ()) ()) ()) := by
 kernel_rfl
theorem jE.r2  : jC Try.prog ⟨false, false, false⟩ (jc Try.prog O) (reg Try.f53 2) (reg Try.f53 2).toList ([U,x1,X,x3,a,Y,V,W,Z,x9,c,d,f,g,i,k,l,m,n,o,p,q,r,s,t,u,w,x,y,z,A,B,C,D,E,F,G,H,I,J,K,L,M,N,P,Q]) S =
  (zI (wu Try.prog BinOp.neq 31 (dem V) (Value.int IntKind.i64 0) S) (fun b R => some ([U,x1,X,x3,a,Y,V,W,Z,x9,c,d,f,g,i,dem V,b,m,n,o,p,q,r,s,t,u,w,x,y,z,A,B,C,D,E,F,G,H,I,J,K,L,M,N,P,Q], R)) ()) := by
 kernel_rfl
theorem jE.r3  : jC Try.prog ⟨false, false, false⟩ (jc Try.prog O) (reg Try.f53 3) (reg Try.f53 3).toList ([U,x1,X,x3,a,Y,V,W,Z,x9,c,d,f,g,i,k,l,m,n,o,p,q,r,s,t,u,w,x,y,z,A,B,C,D,E,F,G,H,I,J,K,L,M,N,P,Q]) S =
  (zI (yJ Try.prog 28 [] S) (fun v0 R => zI (wH Try.prog 28 X (dem v0) R) (fun b S2 => some ([U,x1,X,Value.int IntKind.i64 71,a,Y,V,W,Z,x9,c,d,f,g,i,k,l,v0,n,o,p,q,r,s,t,u,w,x,y,z,A,B,C,D,E,F,G,H,I,J,K,L,M,N,P,Q], S2)) ()) ()) := by
 kernel_rfl
theorem jE.r4  : jC Try.prog ⟨false, false, false⟩ (jc Try.prog O) (reg Try.f53 4) (reg Try.f53 4).toList ([U,x1,X,x3,a,Y,V,W,Z,x9,c,d,f,g,i,k,l,m,n,o,p,q,r,s,t,u,w,x,y,z,A,B,C,D,E,F,G,H,I,J,K,L,M,N,P,Q]) S =
  (zI ((jc Try.prog O) 65 [(dem (dem Y))] S) (fun b R => zI (zU b 0 R) (fun v3 S2 => zI (zU (zS 0 b) 1 S2) (fun v4 S3 => some ([U,x1,X,x3,a,Y,v4,v3,Z,x9,c,d,f,g,i,k,l,m,zS 1 (zS 0 b),dem Y,dem b,dem v3,dem v4,s,t,u,w,x,y,z,A,B,C,D,E,F,G,H,I,J,K,L,M,N,P,Q], S3)) ()) ()) ()) := by
 kernel_rfl
theorem jE.d5 : qW Try.prog (reg Try.f53 5) = true := by kernel_rfl
theorem jE.ff5 : fixed Try.prog (reg Try.f53 5) = false := by kernel_rfl
theorem jE.k5 : checked Try.prog (reg Try.f53 5) = [0, 1, 2, 3, 4, 5, 6, 7, 8, 9, 10, 11, 12, 13] := by kernel_rfl
theorem jE.g5 : again Try.prog (reg Try.f53 5) = [(2, 14), (5, 14), (8, 14), (11, 14)] := by kernel_rfl
theorem jE.r5  : zF Try.prog O false (.region 5 (reg Try.f53 5) true) ([U,x1,X,x3,a,Y,V,W,Z,x9,c,d,f,g,i,k,l,m,n,o,p,q,r,s,t,u,w,x,y,z,A,B,C,D,E,F,G,H,I,J,K,L,M,N,P,Q]) S =
  Jm (okK a ( zI (jo Try.prog 57 (dem a) (Value.int IntKind.i64 0) S) (fun b R => okK b ( zI (jf Try.prog false 3 b R) (fun v2 S2 => okK v2 ( okK a ( zI (jo Try.prog 57 (dem a) (Value.int IntKind.i64 1) S2) (fun v4 S3 => okK v4 ( zI (jf Try.prog false 3 v4 S3) (fun v5 S4 => okK v5 ( okK a ( zI (jo Try.prog 57 (dem a) (Value.int IntKind.i64 2) S4) (fun v7 S5 => okK v7 ( zI (jf Try.prog false 3 v7 S5) (fun v8 S6 => okK v8 ( okK a ( zI (jo Try.prog 57 (dem a) (Value.int IntKind.i64 3) S6) (fun a0 S7 => okK a0 ( zI (jf Try.prog false 3 a0 S7) (fun a2 S8 => okK a2 ( okK W ( zI (yJ Try.prog 28 [(0, (dem v2)), (1, (dem v5)), (2, (dem v8)), (3, (dem a2)), (4, (dem (dem W)))] S8) (fun a3 S9 => okK a3 ( zI (yF Try.prog 28 S9) (fun a4 a1 => zI (wH Try.prog 28 a4 (dem a3) a1) (fun a6 a5 => ckK (qB b R a1 && (qB v4 S3 a1 && (qB v7 S5 a1 && (qB a0 S7 a1 && (true))))) (some ([U,x1,X,x3,a,Y,V,W,a4,x9,c,d,f,g,i,k,l,m,n,o,p,q,r,dem a,b,v2,dem a,v4,v5,dem a,v7,v8,dem a,a0,a2,dem W,a3,H,I,J,K,L,M,N,P,Q], a5)) ()) ()) ()) ()) ()) ()) ()) ()) ()) ()) ()) ()) ()) ()) ()) ()) ()) ()) ()) ()) ()) ()) ()) ()) ()) ()) := by
 rw [yO jE.d5 jE.ff5 jE.k5 jE.g5]
 refine congrArg Jm ?_
 refine uPC Try.f53 5 0 (v := a) (pe := undef) ?_
 refine uDC Try.f53 5 1 (pe := undef) (fun b R => ?_)
 refine uDC Try.f53 5 2 (pe := b) (fun v2 S2 => ?_)
 refine uPC Try.f53 5 3 (v := a) (pe := undef) ?_
 refine uDC Try.f53 5 4 (pe := undef) (fun v4 S3 => ?_)
 refine uDC Try.f53 5 5 (pe := v4) (fun v5 S4 => ?_)
 refine uPC Try.f53 5 6 (v := a) (pe := undef) ?_
 refine uDC Try.f53 5 7 (pe := undef) (fun v7 S5 => ?_)
 refine uDC Try.f53 5 8 (pe := v7) (fun v8 S6 => ?_)
 refine uPC Try.f53 5 9 (v := a) (pe := undef) ?_
 refine uDC Try.f53 5 10 (pe := undef) (fun a0 S7 => ?_)
 refine uDC Try.f53 5 11 (pe := a0) (fun a2 S8 => ?_)
 refine uPC Try.f53 5 12 (v := W) (pe := undef) ?_
 refine uDC Try.f53 5 13 (pe := undef) (fun a3 S9 => ?_)
 refine uD Try.f53 5 14 (pe := undef) (fun a4 a1 => ?_)
 refine uD Try.f53 5 15 (pe := undef) (fun a6 a5 => ?_)
 kernel_rfl
theorem jE.r6  : jC Try.prog ⟨false, false, false⟩ (jc Try.prog O) (reg Try.f53 6) (reg Try.f53 6).toList ([U,x1,X,x3,a,Y,V,W,Z,x9,c,d,f,g,i,k,l,m,n,o,p,q,r,s,t,u,w,x,y,z,A,B,C,D,E,F,G,H,I,J,K,L,M,N,P,Q]) S =
  (zI (wu Try.prog BinOp.neq 31 (dem V) (Value.int IntKind.i64 0) S) (fun b R => gdK (dem b) false (jf Try.prog false 28 Z) R (fun v3 S2 => gdK (dem b) false ((jc Try.prog O) 39 [(dem v3)]) S2 (fun v4 S3 => gdK (dem b) false (aUn Try.prog UnOp.not v4) S3 (fun v5 S4 => zI (wJ (dem b) (Value.bool true) v5 S4) (fun v6 S5 => some ([U,x1,X,x3,a,Y,V,W,Z,x9,c,d,f,g,i,k,l,m,n,o,p,q,r,s,t,u,w,x,y,z,A,B,C,D,E,F,G,dem V,b,dem b,v3,v4,v5,v6,P,Q], S5)) ()) ()) ()) ()) ()) := by
 refine sP Try.f53 6 0 (v := V) ?_
 refine sD Try.f53 6 1 (fun b R => ?_)
 refine sP Try.f53 6 2 (v := b) ?_
 refine sG Try.f53 6 3 (j := 2) (fun v3 S2 => ?_)
 refine sG Try.f53 6 4 (j := 2) (fun v4 S3 => ?_)
 refine sG Try.f53 6 5 (j := 2) (fun v5 S4 => ?_)
 refine sD Try.f53 6 6 (fun v6 S5 => ?_)
 kernel_rfl
theorem jE.r7  : jC Try.prog ⟨false, false, false⟩ (jc Try.prog O) (reg Try.f53 7) (reg Try.f53 7).toList ([U,x1,X,x3,a,Y,V,W,Z,x9,c,d,f,g,i,k,l,m,n,o,p,q,r,s,t,u,w,x,y,z,A,B,C,D,E,F,G,H,I,J,K,L,M,N,P,Q]) S =
  (zI (yJ Try.prog 28 [] S) (fun v0 R => zI (wH Try.prog 28 X (dem v0) R) (fun b S2 => some ([U,x1,X,Value.int IntKind.i64 71,a,Y,V,W,Z,x9,c,d,f,g,i,k,l,m,n,o,p,q,r,s,t,u,w,x,y,z,A,B,C,D,E,F,G,H,I,J,K,L,M,N,v0,Q], S2)) ()) ()) := by
 kernel_rfl
theorem jE.r8  : jC Try.prog ⟨false, false, false⟩ (jc Try.prog O) (reg Try.f53 8) (reg Try.f53 8).toList ([U,x1,X,x3,a,Y,V,W,Z,x9,c,d,f,g,i,k,l,m,n,o,p,q,r,s,t,u,w,x,y,z,A,B,C,D,E,F,G,H,I,J,K,L,M,N,P,Q]) S =
  (zI (jf Try.prog false 28 Z S) (fun v0 R => zI (wH Try.prog 28 X (dem v0) R) (fun b S2 => some ([U,x1,X,Value.int IntKind.i64 0,a,Y,V,W,Z,x9,c,d,f,g,i,k,l,m,n,o,p,q,r,s,t,u,w,x,y,z,A,B,C,D,E,F,G,H,I,J,K,L,M,N,P,v0], S2)) ()) ()) := by
 kernel_rfl
theorem jE.rs : type_of% (And.intro @jE.r0 (And.intro @jE.r1 (And.intro @jE.r2 (And.intro @jE.r3 (And.intro @jE.r4 (And.intro @jE.r5 (And.intro @jE.r6 (And.intro @jE.r7 (@jE.r8))))))))) := And.intro @jE.r0 (And.intro @jE.r1 (And.intro @jE.r2 (And.intro @jE.r3 (And.intro @jE.r4 (And.intro @jE.r5 (And.intro @jE.r6 (And.intro @jE.r7 (@jE.r8))))))))
theorem jE.runs {U : Value} {S R : zk} {e : AEx} {T : List Value} (h : zF Try.prog O false jE.code ([U,undef,undef,undef,undef,undef,undef,undef,undef,undef,undef,undef,undef,undef,undef,undef,undef,undef,undef,undef,undef,undef,undef,undef,undef,undef,undef,undef,undef,undef,undef,undef,undef,undef,undef,undef,undef,undef,undef,undef,undef,undef,undef,undef,undef,undef]) zk.empty = some (e, T, R)) (he : e = .normal ∨ e = .ret) {w0 : Value} (c0 : jf Try.prog false 28 (T.getD 2 undef) R = some (w0, R)) (h0 : jW (w0) = true) (h1 : jW (T.getD 3 undef) = true) (hca : [U].all (jH 16) = true) (hcv : jH 16 (Value.tuple #[w0, T.getD 3 undef]) = true) : jc Try.prog O 53 [U] S = some (Value.tuple #[w0, T.getD 3 undef], S) :=
 yh rfl rfl Try.func53 (by decide) jE.body (by exact h) he ((yP ((show zO Try.prog T R Try.f53.results.toList = zO Try.prog T R [(ResultVar.cell 2 28), (ResultVar.tmp 3)] from by kernel_rfl).trans (by simp only [zO, c0])) (by kernel_rfl) (by simp only [List.all_cons, List.all_nil, h0, h1, Bool.and_true])).trans rfl) hca hcv
end Go.Proofs.Ytbgcphbbchndkaa
namespace Go.Proofs.Ytbgcphbbchndkaa
open Go.Abs
abbrev zJ.id : FuncId := 30
noncomputable def zJ.code : Code := (Code.seq (Code.region 0 (reg Try.f30 0) false) (Code.seq (Code.region 1 (reg Try.f30 1) false) (Code.seq (Code.seq (Code.region 2 (reg Try.f30 2) false) (Code.cond (Operand.tmp 17) (Code.seq (Code.region 3 (reg Try.f30 3) false) Code.ret) Code.skip)) (Code.seq (Code.region 4 (reg Try.f30 4) false) (Code.seq (Code.region 5 (reg Try.f30 5) true) (Code.seq (Code.seq (Code.region 6 (reg Try.f30 6) false) (Code.cond (Operand.tmp 44) (Code.seq (Code.region 7 (reg Try.f30 7) false) Code.ret) Code.skip)) (Code.seq (Code.region 8 (reg Try.f30 8) false) Code.ret)))))))
theorem zJ.body : Try.f30.body = some zJ.code := by kernel_rfl
variable (V x1 X x3 a Z x6 W Y x9 c d f g i k l m n o p q r s t u w x y z A B C D E F G H I J K L M N P Q R : Value) (S : zk)
theorem zJ.r0  : jC Try.prog ⟨false, false, false⟩ (jc Try.prog O) (reg Try.f30 0) (reg Try.f30 0).toList ([V,x1,X,x3,a,Z,x6,W,Y,x9,c,d,f,g,i,k,l,m,n,o,p,q,r,s,t,u,w,x,y,z,A,B,C,D,E,F,G,H,I,J,K,L,M,N,P,Q,R]) S =
  (zI (yF Try.prog 28 S) (fun v0 U => some ([V,x1,v0,Value.int IntKind.i64 0,a,Z,x6,W,Y,x9,c,d,f,g,i,k,l,m,n,o,p,q,r,s,t,u,w,x,y,z,A,B,C,D,E,F,G,H,I,J,K,L,M,N,P,Q,R], U)) ()) := by
 kernel_rfl
theorem zJ.r1  : jC Try.prog ⟨false, false, false⟩ (jc Try.prog O) (reg Try.f30 1) (reg Try.f30 1).toList ([V,x1,X,x3,a,Z,x6,W,Y,x9,c,d,f,g,i,k,l,m,n,o,p,q,r,s,t,u,w,x,y,z,A,B,C,D,E,F,G,H,I,J,K,L,M,N,P,Q,R]) S =
  (zI ((jc Try.prog O) 28 [(dem (dem V)), (Value.int IntKind.i64 4)] S) (fun b U => zI (zU b 0 U) (fun v3 S2 => zI (zU (zS 0 b) 1 S2) (fun v4 S3 => zI (zU (zS 1 (zS 0 b)) 2 S3) (fun v5 S4 => some ([V,x1,X,x3,v3,v4,v5,W,Y,x9,zS 2 (zS 1 (zS 0 b)),dem V,dem b,dem v3,dem v4,dem v5,l,m,n,o,p,q,r,s,t,u,w,x,y,z,A,B,C,D,E,F,G,H,I,J,K,L,M,N,P,Q,R], S4)) ()) ()) ()) ()) := by
 kernel_rfl
theorem zJ.r2  : jC Try.prog ⟨false, false, false⟩ (jc Try.prog O) (reg Try.f30 2) (reg Try.f30 2).toList ([V,x1,X,x3,a,Z,x6,W,Y,x9,c,d,f,g,i,k,l,m,n,o,p,q,r,s,t,u,w,x,y,z,A,B,C,D,E,F,G,H,I,J,K,L,M,N,P,Q,R]) S =
  (zI (wu Try.prog BinOp.neq 3 (dem x6) (Value.int IntKind.i64 0) S) (fun b U => some ([V,x1,X,x3,a,Z,x6,W,Y,x9,c,d,f,g,i,k,dem x6,b,n,o,p,q,r,s,t,u,w,x,y,z,A,B,C,D,E,F,G,H,I,J,K,L,M,N,P,Q,R], U)) ()) := by
 kernel_rfl
theorem zJ.r3  : jC Try.prog ⟨false, false, false⟩ (jc Try.prog O) (reg Try.f30 3) (reg Try.f30 3).toList ([V,x1,X,x3,a,Z,x6,W,Y,x9,c,d,f,g,i,k,l,m,n,o,p,q,r,s,t,u,w,x,y,z,A,B,C,D,E,F,G,H,I,J,K,L,M,N,P,Q,R]) S =
  (zI (yJ Try.prog 28 [] S) (fun v0 U => zI (wH Try.prog 28 X (dem v0) U) (fun b S2 => some ([V,x1,X,Value.int IntKind.i64 71,a,Z,x6,W,Y,x9,c,d,f,g,i,k,l,m,v0,o,p,q,r,s,t,u,w,x,y,z,A,B,C,D,E,F,G,H,I,J,K,L,M,N,P,Q,R], S2)) ()) ()) := by
 kernel_rfl
theorem zJ.r4  : jC Try.prog ⟨false, false, false⟩ (jc Try.prog O) (reg Try.f30 4) (reg Try.f30 4).toList ([V,x1,X,x3,a,Z,x6,W,Y,x9,c,d,f,g,i,k,l,m,n,o,p,q,r,s,t,u,w,x,y,z,A,B,C,D,E,F,G,H,I,J,K,L,M,N,P,Q,R]) S =
  (zI ((jc Try.prog O) 54 [(dem (dem Z))] S) (fun b U => zI (zU b 0 U) (fun v3 S2 => zI (zU (zS 0 b) 1 S2) (fun v4 S3 => some ([V,x1,X,x3,a,Z,x6,v3,v4,x9,c,d,f,g,i,k,l,m,n,zS 1 (zS 0 b),dem Z,dem b,dem v3,dem v4,t,u,w,x,y,z,A,B,C,D,E,F,G,H,I,J,K,L,M,N,P,Q,R], S3)) ()) ()) ()) := by
 kernel_rfl
theorem zJ.d5 : qW Try.prog (reg Try.f30 5) = true := by kernel_rfl
theorem zJ.ff5 : fixed Try.prog (reg Try.f30 5) = false := by kernel_rfl
theorem zJ.k5 : checked Try.prog (reg Try.f30 5) = [0, 1, 2, 3, 4, 5, 6, 7, 8, 9, 10, 11, 12, 13] := by kernel_rfl
theorem zJ.g5 : again Try.prog (reg Try.f30 5) = [(2, 14), (5, 14), (8, 14), (11, 14)] := by kernel_rfl
theorem zJ.r5  : zF Try.prog O false (.region 5 (reg Try.f30 5) true) ([V,x1,X,x3,a,Z,x6,W,Y,x9,c,d,f,g,i,k,l,m,n,o,p,q,r,s,t,u,w,x,y,z,A,B,C,D,E,F,G,H,I,J,K,L,M,N,P,Q,R]) S =
  Jm (okK a ( zI (jo Try.prog 57 (dem a) (Value.int IntKind.i64 0) S) (fun b U => okK b ( zI (jf Try.prog false 3 b U) (fun v2 S2 => okK v2 ( okK a ( zI (jo Try.prog 57 (dem a) (Value.int IntKind.i64 1) S2) (fun v4 S3 => okK v4 ( zI (jf Try.prog false 3 v4 S3) (fun v5 S4 => okK v5 ( okK a ( zI (jo Try.prog 57 (dem a) (Value.int IntKind.i64 2) S4) (fun v7 S5 => okK v7 ( zI (jf Try.prog false 3 v7 S5) (fun v8 S6 => okK v8 ( okK a ( zI (jo Try.prog 57 (dem a) (Value.int IntKind.i64 3) S6) (fun a0 S7 => okK a0 ( zI (jf Try.prog false 3 a0 S7) (fun a2 S8 => okK a2 ( okK W ( zI (yJ Try.prog 28 [(0, (dem v2)), (1, (dem v5)), (2, (dem v8)), (3, (dem a2)), (4, (dem (dem W)))] S8) (fun a3 S9 => okK a3 ( zI (yF Try.prog 28 S9) (fun a4 a1 => zI (wH Try.prog 28 a4 (dem a3) a1) (fun a6 a5 => ckK (qB b U a1 && (qB v4 S3 a1 && (qB v7 S5 a1 && (qB a0 S7 a1 && (true))))) (some ([V,x1,X,x3,a,Z,x6,W,Y,a4,c,d,f,g,i,k,l,m,n,o,p,q,r,s,dem a,b,v2,dem a,v4,v5,dem a,v7,v8,dem a,a0,a2,dem W,a3,I,J,K,L,M,N,P,Q,R], a5)) ()) ()) ()) ()) ()) ()) ()) ()) ()) ()) ()) ()) ()) ()) ()) ()) ()) ()) ()) ()) ()) ()) ()) ()) ()) ()) := by
 rw [yO zJ.d5 zJ.ff5 zJ.k5 zJ.g5]
 refine congrArg Jm ?_
 refine uPC Try.f30 5 0 (v := a) (pe := undef) ?_
 refine uDC Try.f30 5 1 (pe := undef) (fun b U => ?_)
 refine uDC Try.f30 5 2 (pe := b) (fun v2 S2 => ?_)
 refine uPC Try.f30 5 3 (v := a) (pe := undef) ?_
 refine uDC Try.f30 5 4 (pe := undef) (fun v4 S3 => ?_)
 refine uDC Try.f30 5 5 (pe := v4) (fun v5 S4 => ?_)
 refine uPC Try.f30 5 6 (v := a) (pe := undef) ?_
 refine uDC Try.f30 5 7 (pe := undef) (fun v7 S5 => ?_)
 refine uDC Try.f30 5 8 (pe := v7) (fun v8 S6 => ?_)
 refine uPC Try.f30 5 9 (v := a) (pe := undef) ?_
 refine uDC Try.f30 5 10 (pe := undef) (fun a0 S7 => ?_)
 refine uDC Try.f30 5 11 (pe := a0) (fun a2 S8 => ?_)
 refine uPC Try.f30 5 12 (v := W) (pe := undef) ?_
 refine uDC Try.f30 5 13 (pe := undef) (fun a3 S9 => ?_)
 refine uD Try.f30 5 14 (pe := undef) (fun a4 a1 => ?_)
 refine uD Try.f30 5 15 (pe := undef) (fun a6 a5 => ?_)
 kernel_rfl
theorem zJ.r6  : jC Try.prog ⟨false, false, false⟩ (jc Try.prog O) (reg Try.f30 6) (reg Try.f30 6).toList ([V,x1,X,x3,a,Z,x6,W,Y,x9,c,d,f,g,i,k,l,m,n,o,p,q,r,s,t,u,w,x,y,z,A,B,C,D,E,F,G,H,I,J,K,L,M,N,P,Q,R]) S =
  (zI (wu Try.prog BinOp.neq 3 (dem Y) (Value.int IntKind.i64 0) S) (fun b U => gdK (dem b) false (jf Try.prog false 28 x9) U (fun v3 S2 => gdK (dem b) false ((jc Try.prog O) 47 [(dem v3)]) S2 (fun v4 S3 => gdK (dem b) false (aUn Try.prog UnOp.not v4) S3 (fun v5 S4 => zI (wJ (dem b) (Value.bool true) v5 S4) (fun v6 S5 => some ([V,x1,X,x3,a,Z,x6,W,Y,x9,c,d,f,g,i,k,l,m,n,o,p,q,r,s,t,u,w,x,y,z,A,B,C,D,E,F,G,H,dem Y,b,dem b,v3,v4,v5,v6,Q,R], S5)) ()) ()) ()) ()) ()) := by
 refine sP Try.f30 6 0 (v := Y) ?_
 refine sD Try.f30 6 1 (fun b U => ?_)
 refine sP Try.f30 6 2 (v := b) ?_
 refine sG Try.f30 6 3 (j := 2) (fun v3 S2 => ?_)
 refine sG Try.f30 6 4 (j := 2) (fun v4 S3 => ?_)
 refine sG Try.f30 6 5 (j := 2) (fun v5 S4 => ?_)
 refine sD Try.f30 6 6 (fun v6 S5 => ?_)
 kernel_rfl
theorem zJ.r7  : jC Try.prog ⟨false, false, false⟩ (jc Try.prog O) (reg Try.f30 7) (reg Try.f30 7).toList ([V,x1,X,x3,a,Z,x6,W,Y,x9,c,d,f,g,i,k,l,m,n,o,p,q,r,s,t,u,w,x,y,z,A,B,C,D,E,F,G,H,I,J,K,L,M,N,P,Q,R]) S =
  (zI (yJ Try.prog 28 [] S) (fun v0 U => zI (wH Try.prog 28 X (dem v0) U) (fun b S2 => some ([V,x1,X,Value.int IntKind.i64 71,a,Z,x6,W,Y,x9,c,d,f,g,i,k,l,m,n,o,p,q,r,s,t,u,w,x,y,z,A,B,C,D,E,F,G,H,I,J,K,L,M,N,P,v0,R], S2)) ()) ()) := by
 kernel_rfl
theorem zJ.r8  : jC Try.prog ⟨false, false, false⟩ (jc Try.prog O) (reg Try.f30 8) (reg Try.f30 8).toList ([V,x1,X,x3,a,Z,x6,W,Y,x9,c,d,f,g,i,k,l,m,n,o,p,q,r,s,t,u,w,x,y,z,A,B,C,D,E,F,G,H,I,J,K,L,M,N,P,Q,R]) S =
  (zI (jf Try.prog false 28 x9 S) (fun v0 U => zI (wH Try.prog 28 X (dem v0) U) (fun b S2 => some ([V,x1,X,Value.int IntKind.i64 0,a,Z,x6,W,Y,x9,c,d,f,g,i,k,l,m,n,o,p,q,r,s,t,u,w,x,y,z,A,B,C,D,E,F,G,H,I,J,K,L,M,N,P,Q,v0], S2)) ()) ()) := by
 kernel_rfl
theorem zJ.rs : type_of% (And.intro @zJ.r0 (And.intro @zJ.r1 (And.intro @zJ.r2 (And.intro @zJ.r3 (And.intro @zJ.r4 (And.intro @zJ.r5 (And.intro @zJ.r6 (And.intro @zJ.r7 (@zJ.r8))))))))) := And.intro @zJ.r0 (And.intro @zJ.r1 (And.intro @zJ.r2 (And.intro @zJ.r3 (And.intro @zJ.r4 (And.intro @zJ.r5 (And.intro @zJ.r6 (And.intro @zJ.r7 (@zJ.r8))))))))
theorem zJ.runs {V : Value} {S U : zk} {e : AEx} {T : List Value} (h : zF Try.prog O false zJ.code ([V,undef,undef,undef,undef,undef,undef,undef,undef,undef,undef,undef,undef,undef,undef,undef,undef,undef,undef,undef,undef,undef,undef,undef,undef,undef,undef,undef,undef,undef,undef,undef,undef,undef,undef,undef,undef,undef,undef,undef,undef,undef,undef,undef,undef,undef,undef]) zk.empty = some (e, T, U)) (he : e = .normal ∨ e = .ret) {w0 : Value} (c0 : jf Try.prog false 28 (T.getD 2 undef) U = some (w0, U)) (h0 : jW (w0) = true) (h1 : jW (T.getD 3 undef) = true) (hca : [V].all (jH 16) = true) (hcv : jH 16 (Value.tuple #[w0, T.getD 3 undef]) = true) : jc Try.prog O 30 [V] S = some (Value.tuple #[w0, T.getD 3 undef], S) :=
 yh rfl rfl Try.func30 (by decide) zJ.body (by exact h) he ((yP ((show zO Try.prog T U Try.f30.results.toList = zO Try.prog T U [(ResultVar.cell 2 28), (ResultVar.tmp 3)] from by kernel_rfl).trans (by simp only [zO, c0])) (by kernel_rfl) (by simp only [List.all_cons, List.all_nil, h0, h1, Bool.and_true])).trans rfl) hca hcv
end Go.Proofs.Ytbgcphbbchndkaa
namespace Go.Proofs.Ytbgcphbbchndkaa
open Go.Abs
abbrev wG.id : FuncId := 41
noncomputable def wG.code : Code := (Code.seq (Code.region 0 (reg Try.f41 0) false) (Code.seq (Code.region 1 (reg Try.f41 1) false) Code.ret))
theorem wG.body : Try.f41.body = some wG.code := by kernel_rfl
variable (g i k l x4 x5 x6 x7 x8 x9 o p q r s t u w x y z A B C D E F G H I J K L M N P Q R : Value) (S : zk)
theorem wG.r0  : jC Try.prog ⟨false, false, false⟩ (jc Try.prog O) (reg Try.f41 0) (reg Try.f41 0).toList ([g,i,k,l,x4,x5,x6,x7,x8,x9,o,p,q,r,s,t,u,w,x,y,z,A,B,C,D,E,F,G,H,I,J,K,L,M,N,P,Q,R]) S =
  (zI (J5 (dem g) S) (fun U m => zI (J5 (dem i) m) (fun V S2 => some ([g,i,U,V,Value.bool false,x5,x6,x7,x8,x9,o,p,q,r,s,t,u,w,x,y,z,A,B,C,D,E,F,G,H,I,J,K,L,M,N,P,Q,R], S2)) ()) ()) := by
 kernel_rfl
theorem wG.r1  : jC Try.prog ⟨false, false, false⟩ (jc Try.prog O) (reg Try.f41 1) (reg Try.f41 1).toList ([g,i,k,l,x4,x5,x6,x7,x8,x9,o,p,q,r,s,t,u,w,x,y,z,A,B,C,D,E,F,G,H,I,J,K,L,M,N,P,Q,R]) S =
  (zI (zy Try.prog 28 k 0 S) (fun U m => zI (jf Try.prog false 3 U m) (fun V S2 => zI (zy Try.prog 28 l 0 S2) (fun v2 S3 => zI (jf Try.prog false 3 v2 S3) (fun v3 S4 => zI (wu Try.prog BinOp.eql 3 V v3 S4) (fun f S5 => gdK (dem f) true (zy Try.prog 28 k 1) S5 (fun v6 S6 => gdK (dem f) true (jf Try.prog false 3 v6) S6 (fun v7 S7 => gdK (dem f) true (zy Try.prog 28 l 1) S7 (fun v8 S8 => gdK (dem f) true (jf Try.prog false 3 v8) S8 (fun v9 S9 => gdK (dem f) true (wu Try.prog BinOp.eql 3 v7 v9) S9 (fun W b2 => zI (wJ (dem f) W (Value.bool false) b2) (fun b b3 => gdK (dem b) true (zy Try.prog 28 k 2) b3 (fun X b4 => gdK (dem b) true (jf Try.prog false 3 X) b4 (fun Y b5 => gdK (dem b) true (zy Try.prog 28 l 2) b5 (fun Z b6 => gdK (dem b) true (jf Try.prog false 3 Z) b6 (fun a0 b7 => gdK (dem b) true (wu Try.prog BinOp.eql 3 Y a0) b7 (fun a1 b8 => zI (wJ (dem b) a1 (Value.bool false) b8) (fun c b9 => gdK (dem c) true (zy Try.prog 28 k 3) b9 (fun a2 c0 => gdK (dem c) true (jf Try.prog false 3 a2) c0 (fun a3 c1 => gdK (dem c) true (zy Try.prog 28 l 3) c1 (fun a4 c2 => gdK (dem c) true (jf Try.prog false 3 a4) c2 (fun a5 c3 => gdK (dem c) true (wu Try.prog BinOp.eql 3 a3 a5) c3 (fun a6 c4 => zI (wJ (dem c) a6 (Value.bool false) c4) (fun d c5 => gdK (dem d) true (zy Try.prog 28 k 4) c5 (fun a7 c6 => gdK (dem d) true (jf Try.prog false 26 a7) c6 (fun a8 c7 => gdK (dem d) true (zy Try.prog 28 l 4) c7 (fun a9 c8 => gdK (dem d) true (jf Try.prog false 26 a9) c8 (fun b0 c9 => gdK (dem d) true ((jc Try.prog O) 60 [(dem a8), (dem b0)]) c9 (fun b1 d0 => zI (wJ (dem d) b1 (Value.bool false) d0) (fun n d1 => some ([g,i,k,l,n,U,V,v2,v3,f,dem f,v6,v7,v8,v9,W,b,dem b,X,Y,Z,a0,a1,c,dem c,a2,a3,a4,a5,a6,d,dem d,a7,a8,a9,b0,b1,dem n], d1)) ()) ()) ()) ()) ()) ()) ()) ()) ()) ()) ()) ()) ()) ()) ()) ()) ()) ()) ()) ()) ()) ()) ()) ()) ()) ()) ()) ()) ()) := by
 refine sD Try.f41 1 0 (fun U m => ?_)
 refine sD Try.f41 1 1 (fun V S2 => ?_)
 refine sD Try.f41 1 2 (fun v2 S3 => ?_)
 refine sD Try.f41 1 3 (fun v3 S4 => ?_)
 refine sD Try.f41 1 4 (fun f S5 => ?_)
 refine sP Try.f41 1 5 (v := f) ?_
 refine sG Try.f41 1 6 (j := 5) (fun v6 S6 => ?_)
 refine sG Try.f41 1 7 (j := 5) (fun v7 S7 => ?_)
 refine sG Try.f41 1 8 (j := 5) (fun v8 S8 => ?_)
 refine sG Try.f41 1 9 (j := 5) (fun v9 S9 => ?_)
 refine sG Try.f41 1 10 (j := 5) (fun W b2 => ?_)
 refine sD Try.f41 1 11 (fun b b3 => ?_)
 refine sP Try.f41 1 12 (v := b) ?_
 refine sG Try.f41 1 13 (j := 12) (fun X b4 => ?_)
 refine sG Try.f41 1 14 (j := 12) (fun Y b5 => ?_)
 refine sG Try.f41 1 15 (j := 12) (fun Z b6 => ?_)
 refine sG Try.f41 1 16 (j := 12) (fun a0 b7 => ?_)
 refine sG Try.f41 1 17 (j := 12) (fun a1 b8 => ?_)
 refine sD Try.f41 1 18 (fun c b9 => ?_)
 refine sP Try.f41 1 19 (v := c) ?_
 refine sG Try.f41 1 20 (j := 19) (fun a2 c0 => ?_)
 refine sG Try.f41 1 21 (j := 19) (fun a3 c1 => ?_)
 refine sG Try.f41 1 22 (j := 19) (fun a4 c2 => ?_)
 refine sG Try.f41 1 23 (j := 19) (fun a5 c3 => ?_)
 refine sG Try.f41 1 24 (j := 19) (fun a6 c4 => ?_)
 refine sD Try.f41 1 25 (fun d c5 => ?_)
 refine sP Try.f41 1 26 (v := d) ?_
 refine sG Try.f41 1 27 (j := 26) (fun a7 c6 => ?_)
 refine sG Try.f41 1 28 (j := 26) (fun a8 c7 => ?_)
 refine sG Try.f41 1 29 (j := 26) (fun a9 c8 => ?_)
 refine sG Try.f41 1 30 (j := 26) (fun b0 c9 => ?_)
 refine sG Try.f41 1 31 (j := 26) (fun b1 d0 => ?_)
 refine sD Try.f41 1 32 (fun n d1 => ?_)
 refine sP Try.f41 1 33 (v := n) ?_
 kernel_rfl
theorem wG.rs : type_of% (And.intro @wG.r0 (@wG.r1)) := And.intro @wG.r0 (@wG.r1)
theorem wG.runs {g i : Value} {S m : zk} {e : AEx} {T : List Value} (h : zF Try.prog O false wG.code ([g,i,undef,undef,undef,undef,undef,undef,undef,undef,undef,undef,undef,undef,undef,undef,undef,undef,undef,undef,undef,undef,undef,undef,undef,undef,undef,undef,undef,undef,undef,undef,undef,undef,undef,undef,undef,undef]) zk.empty = some (e, T, m)) (he : e = .normal ∨ e = .ret) (hca : [g, i].all (jH 16) = true) (hcv : jH 16 (T.getD 4 undef) = true) : jc Try.prog O 41 [g, i] S = some (T.getD 4 undef, S) :=
 yh rfl rfl Try.func41 (by decide) wG.body (by exact h) he (yN (a := T.getD 4 undef) ((show zO Try.prog T m Try.f41.results.toList = zO Try.prog T m [(ResultVar.tmp 4)] from by kernel_rfl).trans (by simp only [zO])) (by kernel_rfl)) hca hcv
end Go.Proofs.Ytbgcphbbchndkaa
namespace Go.Proofs.Ytbgcphbbchndkaa
open Go.Abs
abbrev jm.id : FuncId := 31
noncomputable def jm.code : Code := (Code.seq (Code.region 0 (reg Try.f31 0) false) (Code.seq (Code.region 1 (reg Try.f31 1) false) Code.ret))
theorem jm.body : Try.f31.body = some jm.code := by kernel_rfl
variable (g i k l x4 x5 x6 x7 x8 x9 o p q r s t u w x y z A B C D E F G H I J K L M N P Q R : Value) (S : zk)
theorem jm.r0  : jC Try.prog ⟨false, false, false⟩ (jc Try.prog O) (reg Try.f31 0) (reg Try.f31 0).toList ([g,i,k,l,x4,x5,x6,x7,x8,x9,o,p,q,r,s,t,u,w,x,y,z,A,B,C,D,E,F,G,H,I,J,K,L,M,N,P,Q,R]) S =
  (zI (J5 (dem g) S) (fun U m => zI (J5 (dem i) m) (fun V S2 => some ([g,i,U,V,Value.bool false,x5,x6,x7,x8,x9,o,p,q,r,s,t,u,w,x,y,z,A,B,C,D,E,F,G,H,I,J,K,L,M,N,P,Q,R], S2)) ()) ()) := by
 kernel_rfl
theorem jm.r1  : jC Try.prog ⟨false, false, false⟩ (jc Try.prog O) (reg Try.f31 1) (reg Try.f31 1).toList ([g,i,k,l,x4,x5,x6,x7,x8,x9,o,p,q,r,s,t,u,w,x,y,z,A,B,C,D,E,F,G,H,I,J,K,L,M,N,P,Q,R]) S =
  (zI (zy Try.prog 28 k 0 S) (fun U m => zI (jf Try.prog false 3 U m) (fun V S2 => zI (zy Try.prog 28 l 0 S2) (fun v2 S3 => zI (jf Try.prog false 3 v2 S3) (fun v3 S4 => zI (wu Try.prog BinOp.eql 3 V v3 S4) (fun f S5 => gdK (dem f) true (zy Try.prog 28 k 1) S5 (fun v6 S6 => gdK (dem f) true (jf Try.prog false 3 v6) S6 (fun v7 S7 => gdK (dem f) true (zy Try.prog 28 l 1) S7 (fun v8 S8 => gdK (dem f) true (jf Try.prog false 3 v8) S8 (fun v9 S9 => gdK (dem f) true (wu Try.prog BinOp.eql 3 v7 v9) S9 (fun W b2 => zI (wJ (dem f) W (Value.bool false) b2) (fun b b3 => gdK (dem b) true (zy Try.prog 28 k 2) b3 (fun X b4 => gdK (dem b) true (jf Try.prog false 3 X) b4 (fun Y b5 => gdK (dem b) true (zy Try.prog 28 l 2) b5 (fun Z b6 => gdK (dem b) true (jf Try.prog false 3 Z) b6 (fun a0 b7 => gdK (dem b) true (wu Try.prog BinOp.eql 3 Y a0) b7 (fun a1 b8 => zI (wJ (dem b) a1 (Value.bool false) b8) (fun c b9 => gdK (dem c) true (zy Try.prog 28 k 3) b9 (fun a2 c0 => gdK (dem c) true (jf Try.prog false 3 a2) c0 (fun a3 c1 => gdK (dem c) true (zy Try.prog 28 l 3) c1 (fun a4 c2 => gdK (dem c) true (jf Try.prog false 3 a4) c2 (fun a5 c3 => gdK (dem c) true (wu Try.prog BinOp.eql 3 a3 a5) c3 (fun a6 c4 => zI (wJ (dem c) a6 (Value.bool false) c4) (fun d c5 => gdK (dem d) true (zy Try.prog 28 k 4) c5 (fun a7 c6 => gdK (dem d) true (jf Try.prog false 26 a7) c6 (fun a8 c7 => gdK (dem d) true (zy Try.prog 28 l 4) c7 (fun a9 c8 => gdK (dem d) true (jf Try.prog false 26 a9) c8 (fun b0 c9 => gdK (dem d) true ((jc Try.prog O) 55 [(dem a8), (dem b0)]) c9 (fun b1 d0 => zI (wJ (dem d) b1 (Value.bool false) d0) (fun n d1 => some ([g,i,k,l,n,U,V,v2,v3,f,dem f,v6,v7,v8,v9,W,b,dem b,X,Y,Z,a0,a1,c,dem c,a2,a3,a4,a5,a6,d,dem d,a7,a8,a9,b0,b1,dem n], d1)) ()) ()) ()) ()) ()) ()) ()) ()) ()) ()) ()) ()) ()) ()) ()) ()) ()) ()) ()) ()) ()) ()) ()) ()) ()) ()) ()) ()) ()) := by
 refine sD Try.f31 1 0 (fun U m => ?_)
 refine sD Try.f31 1 1 (fun V S2 => ?_)
 refine sD Try.f31 1 2 (fun v2 S3 => ?_)
 refine sD Try.f31 1 3 (fun v3 S4 => ?_)
 refine sD Try.f31 1 4 (fun f S5 => ?_)
 refine sP Try.f31 1 5 (v := f) ?_
 refine sG Try.f31 1 6 (j := 5) (fun v6 S6 => ?_)
 refine sG Try.f31 1 7 (j := 5) (fun v7 S7 => ?_)
 refine sG Try.f31 1 8 (j := 5) (fun v8 S8 => ?_)
 refine sG Try.f31 1 9 (j := 5) (fun v9 S9 => ?_)
 refine sG Try.f31 1 10 (j := 5) (fun W b2 => ?_)
 refine sD Try.f31 1 11 (fun b b3 => ?_)
 refine sP Try.f31 1 12 (v := b) ?_
 refine sG Try.f31 1 13 (j := 12) (fun X b4 => ?_)
 refine sG Try.f31 1 14 (j := 12) (fun Y b5 => ?_)
 refine sG Try.f31 1 15 (j := 12) (fun Z b6 => ?_)
 refine sG Try.f31 1 16 (j := 12) (fun a0 b7 => ?_)
 refine sG Try.f31 1 17 (j := 12) (fun a1 b8 => ?_)
 refine sD Try.f31 1 18 (fun c b9 => ?_)
 refine sP Try.f31 1 19 (v := c) ?_
 refine sG Try.f31 1 20 (j := 19) (fun a2 c0 => ?_)
 refine sG Try.f31 1 21 (j := 19) (fun a3 c1 => ?_)
 refine sG Try.f31 1 22 (j := 19) (fun a4 c2 => ?_)
 refine sG Try.f31 1 23 (j := 19) (fun a5 c3 => ?_)
 refine sG Try.f31 1 24 (j := 19) (fun a6 c4 => ?_)
 refine sD Try.f31 1 25 (fun d c5 => ?_)
 refine sP Try.f31 1 26 (v := d) ?_
 refine sG Try.f31 1 27 (j := 26) (fun a7 c6 => ?_)
 refine sG Try.f31 1 28 (j := 26) (fun a8 c7 => ?_)
 refine sG Try.f31 1 29 (j := 26) (fun a9 c8 => ?_)
 refine sG Try.f31 1 30 (j := 26) (fun b0 c9 => ?_)
 refine sG Try.f31 1 31 (j := 26) (fun b1 d0 => ?_)
 refine sD Try.f31 1 32 (fun n d1 => ?_)
 refine sP Try.f31 1 33 (v := n) ?_
 kernel_rfl
theorem jm.rs : type_of% (And.intro @jm.r0 (@jm.r1)) := And.intro @jm.r0 (@jm.r1)
theorem jm.runs {g i : Value} {S m : zk} {e : AEx} {T : List Value} (h : zF Try.prog O false jm.code ([g,i,undef,undef,undef,undef,undef,undef,undef,undef,undef,undef,undef,undef,undef,undef,undef,undef,undef,undef,undef,undef,undef,undef,undef,undef,undef,undef,undef,undef,undef,undef,undef,undef,undef,undef,undef,undef]) zk.empty = some (e, T, m)) (he : e = .normal ∨ e = .ret) (hca : [g, i].all (jH 16) = true) (hcv : jH 16 (T.getD 4 undef) = true) : jc Try.prog O 31 [g, i] S = some (T.getD 4 undef, S) :=
 yh rfl rfl Try.func31 (by decide) jm.body (by exact h) he (yN (a := T.getD 4 undef) ((show zO Try.prog T m Try.f31.results.toList = zO Try.prog T m [(ResultVar.tmp 4)] from by kernel_rfl).trans (by simp only [zO])) (by kernel_rfl)) hca hcv
end Go.Proofs.Ytbgcphbbchndkaa
namespace Go.Proofs.Ytbgcphbbchndkaa
open Go.Abs
abbrev jh.id : FuncId := 44
noncomputable def jh.code : Code := (Code.seq (Code.region 0 (reg Try.f44 0) false) (Code.seq (Code.seq (Code.region 1 (reg Try.f44 1) false) (Code.cond (Operand.tmp 10) (Code.seq (Code.region 2 (reg Try.f44 2) false) Code.ret) Code.skip)) (Code.seq (Code.region 3 (reg Try.f44 3) false) (Code.seq (Code.region 4 (reg Try.f44 4) false) (Code.seq (Code.region 5 (reg Try.f44 5) false) Code.ret)))))
theorem jh.body : Try.f44.body = some jh.code := by kernel_rfl
variable (a b K L B F C G H I c d f g i j k l m n o p q r s t u v w x y z A : Value) (S : zk)
theorem jh.r0  : jC Try.prog ⟨false, false, false⟩ (jc Try.prog O) (reg Try.f44 0) (reg Try.f44 0).toList ([a,b,K,L,B,F,C,G,H,I,c,d,f,g,i,j,k,l,m,n,o,p,q,r,s,t,u,v,w,x,y,z,A]) S =
  (zI (J5 (dem a) S) (fun J D => some ([a,J,Value.slice none 0 0,Value.int IntKind.i64 0,B,F,C,G,H,I,c,d,f,g,i,j,k,l,m,n,o,p,q,r,s,t,u,v,w,x,y,z,A], D)) ()) := by
 kernel_rfl
theorem jh.r1  : jC Try.prog ⟨false, false, false⟩ (jc Try.prog O) (reg Try.f44 1) (reg Try.f44 1).toList ([a,b,K,L,B,F,C,G,H,I,c,d,f,g,i,j,k,l,m,n,o,p,q,r,s,t,u,v,w,x,y,z,A]) S =
  (zI (jf Try.prog false 28 b S) (fun J D => zI ((jc Try.prog O) 47 [(dem J)] D) (fun M N => zI (aUn Try.prog UnOp.not M N) (fun E P => some ([a,b,K,L,B,F,C,G,J,M,E,d,f,g,i,j,k,l,m,n,o,p,q,r,s,t,u,v,w,x,y,z,A], P)) ()) ()) ()) := by
 kernel_rfl
theorem jh.r2  : jC Try.prog ⟨false, false, false⟩ (jc Try.prog O) (reg Try.f44 2) (reg Try.f44 2).toList ([a,b,K,L,B,F,C,G,H,I,c,d,f,g,i,j,k,l,m,n,o,p,q,r,s,t,u,v,w,x,y,z,A]) S =
  ( some ([a,b,Value.slice none 0 0,Value.int IntKind.i64 71,B,F,C,G,H,I,c,d,f,g,i,j,k,l,m,n,o,p,q,r,s,t,u,v,w,x,y,z,A], S)) := by
 kernel_rfl
theorem jh.r3  : jC Try.prog ⟨false, false, false⟩ (jc Try.prog O) (reg Try.f44 3) (reg Try.f44 3).toList ([a,b,K,L,B,F,C,G,H,I,c,d,f,g,i,j,k,l,m,n,o,p,q,r,s,t,u,v,w,x,y,z,A]) S =
  (zI (zy Try.prog 28 b 0 S) (fun J D => zI (jf Try.prog false 3 J D) (fun M N => zI (zy Try.prog 28 b 1 N) (fun E P => zI (jf Try.prog false 3 E P) (fun Z X => zI (zy Try.prog 28 b 2 X) (fun Q Y => zI (jf Try.prog false 3 Q Y) (fun R S6 => zI (zy Try.prog 28 b 3 S6) (fun v6 S7 => zI (jf Try.prog false 3 v6 S7) (fun v7 S8 => zI (jR Try.prog 57 4 [(0, M), (1, Z), (2, R), (3, v7)] S8) (fun v8 S9 => zI ((jc Try.prog O) 42 [(dem v8)] S9) (fun U a0 => zI (zU U 0 a0) (fun V a1 => zI (zU (zS 0 U) 1 a1) (fun W a2 => some ([a,b,K,L,V,W,C,G,H,I,c,zS 1 (zS 0 U),J,M,E,Z,Q,R,v6,v7,v8,dem U,dem V,dem W,s,t,u,v,w,x,y,z,A], a2)) ()) ()) ()) ()) ()) ()) ()) ()) ()) ()) ()) ()) := by
 kernel_rfl
theorem jh.r4  : jC Try.prog ⟨false, false, false⟩ (jc Try.prog O) (reg Try.f44 4) (reg Try.f44 4).toList ([a,b,K,L,B,F,C,G,H,I,c,d,f,g,i,j,k,l,m,n,o,p,q,r,s,t,u,v,w,x,y,z,A]) S =
  (zI (zy Try.prog 28 b 4 S) (fun J D => zI (jf Try.prog false 26 J D) (fun M N => zI ((jc Try.prog O) 61 [(dem M)] N) (fun E P => zI (zU E 0 P) (fun Q X => zI (zU (zS 0 E) 1 X) (fun R Y => some ([a,b,K,L,B,F,Q,R,H,I,c,d,f,g,i,j,k,l,m,n,o,p,q,r,zS 1 (zS 0 E),J,M,dem E,dem Q,dem R,y,z,A], Y)) ()) ()) ()) ()) ()) := by
 kernel_rfl
theorem jh.r5  : jC Try.prog ⟨false, false, false⟩ (jc Try.prog O) (reg Try.f44 5) (reg Try.f44 5).toList ([a,b,K,L,B,F,C,G,H,I,c,d,f,g,i,j,k,l,m,n,o,p,q,r,s,t,u,v,w,x,y,z,A]) S =
  (zI (wY Try.prog 23 23 B (dem C) S) (fun E D => some ([a,b,E,Value.int IntKind.i64 0,dem B,F,C,G,H,I,c,d,f,g,i,j,k,l,m,n,o,p,q,r,s,t,u,v,w,x,dem B,dem C,dem E], D)) ()) := by
 kernel_rfl
theorem jh.rs : type_of% (And.intro @jh.r0 (And.intro @jh.r1 (And.intro @jh.r2 (And.intro @jh.r3 (And.intro @jh.r4 (@jh.r5)))))) := And.intro @jh.r0 (And.intro @jh.r1 (And.intro @jh.r2 (And.intro @jh.r3 (And.intro @jh.r4 (@jh.r5)))))
theorem jh.runs {a : Value} {S D : zk} {e : AEx} {T : List Value} (h : zF Try.prog O false jh.code ([a,undef,undef,undef,undef,undef,undef,undef,undef,undef,undef,undef,undef,undef,undef,undef,undef,undef,undef,undef,undef,undef,undef,undef,undef,undef,undef,undef,undef,undef,undef,undef,undef]) zk.empty = some (e, T, D)) (he : e = .normal ∨ e = .ret)  (h0 : jW (T.getD 2 undef) = true) (h1 : jW (T.getD 3 undef) = true) (hca : [a].all (jH 16) = true) (hcv : jH 16 (Value.tuple #[T.getD 2 undef, T.getD 3 undef]) = true) : jc Try.prog O 44 [a] S = some (Value.tuple #[T.getD 2 undef, T.getD 3 undef], S) :=
 yh rfl rfl Try.func44 (by decide) jh.body (by exact h) he ((yP ((show zO Try.prog T D Try.f44.results.toList = zO Try.prog T D [(ResultVar.tmp 2), (ResultVar.tmp 3)] from by kernel_rfl).trans (by simp only [zO])) (by kernel_rfl) (by simp only [List.all_cons, List.all_nil, h0, h1, Bool.and_true])).trans rfl) hca hcv
end Go.Proofs.Ytbgcphbbchndkaa
namespace Go.Proofs.Ytbgcphbbchndkaa
open Go.Abs
abbrev jv.id : FuncId := 39
noncomputable def jv.code : Code := (Code.seq (Code.region 0 (reg Try.f39 0) false) (Code.seq (Code.seq (Code.region 1 (reg Try.f39 1) false) (Code.cond (Operand.tmp 20) (Code.seq (Code.region 2 (reg Try.f39 2) false) Code.ret) Code.skip)) (Code.seq (Code.seq (Code.region 3 (reg Try.f39 3) false) (Code.cond (Operand.tmp 37) (Code.seq (Code.region 4 (reg Try.f39 4) false) Code.ret) Code.skip)) (Code.seq (Code.region 5 (reg Try.f39 5) false) (Code.seq (Code.region 6 (reg Try.f39 6) false) Code.ret)))))
theorem jv.body : Try.f39.body = some jv.code := by kernel_rfl
variable (U b x2 X V Y Z x7 x8 x9 c d f g i k l m n o p q r s t u w x y z A B C D E F G H I J K L M N P Q : Value) (S : zk)
theorem jv.r0  : jC Try.prog ⟨false, false, false⟩ (jc Try.prog O) (reg Try.f39 0) (reg Try.f39 0).toList ([U,b,x2,X,V,Y,Z,x7,x8,x9,c,d,f,g,i,k,l,m,n,o,p,q,r,s,t,u,w,x,y,z,A,B,C,D,E,F,G,H,I,J,K,L,M,N,P,Q]) S =
  (zI (J5 (dem U) S) (fun v0 W => some ([U,v0,Value.bool false,X,V,Y,Z,x7,x8,x9,c,d,f,g,i,k,l,m,n,o,p,q,r,s,t,u,w,x,y,z,A,B,C,D,E,F,G,H,I,J,K,L,M,N,P,Q], W)) ()) := by
 kernel_rfl
theorem jv.r1  : jC Try.prog ⟨false, false, false⟩ (jc Try.prog O) (reg Try.f39 1) (reg Try.f39 1).toList ([U,b,x2,X,V,Y,Z,x7,x8,x9,c,d,f,g,i,k,l,m,n,o,p,q,r,s,t,u,w,x,y,z,A,B,C,D,E,F,G,H,I,J,K,L,M,N,P,Q]) S =
  (zI (zy Try.prog 28 b 0 S) (fun v0 W => zI (jf Try.prog false 3 v0 W) (fun v1 S2 => zI ((jc Try.prog O) 57 [(dem v1), (Value.int IntKind.i64 1), (Value.int IntKind.i64 4095)] S2) (fun R S3 => zI (aUn Try.prog UnOp.not R S3) (fun v3 S4 => gdK (dem v3) false (zy Try.prog 28 b 1) S4 (fun v5 S5 => gdK (dem v3) false (jf Try.prog false 3 v5) S5 (fun v6 S6 => gdK (dem v3) false ((jc Try.prog O) 57 [(dem v6), (Value.int IntKind.i64 0), (Value.int IntKind.i64 6)]) S6 (fun v7 S7 => gdK (dem v3) false (aUn Try.prog UnOp.not v7) S7 (fun v8 S8 => zI (wJ (dem v3) (Value.bool true) v8 S8) (fun v9 S9 => gdK (dem v9) false (zy Try.prog 28 b 2) S9 (fun a0 a5 => gdK (dem v9) false (jf Try.prog false 3 a0) a5 (fun a1 a6 => gdK (dem v9) false ((jc Try.prog O) 57 [(dem a1), (Value.int IntKind.i64 0), (Value.int IntKind.i64 255)]) a6 (fun a2 a7 => gdK (dem v9) false (aUn Try.prog UnOp.not a2) a7 (fun a3 a8 => zI (wJ (dem v9) (Value.bool true) a3 a8) (fun a4 a9 => some ([U,b,x2,X,V,v0,v1,R,v3,dem v3,v5,v6,v7,v8,v9,dem v9,a0,a1,a2,a3,a4,q,r,s,t,u,w,x,y,z,A,B,C,D,E,F,G,H,I,J,K,L,M,N,P,Q], a9)) ()) ()) ()) ()) ()) ()) ()) ()) ()) ()) ()) ()) ()) ()) := by
 refine sD Try.f39 1 0 (fun v0 W => ?_)
 refine sD Try.f39 1 1 (fun v1 S2 => ?_)
 refine sD Try.f39 1 2 (fun R S3 => ?_)
 refine sD Try.f39 1 3 (fun v3 S4 => ?_)
 refine sP Try.f39 1 4 (v := v3) ?_
 refine sG Try.f39 1 5 (j := 4) (fun v5 S5 => ?_)
 refine sG Try.f39 1 6 (j := 4) (fun v6 S6 => ?_)
 refine sG Try.f39 1 7 (j := 4) (fun v7 S7 => ?_)
 refine sG Try.f39 1 8 (j := 4) (fun v8 S8 => ?_)
 refine sD Try.f39 1 9 (fun v9 S9 => ?_)
 refine sP Try.f39 1 10 (v := v9) ?_
 refine sG Try.f39 1 11 (j := 10) (fun a0 a5 => ?_)
 refine sG Try.f39 1 12 (j := 10) (fun a1 a6 => ?_)
 refine sG Try.f39 1 13 (j := 10) (fun a2 a7 => ?_)
 refine sG Try.f39 1 14 (j := 10) (fun a3 a8 => ?_)
 refine sD Try.f39 1 15 (fun a4 a9 => ?_)
 kernel_rfl
theorem jv.r2  : jC Try.prog ⟨false, false, false⟩ (jc Try.prog O) (reg Try.f39 2) (reg Try.f39 2).toList ([U,b,x2,X,V,Y,Z,x7,x8,x9,c,d,f,g,i,k,l,m,n,o,p,q,r,s,t,u,w,x,y,z,A,B,C,D,E,F,G,H,I,J,K,L,M,N,P,Q]) S =
  ( some ([U,b,Value.bool false,X,V,Y,Z,x7,x8,x9,c,d,f,g,i,k,l,m,n,o,p,q,r,s,t,u,w,x,y,z,A,B,C,D,E,F,G,H,I,J,K,L,M,N,P,Q], S)) := by
 kernel_rfl
theorem jv.r3  : jC Try.prog ⟨false, false, false⟩ (jc Try.prog O) (reg Try.f39 3) (reg Try.f39 3).toList ([U,b,x2,X,V,Y,Z,x7,x8,x9,c,d,f,g,i,k,l,m,n,o,p,q,r,s,t,u,w,x,y,z,A,B,C,D,E,F,G,H,I,J,K,L,M,N,P,Q]) S =
  (zI (zy Try.prog 28 b 3 S) (fun v0 W => zI (jf Try.prog false 3 v0 W) (fun v1 S2 => zI (wu Try.prog BinOp.neq 3 v1 (Value.int IntKind.i64 0) S2) (fun R S3 => gdK (dem R) true (zy Try.prog 28 b 3) S3 (fun v4 S4 => gdK (dem R) true (jf Try.prog false 3 v4) S4 (fun v5 S5 => gdK (dem R) true ((jc Try.prog O) 58 [(dem v5)]) S5 (fun v6 S6 => gdK (dem R) true (aUn Try.prog UnOp.not v6) S6 (fun v7 S7 => gdK (dem R) true (ret v7) S7 (fun v8 S8 => gdK (dem v8) false (zy Try.prog 28 b 3) S8 (fun v9 S9 => gdK (dem v8) false (jf Try.prog false 3 v9) S9 (fun b0 a5 => gdK (dem v8) false (wu Try.prog BinOp.quo 3 b0 (Value.int IntKind.i64 65536)) a5 (fun a0 a6 => gdK (dem v8) false (zy Try.prog 28 b 0) a6 (fun a1 a7 => gdK (dem v8) false (jf Try.prog false 3 a1) a7 (fun a2 a8 => gdK (dem v8) false (wu Try.prog BinOp.geq 3 a0 a2) a8 (fun a3 a9 => gdK (dem R) true (wJ (dem v8) (Value.bool true) a3) a9 (fun a4 b1 => zI (wJ (dem R) a4 (Value.bool false) b1) (fun b2 b3 => some ([U,b,x2,X,V,Y,Z,x7,x8,x9,c,d,f,g,i,k,l,m,n,o,p,v0,v1,R,dem R,v4,v5,v6,v7,dem v8,v9,b0,a0,a1,a2,a3,a4,b2,I,J,K,L,M,N,P,Q], b3)) ()) ()) ()) ()) ()) ()) ()) ()) ()) ()) ()) ()) ()) ()) ()) ()) := by
 refine sD Try.f39 3 0 (fun v0 W => ?_)
 refine sD Try.f39 3 1 (fun v1 S2 => ?_)
 refine sD Try.f39 3 2 (fun R S3 => ?_)
 refine sP Try.f39 3 3 (v := R) ?_
 refine sG Try.f39 3 4 (j := 3) (fun v4 S4 => ?_)
 refine sG Try.f39 3 5 (j := 3) (fun v5 S5 => ?_)
 refine sG Try.f39 3 6 (j := 3) (fun v6 S6 => ?_)
 refine sG Try.f39 3 7 (j := 3) (fun v7 S7 => ?_)
 refine sG Try.f39 3 8 (j := 3) (fun v8 S8 => ?_)
 refine sG Try.f39 3 9 (j := 8) (fun v9 S9 => ?_)
 refine sG Try.f39 3 10 (j := 8) (fun b0 a5 => ?_)
 refine sG Try.f39 3 11 (j := 8) (fun a0 a6 => ?_)
 refine sG Try.f39 3 12 (j := 8) (fun a1 a7 => ?_)
 refine sG Try.f39 3 13 (j := 8) (fun a2 a8 => ?_)
 refine sG Try.f39 3 14 (j := 8) (fun a3 a9 => ?_)
 refine sG Try.f39 3 15 (j := 3) (fun a4 b1 => ?_)
 refine sD Try.f39 3 16 (fun b2 b3 => ?_)
 kernel_rfl
theorem jv.r4  : jC Try.prog ⟨false, false, false⟩ (jc Try.prog O) (reg Try.f39 4) (reg Try.f39 4).toList ([U,b,x2,X,V,Y,Z,x7,x8,x9,c,d,f,g,i,k,l,m,n,o,p,q,r,s,t,u,w,x,y,z,A,B,C,D,E,F,G,H,I,J,K,L,M,N,P,Q]) S =
  ( some ([U,b,Value.bool false,X,V,Y,Z,x7,x8,x9,c,d,f,g,i,k,l,m,n,o,p,q,r,s,t,u,w,x,y,z,A,B,C,D,E,F,G,H,I,J,K,L,M,N,P,Q], S)) := by
 kernel_rfl
theorem jv.r5  : jC Try.prog ⟨false, false, false⟩ (jc Try.prog O) (reg Try.f39 5) (reg Try.f39 5).toList ([U,b,x2,X,V,Y,Z,x7,x8,x9,c,d,f,g,i,k,l,m,n,o,p,q,r,s,t,u,w,x,y,z,A,B,C,D,E,F,G,H,I,J,K,L,M,N,P,Q]) S =
  (zI (zy Try.prog 28 b 4 S) (fun v0 W => zI (jf Try.prog false 26 v0 W) (fun v1 S2 => zI ((jc Try.prog O) 56 [(dem v1)] S2) (fun R S3 => zI (zU R 0 S3) (fun v4 S4 => zI (zU (zS 0 R) 1 S4) (fun v5 S5 => some ([U,b,x2,v4,v5,Y,Z,x7,x8,x9,c,d,f,g,i,k,l,m,n,o,p,q,r,s,t,u,w,x,y,z,A,B,C,D,E,F,G,H,zS 1 (zS 0 R),v0,v1,dem R,dem v4,dem v5,P,Q], S5)) ()) ()) ()) ()) ()) := by
 kernel_rfl
theorem jv.r6  : jC Try.prog ⟨false, false, false⟩ (jc Try.prog O) (reg Try.f39 6) (reg Try.f39 6).toList ([U,b,x2,X,V,Y,Z,x7,x8,x9,c,d,f,g,i,k,l,m,n,o,p,q,r,s,t,u,w,x,y,z,A,B,C,D,E,F,G,H,I,J,K,L,M,N,P,Q]) S =
  (zI (wu Try.prog BinOp.eql 31 (dem V) (Value.int IntKind.i64 0) S) (fun v1 W => some ([U,b,v1,X,V,Y,Z,x7,x8,x9,c,d,f,g,i,k,l,m,n,o,p,q,r,s,t,u,w,x,y,z,A,B,C,D,E,F,G,H,I,J,K,L,M,N,dem V,dem v1], W)) ()) := by
 kernel_rfl
theorem jv.rs : type_of% (And.intro @jv.r0 (And.intro @jv.r1 (And.intro @jv.r2 (And.intro @jv.r3 (And.intro @jv.r4 (And.intro @jv.r5 (@jv.r6))))))) := And.intro @jv.r0 (And.intro @jv.r1 (And.intro @jv.r2 (And.intro @jv.r3 (And.intro @jv.r4 (And.intro @jv.r5 (@jv.r6))))))
theorem jv.runs {U : Value} {S W : zk} {e : AEx} {T : List Value} (h : zF Try.prog O false jv.code ([U,undef,undef,undef,undef,undef,undef,undef,undef,undef,undef,undef,undef,undef,undef,undef,undef,undef,undef,undef,undef,undef,undef,undef,undef,undef,undef,undef,undef,undef,undef,undef,undef,undef,undef,undef,undef,undef,undef,undef,undef,undef,undef,undef,undef,undef]) zk.empty = some (e, T, W)) (he : e = .normal ∨ e = .ret) (hca : [U].all (jH 16) = true) (hcv : jH 16 (T.getD 2 undef) = true) : jc Try.prog O 39 [U] S = some (T.getD 2 undef, S) :=
 yh rfl rfl Try.func39 (by decide) jv.body (by exact h) he (yN (a := T.getD 2 undef) ((show zO Try.prog T W Try.f39.results.toList = zO Try.prog T W [(ResultVar.tmp 2)] from by kernel_rfl).trans (by simp only [zO])) (by kernel_rfl)) hca hcv
end Go.Proofs.Ytbgcphbbchndkaa
namespace Go.Proofs.Ytbgcphbbchndkaa
open Go.Abs
abbrev zA.id : FuncId := 47
noncomputable def zA.code : Code := (Code.seq (Code.region 0 (reg Try.f47 0) false) (Code.seq (Code.seq (Code.region 1 (reg Try.f47 1) false) (Code.cond (Operand.tmp 36) (Code.seq (Code.region 2 (reg Try.f47 2) false) Code.ret) Code.skip)) (Code.seq (Code.region 3 (reg Try.f47 3) false) (Code.seq (Code.seq (Code.region 4 (reg Try.f47 4) false) (Code.cond (Operand.tmp 44) (Code.seq (Code.region 5 (reg Try.f47 5) false) Code.ret) Code.skip)) (Code.seq (Code.seq (Code.region 6 (reg Try.f47 6) false) (Code.cond (Operand.tmp 47) (Code.seq (Code.region 7 (reg Try.f47 7) false) Code.ret) Code.skip)) (Code.seq (Code.region 8 (reg Try.f47 8) false) (Code.seq (Code.region 9 (reg Try.f47 9) false) Code.ret)))))))
theorem zA.body : Try.f47.body = some zA.code := by kernel_rfl
variable (x0 b x2 x3 x4 x5 x6 x7 x8 x9 c d f g i k l m n o p q r s t u w x y z A B C D E F G H I J K L M N P Q R U V W X Y Z a0 a1 a2 a3 a4 a5 a6 a7 a8 a9 : Value) (S : zk)
theorem zA.r0  : jC Try.prog ⟨false, false, false⟩ (jc Try.prog O) (reg Try.f47 0) (reg Try.f47 0).toList ([x0,b,x2,x3,x4,x5,x6,x7,x8,x9,c,d,f,g,i,k,l,m,n,o,p,q,r,s,t,u,w,x,y,z,A,B,C,D,E,F,G,H,I,J,K,L,M,N,P,Q,R,U,V,W,X,Y,Z,a0,a1,a2,a3,a4,a5,a6,a7,a8,a9]) S =
  (zI (J5 (dem x0) S) (fun v0 S1 => some ([x0,v0,Value.bool false,x3,x4,x5,x6,x7,x8,x9,c,d,f,g,i,k,l,m,n,o,p,q,r,s,t,u,w,x,y,z,A,B,C,D,E,F,G,H,I,J,K,L,M,N,P,Q,R,U,V,W,X,Y,Z,a0,a1,a2,a3,a4,a5,a6,a7,a8,a9], S1)) ()) := by
 kernel_rfl
theorem zA.r1  : jC Try.prog ⟨false, false, false⟩ (jc Try.prog O) (reg Try.f47 1) (reg Try.f47 1).toList ([x0,b,x2,x3,x4,x5,x6,x7,x8,x9,c,d,f,g,i,k,l,m,n,o,p,q,r,s,t,u,w,x,y,z,A,B,C,D,E,F,G,H,I,J,K,L,M,N,P,Q,R,U,V,W,X,Y,Z,a0,a1,a2,a3,a4,a5,a6,a7,a8,a9]) S =
  (zI (zy Try.prog 28 b 0 S) (fun v0 S1 => zI (jf Try.prog false 3 v0 S1) (fun v1 S2 => zI (wu Try.prog BinOp.lss 3 v1 (Value.int IntKind.i64 1) S2) (fun v2 S3 => gdK (dem v2) false (zy Try.prog 28 b 0) S3 (fun v4 S4 => gdK (dem v2) false (jf Try.prog false 3 v4) S4 (fun v5 S5 => gdK (dem v2) false (wu Try.prog BinOp.gtr 3 v5 (Value.int IntKind.i64 4095)) S5 (fun v6 S6 => zI (wJ (dem v2) (Value.bool true) v6 S6) (fun v7 S7 => gdK (dem v7) false (zy Try.prog 28 b 1) S7 (fun v9 S8 => gdK (dem v7) false (jf Try.prog false 3 v9) S8 (fun b3 S9 => gdK (dem v7) false (wu Try.prog BinOp.lss 3 b3 (Value.int IntKind.i64 0)) S9 (fun b4 c4 => zI (wJ (dem v7) (Value.bool true) b4 c4) (fun b0 c5 => gdK (dem b0) false (zy Try.prog 28 b 1) c5 (fun b5 c6 => gdK (dem b0) false (jf Try.prog false 3 b5) c6 (fun b6 c7 => gdK (dem b0) false (wu Try.prog BinOp.gtr 3 b6 (Value.int IntKind.i64 6)) c7 (fun b7 c8 => zI (wJ (dem b0) (Value.bool true) b7 c8) (fun b1 c9 => gdK (dem b1) false (zy Try.prog 28 b 2) c9 (fun b8 d0 => gdK (dem b1) false (jf Try.prog false 3 b8) d0 (fun b9 d1 => gdK (dem b1) false (wu Try.prog BinOp.lss 3 b9 (Value.int IntKind.i64 0)) d1 (fun c0 d2 => zI (wJ (dem b1) (Value.bool true) c0 d2) (fun b2 d3 => gdK (dem b2) false (zy Try.prog 28 b 2) d3 (fun c1 d4 => gdK (dem b2) false (jf Try.prog false 3 c1) d4 (fun c2 d5 => gdK (dem b2) false (wu Try.prog BinOp.gtr 3 c2 (Value.int IntKind.i64 255)) d5 (fun c3 d6 => zI (wJ (dem b2) (Value.bool true) c3 d6) (fun d7 d8 => some ([x0,b,x2,x3,x4,x5,x6,x7,x8,v0,v1,v2,dem v2,v4,v5,v6,v7,dem v7,v9,b3,b4,b0,dem b0,b5,b6,b7,b1,dem b1,b8,b9,c0,b2,dem b2,c1,c2,c3,d7,H,I,J,K,L,M,N,P,Q,R,U,V,W,X,Y,Z,a0,a1,a2,a3,a4,a5,a6,a7,a8,a9], d8)) ()) ()) ()) ()) ()) ()) ()) ()) ()) ()) ()) ()) ()) ()) ()) ()) ()) ()) ()) ()) ()) ()) ()) := by
 refine sD Try.f47 1 0 (fun v0 S1 => ?_)
 refine sD Try.f47 1 1 (fun v1 S2 => ?_)
 refine sD Try.f47 1 2 (fun v2 S3 => ?_)
 refine sP Try.f47 1 3 (v := v2) ?_
 refine sG Try.f47 1 4 (j := 3) (fun v4 S4 => ?_)
 refine sG Try.f47 1 5 (j := 3) (fun v5 S5 => ?_)
 refine sG Try.f47 1 6 (j := 3) (fun v6 S6 => ?_)
 refine sD Try.f47 1 7 (fun v7 S7 => ?_)
 refine sP Try.f47 1 8 (v := v7) ?_
 refine sG Try.f47 1 9 (j := 8) (fun v9 S8 => ?_)
 refine sG Try.f47 1 10 (j := 8) (fun b3 S9 => ?_)
 refine sG Try.f47 1 11 (j := 8) (fun b4 c4 => ?_)
 refine sD Try.f47 1 12 (fun b0 c5 => ?_)
 refine sP Try.f47 1 13 (v := b0) ?_
 refine sG Try.f47 1 14 (j := 13) (fun b5 c6 => ?_)
 refine sG Try.f47 1 15 (j := 13) (fun b6 c7 => ?_)
 refine sG Try.f47 1 16 (j := 13) (fun b7 c8 => ?_)
 refine sD Try.f47 1 17 (fun b1 c9 => ?_)
 refine sP Try.f47 1 18 (v := b1) ?_
 refine sG Try.f47 1 19 (j := 18) (fun b8 d0 => ?_)
 refine sG Try.f47 1 20 (j := 18) (fun b9 d1 => ?_)
 refine sG Try.f47 1 21 (j := 18) (fun c0 d2 => ?_)
 refine sD Try.f47 1 22 (fun b2 d3 => ?_)
 refine sP Try.f47 1 23 (v := b2) ?_
 refine sG Try.f47 1 24 (j := 23) (fun c1 d4 => ?_)
 refine sG Try.f47 1 25 (j := 23) (fun c2 d5 => ?_)
 refine sG Try.f47 1 26 (j := 23) (fun c3 d6 => ?_)
 refine sD Try.f47 1 27 (fun d7 d8 => ?_)
 kernel_rfl
theorem zA.r2  : jC Try.prog ⟨false, false, false⟩ (jc Try.prog O) (reg Try.f47 2) (reg Try.f47 2).toList ([x0,b,x2,x3,x4,x5,x6,x7,x8,x9,c,d,f,g,i,k,l,m,n,o,p,q,r,s,t,u,w,x,y,z,A,B,C,D,E,F,G,H,I,J,K,L,M,N,P,Q,R,U,V,W,X,Y,Z,a0,a1,a2,a3,a4,a5,a6,a7,a8,a9]) S =
  ( some ([x0,b,Value.bool false,x3,x4,x5,x6,x7,x8,x9,c,d,f,g,i,k,l,m,n,o,p,q,r,s,t,u,w,x,y,z,A,B,C,D,E,F,G,H,I,J,K,L,M,N,P,Q,R,U,V,W,X,Y,Z,a0,a1,a2,a3,a4,a5,a6,a7,a8,a9], S)) := by
 kernel_rfl
theorem zA.r3  : jC Try.prog ⟨false, false, false⟩ (jc Try.prog O) (reg Try.f47 3) (reg Try.f47 3).toList ([x0,b,x2,x3,x4,x5,x6,x7,x8,x9,c,d,f,g,i,k,l,m,n,o,p,q,r,s,t,u,w,x,y,z,A,B,C,D,E,F,G,H,I,J,K,L,M,N,P,Q,R,U,V,W,X,Y,Z,a0,a1,a2,a3,a4,a5,a6,a7,a8,a9]) S =
  (zI (zy Try.prog 28 b 4 S) (fun v0 S1 => zI (jf Try.prog false 26 v0 S1) (fun v1 S2 => zI ((jc Try.prog O) 61 [(dem v1)] S2) (fun v2 S3 => zI (zU v2 0 S3) (fun v4 S4 => zI (zU (zS 0 v2) 1 S4) (fun v5 S5 => some ([x0,b,x2,v4,v5,x5,x6,x7,x8,x9,c,d,f,g,i,k,l,m,n,o,p,q,r,s,t,u,w,x,y,z,A,B,C,D,E,F,G,zS 1 (zS 0 v2),v0,v1,dem v2,dem v4,dem v5,N,P,Q,R,U,V,W,X,Y,Z,a0,a1,a2,a3,a4,a5,a6,a7,a8,a9], S5)) ()) ()) ()) ()) ()) := by
 kernel_rfl
theorem zA.r4  : jC Try.prog ⟨false, false, false⟩ (jc Try.prog O) (reg Try.f47 4) (reg Try.f47 4).toList ([x0,b,x2,x3,x4,x5,x6,x7,x8,x9,c,d,f,g,i,k,l,m,n,o,p,q,r,s,t,u,w,x,y,z,A,B,C,D,E,F,G,H,I,J,K,L,M,N,P,Q,R,U,V,W,X,Y,Z,a0,a1,a2,a3,a4,a5,a6,a7,a8,a9]) S =
  (zI (wu Try.prog BinOp.neq 3 (dem x4) (Value.int IntKind.i64 0) S) (fun v1 S1 => some ([x0,b,x2,x3,x4,x5,x6,x7,x8,x9,c,d,f,g,i,k,l,m,n,o,p,q,r,s,t,u,w,x,y,z,A,B,C,D,E,F,G,H,I,J,K,L,M,dem x4,v1,Q,R,U,V,W,X,Y,Z,a0,a1,a2,a3,a4,a5,a6,a7,a8,a9], S1)) ()) := by
 kernel_rfl
theorem zA.r5  : jC Try.prog ⟨false, false, false⟩ (jc Try.prog O) (reg Try.f47 5) (reg Try.f47 5).toList ([x0,b,x2,x3,x4,x5,x6,x7,x8,x9,c,d,f,g,i,k,l,m,n,o,p,q,r,s,t,u,w,x,y,z,A,B,C,D,E,F,G,H,I,J,K,L,M,N,P,Q,R,U,V,W,X,Y,Z,a0,a1,a2,a3,a4,a5,a6,a7,a8,a9]) S =
  ( some ([x0,b,Value.bool false,x3,x4,x5,x6,x7,x8,x9,c,d,f,g,i,k,l,m,n,o,p,q,r,s,t,u,w,x,y,z,A,B,C,D,E,F,G,H,I,J,K,L,M,N,P,Q,R,U,V,W,X,Y,Z,a0,a1,a2,a3,a4,a5,a6,a7,a8,a9], S)) := by
 kernel_rfl
theorem zA.r6  : jC Try.prog ⟨false, false, false⟩ (jc Try.prog O) (reg Try.f47 6) (reg Try.f47 6).toList ([x0,b,x2,x3,x4,x5,x6,x7,x8,x9,c,d,f,g,i,k,l,m,n,o,p,q,r,s,t,u,w,x,y,z,A,B,C,D,E,F,G,H,I,J,K,L,M,N,P,Q,R,U,V,W,X,Y,Z,a0,a1,a2,a3,a4,a5,a6,a7,a8,a9]) S =
  (zI (zy Try.prog 28 b 3 S) (fun v0 S1 => zI (jf Try.prog false 3 v0 S1) (fun v1 S2 => zI (wu Try.prog BinOp.eql 3 v1 (Value.int IntKind.i64 0) S2) (fun v2 S3 => some ([x0,b,x2,x3,x4,x5,x6,x7,x8,x9,c,d,f,g,i,k,l,m,n,o,p,q,r,s,t,u,w,x,y,z,A,B,C,D,E,F,G,H,I,J,K,L,M,N,P,v0,v1,v2,V,W,X,Y,Z,a0,a1,a2,a3,a4,a5,a6,a7,a8,a9], S3)) ()) ()) ()) := by
 kernel_rfl
theorem zA.r7  : jC Try.prog ⟨false, false, false⟩ (jc Try.prog O) (reg Try.f47 7) (reg Try.f47 7).toList ([x0,b,x2,x3,x4,x5,x6,x7,x8,x9,c,d,f,g,i,k,l,m,n,o,p,q,r,s,t,u,w,x,y,z,A,B,C,D,E,F,G,H,I,J,K,L,M,N,P,Q,R,U,V,W,X,Y,Z,a0,a1,a2,a3,a4,a5,a6,a7,a8,a9]) S =
  ( some ([x0,b,Value.bool true,x3,x4,x5,x6,x7,x8,x9,c,d,f,g,i,k,l,m,n,o,p,q,r,s,t,u,w,x,y,z,A,B,C,D,E,F,G,H,I,J,K,L,M,N,P,Q,R,U,V,W,X,Y,Z,a0,a1,a2,a3,a4,a5,a6,a7,a8,a9], S)) := by
 kernel_rfl
theorem zA.r8  : jC Try.prog ⟨false, false, false⟩ (jc Try.prog O) (reg Try.f47 8) (reg Try.f47 8).toList ([x0,b,x2,x3,x4,x5,x6,x7,x8,x9,c,d,f,g,i,k,l,m,n,o,p,q,r,s,t,u,w,x,y,z,A,B,C,D,E,F,G,H,I,J,K,L,M,N,P,Q,R,U,V,W,X,Y,Z,a0,a1,a2,a3,a4,a5,a6,a7,a8,a9]) S =
  (zI (zy Try.prog 28 b 3 S) (fun v0 S1 => zI (jf Try.prog false 3 v0 S1) (fun v1 S2 => zI ((jc Try.prog O) 62 [(dem v1)] S2) (fun v2 S3 => zI (zU v2 0 S3) (fun v4 S4 => zI (zU (zS 0 v2) 1 S4) (fun v5 S5 => zI (zU (zS 1 (zS 0 v2)) 2 S5) (fun v6 S6 => zI (zU (zS 2 (zS 1 (zS 0 v2))) 3 S6) (fun v7 S7 => some ([x0,b,x2,x3,x4,v4,v5,v6,v7,x9,c,d,f,g,i,k,l,m,n,o,p,q,r,s,t,u,w,x,y,z,A,B,C,D,E,F,G,H,I,J,K,L,M,N,P,Q,R,U,zS 3 (zS 2 (zS 1 (zS 0 v2))),v0,v1,dem v2,dem v4,dem v5,dem v6,dem v7,a3,a4,a5,a6,a7,a8,a9], S7)) ()) ()) ()) ()) ()) ()) ()) := by
 kernel_rfl
theorem zA.r9  : jC Try.prog ⟨false, false, false⟩ (jc Try.prog O) (reg Try.f47 9) (reg Try.f47 9).toList ([x0,b,x2,x3,x4,x5,x6,x7,x8,x9,c,d,f,g,i,k,l,m,n,o,p,q,r,s,t,u,w,x,y,z,A,B,C,D,E,F,G,H,I,J,K,L,M,N,P,Q,R,U,V,W,X,Y,Z,a0,a1,a2,a3,a4,a5,a6,a7,a8,a9]) S =
  (gdK (dem x8) true (ret x5) S (fun v2 S1 => gdK (dem x8) true (zy Try.prog 28 b 0) S1 (fun v3 S2 => gdK (dem x8) true (jf Try.prog false 3 v3) S2 (fun v4 S3 => gdK (dem x8) true (wu Try.prog BinOp.lss 3 (dem v2) v4) S3 (fun v5 S4 => zI (wJ (dem x8) v5 (Value.bool false) S4) (fun v6 S5 => some ([x0,b,v6,x3,x4,x5,x6,x7,dem x8,x9,c,d,f,g,i,k,l,m,n,o,p,q,r,s,t,u,w,x,y,z,A,B,C,D,E,F,G,H,I,J,K,L,M,N,P,Q,R,U,V,W,X,Y,Z,a0,a1,a2,x8,dem x8,dem v2,v3,v4,v5,dem v6], S5)) ()) ()) ()) ()) ()) := by
 refine sP Try.f47 9 0 (v := x8) ?_
 refine sP Try.f47 9 1 (v := x8) ?_
 refine sG Try.f47 9 2 (j := 1) (fun v2 S1 => ?_)
 refine sG Try.f47 9 3 (j := 1) (fun v3 S2 => ?_)
 refine sG Try.f47 9 4 (j := 1) (fun v4 S3 => ?_)
 refine sG Try.f47 9 5 (j := 1) (fun v5 S4 => ?_)
 refine sD Try.f47 9 6 (fun v6 S5 => ?_)
 refine sP Try.f47 9 7 (v := v6) ?_
 kernel_rfl
theorem zA.rs : type_of% (And.intro @zA.r0 (And.intro @zA.r1 (And.intro @zA.r2 (And.intro @zA.r3 (And.intro @zA.r4 (And.intro @zA.r5 (And.intro @zA.r6 (And.intro @zA.r7 (And.intro @zA.r8 (@zA.r9)))))))))) := And.intro @zA.r0 (And.intro @zA.r1 (And.intro @zA.r2 (And.intro @zA.r3 (And.intro @zA.r4 (And.intro @zA.r5 (And.intro @zA.r6 (And.intro @zA.r7 (And.intro @zA.r8 (@zA.r9)))))))))
theorem zA.runs {x0 : Value} {S S1 : zk} {e : AEx} {T : List Value} (h : zF Try.prog O false zA.code ([x0,undef,undef,undef,undef,undef,undef,undef,undef,undef,undef,undef,undef,undef,undef,undef,undef,undef,undef,undef,undef,undef,undef,undef,undef,undef,undef,undef,undef,undef,undef,undef,undef,undef,undef,undef,undef,undef,undef,undef,undef,undef,undef,undef,undef,undef,undef,undef,undef,undef,undef,undef,undef,undef,undef,undef,undef,undef,undef,undef,undef,undef,undef]) zk.empty = some (e, T, S1)) (he : e = .normal ∨ e = .ret) (hca : [x0].all (jH 16) = true) (hcv : jH 16 (T.getD 2 undef) = true) : jc Try.prog O 47 [x0] S = some (T.getD 2 undef, S) :=
 yh rfl rfl Try.func47 (by decide) zA.body (by exact h) he (yN (a := T.getD 2 undef) ((show zO Try.prog T S1 Try.f47.results.toList = zO Try.prog T S1 [(ResultVar.tmp 2)] from by kernel_rfl).trans (by simp only [zO])) (by kernel_rfl)) hca hcv
end Go.Proofs.Ytbgcphbbchndkaa
namespace Go.Proofs.Ytbgcphbbchndkaa
open Go.Abs
abbrev jP.id : FuncId := 57
noncomputable def jP.code : Code := (Code.seq (Code.region 0 (reg Try.f57 0) false) (Code.seq (Code.region 1 (reg Try.f57 1) false) Code.ret))
theorem jP.body : Try.f57.body = some jP.code := by kernel_rfl
variable (b c d o p q z s t u i k l m n : Value) (S : zk)
theorem jP.r0  : jC Try.prog ⟨false, false, false⟩ (jc Try.prog O) (reg Try.f57 0) (reg Try.f57 0).toList ([b,c,d,o,p,q,z,s,t,u,i,k,l,m,n]) S =
  ( some ([b,c,d,o,p,q,Value.bool false,s,t,u,i,k,l,m,n], S)) := by
 kernel_rfl
theorem jP.r1  : jC Try.prog ⟨false, false, false⟩ (jc Try.prog O) (reg Try.f57 1) (reg Try.f57 1).toList ([b,c,d,o,p,q,z,s,t,u,i,k,l,m,n]) S =
  (zI (wu Try.prog BinOp.geq 3 (dem b) (dem c) S) (fun f g => gdK (dem f) true (ret b) g (fun w A => gdK (dem f) true (ret d) A (fun x B => gdK (dem f) true (wu Try.prog BinOp.leq 3 (dem w) (dem x)) B (fun y C => zI (wJ (dem f) y (Value.bool false) C) (fun r D => some ([b,c,d,o,p,q,r,dem b,dem c,f,dem f,dem w,dem x,y,dem r], D)) ()) ()) ()) ()) ()) := by
 refine sP Try.f57 1 0 (v := b) ?_
 refine sP Try.f57 1 1 (v := c) ?_
 refine sD Try.f57 1 2 (fun f g => ?_)
 refine sP Try.f57 1 3 (v := f) ?_
 refine sG Try.f57 1 4 (j := 3) (fun w A => ?_)
 refine sG Try.f57 1 5 (j := 3) (fun x B => ?_)
 refine sG Try.f57 1 6 (j := 3) (fun y C => ?_)
 refine sD Try.f57 1 7 (fun r D => ?_)
 refine sP Try.f57 1 8 (v := r) ?_
 kernel_rfl
theorem jP.rs : type_of% (And.intro @jP.r0 (@jP.r1)) := And.intro @jP.r0 (@jP.r1)
theorem jP.runs {b c d : Value} {S g : zk} {e : AEx} {T : List Value} (h : zF Try.prog O false jP.code ([b,c,d,undef,undef,undef,undef,undef,undef,undef,undef,undef,undef,undef,undef]) S = some (e, T, g)) (he : e = .normal ∨ e = .ret) : jc Try.prog O 57 [b, c, d] S = some (T.getD 6 undef, g) :=
 yR rfl rfl Try.func57 (by decide) jP.body (by exact h) he (yN (a := T.getD 6 undef) ((show zO Try.prog T g Try.f57.results.toList = zO Try.prog T g [(ResultVar.tmp 6)] from by kernel_rfl).trans (by simp only [zO])) (by kernel_rfl))
end Go.Proofs.Ytbgcphbbchndkaa
namespace Go.Proofs.Ytbgcphbbchndkaa
open Go.Abs
abbrev wF.id : FuncId := 58
noncomputable def wF.code : Code := (Code.seq (Code.region 0 (reg Try.f58 0) false) (Code.seq (Code.region 1 (reg Try.f58 1) false) Code.ret))
theorem wF.body : Try.f58.body = some wF.code := by kernel_rfl
variable (b g w k l m n o p q f : Value) (S : zk)
theorem wF.r0  : jC Try.prog ⟨false, false, false⟩ (jc Try.prog O) (reg Try.f58 0) (reg Try.f58 0).toList ([b,g,w,k,l,m,n,o,p,q,f]) S =
  ( some ([b,g,Value.bool false,k,l,m,n,o,p,q,f], S)) := by
 kernel_rfl
theorem wF.r1  : jC Try.prog ⟨false, false, false⟩ (jc Try.prog O) (reg Try.f58 1) (reg Try.f58 1).toList ([b,g,w,k,l,m,n,o,p,q,f]) S =
  (zI ((jc Try.prog O) 57 [(dem (dem b)), (Value.int IntKind.i64 65536), (Value.int IntKind.i64 268435455)] S) (fun c d => gdK (dem c) true (ret b) d (fun r x => gdK (dem c) true (wu Try.prog BinOp.rem 3 (dem r) (Value.int IntKind.i64 65536)) x (fun s y => gdK (dem c) true (wu Try.prog BinOp.quo 3 s (Value.int IntKind.i64 256)) y (fun t z => gdK (dem c) true (wu Try.prog BinOp.lss 3 t (Value.int IntKind.i64 7)) z (fun u A => zI (wJ (dem c) u (Value.bool false) A) (fun i B => some ([b,g,i,dem b,c,dem c,dem r,s,t,u,dem i], B)) ()) ()) ()) ()) ()) ()) := by
 refine sP Try.f58 1 0 (v := b) ?_
 refine sD Try.f58 1 1 (fun c d => ?_)
 refine sP Try.f58 1 2 (v := c) ?_
 refine sG Try.f58 1 3 (j := 2) (fun r x => ?_)
 refine sG Try.f58 1 4 (j := 2) (fun s y => ?_)
 refine sG Try.f58 1 5 (j := 2) (fun t z => ?_)
 refine sG Try.f58 1 6 (j := 2) (fun u A => ?_)
 refine sD Try.f58 1 7 (fun i B => ?_)
 refine sP Try.f58 1 8 (v := i) ?_
 kernel_rfl
theorem wF.rs : type_of% (And.intro @wF.r0 (@wF.r1)) := And.intro @wF.r0 (@wF.r1)
theorem wF.runs {b : Value} {S d : zk} {e : AEx} {T : List Value} (h : zF Try.prog O false wF.code ([b,undef,undef,undef,undef,undef,undef,undef,undef,undef,undef]) S = some (e, T, d)) (he : e = .normal ∨ e = .ret) : jc Try.prog O 58 [b] S = some (T.getD 2 undef, d) :=
 yR rfl rfl Try.func58 (by decide) wF.body (by exact h) he (yN (a := T.getD 2 undef) ((show zO Try.prog T d Try.f58.results.toList = zO Try.prog T d [(ResultVar.tmp 2)] from by kernel_rfl).trans (by simp only [zO])) (by kernel_rfl))
end Go.Proofs.Ytbgcphbbchndkaa
namespace Go.Proofs.Ytbgcphbbchndkaa
open Go.Abs
abbrev wM.id : FuncId := 59
noncomputable def wM.code : Code := (Code.seq (Code.region 0 (reg Try.f59 0) false) (Code.seq (Code.seq (Code.region 1 (reg Try.f59 1) false) (Code.cond (Operand.tmp 5) (Code.seq (Code.region 2 (reg Try.f59 2) false) Code.ret) Code.skip)) (Code.seq (Code.region 3 (reg Try.f59 3) false) Code.ret)))
theorem wM.body : Try.f59.body = some wM.code := by kernel_rfl
variable (b c l f g i j k : Value) (S : zk)
theorem wM.r0  : jC Try.prog ⟨false, false, false⟩ (jc Try.prog O) (reg Try.f59 0) (reg Try.f59 0).toList ([b,c,l,f,g,i,j,k]) S =
  ( some ([b,c,Value.int IntKind.i64 0,f,g,i,j,k], S)) := by
 kernel_rfl
theorem wM.r1  : jC Try.prog ⟨false, false, false⟩ (jc Try.prog O) (reg Try.f59 1) (reg Try.f59 1).toList ([b,c,l,f,g,i,j,k]) S =
  (zI ((jc Try.prog O) 58 [(dem (dem b))] S) (fun m d => zI (aUn Try.prog UnOp.not m d) (fun n o => some ([b,c,l,dem b,m,n,j,k], o)) ()) ()) := by
 kernel_rfl
theorem wM.r2  : jC Try.prog ⟨false, false, false⟩ (jc Try.prog O) (reg Try.f59 2) (reg Try.f59 2).toList ([b,c,l,f,g,i,j,k]) S =
  ( some ([b,c,Value.int IntKind.i64 0,f,g,i,j,k], S)) := by
 kernel_rfl
theorem wM.r3  : jC Try.prog ⟨false, false, false⟩ (jc Try.prog O) (reg Try.f59 3) (reg Try.f59 3).toList ([b,c,l,f,g,i,j,k]) S =
  (zI (wu Try.prog BinOp.quo 3 (dem b) (Value.int IntKind.i64 65536) S) (fun m d => some ([b,c,m,f,g,i,dem b,dem m], d)) ()) := by
 kernel_rfl
theorem wM.rs : type_of% (And.intro @wM.r0 (And.intro @wM.r1 (And.intro @wM.r2 (@wM.r3)))) := And.intro @wM.r0 (And.intro @wM.r1 (And.intro @wM.r2 (@wM.r3)))
theorem wM.runs {b : Value} {S d : zk} {e : AEx} {T : List Value} (h : zF Try.prog O false wM.code ([b,undef,undef,undef,undef,undef,undef,undef]) S = some (e, T, d)) (he : e = .normal ∨ e = .ret) : jc Try.prog O 59 [b] S = some (T.getD 2 undef, d) :=
 yR rfl rfl Try.func59 (by decide) wM.body (by exact h) he (yN (a := T.getD 2 undef) ((show zO Try.prog T d Try.f59.results.toList = zO Try.prog T d [(ResultVar.tmp 2)] from by kernel_rfl).trans (by simp only [zO])) (by kernel_rfl))
end Go.Proofs.Ytbgcphbbchndkaa
namespace Go.Proofs.Ytbgcphbbchndkaa
open Go.Abs
abbrev jd.id : FuncId := 62
noncomputable def jd.code : Code := (Code.seq (Code.region 0 (reg Try.f62 0) false) (Code.seq (Code.seq (Code.region 1 (reg Try.f62 1) false) (Code.cond (Operand.tmp 10) (Code.seq (Code.region 2 (reg Try.f62 2) false) Code.ret) Code.skip)) (Code.seq (Code.region 3 (reg Try.f62 3) false) (Code.seq (Code.region 4 (reg Try.f62 4) false) Code.ret))))
theorem jd.body : Try.f62.body = some jd.code := by kernel_rfl
variable (a E H I J K b c C G d f g i k l m n o p q r s t u w x y z A B : Value) (S : zk)
theorem jd.r0  : jC Try.prog ⟨false, false, false⟩ (jc Try.prog O) (reg Try.f62 0) (reg Try.f62 0).toList ([a,E,H,I,J,K,b,c,C,G,d,f,g,i,k,l,m,n,o,p,q,r,s,t,u,w,x,y,z,A,B]) S =
  ( some ([a,E,Value.int IntKind.i64 0,Value.int IntKind.i64 0,Value.int IntKind.i64 0,Value.bool false,b,c,C,G,d,f,g,i,k,l,m,n,o,p,q,r,s,t,u,w,x,y,z,A,B], S)) := by
 kernel_rfl
theorem jd.r1  : jC Try.prog ⟨false, false, false⟩ (jc Try.prog O) (reg Try.f62 1) (reg Try.f62 1).toList ([a,E,H,I,J,K,b,c,C,G,d,f,g,i,k,l,m,n,o,p,q,r,s,t,u,w,x,y,z,A,B]) S =
  (zI (wu Try.prog BinOp.lss 3 (dem a) (Value.int IntKind.i64 0) S) (fun R D => some ([a,E,H,I,J,K,b,c,C,dem a,R,f,g,i,k,l,m,n,o,p,q,r,s,t,u,w,x,y,z,A,B], D)) ()) := by
 kernel_rfl
theorem jd.r2  : jC Try.prog ⟨false, false, false⟩ (jc Try.prog O) (reg Try.f62 2) (reg Try.f62 2).toList ([a,E,H,I,J,K,b,c,C,G,d,f,g,i,k,l,m,n,o,p,q,r,s,t,u,w,x,y,z,A,B]) S =
  ( some ([a,E,Value.int IntKind.i64 0,Value.int IntKind.i64 0,Value.int IntKind.i64 0,Value.bool false,b,c,C,G,d,f,g,i,k,l,m,n,o,p,q,r,s,t,u,w,x,y,z,A,B], S)) := by
 kernel_rfl
theorem jd.r3  : jC Try.prog ⟨false, false, false⟩ (jc Try.prog O) (reg Try.f62 3) (reg Try.f62 3).toList ([a,E,H,I,J,K,b,c,C,G,d,f,g,i,k,l,m,n,o,p,q,r,s,t,u,w,x,y,z,A,B]) S =
  (zI (wu Try.prog BinOp.quo 3 (dem a) (Value.int IntKind.i64 65536) S) (fun R D => zI (wu Try.prog BinOp.quo 3 (dem a) (Value.int IntKind.i64 256) D) (fun Y U => zI (wu Try.prog BinOp.rem 3 Y (Value.int IntKind.i64 256) U) (fun F V => zI (wu Try.prog BinOp.rem 3 (dem a) (Value.int IntKind.i64 256) V) (fun N W => some ([a,E,H,I,J,K,R,F,N,G,d,dem a,dem R,dem a,Y,dem F,dem a,dem N,o,p,q,r,s,t,u,w,x,y,z,A,B], W)) ()) ()) ()) ()) := by
 kernel_rfl
theorem jd.r4  : jC Try.prog ⟨false, false, false⟩ (jc Try.prog O) (reg Try.f62 4) (reg Try.f62 4).toList ([a,E,H,I,J,K,b,c,C,G,d,f,g,i,k,l,m,n,o,p,q,r,s,t,u,w,x,y,z,A,B]) S =
  (zI (wu Try.prog BinOp.geq 3 (dem (dem b)) (Value.int IntKind.i64 1) S) (fun F D => gdK (dem F) true (ret (dem b)) D (fun N U => gdK (dem F) true (wu Try.prog BinOp.leq 3 (dem N) (Value.int IntKind.i64 4095)) U (fun X V => zI (wJ (dem F) X (Value.bool false) V) (fun L W => gdK (dem L) true (ret (dem c)) W (fun P Z => gdK (dem L) true (wu Try.prog BinOp.leq 3 (dem P) (Value.int IntKind.i64 6)) Z (fun Q S6 => zI (wJ (dem L) Q (Value.bool false) S6) (fun M S7 => some ([a,E,b,c,C,M,dem b,dem c,dem C,G,d,f,g,i,k,l,m,n,dem b,dem c,dem C,dem (dem b),F,dem F,dem N,X,L,dem L,dem P,Q,dem M], S7)) ()) ()) ()) ()) ()) ()) ()) := by
 refine sP Try.f62 4 0 (v := b) ?_
 refine sP Try.f62 4 1 (v := c) ?_
 refine sP Try.f62 4 2 (v := C) ?_
 refine sP Try.f62 4 3 (v := (dem b)) ?_
 refine sD Try.f62 4 4 (fun F D => ?_)
 refine sP Try.f62 4 5 (v := F) ?_
 refine sG Try.f62 4 6 (j := 5) (fun N U => ?_)
 refine sG Try.f62 4 7 (j := 5) (fun X V => ?_)
 refine sD Try.f62 4 8 (fun L W => ?_)
 refine sP Try.f62 4 9 (v := L) ?_
 refine sG Try.f62 4 10 (j := 9) (fun P Z => ?_)
 refine sG Try.f62 4 11 (j := 9) (fun Q S6 => ?_)
 refine sD Try.f62 4 12 (fun M S7 => ?_)
 refine sP Try.f62 4 13 (v := b) ?_
 refine sP Try.f62 4 14 (v := c) ?_
 refine sP Try.f62 4 15 (v := C) ?_
 refine sP Try.f62 4 16 (v := M) ?_
 kernel_rfl
theorem jd.rs : type_of% (And.intro @jd.r0 (And.intro @jd.r1 (And.intro @jd.r2 (And.intro @jd.r3 (@jd.r4))))) := And.intro @jd.r0 (And.intro @jd.r1 (And.intro @jd.r2 (And.intro @jd.r3 (@jd.r4))))
theorem jd.runs {a : Value} {S D : zk} {e : AEx} {T : List Value} (h : zF Try.prog O false jd.code ([a,undef,undef,undef,undef,undef,undef,undef,undef,undef,undef,undef,undef,undef,undef,undef,undef,undef,undef,undef,undef,undef,undef,undef,undef,undef,undef,undef,undef,undef,undef]) S = some (e, T, D)) (he : e = .normal ∨ e = .ret)  (h0 : jW (T.getD 2 undef) = true) (h1 : jW (T.getD 3 undef) = true) (h2 : jW (T.getD 4 undef) = true) (h3 : jW (T.getD 5 undef) = true) : jc Try.prog O 62 [a] S = some (Value.tuple #[T.getD 2 undef, T.getD 3 undef, T.getD 4 undef, T.getD 5 undef], D) :=
 yR rfl rfl Try.func62 (by decide) jd.body (by exact h) he ((yP ((show zO Try.prog T D Try.f62.results.toList = zO Try.prog T D [(ResultVar.tmp 2), (ResultVar.tmp 3), (ResultVar.tmp 4), (ResultVar.tmp 5)] from by kernel_rfl).trans (by simp only [zO])) (by kernel_rfl) (by simp only [List.all_cons, List.all_nil, h0, h1, h2, h3, Bool.and_true])).trans rfl)
end Go.Proofs.Ytbgcphbbchndkaa
namespace Go.Proofs.Ytbgcphbbchndkaa
open Go.Abs
def btw (n a b : Int) : Bool := decide (a ≤ n) && decide (n ≤ b)
theorem Qp {n a b : Int} : btw n a b = true ↔ a ≤ n ∧ n ≤ b := by simp [btw]
def kM (n : Int) : Bool := btw n 65536 268435455 && decide (n % 65536 / 256 < 7)
theorem xE {n : Int} : kM n = true ↔ 65536 ≤ n ∧ n ≤ 268435455 ∧ n % 65536 / 256 < 7 := by simp [kM, btw, and_assoc]
def Yl (n : Int) : Int := if kM n = true then n / 65536 else 0
theorem Xe {n m : Int} (h : 0 ≤ n) : n.tmod m = n % m := Int.tmod_eq_emod_of_nonneg h
theorem Ya {n m : Int} (h : 0 ≤ n) : n.tdiv m = n / m := Int.tdiv_eq_ediv_of_nonneg h
theorem YJ : (65536 : Int) ≠ 0 := by decide
theorem ahO : (256 : Int) ≠ 0 := by decide
theorem jP.v (n a b : Int) (S : zk) : jc Try.prog O jP.id [.int .i64 n, .int .i64 a, .int .i64 b] S = some (.bool (btw n a b), S) := by
 obtain ⟨T, hTe⟩ : ∃ T, T = (.int .i64 n :: .int .i64 a :: .int .i64 b :: undef :: undef :: undef :: undef :: undef :: undef :: undef :: undef :: undef :: undef :: undef :: undef :: []) := ⟨_, rfl⟩
 have hr : zF Try.prog O false jP.code T S = zF Try.prog O false jP.code T S := rfl
 unfold btw
 by_cases h1 : a ≤ n
 ·
  conv at hr =>
   rhs
   rw [hTe]
   simp only [jP.code, jP.rs, zSs, reduceIte, Nat.reduceEqDiff, Int.reduceEq, Int.reduceLT, Int.reduceLE, decide_eq_true h1]
  rw [decide_eq_true h1, Bool.true_and]
  rw [hTe] at hr
  exact jP.runs hr (.inr rfl)
 ·
  conv at hr =>
   rhs
   rw [hTe]
   simp only [jP.code, jP.rs, zSs, reduceIte, Nat.reduceEqDiff, Int.reduceEq, Int.reduceLT, Int.reduceLE, decide_eq_false h1]
  rw [decide_eq_false h1, Bool.false_and]
  rw [hTe] at hr
  exact jP.runs hr (.inr rfl)
theorem wF.v (n : Int) (S : zk) : jc Try.prog O wF.id [.int .i64 n] S = some (.bool (kM n), S) := by
 obtain ⟨T, hTe⟩ : ∃ T, T = (.int .i64 n :: undef :: undef :: undef :: undef :: undef :: undef :: undef :: undef :: undef :: undef :: []) := ⟨_, rfl⟩
 have hr : zF Try.prog O false wF.code T S = zF Try.prog O false wF.code T S := rfl
 unfold kM
 cases h1 : btw n 65536 268435455
 ·
  conv at hr =>
   rhs
   rw [hTe]
   simp only [wF.code, wF.rs, zSs, reduceIte, Nat.reduceEqDiff, Int.reduceEq, Int.reduceLT, Int.reduceLE, jP.v, h1]
  rw [hTe] at hr
  exact wF.runs hr (.inr rfl)
 ·
  have hb := Qp.mp h1
  have q1 : IntKind.i64.wrap ((n.tmod 65536).tdiv 256) = n % 65536 / 256 := by
   rw [Xe (by omega), Ya (by omega), wrap_i64 (by omega) (by omega)]
  conv at hr =>
   rhs
   rw [hTe]
   simp only [wF.code, wF.rs, zSs, reduceIte, Nat.reduceEqDiff, Int.reduceEq, Int.reduceLT, Int.reduceLE, jP.v, h1, JJ _ _ _ YJ, xg _ _ _ ahO, q1]
  rw [hTe] at hr
  rw [Bool.true_and]
  exact wF.runs hr (.inr rfl)
theorem wM.v (n : Int) (S : zk) : jc Try.prog O wM.id [.int .i64 n] S = some (.int .i64 (Yl n), S) := by
 obtain ⟨T, hTe⟩ : ∃ T, T = (.int .i64 n :: undef :: undef :: undef :: undef :: undef :: undef :: undef :: []) := ⟨_, rfl⟩
 have hr : zF Try.prog O false wM.code T S = zF Try.prog O false wM.code T S := rfl
 unfold Yl
 cases h1 : kM n
 ·
  conv at hr =>
   rhs
   rw [hTe]
   simp only [wM.code, wM.rs, zSs, reduceIte, Nat.reduceEqDiff, Int.reduceEq, Int.reduceLT, Int.reduceLE, wF.v, h1]
  rw [hTe] at hr
  exact wM.runs hr (.inr rfl)
 ·
  have hb := xE.mp h1
  have q1 : IntKind.i64.wrap (n.tdiv 65536) = n / 65536 := by
   rw [Ya (by omega), wrap_i64 (by omega) (by omega)]
  conv at hr =>
   rhs
   rw [hTe]
   simp only [wM.code, wM.rs, zSs, reduceIte, Nat.reduceEqDiff, Int.reduceEq, Int.reduceLT, Int.reduceLE, wF.v, h1, xg _ _ _ YJ, q1]
  rw [hTe] at hr
  exact wM.runs hr (.inr rfl)
def aai (n : Int) : Value := if n < 0 then .tuple #[.int .i64 0, .int .i64 0, .int .i64 0, .bool false] else .tuple #[.int .i64 (n / 65536), .int .i64 (n / 256 % 256), .int .i64 (n % 256), .bool (kM n)]
theorem jd.v (n : Int) (hn : n < 9223372036854775808) (S : zk) : jc Try.prog O jd.id [.int .i64 n] S = some (aai n, S) := by
 obtain ⟨T, hTe⟩ : ∃ T, T = (.int .i64 n :: undef :: undef :: undef :: undef :: undef :: undef :: undef :: undef :: undef :: undef :: undef :: undef :: undef :: undef :: undef :: undef :: undef :: undef :: undef :: undef :: undef :: undef :: undef :: undef :: undef :: undef :: undef :: undef :: undef :: undef :: []) := ⟨_, rfl⟩
 have hr : zF Try.prog O false jd.code T S = zF Try.prog O false jd.code T S := rfl
 unfold aai
 by_cases h0 : n < 0
 ·
  conv at hr =>
   rhs
   rw [hTe]
   simp only [jd.code, jd.rs, zSs, reduceIte, Nat.reduceEqDiff, Int.reduceEq, Int.reduceLT, Int.reduceLE, decide_eq_true h0]
  rw [hTe] at hr
  rw [if_pos h0]
  exact jd.runs hr (.inr rfl) rfl rfl rfl rfl
 ·
  have q1 : IntKind.i64.wrap (n.tdiv 65536) = n / 65536 := by
   rw [Ya (by omega), wrap_i64 (by omega) (by omega)]
  have q2 : (IntKind.i64.wrap (n.tdiv 256)).tmod 256 = n / 256 % 256 := by
   rw [Ya (by omega), wrap_i64 (by omega) (by omega), Xe (by omega)]
  have q3 : n.tmod 256 = n % 256 := Xe (by omega)
  rw [if_neg h0]
  by_cases h1 : 1 ≤ n / 65536
  ·
   by_cases h2 : n / 65536 ≤ 4095
   ·
    have e : kM n = decide (n / 256 % 256 ≤ 6) := by
     rw [Bool.eq_iff_iff, xE]; simp; omega
    rw [e]
    conv at hr =>
     rhs
     rw [hTe]
     simp only [jd.code, jd.rs, zSs, reduceIte, Nat.reduceEqDiff, Int.reduceEq, Int.reduceLT, Int.reduceLE, decide_eq_false h0, JJ _ _ _ ahO, xg _ _ _ ahO, xg _ _ _ YJ, q1, q2, q3, decide_eq_true h1, decide_eq_true h2]
    rw [hTe] at hr
    exact jd.runs hr (.inr rfl) rfl rfl rfl rfl
   ·
    have e : kM n = false := by
     cases h : kM n with
     | false => rfl
     | true => have := xE.mp h; omega
    rw [e]
    conv at hr =>
     rhs
     rw [hTe]
     simp only [jd.code, jd.rs, zSs, reduceIte, Nat.reduceEqDiff, Int.reduceEq, Int.reduceLT, Int.reduceLE, decide_eq_false h0, JJ _ _ _ ahO, xg _ _ _ ahO, xg _ _ _ YJ, q1, q2, q3, decide_eq_true h1, decide_eq_false h2]
    rw [hTe] at hr
    exact jd.runs hr (.inr rfl) rfl rfl rfl rfl
  ·
   have e : kM n = false := by
    cases h : kM n with
    | false => rfl
    | true => have := xE.mp h; omega
   rw [e]
   conv at hr =>
    rhs
    rw [hTe]
    simp only [jd.code, jd.rs, zSs, reduceIte, Nat.reduceEqDiff, Int.reduceEq, Int.reduceLT, Int.reduceLE, decide_eq_false h0, JJ _ _ _ ahO, xg _ _ _ ahO, xg _ _ _ YJ, q1, q2, q3, decide_eq_false h1]
   rw [hTe] at hr
   exact jd.runs hr (.inr rfl) rfl rfl rfl rfl
end Go.Proofs.Ytbgcphbbchndkaa
namespace Go.Proofs.Ytbgcphbbchndkaa
open Go.Abs
abbrev zL.id : FuncId := 65
noncomputable def zL.jI : Code := (Code.seq (Code.region 6 (reg Try.f65 6) false) (Code.seq (Code.cond (Operand.tmp 35) Code.skip (Code.exit 0)) (Code.seq (Code.block 1 (Code.seq (Code.region 7 (reg Try.f65 7) false) (Code.seq (Code.seq (Code.region 8 (reg Try.f65 8) false) (Code.cond (Operand.tmp 43) (Code.seq (Code.region 9 (reg Try.f65 9) false) Code.ret) Code.skip)) (Code.seq (Code.region 10 (reg Try.f65 10) false) (Code.region 11 (reg Try.f65 11) false))))) (Code.region 12 (reg Try.f65 12) false))))
noncomputable def zL.code : Code := (Code.seq (Code.region 0 (reg Try.f65 0) false) (Code.seq (Code.region 1 (reg Try.f65 1) false) (Code.seq (Code.seq (Code.region 2 (reg Try.f65 2) false) (Code.cond (Operand.tmp 30) (Code.seq (Code.region 3 (reg Try.f65 3) false) Code.ret) Code.skip)) (Code.seq (Code.region 4 (reg Try.f65 4) false) (Code.seq (Code.seq (Code.region 5 (reg Try.f65 5) false) (Code.block 0 (Code.loop zL.jI))) (Code.seq (Code.seq (Code.region 13 (reg Try.f65 13) false) (Code.cond (Operand.tmp 57) (Code.seq (Code.region 14 (reg Try.f65 14) false) Code.ret) Code.skip)) (Code.seq (Code.region 15 (reg Try.f65 15) false) Code.ret)))))))
theorem zL.body : Try.f65.body = some zL.code := by kernel_rfl
theorem zL.eta {T : List Value} (h : T.length = 59) : T = [T.getD 0 undef,T.getD 1 undef,T.getD 2 undef,T.getD 3 undef,T.getD 4 undef,T.getD 5 undef,T.getD 6 undef,T.getD 7 undef,T.getD 8 undef,T.getD 9 undef,T.getD 10 undef,T.getD 11 undef,T.getD 12 undef,T.getD 13 undef,T.getD 14 undef,T.getD 15 undef,T.getD 16 undef,T.getD 17 undef,T.getD 18 undef,T.getD 19 undef,T.getD 20 undef,T.getD 21 undef,T.getD 22 undef,T.getD 23 undef,T.getD 24 undef,T.getD 25 undef,T.getD 26 undef,T.getD 27 undef,T.getD 28 undef,T.getD 29 undef,T.getD 30 undef,T.getD 31 undef,T.getD 32 undef,T.getD 33 undef,T.getD 34 undef,T.getD 35 undef,T.getD 36 undef,T.getD 37 undef,T.getD 38 undef,T.getD 39 undef,T.getD 40 undef,T.getD 41 undef,T.getD 42 undef,T.getD 43 undef,T.getD 44 undef,T.getD 45 undef,T.getD 46 undef,T.getD 47 undef,T.getD 48 undef,T.getD 49 undef,T.getD 50 undef,T.getD 51 undef,T.getD 52 undef,T.getD 53 undef,T.getD 54 undef,T.getD 55 undef,T.getD 56 undef,T.getD 57 undef,T.getD 58 undef] := (qw T 59 h).trans (by kernel_rfl)
variable (x0 x1 x2 x3 x4 x5 x6 x7 x8 x9 a d f g i k l m n o p q r s t u w x y z A B C b c D E F G H I J K L M N P Q R U V W X Y Z a0 a1 a2 a3 : Value) (S : zk)
theorem zL.r0  : jC Try.prog ⟨false, false, false⟩ (jc Try.prog O) (reg Try.f65 0) (reg Try.f65 0).toList ([x0,x1,x2,x3,x4,x5,x6,x7,x8,x9,a,d,f,g,i,k,l,m,n,o,p,q,r,s,t,u,w,x,y,z,A,B,C,b,c,D,E,F,G,H,I,J,K,L,M,N,P,Q,R,U,V,W,X,Y,Z,a0,a1,a2,a3]) S =
  ( some ([x0,x1,Value.slice none 0 0,Value.int IntKind.i64 0,x4,x5,x6,x7,x8,x9,a,d,f,g,i,k,l,m,n,o,p,q,r,s,t,u,w,x,y,z,A,B,C,b,c,D,E,F,G,H,I,J,K,L,M,N,P,Q,R,U,V,W,X,Y,Z,a0,a1,a2,a3], S)) := by
 kernel_rfl
theorem zL.r1  : jC Try.prog ⟨false, false, false⟩ (jc Try.prog O) (reg Try.f65 1) (reg Try.f65 1).toList ([x0,x1,x2,x3,x4,x5,x6,x7,x8,x9,a,d,f,g,i,k,l,m,n,o,p,q,r,s,t,u,w,x,y,z,A,B,C,b,c,D,E,F,G,H,I,J,K,L,M,N,P,Q,R,U,V,W,X,Y,Z,a0,a1,a2,a3]) S =
  (zI ((jc Try.prog O) 51 [(dem (dem x0)), (Value.int IntKind.i64 1)] S) (fun v1 S1 => zI (zU v1 0 S1) (fun v3 S2 => zI (zU (zS 0 v1) 1 S2) (fun v4 S3 => zI (zU (zS 1 (zS 0 v1)) 2 S3) (fun v5 S4 => some ([x0,x1,x2,x3,v3,v4,v5,x7,x8,x9,a,zS 2 (zS 1 (zS 0 v1)),dem x0,dem v1,dem v3,dem v4,dem v5,m,n,o,p,q,r,s,t,u,w,x,y,z,A,B,C,b,c,D,E,F,G,H,I,J,K,L,M,N,P,Q,R,U,V,W,X,Y,Z,a0,a1,a2,a3], S4)) ()) ()) ()) ()) := by
 kernel_rfl
theorem zL.r2  : jC Try.prog ⟨false, false, false⟩ (jc Try.prog O) (reg Try.f65 2) (reg Try.f65 2).toList ([x0,x1,x2,x3,x4,x5,x6,x7,x8,x9,a,d,f,g,i,k,l,m,n,o,p,q,r,s,t,u,w,x,y,z,A,B,C,b,c,D,E,F,G,H,I,J,K,L,M,N,P,Q,R,U,V,W,X,Y,Z,a0,a1,a2,a3]) S =
  (zI (wu Try.prog BinOp.neq 31 (dem x6) (Value.int IntKind.i64 0) S) (fun v1 S1 => gdK (dem v1) false (ret x4) S1 (fun v3 S2 => gdK (dem v1) false (jo Try.prog 57 (dem v3) (Value.int IntKind.i64 0)) S2 (fun v4 S3 => gdK (dem v1) false (jf Try.prog false 3 v4) S3 (fun v5 S4 => gdK (dem v1) false (wu Try.prog BinOp.lss 3 v5 (Value.int IntKind.i64 0)) S4 (fun v6 S5 => zI (wJ (dem v1) (Value.bool true) v6 S5) (fun v7 S6 => gdK (dem v7) false (ret x4) S6 (fun v9 S7 => gdK (dem v7) false (jo Try.prog 57 (dem v9) (Value.int IntKind.i64 0)) S7 (fun a4 S8 => gdK (dem v7) false (jf Try.prog false 3 a4) S8 (fun a5 S9 => gdK (dem v7) false (wu Try.prog BinOp.gtr 3 a5 (Value.int IntKind.i64 3)) S9 (fun a6 a7 => zI (wJ (dem v7) (Value.bool true) a6 a7) (fun a8 a9 => some ([x0,x1,x2,x3,x4,x5,x6,x7,x8,x9,a,d,f,g,i,k,l,dem x6,v1,dem v1,dem v3,v4,v5,v6,v7,dem v7,dem v9,a4,a5,a6,a8,B,C,b,c,D,E,F,G,H,I,J,K,L,M,N,P,Q,R,U,V,W,X,Y,Z,a0,a1,a2,a3], a9)) ()) ()) ()) ()) ()) ()) ()) ()) ()) ()) ()) := by
 refine sP Try.f65 2 0 (v := x6) ?_
 refine sD Try.f65 2 1 (fun v1 S1 => ?_)
 refine sP Try.f65 2 2 (v := v1) ?_
 refine sG Try.f65 2 3 (j := 2) (fun v3 S2 => ?_)
 refine sG Try.f65 2 4 (j := 2) (fun v4 S3 => ?_)
 refine sG Try.f65 2 5 (j := 2) (fun v5 S4 => ?_)
 refine sG Try.f65 2 6 (j := 2) (fun v6 S5 => ?_)
 refine sD Try.f65 2 7 (fun v7 S6 => ?_)
 refine sP Try.f65 2 8 (v := v7) ?_
 refine sG Try.f65 2 9 (j := 8) (fun v9 S7 => ?_)
 refine sG Try.f65 2 10 (j := 8) (fun a4 S8 => ?_)
 refine sG Try.f65 2 11 (j := 8) (fun a5 S9 => ?_)
 refine sG Try.f65 2 12 (j := 8) (fun a6 a7 => ?_)
 refine sD Try.f65 2 13 (fun a8 a9 => ?_)
 kernel_rfl
theorem zL.r3  : jC Try.prog ⟨false, false, false⟩ (jc Try.prog O) (reg Try.f65 3) (reg Try.f65 3).toList ([x0,x1,x2,x3,x4,x5,x6,x7,x8,x9,a,d,f,g,i,k,l,m,n,o,p,q,r,s,t,u,w,x,y,z,A,B,C,b,c,D,E,F,G,H,I,J,K,L,M,N,P,Q,R,U,V,W,X,Y,Z,a0,a1,a2,a3]) S =
  ( some ([x0,x1,Value.slice none 0 0,Value.int IntKind.i64 61,x4,x5,x6,x7,x8,x9,a,d,f,g,i,k,l,m,n,o,p,q,r,s,t,u,w,x,y,z,A,B,C,b,c,D,E,F,G,H,I,J,K,L,M,N,P,Q,R,U,V,W,X,Y,Z,a0,a1,a2,a3], S)) := by
 kernel_rfl
theorem zL.r4  : jC Try.prog ⟨false, false, false⟩ (jc Try.prog O) (reg Try.f65 4) (reg Try.f65 4).toList ([x0,x1,x2,x3,x4,x5,x6,x7,x8,x9,a,d,f,g,i,k,l,m,n,o,p,q,r,s,t,u,w,x,y,z,A,B,C,b,c,D,E,F,G,H,I,J,K,L,M,N,P,Q,R,U,V,W,X,Y,Z,a0,a1,a2,a3]) S =
  ( some ([x0,x1,x2,x3,x4,x5,x6,Value.slice none 0 0,x8,x9,a,d,f,g,i,k,l,m,n,o,p,q,r,s,t,u,w,x,y,z,A,B,C,b,c,D,E,F,G,H,I,J,K,L,M,N,P,Q,R,U,V,W,X,Y,Z,a0,a1,a2,a3], S)) := by
 kernel_rfl
theorem zL.r5  : jC Try.prog ⟨false, false, false⟩ (jc Try.prog O) (reg Try.f65 5) (reg Try.f65 5).toList ([x0,x1,x2,x3,x4,x5,x6,x7,x8,x9,a,d,f,g,i,k,l,m,n,o,p,q,r,s,t,u,w,x,y,z,A,B,C,b,c,D,E,F,G,H,I,J,K,L,M,N,P,Q,R,U,V,W,X,Y,Z,a0,a1,a2,a3]) S =
  (zI (jo Try.prog 57 (dem x4) (Value.int IntKind.i64 0) S) (fun v1 S1 => zI (jf Try.prog false 3 v1 S1) (fun v2 S2 => some ([x0,x1,x2,x3,x4,x5,x6,x7,x8,x9,a,d,f,g,i,k,l,m,n,o,p,q,r,s,t,u,w,x,y,z,A,dem x4,v1,v2,Value.int IntKind.i64 0,D,E,F,G,H,I,J,K,L,M,N,P,Q,R,U,V,W,X,Y,Z,a0,a1,a2,a3], S2)) ()) ()) := by
 kernel_rfl
theorem zL.r6  : jC Try.prog ⟨false, false, false⟩ (jc Try.prog O) (reg Try.f65 6) (reg Try.f65 6).toList ([x0,x1,x2,x3,x4,x5,x6,x7,x8,x9,a,d,f,g,i,k,l,m,n,o,p,q,r,s,t,u,w,x,y,z,A,B,C,b,c,D,E,F,G,H,I,J,K,L,M,N,P,Q,R,U,V,W,X,Y,Z,a0,a1,a2,a3]) S =
  (zI (wu Try.prog BinOp.lss 3 c b S) (fun v0 S1 => some ([x0,x1,x2,x3,x4,x5,x6,x7,x8,x9,a,d,f,g,i,k,l,m,n,o,p,q,r,s,t,u,w,x,y,z,A,B,C,b,c,v0,E,F,G,H,I,J,K,L,M,N,P,Q,R,U,V,W,X,Y,Z,a0,a1,a2,a3], S1)) ()) := by
 kernel_rfl
theorem zL.r7  : jC Try.prog ⟨false, false, false⟩ (jc Try.prog O) (reg Try.f65 7) (reg Try.f65 7).toList ([x0,x1,x2,x3,x4,x5,x6,x7,x8,x9,a,d,f,g,i,k,l,m,n,o,p,q,r,s,t,u,w,x,y,z,A,B,C,b,c,D,E,F,G,H,I,J,K,L,M,N,P,Q,R,U,V,W,X,Y,Z,a0,a1,a2,a3]) S =
  (zI ((jc Try.prog O) 64 [(dem (dem x5))] S) (fun v1 S1 => zI (zU v1 0 S1) (fun v3 S2 => zI (zU (zS 0 v1) 1 S2) (fun v4 S3 => zI (zU (zS 1 (zS 0 v1)) 2 S3) (fun v5 S4 => zI (yF Try.prog 25 S4) (fun v6 S5 => zI (wH Try.prog 25 v6 (dem v3) S5) (fun v7 S6 => some ([x0,x1,x2,x3,x4,x5,x6,x7,v6,v4,v5,d,f,g,i,k,l,m,n,o,p,q,r,s,t,u,w,x,y,z,A,B,C,b,c,D,zS 2 (zS 1 (zS 0 v1)),dem x5,dem v1,v3,dem v4,dem v5,K,L,M,N,P,Q,R,U,V,W,X,Y,Z,a0,a1,a2,a3], S6)) ()) ()) ()) ()) ()) ()) := by
 kernel_rfl
theorem zL.r8  : jC Try.prog ⟨false, false, false⟩ (jc Try.prog O) (reg Try.f65 8) (reg Try.f65 8).toList ([x0,x1,x2,x3,x4,x5,x6,x7,x8,x9,a,d,f,g,i,k,l,m,n,o,p,q,r,s,t,u,w,x,y,z,A,B,C,b,c,D,E,F,G,H,I,J,K,L,M,N,P,Q,R,U,V,W,X,Y,Z,a0,a1,a2,a3]) S =
  (zI (aUn Try.prog UnOp.not (dem a) S) (fun v1 S1 => some ([x0,x1,x2,x3,x4,x5,x6,x7,x8,x9,a,d,f,g,i,k,l,m,n,o,p,q,r,s,t,u,w,x,y,z,A,B,C,b,c,D,E,F,G,H,I,J,dem a,v1,M,N,P,Q,R,U,V,W,X,Y,Z,a0,a1,a2,a3], S1)) ()) := by
 kernel_rfl
theorem zL.r9  : jC Try.prog ⟨false, false, false⟩ (jc Try.prog O) (reg Try.f65 9) (reg Try.f65 9).toList ([x0,x1,x2,x3,x4,x5,x6,x7,x8,x9,a,d,f,g,i,k,l,m,n,o,p,q,r,s,t,u,w,x,y,z,A,B,C,b,c,D,E,F,G,H,I,J,K,L,M,N,P,Q,R,U,V,W,X,Y,Z,a0,a1,a2,a3]) S =
  ( some ([x0,x1,Value.slice none 0 0,Value.int IntKind.i64 61,x4,x5,x6,x7,x8,x9,a,d,f,g,i,k,l,m,n,o,p,q,r,s,t,u,w,x,y,z,A,B,C,b,c,D,E,F,G,H,I,J,K,L,M,N,P,Q,R,U,V,W,X,Y,Z,a0,a1,a2,a3], S)) := by
 kernel_rfl
theorem zL.r10  : jC Try.prog ⟨false, false, false⟩ (jc Try.prog O) (reg Try.f65 10) (reg Try.f65 10).toList ([x0,x1,x2,x3,x4,x5,x6,x7,x8,x9,a,d,f,g,i,k,l,m,n,o,p,q,r,s,t,u,w,x,y,z,A,B,C,b,c,D,E,F,G,H,I,J,K,L,M,N,P,Q,R,U,V,W,X,Y,Z,a0,a1,a2,a3]) S =
  (zI (jf Try.prog false 25 x8 S) (fun v1 S1 => zI (jR Try.prog 26 1 [(0, v1)] S1) (fun v2 S2 => zI (wY Try.prog 26 26 x7 v2 S2) (fun v3 S3 => some ([x0,x1,x2,x3,x4,x5,x6,v3,x8,x9,a,d,f,g,i,k,l,m,n,o,p,q,r,s,t,u,w,x,y,z,A,B,C,b,c,D,E,F,G,H,I,J,K,L,dem x7,v1,v2,dem v3,R,U,V,W,X,Y,Z,a0,a1,a2,a3], S3)) ()) ()) ()) := by
 kernel_rfl
theorem zL.r11  : jC Try.prog ⟨false, false, false⟩ (jc Try.prog O) (reg Try.f65 11) (reg Try.f65 11).toList ([x0,x1,x2,x3,x4,x5,x6,x7,x8,x9,a,d,f,g,i,k,l,m,n,o,p,q,r,s,t,u,w,x,y,z,A,B,C,b,c,D,E,F,G,H,I,J,K,L,M,N,P,Q,R,U,V,W,X,Y,Z,a0,a1,a2,a3]) S =
  ( some ([x0,x1,x2,x3,x4,x9,x6,x7,x8,dem x9,a,d,f,g,i,k,l,m,n,o,p,q,r,s,t,u,w,x,y,z,A,B,C,b,c,D,E,F,G,H,I,J,K,L,M,N,P,Q,dem x9,U,V,W,X,Y,Z,a0,a1,a2,a3], S)) := by
 kernel_rfl
theorem zL.r12  : jC Try.prog ⟨false, false, false⟩ (jc Try.prog O) (reg Try.f65 12) (reg Try.f65 12).toList ([x0,x1,x2,x3,x4,x5,x6,x7,x8,x9,a,d,f,g,i,k,l,m,n,o,p,q,r,s,t,u,w,x,y,z,A,B,C,b,c,D,E,F,G,H,I,J,K,L,M,N,P,Q,R,U,V,W,X,Y,Z,a0,a1,a2,a3]) S =
  (zI (wu Try.prog BinOp.add 3 c (Value.int IntKind.i64 1) S) (fun v0 S1 => some ([x0,x1,x2,x3,x4,x5,x6,x7,x8,x9,a,d,f,g,i,k,l,m,n,o,p,q,r,s,t,u,w,x,y,z,A,B,C,b,dem v0,D,E,F,G,H,I,J,K,L,M,N,P,Q,R,v0,V,W,X,Y,Z,a0,a1,a2,a3], S1)) ()) := by
 kernel_rfl
theorem zL.r13  : jC Try.prog ⟨false, false, false⟩ (jc Try.prog O) (reg Try.f65 13) (reg Try.f65 13).toList ([x0,x1,x2,x3,x4,x5,x6,x7,x8,x9,a,d,f,g,i,k,l,m,n,o,p,q,r,s,t,u,w,x,y,z,A,B,C,b,c,D,E,F,G,H,I,J,K,L,M,N,P,Q,R,U,V,W,X,Y,Z,a0,a1,a2,a3]) S =
  (zI (Zz Try.prog 23 (dem x5) S) (fun v1 S1 => zI (wu Try.prog BinOp.gtr 3 v1 (Value.int IntKind.i64 0) S1) (fun v2 S2 => gdK (dem v2) false (ret x7) S2 (fun v4 S3 => gdK (dem v2) false ((jc Try.prog O) 66 [(dem (dem v4))]) S3 (fun v5 S4 => gdK (dem v2) false (aUn Try.prog UnOp.not v5) S4 (fun v6 S5 => zI (wJ (dem v2) (Value.bool true) v6 S5) (fun v7 S6 => some ([x0,x1,x2,x3,x4,x5,x6,x7,x8,x9,a,d,f,g,i,k,l,m,n,o,p,q,r,s,t,u,w,x,y,z,A,B,C,b,c,D,E,F,G,H,I,J,K,L,M,N,P,Q,R,U,dem x5,v1,v2,dem v2,dem v4,v5,v6,v7,a3], S6)) ()) ()) ()) ()) ()) ()) := by
 refine sP Try.f65 13 0 (v := x5) ?_
 refine sD Try.f65 13 1 (fun v1 S1 => ?_)
 refine sD Try.f65 13 2 (fun v2 S2 => ?_)
 refine sP Try.f65 13 3 (v := v2) ?_
 refine sG Try.f65 13 4 (j := 3) (fun v4 S3 => ?_)
 refine sG Try.f65 13 5 (j := 3) (fun v5 S4 => ?_)
 refine sG Try.f65 13 6 (j := 3) (fun v6 S5 => ?_)
 refine sD Try.f65 13 7 (fun v7 S6 => ?_)
 kernel_rfl
theorem zL.r14  : jC Try.prog ⟨false, false, false⟩ (jc Try.prog O) (reg Try.f65 14) (reg Try.f65 14).toList ([x0,x1,x2,x3,x4,x5,x6,x7,x8,x9,a,d,f,g,i,k,l,m,n,o,p,q,r,s,t,u,w,x,y,z,A,B,C,b,c,D,E,F,G,H,I,J,K,L,M,N,P,Q,R,U,V,W,X,Y,Z,a0,a1,a2,a3]) S =
  ( some ([x0,x1,Value.slice none 0 0,Value.int IntKind.i64 61,x4,x5,x6,x7,x8,x9,a,d,f,g,i,k,l,m,n,o,p,q,r,s,t,u,w,x,y,z,A,B,C,b,c,D,E,F,G,H,I,J,K,L,M,N,P,Q,R,U,V,W,X,Y,Z,a0,a1,a2,a3], S)) := by
 kernel_rfl
theorem zL.r15  : jC Try.prog ⟨false, false, false⟩ (jc Try.prog O) (reg Try.f65 15) (reg Try.f65 15).toList ([x0,x1,x2,x3,x4,x5,x6,x7,x8,x9,a,d,f,g,i,k,l,m,n,o,p,q,r,s,t,u,w,x,y,z,A,B,C,b,c,D,E,F,G,H,I,J,K,L,M,N,P,Q,R,U,V,W,X,Y,Z,a0,a1,a2,a3]) S =
  ( some ([x0,x1,x7,Value.int IntKind.i64 0,x4,x5,x6,dem x7,x8,x9,a,d,f,g,i,k,l,m,n,o,p,q,r,s,t,u,w,x,y,z,A,B,C,b,c,D,E,F,G,H,I,J,K,L,M,N,P,Q,R,U,V,W,X,Y,Z,a0,a1,a2,dem x7], S)) := by
 kernel_rfl
theorem zL.rs : type_of% (And.intro @zL.r0 (And.intro @zL.r1 (And.intro @zL.r2 (And.intro @zL.r3 (And.intro @zL.r4 (And.intro @zL.r5 (And.intro @zL.r6 (And.intro @zL.r7 (And.intro @zL.r8 (And.intro @zL.r9 (And.intro @zL.r10 (And.intro @zL.r11 (And.intro @zL.r12 (And.intro @zL.r13 (And.intro @zL.r14 (@zL.r15)))))))))))))))) := And.intro @zL.r0 (And.intro @zL.r1 (And.intro @zL.r2 (And.intro @zL.r3 (And.intro @zL.r4 (And.intro @zL.r5 (And.intro @zL.r6 (And.intro @zL.r7 (And.intro @zL.r8 (And.intro @zL.r9 (And.intro @zL.r10 (And.intro @zL.r11 (And.intro @zL.r12 (And.intro @zL.r13 (And.intro @zL.r14 (@zL.r15)))))))))))))))
theorem zL.runs {x0 : Value} {S S1 : zk} {e : AEx} {T : List Value} (h : zF Try.prog O false zL.code ([x0,undef,undef,undef,undef,undef,undef,undef,undef,undef,undef,undef,undef,undef,undef,undef,undef,undef,undef,undef,undef,undef,undef,undef,undef,undef,undef,undef,undef,undef,undef,undef,undef,undef,undef,undef,undef,undef,undef,undef,undef,undef,undef,undef,undef,undef,undef,undef,undef,undef,undef,undef,undef,undef,undef,undef,undef,undef,undef]) zk.empty = some (e, T, S1)) (he : e = .normal ∨ e = .ret)  (h0 : jW (T.getD 2 undef) = true) (h1 : jW (T.getD 3 undef) = true) (hca : [x0].all (jH 16) = true) (hcv : jH 16 (Value.tuple #[T.getD 2 undef, T.getD 3 undef]) = true) : jc Try.prog O 65 [x0] S = some (Value.tuple #[T.getD 2 undef, T.getD 3 undef], S) :=
 yh rfl rfl Try.func65 (by decide) zL.body (by exact h) he ((yP ((show zO Try.prog T S1 Try.f65.results.toList = zO Try.prog T S1 [(ResultVar.tmp 2), (ResultVar.tmp 3)] from by kernel_rfl).trans (by simp only [zO])) (by kernel_rfl) (by simp only [List.all_cons, List.all_nil, h0, h1, Bool.and_true])).trans rfl) hca hcv
end Go.Proofs.Ytbgcphbbchndkaa
namespace Go.Proofs.Ytbgcphbbchndkaa
open Go.Abs
abbrev zi.id : FuncId := 54
noncomputable def zi.jI : Code := (Code.seq (Code.seq (Code.region 8 (reg Try.f54 8) false) (Code.cond (Operand.tmp 35) Code.skip (Code.exit 2))) (Code.seq (Code.block 3 (Code.region 10 (reg Try.f54 10) true)) (Code.region 9 (reg Try.f54 9) false)))
noncomputable def zi.xJ : Code := (Code.seq (Code.seq (Code.region 2 (reg Try.f54 2) false) (Code.cond (Operand.tmp 13) Code.skip (Code.exit 0))) (Code.seq (Code.block 1 (Code.seq (Code.region 4 (reg Try.f54 4) false) (Code.seq (Code.seq (Code.region 5 (reg Try.f54 5) false) (Code.cond (Operand.tmp 31) (Code.exit 1) Code.skip)) (Code.seq (Code.region 6 (reg Try.f54 6) false) (Code.seq (Code.seq (Code.region 7 (reg Try.f54 7) false) (Code.block 2 (Code.loop zi.jI))) (Code.seq (Code.region 11 (reg Try.f54 11) false) (Code.seq (Code.region 12 (reg Try.f54 12) false) (Code.cond (Operand.tmp 67) (Code.seq (Code.region 13 (reg Try.f54 13) false) Code.ret) Code.skip)))))))) (Code.region 3 (reg Try.f54 3) false)))
noncomputable def zi.code : Code := (Code.seq (Code.region 0 (reg Try.f54 0) false) (Code.seq (Code.seq (Code.region 1 (reg Try.f54 1) false) (Code.block 0 (Code.loop zi.xJ))) (Code.seq (Code.region 14 (reg Try.f54 14) false) Code.ret)))
theorem zi.body : Try.f54.body = some zi.code := by kernel_rfl
theorem zi.eta {T : List Value} (h : T.length = 69) : T = [T.getD 0 undef,T.getD 1 undef,T.getD 2 undef,T.getD 3 undef,T.getD 4 undef,T.getD 5 undef,T.getD 6 undef,T.getD 7 undef,T.getD 8 undef,T.getD 9 undef,T.getD 10 undef,T.getD 11 undef,T.getD 12 undef,T.getD 13 undef,T.getD 14 undef,T.getD 15 undef,T.getD 16 undef,T.getD 17 undef,T.getD 18 undef,T.getD 19 undef,T.getD 20 undef,T.getD 21 undef,T.getD 22 undef,T.getD 23 undef,T.getD 24 undef,T.getD 25 undef,T.getD 26 undef,T.getD 27 undef,T.getD 28 undef,T.getD 29 undef,T.getD 30 undef,T.getD 31 undef,T.getD 32 undef,T.getD 33 undef,T.getD 34 undef,T.getD 35 undef,T.getD 36 undef,T.getD 37 undef,T.getD 38 undef,T.getD 39 undef,T.getD 40 undef,T.getD 41 undef,T.getD 42 undef,T.getD 43 undef,T.getD 44 undef,T.getD 45 undef,T.getD 46 undef,T.getD 47 undef,T.getD 48 undef,T.getD 49 undef,T.getD 50 undef,T.getD 51 undef,T.getD 52 undef,T.getD 53 undef,T.getD 54 undef,T.getD 55 undef,T.getD 56 undef,T.getD 57 undef,T.getD 58 undef,T.getD 59 undef,T.getD 60 undef,T.getD 61 undef,T.getD 62 undef,T.getD 63 undef,T.getD 64 undef,T.getD 65 undef,T.getD 66 undef,T.getD 67 undef,T.getD 68 undef] := (qw T 69 h).trans (by kernel_rfl)
variable (x0 x1 x2 x3 x4 x5 x6 x7 x8 x9 b a c d f g i k l m n o p q r s t u w x y z A B C D E F G H I J K L M N P Q R U V W X Y Z a0 a1 a2 a3 a4 a5 a6 a7 a8 a9 b0 b1 b2 b3 : Value) (S : zk)
theorem zi.r0  : jC Try.prog ⟨false, false, false⟩ (jc Try.prog O) (reg Try.f54 0) (reg Try.f54 0).toList ([x0,x1,x2,x3,x4,x5,x6,x7,x8,x9,b,a,c,d,f,g,i,k,l,m,n,o,p,q,r,s,t,u,w,x,y,z,A,B,C,D,E,F,G,H,I,J,K,L,M,N,P,Q,R,U,V,W,X,Y,Z,a0,a1,a2,a3,a4,a5,a6,a7,a8,a9,b0,b1,b2,b3]) S =
  ( some ([x0,x1,Value.slice none 0 0,Value.int IntKind.i64 0,x4,x5,x6,x7,x8,x9,b,a,c,d,f,g,i,k,l,m,n,o,p,q,r,s,t,u,w,x,y,z,A,B,C,D,E,F,G,H,I,J,K,L,M,N,P,Q,R,U,V,W,X,Y,Z,a0,a1,a2,a3,a4,a5,a6,a7,a8,a9,b0,b1,b2,b3], S)) := by
 kernel_rfl
theorem zi.r1  : jC Try.prog ⟨false, false, false⟩ (jc Try.prog O) (reg Try.f54 1) (reg Try.f54 1).toList ([x0,x1,x2,x3,x4,x5,x6,x7,x8,x9,b,a,c,d,f,g,i,k,l,m,n,o,p,q,r,s,t,u,w,x,y,z,A,B,C,D,E,F,G,H,I,J,K,L,M,N,P,Q,R,U,V,W,X,Y,Z,a0,a1,a2,a3,a4,a5,a6,a7,a8,a9,b0,b1,b2,b3]) S =
  ( some ([x0,x1,x2,x3,Value.int IntKind.i64 0,x5,x6,x7,x8,x9,b,a,c,d,f,g,i,k,l,m,n,o,p,q,r,s,t,u,w,x,y,z,A,B,C,D,E,F,G,H,I,J,K,L,M,N,P,Q,R,U,V,W,X,Y,Z,a0,a1,a2,a3,a4,a5,a6,a7,a8,a9,b0,b1,b2,b3], S)) := by
 kernel_rfl
theorem zi.r2  : jC Try.prog ⟨false, false, false⟩ (jc Try.prog O) (reg Try.f54 2) (reg Try.f54 2).toList ([x0,x1,x2,x3,x4,x5,x6,x7,x8,x9,b,a,c,d,f,g,i,k,l,m,n,o,p,q,r,s,t,u,w,x,y,z,A,B,C,D,E,F,G,H,I,J,K,L,M,N,P,Q,R,U,V,W,X,Y,Z,a0,a1,a2,a3,a4,a5,a6,a7,a8,a9,b0,b1,b2,b3]) S =
  (zI (wu Try.prog BinOp.leq 3 (dem x4) (Value.int IntKind.i64 3) S) (fun v1 S1 => some ([x0,x1,x2,x3,x4,x5,x6,x7,x8,x9,b,a,dem x4,v1,f,g,i,k,l,m,n,o,p,q,r,s,t,u,w,x,y,z,A,B,C,D,E,F,G,H,I,J,K,L,M,N,P,Q,R,U,V,W,X,Y,Z,a0,a1,a2,a3,a4,a5,a6,a7,a8,a9,b0,b1,b2,b3], S1)) ()) := by
 kernel_rfl
theorem zi.r4  : jC Try.prog ⟨false, false, false⟩ (jc Try.prog O) (reg Try.f54 4) (reg Try.f54 4).toList ([x0,x1,x2,x3,x4,x5,x6,x7,x8,x9,b,a,c,d,f,g,i,k,l,m,n,o,p,q,r,s,t,u,w,x,y,z,A,B,C,D,E,F,G,H,I,J,K,L,M,N,P,Q,R,U,V,W,X,Y,Z,a0,a1,a2,a3,a4,a5,a6,a7,a8,a9,b0,b1,b2,b3]) S =
  (zI (wu Try.prog BinOp.mul 3 (Value.int IntKind.i64 2) (dem x4) S) (fun v2 S1 => zI (wu Try.prog BinOp.add 3 (Value.int IntKind.i64 1) v2 S1) (fun v3 S2 => zI ((jc Try.prog O) 28 [(dem (dem x0)), (dem v3)] S2) (fun v4 S3 => zI (zU v4 0 S3) (fun v6 S4 => zI (zU (zS 0 v4) 1 S4) (fun v7 S5 => zI (zU (zS 1 (zS 0 v4)) 2 S5) (fun v8 S6 => some ([x0,x1,x2,x3,x4,v6,v7,v8,x8,x9,b,a,c,d,f,g,zS 2 (zS 1 (zS 0 v4)),dem x0,dem x4,v2,v3,dem v4,dem v6,dem v7,dem v8,s,t,u,w,x,y,z,A,B,C,D,E,F,G,H,I,J,K,L,M,N,P,Q,R,U,V,W,X,Y,Z,a0,a1,a2,a3,a4,a5,a6,a7,a8,a9,b0,b1,b2,b3], S6)) ()) ()) ()) ()) ()) ()) := by
 kernel_rfl
theorem zi.r5  : jC Try.prog ⟨false, false, false⟩ (jc Try.prog O) (reg Try.f54 5) (reg Try.f54 5).toList ([x0,x1,x2,x3,x4,x5,x6,x7,x8,x9,b,a,c,d,f,g,i,k,l,m,n,o,p,q,r,s,t,u,w,x,y,z,A,B,C,D,E,F,G,H,I,J,K,L,M,N,P,Q,R,U,V,W,X,Y,Z,a0,a1,a2,a3,a4,a5,a6,a7,a8,a9,b0,b1,b2,b3]) S =
  (zI (wu Try.prog BinOp.neq 3 (dem x7) (Value.int IntKind.i64 0) S) (fun v1 S1 => gdK (dem v1) false (ret x6) S1 (fun v3 S2 => gdK (dem v1) false (Zz Try.prog 23 (dem v3)) S2 (fun v4 S3 => gdK (dem v1) false (wu Try.prog BinOp.gtr 3 v4 (Value.int IntKind.i64 0)) S3 (fun v5 S4 => zI (wJ (dem v1) (Value.bool true) v5 S4) (fun v6 S5 => some ([x0,x1,x2,x3,x4,x5,x6,x7,x8,x9,b,a,c,d,f,g,i,k,l,m,n,o,p,q,r,dem x7,v1,dem v1,dem v3,v4,v5,v6,A,B,C,D,E,F,G,H,I,J,K,L,M,N,P,Q,R,U,V,W,X,Y,Z,a0,a1,a2,a3,a4,a5,a6,a7,a8,a9,b0,b1,b2,b3], S5)) ()) ()) ()) ()) ()) := by
 refine sP Try.f54 5 0 (v := x7) ?_
 refine sD Try.f54 5 1 (fun v1 S1 => ?_)
 refine sP Try.f54 5 2 (v := v1) ?_
 refine sG Try.f54 5 3 (j := 2) (fun v3 S2 => ?_)
 refine sG Try.f54 5 4 (j := 2) (fun v4 S3 => ?_)
 refine sG Try.f54 5 5 (j := 2) (fun v5 S4 => ?_)
 refine sD Try.f54 5 6 (fun v6 S5 => ?_)
 kernel_rfl
theorem zi.r6  : jC Try.prog ⟨false, false, false⟩ (jc Try.prog O) (reg Try.f54 6) (reg Try.f54 6).toList ([x0,x1,x2,x3,x4,x5,x6,x7,x8,x9,b,a,c,d,f,g,i,k,l,m,n,o,p,q,r,s,t,u,w,x,y,z,A,B,C,D,E,F,G,H,I,J,K,L,M,N,P,Q,R,U,V,W,X,Y,Z,a0,a1,a2,a3,a4,a5,a6,a7,a8,a9,b0,b1,b2,b3]) S =
  (zI (jR Try.prog 26 0 [] S) (fun v0 S1 => some ([x0,x1,x2,x3,x4,x5,x6,x7,v0,x9,b,a,c,d,f,g,i,k,l,m,n,o,p,q,r,s,t,u,w,x,y,z,dem v0,B,C,D,E,F,G,H,I,J,K,L,M,N,P,Q,R,U,V,W,X,Y,Z,a0,a1,a2,a3,a4,a5,a6,a7,a8,a9,b0,b1,b2,b3], S1)) ()) := by
 kernel_rfl
theorem zi.r7  : jC Try.prog ⟨false, false, false⟩ (jc Try.prog O) (reg Try.f54 7) (reg Try.f54 7).toList ([x0,x1,x2,x3,x4,x5,x6,x7,x8,x9,b,a,c,d,f,g,i,k,l,m,n,o,p,q,r,s,t,u,w,x,y,z,A,B,C,D,E,F,G,H,I,J,K,L,M,N,P,Q,R,U,V,W,X,Y,Z,a0,a1,a2,a3,a4,a5,a6,a7,a8,a9,b0,b1,b2,b3]) S =
  ( some ([x0,x1,x2,x3,x4,x5,x6,x7,x8,Value.int IntKind.i64 0,b,a,c,d,f,g,i,k,l,m,n,o,p,q,r,s,t,u,w,x,y,z,A,B,C,D,E,F,G,H,I,J,K,L,M,N,P,Q,R,U,V,W,X,Y,Z,a0,a1,a2,a3,a4,a5,a6,a7,a8,a9,b0,b1,b2,b3], S)) := by
 kernel_rfl
theorem zi.r8  : jC Try.prog ⟨false, false, false⟩ (jc Try.prog O) (reg Try.f54 8) (reg Try.f54 8).toList ([x0,x1,x2,x3,x4,x5,x6,x7,x8,x9,b,a,c,d,f,g,i,k,l,m,n,o,p,q,r,s,t,u,w,x,y,z,A,B,C,D,E,F,G,H,I,J,K,L,M,N,P,Q,R,U,V,W,X,Y,Z,a0,a1,a2,a3,a4,a5,a6,a7,a8,a9,b0,b1,b2,b3]) S =
  (zI (wu Try.prog BinOp.lss 3 (dem x9) (dem x4) S) (fun v2 S1 => some ([x0,x1,x2,x3,x4,x5,x6,x7,x8,x9,b,a,c,d,f,g,i,k,l,m,n,o,p,q,r,s,t,u,w,x,y,z,A,dem x9,dem x4,v2,E,F,G,H,I,J,K,L,M,N,P,Q,R,U,V,W,X,Y,Z,a0,a1,a2,a3,a4,a5,a6,a7,a8,a9,b0,b1,b2,b3], S1)) ()) := by
 kernel_rfl
theorem zi.d10 : qW Try.prog (reg Try.f54 10) = true := by kernel_rfl
theorem zi.ajW : fixed Try.prog (reg Try.f54 10) = false := by kernel_rfl
theorem zi.k10 : checked Try.prog (reg Try.f54 10) = [0] := by kernel_rfl
theorem zi.g10 : again Try.prog (reg Try.f54 10) = [] := by kernel_rfl
theorem zi.r10  : zF Try.prog O false (.region 10 (reg Try.f54 10) true) ([x0,x1,x2,x3,x4,x5,x6,x7,x8,x9,b,a,c,d,f,g,i,k,l,m,n,o,p,q,r,s,t,u,w,x,y,z,A,B,C,D,E,F,G,H,I,J,K,L,M,N,P,Q,R,U,V,W,X,Y,Z,a0,a1,a2,a3,a4,a5,a6,a7,a8,a9,b0,b1,b2,b3]) S =
  Jm (okK x8 ( zI (wu Try.prog BinOp.mul 3 (Value.int IntKind.i64 2) (dem x9) S) (fun v3 S1 => zI (wu Try.prog BinOp.add 3 (Value.int IntKind.i64 1) v3 S1) (fun v4 S2 => zI (jo Try.prog 57 (dem x5) v4 S2) (fun v5 S3 => zI (jf Try.prog false 3 v5 S3) (fun v6 S4 => zI (wu Try.prog BinOp.mul 3 (Value.int IntKind.i64 2) (dem x9) S4) (fun v9 S5 => zI (wu Try.prog BinOp.add 3 (Value.int IntKind.i64 2) v9 S5) (fun b5 S6 => zI (jo Try.prog 57 (dem x5) b5 S6) (fun b6 S7 => zI (jf Try.prog false 3 b6 S7) (fun b7 S8 => zI (yJ Try.prog 25 [(0, (dem v6)), (1, (dem b7))] S8) (fun b8 S9 => zI (jR Try.prog 26 1 [(0, b8)] S9) (fun b9 c0 => zI (wY Try.prog 26 26 x8 b9 c0) (fun b4 c1 => some ([x0,x1,x2,x3,x4,x5,x6,x7,b4,x9,b,a,c,d,f,g,i,k,l,m,n,o,p,q,r,s,t,u,w,x,y,z,A,B,C,D,E,F,dem x8,dem x5,dem x9,v3,v4,v5,v6,dem x5,dem x9,v9,b5,b6,b7,b8,b9,dem b4,Z,a0,a1,a2,a3,a4,a5,a6,a7,a8,a9,b0,b1,b2,b3], c1)) ()) ()) ()) ()) ()) ()) ()) ()) ()) ()) ()) ()) := by
 rw [yO zi.d10 zi.ajW zi.k10 zi.g10]
 refine congrArg Jm ?_
 refine tPC Try.f54 10 0 (v := x8) ?_
 refine tP Try.f54 10 1 (v := x5) ?_
 refine tP Try.f54 10 2 (v := x9) ?_
 refine tD Try.f54 10 3 (fun v3 S1 => ?_)
 refine tD Try.f54 10 4 (fun v4 S2 => ?_)
 refine tD Try.f54 10 5 (fun v5 S3 => ?_)
 refine tD Try.f54 10 6 (fun v6 S4 => ?_)
 refine tP Try.f54 10 7 (v := x5) ?_
 refine tP Try.f54 10 8 (v := x9) ?_
 refine tD Try.f54 10 9 (fun v9 S5 => ?_)
 refine tD Try.f54 10 10 (fun b5 S6 => ?_)
 refine tD Try.f54 10 11 (fun b6 S7 => ?_)
 refine tD Try.f54 10 12 (fun b7 S8 => ?_)
 refine tD Try.f54 10 13 (fun b8 S9 => ?_)
 refine tD Try.f54 10 14 (fun b9 c0 => ?_)
 refine tD Try.f54 10 15 (fun b4 c1 => ?_)
 refine tP Try.f54 10 16 (v := b4) ?_
 kernel_rfl
theorem zi.r9  : jC Try.prog ⟨false, false, false⟩ (jc Try.prog O) (reg Try.f54 9) (reg Try.f54 9).toList ([x0,x1,x2,x3,x4,x5,x6,x7,x8,x9,b,a,c,d,f,g,i,k,l,m,n,o,p,q,r,s,t,u,w,x,y,z,A,B,C,D,E,F,G,H,I,J,K,L,M,N,P,Q,R,U,V,W,X,Y,Z,a0,a1,a2,a3,a4,a5,a6,a7,a8,a9,b0,b1,b2,b3]) S =
  (zI (wu Try.prog BinOp.add 3 (dem x9) (Value.int IntKind.i64 1) S) (fun v1 S1 => some ([x0,x1,x2,x3,x4,x5,x6,x7,x8,v1,b,a,c,d,f,g,i,k,l,m,n,o,p,q,r,s,t,u,w,x,y,z,A,B,C,D,dem x9,dem v1,G,H,I,J,K,L,M,N,P,Q,R,U,V,W,X,Y,Z,a0,a1,a2,a3,a4,a5,a6,a7,a8,a9,b0,b1,b2,b3], S1)) ()) := by
 kernel_rfl
theorem zi.r11  : jC Try.prog ⟨false, false, false⟩ (jc Try.prog O) (reg Try.f54 11) (reg Try.f54 11).toList ([x0,x1,x2,x3,x4,x5,x6,x7,x8,x9,b,a,c,d,f,g,i,k,l,m,n,o,p,q,r,s,t,u,w,x,y,z,A,B,C,D,E,F,G,H,I,J,K,L,M,N,P,Q,R,U,V,W,X,Y,Z,a0,a1,a2,a3,a4,a5,a6,a7,a8,a9,b0,b1,b2,b3]) S =
  (zI ((jc Try.prog O) 61 [(dem (dem x8))] S) (fun v1 S1 => zI (zU v1 0 S1) (fun v3 S2 => zI (zU (zS 0 v1) 1 S2) (fun v4 S3 => some ([x0,x1,x2,x3,x4,x5,x6,x7,x8,x9,v3,v4,c,d,f,g,i,k,l,m,n,o,p,q,r,s,t,u,w,x,y,z,A,B,C,D,E,F,G,H,I,J,K,L,M,N,P,Q,R,U,V,W,X,Y,zS 1 (zS 0 v1),dem x8,dem v1,dem v3,dem v4,a4,a5,a6,a7,a8,a9,b0,b1,b2,b3], S3)) ()) ()) ()) := by
 kernel_rfl
theorem zi.r12  : jC Try.prog ⟨false, false, false⟩ (jc Try.prog O) (reg Try.f54 12) (reg Try.f54 12).toList ([x0,x1,x2,x3,x4,x5,x6,x7,x8,x9,b,a,c,d,f,g,i,k,l,m,n,o,p,q,r,s,t,u,w,x,y,z,A,B,C,D,E,F,G,H,I,J,K,L,M,N,P,Q,R,U,V,W,X,Y,Z,a0,a1,a2,a3,a4,a5,a6,a7,a8,a9,b0,b1,b2,b3]) S =
  (zI (wu Try.prog BinOp.eql 3 (dem a) (Value.int IntKind.i64 0) S) (fun v1 S1 => gdK (dem v1) true (ret b) S1 (fun v3 S2 => gdK (dem v1) true (qI Try.prog false false 23 9 (dem v3)) S2 (fun v4 S3 => gdK (dem v1) true (ret x0) S3 (fun v5 S4 => gdK (dem v1) true (qI Try.prog false false 23 9 (dem v5)) S4 (fun v6 S5 => gdK (dem v1) true (wu Try.prog BinOp.eql 9 v4 v6) S5 (fun v7 S6 => zI (wJ (dem v1) v7 (Value.bool false) S6) (fun v8 S7 => some ([x0,x1,x2,x3,x4,x5,x6,x7,x8,x9,b,a,c,d,f,g,i,k,l,m,n,o,p,q,r,s,t,u,w,x,y,z,A,B,C,D,E,F,G,H,I,J,K,L,M,N,P,Q,R,U,V,W,X,Y,Z,a0,a1,a2,a3,dem a,v1,dem v1,dem v3,v4,dem v5,v6,v7,v8,b3], S7)) ()) ()) ()) ()) ()) ()) ()) := by
 refine sP Try.f54 12 0 (v := a) ?_
 refine sD Try.f54 12 1 (fun v1 S1 => ?_)
 refine sP Try.f54 12 2 (v := v1) ?_
 refine sG Try.f54 12 3 (j := 2) (fun v3 S2 => ?_)
 refine sG Try.f54 12 4 (j := 2) (fun v4 S3 => ?_)
 refine sG Try.f54 12 5 (j := 2) (fun v5 S4 => ?_)
 refine sG Try.f54 12 6 (j := 2) (fun v6 S5 => ?_)
 refine sG Try.f54 12 7 (j := 2) (fun v7 S6 => ?_)
 refine sD Try.f54 12 8 (fun v8 S7 => ?_)
 kernel_rfl
theorem zi.r13  : jC Try.prog ⟨false, false, false⟩ (jc Try.prog O) (reg Try.f54 13) (reg Try.f54 13).toList ([x0,x1,x2,x3,x4,x5,x6,x7,x8,x9,b,a,c,d,f,g,i,k,l,m,n,o,p,q,r,s,t,u,w,x,y,z,A,B,C,D,E,F,G,H,I,J,K,L,M,N,P,Q,R,U,V,W,X,Y,Z,a0,a1,a2,a3,a4,a5,a6,a7,a8,a9,b0,b1,b2,b3]) S =
  ( some ([x0,x1,x8,Value.int IntKind.i64 0,x4,x5,x6,x7,dem x8,x9,b,a,c,d,f,g,i,k,l,m,n,o,p,q,r,s,t,u,w,x,y,z,A,B,C,D,E,F,G,H,I,J,K,L,M,N,P,Q,R,U,V,W,X,Y,Z,a0,a1,a2,a3,a4,a5,a6,a7,a8,a9,b0,b1,b2,dem x8], S)) := by
 kernel_rfl
theorem zi.r3  : jC Try.prog ⟨false, false, false⟩ (jc Try.prog O) (reg Try.f54 3) (reg Try.f54 3).toList ([x0,x1,x2,x3,x4,x5,x6,x7,x8,x9,b,a,c,d,f,g,i,k,l,m,n,o,p,q,r,s,t,u,w,x,y,z,A,B,C,D,E,F,G,H,I,J,K,L,M,N,P,Q,R,U,V,W,X,Y,Z,a0,a1,a2,a3,a4,a5,a6,a7,a8,a9,b0,b1,b2,b3]) S =
  (zI (wu Try.prog BinOp.add 3 (dem x4) (Value.int IntKind.i64 1) S) (fun v1 S1 => some ([x0,x1,x2,x3,v1,x5,x6,x7,x8,x9,b,a,c,d,dem x4,dem v1,i,k,l,m,n,o,p,q,r,s,t,u,w,x,y,z,A,B,C,D,E,F,G,H,I,J,K,L,M,N,P,Q,R,U,V,W,X,Y,Z,a0,a1,a2,a3,a4,a5,a6,a7,a8,a9,b0,b1,b2,b3], S1)) ()) := by
 kernel_rfl
theorem zi.r14  : jC Try.prog ⟨false, false, false⟩ (jc Try.prog O) (reg Try.f54 14) (reg Try.f54 14).toList ([x0,x1,x2,x3,x4,x5,x6,x7,x8,x9,b,a,c,d,f,g,i,k,l,m,n,o,p,q,r,s,t,u,w,x,y,z,A,B,C,D,E,F,G,H,I,J,K,L,M,N,P,Q,R,U,V,W,X,Y,Z,a0,a1,a2,a3,a4,a5,a6,a7,a8,a9,b0,b1,b2,b3]) S =
  ( some ([x0,x1,Value.slice none 0 0,Value.int IntKind.i64 61,x4,x5,x6,x7,x8,x9,b,a,c,d,f,g,i,k,l,m,n,o,p,q,r,s,t,u,w,x,y,z,A,B,C,D,E,F,G,H,I,J,K,L,M,N,P,Q,R,U,V,W,X,Y,Z,a0,a1,a2,a3,a4,a5,a6,a7,a8,a9,b0,b1,b2,b3], S)) := by
 kernel_rfl
theorem zi.rs : type_of% (And.intro @zi.r0 (And.intro @zi.r1 (And.intro @zi.r2 (And.intro @zi.r4 (And.intro @zi.r5 (And.intro @zi.r6 (And.intro @zi.r7 (And.intro @zi.r8 (And.intro @zi.r10 (And.intro @zi.r9 (And.intro @zi.r11 (And.intro @zi.r12 (And.intro @zi.r13 (And.intro @zi.r3 (@zi.r14))))))))))))))) := And.intro @zi.r0 (And.intro @zi.r1 (And.intro @zi.r2 (And.intro @zi.r4 (And.intro @zi.r5 (And.intro @zi.r6 (And.intro @zi.r7 (And.intro @zi.r8 (And.intro @zi.r10 (And.intro @zi.r9 (And.intro @zi.r11 (And.intro @zi.r12 (And.intro @zi.r13 (And.intro @zi.r3 (@zi.r14))))))))))))))
theorem zi.runs {x0 : Value} {S S1 : zk} {e : AEx} {T : List Value} (h : zF Try.prog O false zi.code ([x0,undef,undef,undef,undef,undef,undef,undef,undef,undef,undef,undef,undef,undef,undef,undef,undef,undef,undef,undef,undef,undef,undef,undef,undef,undef,undef,undef,undef,undef,undef,undef,undef,undef,undef,undef,undef,undef,undef,undef,undef,undef,undef,undef,undef,undef,undef,undef,undef,undef,undef,undef,undef,undef,undef,undef,undef,undef,undef,undef,undef,undef,undef,undef,undef,undef,undef,undef,undef]) S = some (e, T, S1)) (he : e = .normal ∨ e = .ret)  (h0 : jW (T.getD 2 undef) = true) (h1 : jW (T.getD 3 undef) = true) : jc Try.prog O 54 [x0] S = some (Value.tuple #[T.getD 2 undef, T.getD 3 undef], S1) :=
 yR rfl rfl Try.func54 (by decide) zi.body (by exact h) he ((yP ((show zO Try.prog T S1 Try.f54.results.toList = zO Try.prog T S1 [(ResultVar.tmp 2), (ResultVar.tmp 3)] from by kernel_rfl).trans (by simp only [zO])) (by kernel_rfl) (by simp only [List.all_cons, List.all_nil, h0, h1, Bool.and_true])).trans rfl)
end Go.Proofs.Ytbgcphbbchndkaa
namespace Go.Proofs.Ytbgcphbbchndkaa
open Go.Abs
abbrev zC.id : FuncId := 55
noncomputable def zC.jI : Code := (Code.seq (Code.region 4 (reg Try.f55 4) false) (Code.seq (Code.cond (Operand.tmp 14) Code.skip (Code.exit 0)) (Code.seq (Code.block 1 (Code.seq (Code.region 5 (reg Try.f55 5) false) (Code.seq (Code.region 6 (reg Try.f55 6) true) (Code.cond (Operand.tmp 24) (Code.seq (Code.region 7 (reg Try.f55 7) false) Code.ret) Code.skip)))) (Code.region 8 (reg Try.f55 8) false))))
noncomputable def zC.code : Code := (Code.seq (Code.region 0 (reg Try.f55 0) false) (Code.seq (Code.seq (Code.region 1 (reg Try.f55 1) false) (Code.cond (Operand.tmp 10) (Code.seq (Code.region 2 (reg Try.f55 2) false) Code.ret) Code.skip)) (Code.seq (Code.seq (Code.region 3 (reg Try.f55 3) false) (Code.block 0 (Code.loop zC.jI))) (Code.seq (Code.region 9 (reg Try.f55 9) false) Code.ret))))
theorem zC.body : Try.f55.body = some zC.code := by kernel_rfl
theorem zC.eta {T : List Value} (h : T.length = 26) : T = [T.getD 0 undef,T.getD 1 undef,T.getD 2 undef,T.getD 3 undef,T.getD 4 undef,T.getD 5 undef,T.getD 6 undef,T.getD 7 undef,T.getD 8 undef,T.getD 9 undef,T.getD 10 undef,T.getD 11 undef,T.getD 12 undef,T.getD 13 undef,T.getD 14 undef,T.getD 15 undef,T.getD 16 undef,T.getD 17 undef,T.getD 18 undef,T.getD 19 undef,T.getD 20 undef,T.getD 21 undef,T.getD 22 undef,T.getD 23 undef,T.getD 24 undef,T.getD 25 undef] := (qw T 26 h).trans (by kernel_rfl)
variable (d u x y D w z A B C f g c b i j k l m n o p q r s t : Value) (S : zk)
theorem zC.r0  : jC Try.prog ⟨false, false, false⟩ (jc Try.prog O) (reg Try.f55 0) (reg Try.f55 0).toList ([d,u,x,y,D,w,z,A,B,C,f,g,c,b,i,j,k,l,m,n,o,p,q,r,s,t]) S =
  ( some ([d,u,x,y,Value.bool false,w,z,A,B,C,f,g,c,b,i,j,k,l,m,n,o,p,q,r,s,t], S)) := by
 kernel_rfl
theorem zC.r1  : jC Try.prog ⟨false, false, false⟩ (jc Try.prog O) (reg Try.f55 1) (reg Try.f55 1).toList ([d,u,x,y,D,w,z,A,B,C,f,g,c,b,i,j,k,l,m,n,o,p,q,r,s,t]) S =
  (zI (Zz Try.prog 26 (dem d) S) (fun G E => zI (Zz Try.prog 26 (dem u) E) (fun F H => zI (wu Try.prog BinOp.neq 3 G F H) (fun R I => some ([d,u,x,y,D,w,dem d,G,dem u,F,R,g,c,b,i,j,k,l,m,n,o,p,q,r,s,t], I)) ()) ()) ()) := by
 kernel_rfl
theorem zC.r2  : jC Try.prog ⟨false, false, false⟩ (jc Try.prog O) (reg Try.f55 2) (reg Try.f55 2).toList ([d,u,x,y,D,w,z,A,B,C,f,g,c,b,i,j,k,l,m,n,o,p,q,r,s,t]) S =
  ( some ([d,u,x,y,Value.bool false,w,z,A,B,C,f,g,c,b,i,j,k,l,m,n,o,p,q,r,s,t], S)) := by
 kernel_rfl
theorem zC.r3  : jC Try.prog ⟨false, false, false⟩ (jc Try.prog O) (reg Try.f55 3) (reg Try.f55 3).toList ([d,u,x,y,D,w,z,A,B,C,f,g,c,b,i,j,k,l,m,n,o,p,q,r,s,t]) S =
  (zI (Zz Try.prog 26 (dem d) S) (fun G E => some ([d,u,x,y,D,w,z,A,B,C,f,dem d,G,Value.int IntKind.i64 0,i,j,k,l,m,n,o,p,q,r,s,t], E)) ()) := by
 kernel_rfl
theorem zC.r4  : jC Try.prog ⟨false, false, false⟩ (jc Try.prog O) (reg Try.f55 4) (reg Try.f55 4).toList ([d,u,x,y,D,w,z,A,B,C,f,g,c,b,i,j,k,l,m,n,o,p,q,r,s,t]) S =
  (zI (wu Try.prog BinOp.lss 3 b c S) (fun J E => some ([d,u,x,y,D,w,z,A,B,C,f,g,c,b,J,j,k,l,m,n,o,p,q,r,s,t], E)) ()) := by
 kernel_rfl
theorem zC.r5  : jC Try.prog ⟨false, false, false⟩ (jc Try.prog O) (reg Try.f55 5) (reg Try.f55 5).toList ([d,u,x,y,D,w,z,A,B,C,f,g,c,b,i,j,k,l,m,n,o,p,q,r,s,t]) S =
  ( some ([d,u,x,y,D,b,z,A,B,C,f,g,c,dem b,i,dem b,k,l,m,n,o,p,q,r,s,t], S)) := by
 kernel_rfl
theorem zC.d6 : qW Try.prog (reg Try.f55 6) = true := by kernel_rfl
theorem zC.ff6 : fixed Try.prog (reg Try.f55 6) = false := by kernel_rfl
theorem zC.k6 : checked Try.prog (reg Try.f55 6) = [] := by kernel_rfl
theorem zC.g6 : again Try.prog (reg Try.f55 6) = [] := by kernel_rfl
theorem zC.r6  : zF Try.prog O false (.region 6 (reg Try.f55 6) true) ([d,u,x,y,D,w,z,A,B,C,f,g,c,b,i,j,k,l,m,n,o,p,q,r,s,t]) S =
  Jm (zI (jo Try.prog 26 (dem d) (dem w) S) (fun K E => zI (jf Try.prog false 25 K E) (fun F H => zI (jo Try.prog 26 (dem u) (dem w) H) (fun L I => zI (jf Try.prog false 25 L I) (fun M N => zI (wu Try.prog BinOp.neq 25 F M N) (fun P Q => some ([d,u,x,y,D,w,z,A,B,C,f,g,c,b,i,j,dem d,dem w,K,F,dem u,dem w,L,M,P,t], Q)) ()) ()) ()) ()) ()) := by
 rw [yO zC.d6 zC.ff6 zC.k6 zC.g6]
 refine congrArg Jm ?_
 refine tP Try.f55 6 0 (v := d) ?_
 refine tP Try.f55 6 1 (v := w) ?_
 refine tD Try.f55 6 2 (fun K E => ?_)
 refine tD Try.f55 6 3 (fun F H => ?_)
 refine tP Try.f55 6 4 (v := u) ?_
 refine tP Try.f55 6 5 (v := w) ?_
 refine tD Try.f55 6 6 (fun L I => ?_)
 refine tD Try.f55 6 7 (fun M N => ?_)
 refine tD Try.f55 6 8 (fun P Q => ?_)
 kernel_rfl
theorem zC.r7  : jC Try.prog ⟨false, false, false⟩ (jc Try.prog O) (reg Try.f55 7) (reg Try.f55 7).toList ([d,u,x,y,D,w,z,A,B,C,f,g,c,b,i,j,k,l,m,n,o,p,q,r,s,t]) S =
  ( some ([d,u,x,y,Value.bool false,w,z,A,B,C,f,g,c,b,i,j,k,l,m,n,o,p,q,r,s,t], S)) := by
 kernel_rfl
theorem zC.r8  : jC Try.prog ⟨false, false, false⟩ (jc Try.prog O) (reg Try.f55 8) (reg Try.f55 8).toList ([d,u,x,y,D,w,z,A,B,C,f,g,c,b,i,j,k,l,m,n,o,p,q,r,s,t]) S =
  (zI (wu Try.prog BinOp.add 3 b (Value.int IntKind.i64 1) S) (fun J E => some ([d,u,x,y,D,w,z,A,B,C,f,g,c,dem J,i,j,k,l,m,n,o,p,q,r,s,J], E)) ()) := by
 kernel_rfl
theorem zC.r9  : jC Try.prog ⟨false, false, false⟩ (jc Try.prog O) (reg Try.f55 9) (reg Try.f55 9).toList ([d,u,x,y,D,w,z,A,B,C,f,g,c,b,i,j,k,l,m,n,o,p,q,r,s,t]) S =
  ( some ([d,u,x,y,Value.bool true,w,z,A,B,C,f,g,c,b,i,j,k,l,m,n,o,p,q,r,s,t], S)) := by
 kernel_rfl
theorem zC.rs : type_of% (And.intro @zC.r0 (And.intro @zC.r1 (And.intro @zC.r2 (And.intro @zC.r3 (And.intro @zC.r4 (And.intro @zC.r5 (And.intro @zC.r6 (And.intro @zC.r7 (And.intro @zC.r8 (@zC.r9)))))))))) := And.intro @zC.r0 (And.intro @zC.r1 (And.intro @zC.r2 (And.intro @zC.r3 (And.intro @zC.r4 (And.intro @zC.r5 (And.intro @zC.r6 (And.intro @zC.r7 (And.intro @zC.r8 (@zC.r9)))))))))
theorem zC.runs {d u : Value} {S E : zk} {e : AEx} {T : List Value} (h : zF Try.prog O false zC.code ([d,u,undef,undef,undef,undef,undef,undef,undef,undef,undef,undef,undef,undef,undef,undef,undef,undef,undef,undef,undef,undef,undef,undef,undef,undef]) S = some (e, T, E)) (he : e = .normal ∨ e = .ret) : jc Try.prog O 55 [d, u] S = some (T.getD 4 undef, E) :=
 yR rfl rfl Try.func55 (by decide) zC.body (by exact h) he (yN (a := T.getD 4 undef) ((show zO Try.prog T E Try.f55.results.toList = zO Try.prog T E [(ResultVar.tmp 4)] from by kernel_rfl).trans (by simp only [zO])) (by kernel_rfl))
end Go.Proofs.Ytbgcphbbchndkaa
namespace Go.Proofs.Ytbgcphbbchndkaa
open Go.Abs
abbrev slices_Equal.id : FuncId := 60
noncomputable def slices_Equal.jI : Code := (Code.seq (Code.region 4 (reg Try.f60 4) false) (Code.seq (Code.cond (Operand.tmp 14) Code.skip (Code.exit 0)) (Code.seq (Code.block 1 (Code.seq (Code.region 5 (reg Try.f60 5) false) (Code.seq (Code.region 6 (reg Try.f60 6) true) (Code.cond (Operand.tmp 24) (Code.seq (Code.region 7 (reg Try.f60 7) false) Code.ret) Code.skip)))) (Code.region 8 (reg Try.f60 8) false))))
noncomputable def slices_Equal.code : Code := (Code.seq (Code.region 0 (reg Try.f60 0) false) (Code.seq (Code.seq (Code.region 1 (reg Try.f60 1) false) (Code.cond (Operand.tmp 10) (Code.seq (Code.region 2 (reg Try.f60 2) false) Code.ret) Code.skip)) (Code.seq (Code.seq (Code.region 3 (reg Try.f60 3) false) (Code.block 0 (Code.loop slices_Equal.jI))) (Code.seq (Code.region 9 (reg Try.f60 9) false) Code.ret))))
theorem slices_Equal.body : Try.f60.body = some slices_Equal.code := by kernel_rfl
theorem slices_Equal.eta {T : List Value} (h : T.length = 26) : T = [T.getD 0 undef,T.getD 1 undef,T.getD 2 undef,T.getD 3 undef,T.getD 4 undef,T.getD 5 undef,T.getD 6 undef,T.getD 7 undef,T.getD 8 undef,T.getD 9 undef,T.getD 10 undef,T.getD 11 undef,T.getD 12 undef,T.getD 13 undef,T.getD 14 undef,T.getD 15 undef,T.getD 16 undef,T.getD 17 undef,T.getD 18 undef,T.getD 19 undef,T.getD 20 undef,T.getD 21 undef,T.getD 22 undef,T.getD 23 undef,T.getD 24 undef,T.getD 25 undef] := (qw T 26 h).trans (by kernel_rfl)
variable (d u x y D w z A B C f g c b i j k l m n o p q r s t : Value) (S : zk)
theorem slices_Equal.r0  : jC Try.prog ⟨false, false, false⟩ (jc Try.prog O) (reg Try.f60 0) (reg Try.f60 0).toList ([d,u,x,y,D,w,z,A,B,C,f,g,c,b,i,j,k,l,m,n,o,p,q,r,s,t]) S =
  ( some ([d,u,x,y,Value.bool false,w,z,A,B,C,f,g,c,b,i,j,k,l,m,n,o,p,q,r,s,t], S)) := by
 kernel_rfl
theorem slices_Equal.r1  : jC Try.prog ⟨false, false, false⟩ (jc Try.prog O) (reg Try.f60 1) (reg Try.f60 1).toList ([d,u,x,y,D,w,z,A,B,C,f,g,c,b,i,j,k,l,m,n,o,p,q,r,s,t]) S =
  (zI (Zz Try.prog 26 (dem d) S) (fun G E => zI (Zz Try.prog 26 (dem u) E) (fun F H => zI (wu Try.prog BinOp.neq 3 G F H) (fun R I => some ([d,u,x,y,D,w,dem d,G,dem u,F,R,g,c,b,i,j,k,l,m,n,o,p,q,r,s,t], I)) ()) ()) ()) := by
 kernel_rfl
theorem slices_Equal.r2  : jC Try.prog ⟨false, false, false⟩ (jc Try.prog O) (reg Try.f60 2) (reg Try.f60 2).toList ([d,u,x,y,D,w,z,A,B,C,f,g,c,b,i,j,k,l,m,n,o,p,q,r,s,t]) S =
  ( some ([d,u,x,y,Value.bool false,w,z,A,B,C,f,g,c,b,i,j,k,l,m,n,o,p,q,r,s,t], S)) := by
 kernel_rfl
theorem slices_Equal.r3  : jC Try.prog ⟨false, false, false⟩ (jc Try.prog O) (reg Try.f60 3) (reg Try.f60 3).toList ([d,u,x,y,D,w,z,A,B,C,f,g,c,b,i,j,k,l,m,n,o,p,q,r,s,t]) S =
  (zI (Zz Try.prog 26 (dem d) S) (fun G E => some ([d,u,x,y,D,w,z,A,B,C,f,dem d,G,Value.int IntKind.i64 0,i,j,k,l,m,n,o,p,q,r,s,t], E)) ()) := by
 kernel_rfl
theorem slices_Equal.r4  : jC Try.prog ⟨false, false, false⟩ (jc Try.prog O) (reg Try.f60 4) (reg Try.f60 4).toList ([d,u,x,y,D,w,z,A,B,C,f,g,c,b,i,j,k,l,m,n,o,p,q,r,s,t]) S =
  (zI (wu Try.prog BinOp.lss 3 b c S) (fun J E => some ([d,u,x,y,D,w,z,A,B,C,f,g,c,b,J,j,k,l,m,n,o,p,q,r,s,t], E)) ()) := by
 kernel_rfl
theorem slices_Equal.r5  : jC Try.prog ⟨false, false, false⟩ (jc Try.prog O) (reg Try.f60 5) (reg Try.f60 5).toList ([d,u,x,y,D,w,z,A,B,C,f,g,c,b,i,j,k,l,m,n,o,p,q,r,s,t]) S =
  ( some ([d,u,x,y,D,b,z,A,B,C,f,g,c,dem b,i,dem b,k,l,m,n,o,p,q,r,s,t], S)) := by
 kernel_rfl
theorem slices_Equal.d6 : qW Try.prog (reg Try.f60 6) = true := by kernel_rfl
theorem slices_Equal.ff6 : fixed Try.prog (reg Try.f60 6) = false := by kernel_rfl
theorem slices_Equal.k6 : checked Try.prog (reg Try.f60 6) = [] := by kernel_rfl
theorem slices_Equal.g6 : again Try.prog (reg Try.f60 6) = [] := by kernel_rfl
theorem slices_Equal.r6  : zF Try.prog O false (.region 6 (reg Try.f60 6) true) ([d,u,x,y,D,w,z,A,B,C,f,g,c,b,i,j,k,l,m,n,o,p,q,r,s,t]) S =
  Jm (zI (jo Try.prog 26 (dem d) (dem w) S) (fun K E => zI (jf Try.prog false 25 K E) (fun F H => zI (jo Try.prog 26 (dem u) (dem w) H) (fun L I => zI (jf Try.prog false 25 L I) (fun M N => zI (wu Try.prog BinOp.neq 25 F M N) (fun P Q => some ([d,u,x,y,D,w,z,A,B,C,f,g,c,b,i,j,dem d,dem w,K,F,dem u,dem w,L,M,P,t], Q)) ()) ()) ()) ()) ()) := by
 rw [yO slices_Equal.d6 slices_Equal.ff6 slices_Equal.k6 slices_Equal.g6]
 refine congrArg Jm ?_
 refine tP Try.f60 6 0 (v := d) ?_
 refine tP Try.f60 6 1 (v := w) ?_
 refine tD Try.f60 6 2 (fun K E => ?_)
 refine tD Try.f60 6 3 (fun F H => ?_)
 refine tP Try.f60 6 4 (v := u) ?_
 refine tP Try.f60 6 5 (v := w) ?_
 refine tD Try.f60 6 6 (fun L I => ?_)
 refine tD Try.f60 6 7 (fun M N => ?_)
 refine tD Try.f60 6 8 (fun P Q => ?_)
 kernel_rfl
theorem slices_Equal.r7  : jC Try.prog ⟨false, false, false⟩ (jc Try.prog O) (reg Try.f60 7) (reg Try.f60 7).toList ([d,u,x,y,D,w,z,A,B,C,f,g,c,b,i,j,k,l,m,n,o,p,q,r,s,t]) S =
  ( some ([d,u,x,y,Value.bool false,w,z,A,B,C,f,g,c,b,i,j,k,l,m,n,o,p,q,r,s,t], S)) := by
 kernel_rfl
theorem slices_Equal.r8  : jC Try.prog ⟨false, false, false⟩ (jc Try.prog O) (reg Try.f60 8) (reg Try.f60 8).toList ([d,u,x,y,D,w,z,A,B,C,f,g,c,b,i,j,k,l,m,n,o,p,q,r,s,t]) S =
  (zI (wu Try.prog BinOp.add 3 b (Value.int IntKind.i64 1) S) (fun J E => some ([d,u,x,y,D,w,z,A,B,C,f,g,c,dem J,i,j,k,l,m,n,o,p,q,r,s,J], E)) ()) := by
 kernel_rfl
theorem slices_Equal.r9  : jC Try.prog ⟨false, false, false⟩ (jc Try.prog O) (reg Try.f60 9) (reg Try.f60 9).toList ([d,u,x,y,D,w,z,A,B,C,f,g,c,b,i,j,k,l,m,n,o,p,q,r,s,t]) S =
  ( some ([d,u,x,y,Value.bool true,w,z,A,B,C,f,g,c,b,i,j,k,l,m,n,o,p,q,r,s,t], S)) := by
 kernel_rfl
theorem slices_Equal.rs : type_of% (And.intro @slices_Equal.r0 (And.intro @slices_Equal.r1 (And.intro @slices_Equal.r2 (And.intro @slices_Equal.r3 (And.intro @slices_Equal.r4 (And.intro @slices_Equal.r5 (And.intro @slices_Equal.r6 (And.intro @slices_Equal.r7 (And.intro @slices_Equal.r8 (@slices_Equal.r9)))))))))) := And.intro @slices_Equal.r0 (And.intro @slices_Equal.r1 (And.intro @slices_Equal.r2 (And.intro @slices_Equal.r3 (And.intro @slices_Equal.r4 (And.intro @slices_Equal.r5 (And.intro @slices_Equal.r6 (And.intro @slices_Equal.r7 (And.intro @slices_Equal.r8 (@slices_Equal.r9)))))))))
theorem slices_Equal.runs {d u : Value} {S E : zk} {e : AEx} {T : List Value} (h : zF Try.prog O false slices_Equal.code ([d,u,undef,undef,undef,undef,undef,undef,undef,undef,undef,undef,undef,undef,undef,undef,undef,undef,undef,undef,undef,undef,undef,undef,undef,undef]) S = some (e, T, E)) (he : e = .normal ∨ e = .ret) : jc Try.prog O 60 [d, u] S = some (T.getD 4 undef, E) :=
 yR rfl rfl Try.func60 (by decide) slices_Equal.body (by exact h) he (yN (a := T.getD 4 undef) ((show zO Try.prog T E Try.f60.results.toList = zO Try.prog T E [(ResultVar.tmp 4)] from by kernel_rfl).trans (by simp only [zO])) (by kernel_rfl))
end Go.Proofs.Ytbgcphbbchndkaa
namespace Go.Proofs.Ytbgcphbbchndkaa
open Go.Abs
abbrev jD.id : FuncId := 66
noncomputable def jD.jI : Code := (Code.seq (Code.region 3 (reg Try.f66 3) false) (Code.seq (Code.cond (Operand.tmp 10) Code.skip (Code.exit 0)) (Code.seq (Code.block 1 (Code.seq (Code.region 4 (reg Try.f66 4) false) (Code.seq (Code.seq (Code.region 5 (reg Try.f66 5) false) (Code.cond (Operand.tmp 16) (Code.seq (Code.region 6 (reg Try.f66 6) false) Code.ret) Code.skip)) (Code.region 7 (reg Try.f66 7) false)))) (Code.region 8 (reg Try.f66 8) false))))
noncomputable def jD.code : Code := (Code.seq (Code.region 0 (reg Try.f66 0) false) (Code.seq (Code.region 1 (reg Try.f66 1) false) (Code.seq (Code.seq (Code.region 2 (reg Try.f66 2) false) (Code.block 0 (Code.loop jD.jI))) (Code.seq (Code.region 9 (reg Try.f66 9) false) Code.ret))))
theorem jD.body : Try.f66.body = some jD.code := by kernel_rfl
theorem jD.eta {T : List Value} (h : T.length = 24) : T = [T.getD 0 undef,T.getD 1 undef,T.getD 2 undef,T.getD 3 undef,T.getD 4 undef,T.getD 5 undef,T.getD 6 undef,T.getD 7 undef,T.getD 8 undef,T.getD 9 undef,T.getD 10 undef,T.getD 11 undef,T.getD 12 undef,T.getD 13 undef,T.getD 14 undef,T.getD 15 undef,T.getD 16 undef,T.getD 17 undef,T.getD 18 undef,T.getD 19 undef,T.getD 20 undef,T.getD 21 undef,T.getD 22 undef,T.getD 23 undef] := (qw T 24 h).trans (by kernel_rfl)
variable (r v B s w t z x y u b c d f g i j k l m n o p q : Value) (S : zk)
theorem jD.r0  : jC Try.prog ⟨false, false, false⟩ (jc Try.prog O) (reg Try.f66 0) (reg Try.f66 0).toList ([r,v,B,s,w,t,z,x,y,u,b,c,d,f,g,i,j,k,l,m,n,o,p,q]) S =
  ( some ([r,v,Value.bool false,s,w,t,z,x,y,u,b,c,d,f,g,i,j,k,l,m,n,o,p,q], S)) := by
 kernel_rfl
theorem jD.r1  : jC Try.prog ⟨false, false, false⟩ (jc Try.prog O) (reg Try.f66 1) (reg Try.f66 1).toList ([r,v,B,s,w,t,z,x,y,u,b,c,d,f,g,i,j,k,l,m,n,o,p,q]) S =
  (zI (Zh Try.prog 100 none S) (fun E A => some ([r,v,B,E,w,t,dem E,x,y,u,b,c,d,f,g,i,j,k,l,m,n,o,p,q], A)) ()) := by
 kernel_rfl
theorem jD.r2  : jC Try.prog ⟨false, false, false⟩ (jc Try.prog O) (reg Try.f66 2) (reg Try.f66 2).toList ([r,v,B,s,w,t,z,x,y,u,b,c,d,f,g,i,j,k,l,m,n,o,p,q]) S =
  (zI (Zz Try.prog 26 (dem r) S) (fun C A => some ([r,v,B,s,w,t,z,dem r,C,Value.int IntKind.i64 0,b,c,d,f,g,i,j,k,l,m,n,o,p,q], A)) ()) := by
 kernel_rfl
theorem jD.r3  : jC Try.prog ⟨false, false, false⟩ (jc Try.prog O) (reg Try.f66 3) (reg Try.f66 3).toList ([r,v,B,s,w,t,z,x,y,u,b,c,d,f,g,i,j,k,l,m,n,o,p,q]) S =
  (zI (wu Try.prog BinOp.lss 3 u y S) (fun E A => some ([r,v,B,s,w,t,z,x,y,u,E,c,d,f,g,i,j,k,l,m,n,o,p,q], A)) ()) := by
 kernel_rfl
theorem jD.r4  : jC Try.prog ⟨false, false, false⟩ (jc Try.prog O) (reg Try.f66 4) (reg Try.f66 4).toList ([r,v,B,s,w,t,z,x,y,u,b,c,d,f,g,i,j,k,l,m,n,o,p,q]) S =
  (zI (jo Try.prog 26 x u S) (fun E A => zI (jf Try.prog false 25 E A) (fun C F => zI (yF Try.prog 25 F) (fun D G => zI (wH Try.prog 25 D (dem C) G) (fun H I => some ([r,v,B,s,w,D,z,x,y,u,b,E,C,f,g,i,j,k,l,m,n,o,p,q], I)) ()) ()) ()) ()) := by
 kernel_rfl
theorem jD.r5  : jC Try.prog ⟨false, false, false⟩ (jc Try.prog O) (reg Try.f66 5) (reg Try.f66 5).toList ([r,v,B,s,w,t,z,x,y,u,b,c,d,f,g,i,j,k,l,m,n,o,p,q]) S =
  (zI (zy Try.prog 25 t 0 S) (fun C A => zI (jf Try.prog false 3 C A) (fun D F => zI (ZP Try.prog false 100 (dem s) D false F) (fun H G => some ([r,v,B,s,w,t,z,x,y,u,b,c,d,dem s,C,D,H,k,l,m,n,o,p,q], G)) ()) ()) ()) := by
 kernel_rfl
theorem jD.r6  : jC Try.prog ⟨false, false, false⟩ (jc Try.prog O) (reg Try.f66 6) (reg Try.f66 6).toList ([r,v,B,s,w,t,z,x,y,u,b,c,d,f,g,i,j,k,l,m,n,o,p,q]) S =
  ( some ([r,v,Value.bool false,s,w,t,z,x,y,u,b,c,d,f,g,i,j,k,l,m,n,o,p,q], S)) := by
 kernel_rfl
theorem jD.r7  : jC Try.prog ⟨false, false, false⟩ (jc Try.prog O) (reg Try.f66 7) (reg Try.f66 7).toList ([r,v,B,s,w,t,z,x,y,u,b,c,d,f,g,i,j,k,l,m,n,o,p,q]) S =
  (zI (zy Try.prog 25 t 0 S) (fun C A => zI (jf Try.prog false 3 C A) (fun D F => zI (qj Try.prog 100 (dem s) D (Value.bool true) F) (fun H G => some ([r,v,B,s,w,t,z,x,y,u,b,c,d,f,g,i,j,dem s,C,D,n,o,p,q], G)) ()) ()) ()) := by
 kernel_rfl
theorem jD.r8  : jC Try.prog ⟨false, false, false⟩ (jc Try.prog O) (reg Try.f66 8) (reg Try.f66 8).toList ([r,v,B,s,w,t,z,x,y,u,b,c,d,f,g,i,j,k,l,m,n,o,p,q]) S =
  (zI (wu Try.prog BinOp.add 3 u (Value.int IntKind.i64 1) S) (fun E A => some ([r,v,B,s,w,t,z,x,y,dem E,b,c,d,f,g,i,j,k,l,m,E,o,p,q], A)) ()) := by
 kernel_rfl
theorem jD.r9  : jC Try.prog ⟨false, false, false⟩ (jc Try.prog O) (reg Try.f66 9) (reg Try.f66 9).toList ([r,v,B,s,w,t,z,x,y,u,b,c,d,f,g,i,j,k,l,m,n,o,p,q]) S =
  (zI (Zz Try.prog 26 (dem r) S) (fun C A => zI (wu Try.prog BinOp.leq 3 C (Value.int IntKind.i64 3) A) (fun D F => some ([r,v,D,s,w,t,z,x,y,u,b,c,d,f,g,i,j,k,l,m,n,dem r,C,dem D], F)) ()) ()) := by
 kernel_rfl
theorem jD.rs : type_of% (And.intro @jD.r0 (And.intro @jD.r1 (And.intro @jD.r2 (And.intro @jD.r3 (And.intro @jD.r4 (And.intro @jD.r5 (And.intro @jD.r6 (And.intro @jD.r7 (And.intro @jD.r8 (@jD.r9)))))))))) := And.intro @jD.r0 (And.intro @jD.r1 (And.intro @jD.r2 (And.intro @jD.r3 (And.intro @jD.r4 (And.intro @jD.r5 (And.intro @jD.r6 (And.intro @jD.r7 (And.intro @jD.r8 (@jD.r9)))))))))
theorem jD.runs {r : Value} {S A : zk} {e : AEx} {T : List Value} (h : zF Try.prog O false jD.code ([r,undef,undef,undef,undef,undef,undef,undef,undef,undef,undef,undef,undef,undef,undef,undef,undef,undef,undef,undef,undef,undef,undef,undef]) zk.empty = some (e, T, A)) (he : e = .normal ∨ e = .ret) (hca : [r].all (jH 16) = true) (hcv : jH 16 (T.getD 2 undef) = true) : jc Try.prog O 66 [r] S = some (T.getD 2 undef, S) :=
 yh rfl rfl Try.func66 (by decide) jD.body (by exact h) he (yN (a := T.getD 2 undef) ((show zO Try.prog T A Try.f66.results.toList = zO Try.prog T A [(ResultVar.tmp 2)] from by kernel_rfl).trans (by simp only [zO])) (by kernel_rfl)) hca hcv
end Go.Proofs.Ytbgcphbbchndkaa
namespace Go.Proofs.Ytbgcphbbchndkaa
open Go.Abs
abbrev jQ.id : FuncId := 56
noncomputable def jQ.jI : Code := (Code.seq (Code.region 5 (reg Try.f56 5) false) (Code.seq (Code.cond (Operand.tmp 23) Code.skip (Code.exit 0)) (Code.seq (Code.block 1 (Code.seq (Code.region 6 (reg Try.f56 6) false) (Code.seq (Code.region 7 (reg Try.f56 7) false) (Code.seq (Code.seq (Code.region 8 (reg Try.f56 8) false) (Code.cond (Operand.tmp 32) (Code.seq (Code.region 9 (reg Try.f56 9) false) Code.ret) Code.skip)) (Code.region 10 (reg Try.f56 10) false))))) (Code.region 11 (reg Try.f56 11) false))))
noncomputable def jQ.code : Code := (Code.seq (Code.region 0 (reg Try.f56 0) false) (Code.seq (Code.seq (Code.region 1 (reg Try.f56 1) false) (Code.cond (Operand.tmp 12) (Code.seq (Code.region 2 (reg Try.f56 2) false) Code.ret) Code.skip)) (Code.seq (Code.region 3 (reg Try.f56 3) false) (Code.seq (Code.seq (Code.region 4 (reg Try.f56 4) false) (Code.block 0 (Code.loop jQ.jI))) (Code.seq (Code.region 12 (reg Try.f56 12) false) Code.ret)))))
theorem jQ.body : Try.f56.body = some jQ.code := by kernel_rfl
theorem jQ.eta {T : List Value} (h : T.length = 39) : T = [T.getD 0 undef,T.getD 1 undef,T.getD 2 undef,T.getD 3 undef,T.getD 4 undef,T.getD 5 undef,T.getD 6 undef,T.getD 7 undef,T.getD 8 undef,T.getD 9 undef,T.getD 10 undef,T.getD 11 undef,T.getD 12 undef,T.getD 13 undef,T.getD 14 undef,T.getD 15 undef,T.getD 16 undef,T.getD 17 undef,T.getD 18 undef,T.getD 19 undef,T.getD 20 undef,T.getD 21 undef,T.getD 22 undef,T.getD 23 undef,T.getD 24 undef,T.getD 25 undef,T.getD 26 undef,T.getD 27 undef,T.getD 28 undef,T.getD 29 undef,T.getD 30 undef,T.getD 31 undef,T.getD 32 undef,T.getD 33 undef,T.getD 34 undef,T.getD 35 undef,T.getD 36 undef,T.getD 37 undef,T.getD 38 undef] := (qw T 39 h).trans (by kernel_rfl)
variable (F J N P H M K L I G d f g i j k l m n o b c a p q r s t u v w x y z A B C D E : Value) (S : zk)
theorem jQ.r0  : jC Try.prog ⟨false, false, false⟩ (jc Try.prog O) (reg Try.f56 0) (reg Try.f56 0).toList ([F,J,N,P,H,M,K,L,I,G,d,f,g,i,j,k,l,m,n,o,b,c,a,p,q,r,s,t,u,v,w,x,y,z,A,B,C,D,E]) S =
  ( some ([F,J,Value.slice none 0 0,Value.int IntKind.i64 0,H,M,K,L,I,G,d,f,g,i,j,k,l,m,n,o,b,c,a,p,q,r,s,t,u,v,w,x,y,z,A,B,C,D,E], S)) := by
 kernel_rfl
theorem jQ.r1  : jC Try.prog ⟨false, false, false⟩ (jc Try.prog O) (reg Try.f56 1) (reg Try.f56 1).toList ([F,J,N,P,H,M,K,L,I,G,d,f,g,i,j,k,l,m,n,o,b,c,a,p,q,r,s,t,u,v,w,x,y,z,A,B,C,D,E]) S =
  (zI ((jc Try.prog O) 66 [(dem (dem F))] S) (fun R Q => zI (aUn Try.prog UnOp.not R Q) (fun U X => some ([F,J,N,P,H,M,K,L,I,G,dem F,R,U,i,j,k,l,m,n,o,b,c,a,p,q,r,s,t,u,v,w,x,y,z,A,B,C,D,E], X)) ()) ()) := by
 kernel_rfl
theorem jQ.r2  : jC Try.prog ⟨false, false, false⟩ (jc Try.prog O) (reg Try.f56 2) (reg Try.f56 2).toList ([F,J,N,P,H,M,K,L,I,G,d,f,g,i,j,k,l,m,n,o,b,c,a,p,q,r,s,t,u,v,w,x,y,z,A,B,C,D,E]) S =
  ( some ([F,J,Value.slice none 0 0,Value.int IntKind.i64 61,H,M,K,L,I,G,d,f,g,i,j,k,l,m,n,o,b,c,a,p,q,r,s,t,u,v,w,x,y,z,A,B,C,D,E], S)) := by
 kernel_rfl
theorem jQ.r3  : jC Try.prog ⟨false, false, false⟩ (jc Try.prog O) (reg Try.f56 3) (reg Try.f56 3).toList ([F,J,N,P,H,M,K,L,I,G,d,f,g,i,j,k,l,m,n,o,b,c,a,p,q,r,s,t,u,v,w,x,y,z,A,B,C,D,E]) S =
  (zI (Zz Try.prog 26 (dem F) S) (fun R Q => zI (jR Try.prog 57 1 [(0, R)] Q) (fun U X => zI ((jc Try.prog O) 32 [(dem U)] X) (fun W Y => zI (zU W 0 Y) (fun v5 Z => zI (zU (zS 0 W) 1 Z) (fun v6 S5 => some ([F,J,N,P,v5,v6,K,L,I,G,d,f,g,zS 1 (zS 0 W),dem F,R,U,dem W,dem v5,dem v6,b,c,a,p,q,r,s,t,u,v,w,x,y,z,A,B,C,D,E], S5)) ()) ()) ()) ()) ()) := by
 kernel_rfl
theorem jQ.r4  : jC Try.prog ⟨false, false, false⟩ (jc Try.prog O) (reg Try.f56 4) (reg Try.f56 4).toList ([F,J,N,P,H,M,K,L,I,G,d,f,g,i,j,k,l,m,n,o,b,c,a,p,q,r,s,t,u,v,w,x,y,z,A,B,C,D,E]) S =
  (zI (Zz Try.prog 26 (dem F) S) (fun R Q => some ([F,J,N,P,H,M,K,L,I,G,d,f,g,i,j,k,l,m,n,o,dem F,R,Value.int IntKind.i64 0,p,q,r,s,t,u,v,w,x,y,z,A,B,C,D,E], Q)) ()) := by
 kernel_rfl
theorem jQ.r5  : jC Try.prog ⟨false, false, false⟩ (jc Try.prog O) (reg Try.f56 5) (reg Try.f56 5).toList ([F,J,N,P,H,M,K,L,I,G,d,f,g,i,j,k,l,m,n,o,b,c,a,p,q,r,s,t,u,v,w,x,y,z,A,B,C,D,E]) S =
  (zI (wu Try.prog BinOp.lss 3 a c S) (fun V Q => some ([F,J,N,P,H,M,K,L,I,G,d,f,g,i,j,k,l,m,n,o,b,c,a,V,q,r,s,t,u,v,w,x,y,z,A,B,C,D,E], Q)) ()) := by
 kernel_rfl
theorem jQ.r6  : jC Try.prog ⟨false, false, false⟩ (jc Try.prog O) (reg Try.f56 6) (reg Try.f56 6).toList ([F,J,N,P,H,M,K,L,I,G,d,f,g,i,j,k,l,m,n,o,b,c,a,p,q,r,s,t,u,v,w,x,y,z,A,B,C,D,E]) S =
  (zI (jo Try.prog 26 b a S) (fun V Q => zI (jf Try.prog false 25 V Q) (fun R X => zI (yF Try.prog 25 X) (fun U Y => zI (wH Try.prog 25 U (dem R) Y) (fun W Z => some ([F,J,N,P,H,M,K,U,I,G,d,f,g,i,j,k,l,m,n,o,b,c,a,p,V,R,s,t,u,v,w,x,y,z,A,B,C,D,E], Z)) ()) ()) ()) ()) := by
 kernel_rfl
theorem jQ.r7  : jC Try.prog ⟨false, false, false⟩ (jc Try.prog O) (reg Try.f56 7) (reg Try.f56 7).toList ([F,J,N,P,H,M,K,L,I,G,d,f,g,i,j,k,l,m,n,o,b,c,a,p,q,r,s,t,u,v,w,x,y,z,A,B,C,D,E]) S =
  (zI (jf Try.prog false 25 L S) (fun V Q => zI ((jc Try.prog O) 33 [(dem V)] Q) (fun R X => zI (zU R 0 X) (fun W Y => zI (zU (zS 0 R) 1 Y) (fun v4 Z => some ([F,J,N,P,H,M,K,L,W,v4,d,f,g,i,j,k,l,m,n,o,b,c,a,p,q,r,zS 1 (zS 0 R),V,dem R,dem W,dem v4,x,y,z,A,B,C,D,E], Z)) ()) ()) ()) ()) := by
 kernel_rfl
theorem jQ.r8  : jC Try.prog ⟨false, false, false⟩ (jc Try.prog O) (reg Try.f56 8) (reg Try.f56 8).toList ([F,J,N,P,H,M,K,L,I,G,d,f,g,i,j,k,l,m,n,o,b,c,a,p,q,r,s,t,u,v,w,x,y,z,A,B,C,D,E]) S =
  (zI (wu Try.prog BinOp.neq 31 (dem G) (Value.int IntKind.i64 0) S) (fun R Q => some ([F,J,N,P,H,M,K,L,I,G,d,f,g,i,j,k,l,m,n,o,b,c,a,p,q,r,s,t,u,v,w,dem G,R,z,A,B,C,D,E], Q)) ()) := by
 kernel_rfl
theorem jQ.r9  : jC Try.prog ⟨false, false, false⟩ (jc Try.prog O) (reg Try.f56 9) (reg Try.f56 9).toList ([F,J,N,P,H,M,K,L,I,G,d,f,g,i,j,k,l,m,n,o,b,c,a,p,q,r,s,t,u,v,w,x,y,z,A,B,C,D,E]) S =
  ( some ([F,J,Value.slice none 0 0,G,H,M,K,L,I,dem G,d,f,g,i,j,k,l,m,n,o,b,c,a,p,q,r,s,t,u,v,w,x,y,dem G,A,B,C,D,E], S)) := by
 kernel_rfl
theorem jQ.r10  : jC Try.prog ⟨false, false, false⟩ (jc Try.prog O) (reg Try.f56 10) (reg Try.f56 10).toList ([F,J,N,P,H,M,K,L,I,G,d,f,g,i,j,k,l,m,n,o,b,c,a,p,q,r,s,t,u,v,w,x,y,z,A,B,C,D,E]) S =
  (zI (wY Try.prog 23 23 H (dem I) S) (fun U Q => some ([F,J,N,P,U,M,K,L,I,G,d,f,g,i,j,k,l,m,n,o,b,c,a,p,q,r,s,t,u,v,w,x,y,z,dem H,dem I,dem U,D,E], Q)) ()) := by
 kernel_rfl
theorem jQ.r11  : jC Try.prog ⟨false, false, false⟩ (jc Try.prog O) (reg Try.f56 11) (reg Try.f56 11).toList ([F,J,N,P,H,M,K,L,I,G,d,f,g,i,j,k,l,m,n,o,b,c,a,p,q,r,s,t,u,v,w,x,y,z,A,B,C,D,E]) S =
  (zI (wu Try.prog BinOp.add 3 a (Value.int IntKind.i64 1) S) (fun V Q => some ([F,J,N,P,H,M,K,L,I,G,d,f,g,i,j,k,l,m,n,o,b,c,dem V,p,q,r,s,t,u,v,w,x,y,z,A,B,C,V,E], Q)) ()) := by
 kernel_rfl
theorem jQ.r12  : jC Try.prog ⟨false, false, false⟩ (jc Try.prog O) (reg Try.f56 12) (reg Try.f56 12).toList ([F,J,N,P,H,M,K,L,I,G,d,f,g,i,j,k,l,m,n,o,b,c,a,p,q,r,s,t,u,v,w,x,y,z,A,B,C,D,E]) S =
  ( some ([F,J,H,Value.int IntKind.i64 0,dem H,M,K,L,I,G,d,f,g,i,j,k,l,m,n,o,b,c,a,p,q,r,s,t,u,v,w,x,y,z,A,B,C,D,dem H], S)) := by
 kernel_rfl
theorem jQ.rs : type_of% (And.intro @jQ.r0 (And.intro @jQ.r1 (And.intro @jQ.r2 (And.intro @jQ.r3 (And.intro @jQ.r4 (And.intro @jQ.r5 (And.intro @jQ.r6 (And.intro @jQ.r7 (And.intro @jQ.r8 (And.intro @jQ.r9 (And.intro @jQ.r10 (And.intro @jQ.r11 (@jQ.r12))))))))))))) := And.intro @jQ.r0 (And.intro @jQ.r1 (And.intro @jQ.r2 (And.intro @jQ.r3 (And.intro @jQ.r4 (And.intro @jQ.r5 (And.intro @jQ.r6 (And.intro @jQ.r7 (And.intro @jQ.r8 (And.intro @jQ.r9 (And.intro @jQ.r10 (And.intro @jQ.r11 (@jQ.r12))))))))))))
theorem jQ.runs {F : Value} {S Q : zk} {e : AEx} {T : List Value} (h : zF Try.prog O false jQ.code ([F,undef,undef,undef,undef,undef,undef,undef,undef,undef,undef,undef,undef,undef,undef,undef,undef,undef,undef,undef,undef,undef,undef,undef,undef,undef,undef,undef,undef,undef,undef,undef,undef,undef,undef,undef,undef,undef,undef]) zk.empty = some (e, T, Q)) (he : e = .normal ∨ e = .ret)  (h0 : jW (T.getD 2 undef) = true) (h1 : jW (T.getD 3 undef) = true) (hca : [F].all (jH 16) = true) (hcv : jH 16 (Value.tuple #[T.getD 2 undef, T.getD 3 undef]) = true) : jc Try.prog O 56 [F] S = some (Value.tuple #[T.getD 2 undef, T.getD 3 undef], S) :=
 yh rfl rfl Try.func56 (by decide) jQ.body (by exact h) he ((yP ((show zO Try.prog T Q Try.f56.results.toList = zO Try.prog T Q [(ResultVar.tmp 2), (ResultVar.tmp 3)] from by kernel_rfl).trans (by simp only [zO])) (by kernel_rfl) (by simp only [List.all_cons, List.all_nil, h0, h1, Bool.and_true])).trans rfl) hca hcv
end Go.Proofs.Ytbgcphbbchndkaa
namespace Go.Proofs.Ytbgcphbbchndkaa
open Go.Abs
abbrev zo.id : FuncId := 61
noncomputable def zo.jI : Code := (Code.seq (Code.region 10 (reg Try.f61 10) false) (Code.seq (Code.cond (Operand.tmp 30) Code.skip (Code.exit 2)) (Code.seq (Code.block 3 (Code.seq (Code.region 11 (reg Try.f61 11) false) (Code.seq (Code.region 12 (reg Try.f61 12) false) (Code.cond (Operand.tmp 37) (Code.seq (Code.region 13 (reg Try.f61 13) false) Code.ret) Code.skip)))) (Code.region 14 (reg Try.f61 14) false))))
noncomputable def zo.xJ : Code := (Code.seq (Code.region 5 (reg Try.f61 5) false) (Code.seq (Code.cond (Operand.tmp 18) Code.skip (Code.exit 0)) (Code.seq (Code.block 1 (Code.seq (Code.region 6 (reg Try.f61 6) false) (Code.seq (Code.seq (Code.region 7 (reg Try.f61 7) false) (Code.cond (Operand.tmp 24) (Code.seq (Code.region 8 (reg Try.f61 8) false) Code.ret) Code.skip)) (Code.seq (Code.seq (Code.region 9 (reg Try.f61 9) false) (Code.block 2 (Code.loop zo.jI))) (Code.region 15 (reg Try.f61 15) false))))) (Code.region 16 (reg Try.f61 16) false))))
noncomputable def zo.code : Code := (Code.seq (Code.region 0 (reg Try.f61 0) false) (Code.seq (Code.seq (Code.region 1 (reg Try.f61 1) false) (Code.cond (Operand.tmp 11) (Code.seq (Code.region 2 (reg Try.f61 2) false) Code.ret) Code.skip)) (Code.seq (Code.region 3 (reg Try.f61 3) false) (Code.seq (Code.seq (Code.region 4 (reg Try.f61 4) false) (Code.block 0 (Code.loop zo.xJ))) (Code.seq (Code.region 17 (reg Try.f61 17) false) Code.ret)))))
theorem zo.body : Try.f61.body = some zo.code := by kernel_rfl
theorem zo.eta {T : List Value} (h : T.length = 51) : T = [T.getD 0 undef,T.getD 1 undef,T.getD 2 undef,T.getD 3 undef,T.getD 4 undef,T.getD 5 undef,T.getD 6 undef,T.getD 7 undef,T.getD 8 undef,T.getD 9 undef,T.getD 10 undef,T.getD 11 undef,T.getD 12 undef,T.getD 13 undef,T.getD 14 undef,T.getD 15 undef,T.getD 16 undef,T.getD 17 undef,T.getD 18 undef,T.getD 19 undef,T.getD 20 undef,T.getD 21 undef,T.getD 22 undef,T.getD 23 undef,T.getD 24 undef,T.getD 25 undef,T.getD 26 undef,T.getD 27 undef,T.getD 28 undef,T.getD 29 undef,T.getD 30 undef,T.getD 31 undef,T.getD 32 undef,T.getD 33 undef,T.getD 34 undef,T.getD 35 undef,T.getD 36 undef,T.getD 37 undef,T.getD 38 undef,T.getD 39 undef,T.getD 40 undef,T.getD 41 undef,T.getD 42 undef,T.getD 43 undef,T.getD 44 undef,T.getD 45 undef,T.getD 46 undef,T.getD 47 undef,T.getD 48 undef,T.getD 49 undef,T.getD 50 undef] := (qw T 51 h).trans (by kernel_rfl)
variable (U Y x2 x3 W X V Z x8 x9 i j k l m c d a n o p q r s t u v f g b w x y z A B C D E F G H I J K L M N P Q R : Value) (S : zk)
theorem zo.r0  : jC Try.prog ⟨false, false, false⟩ (jc Try.prog O) (reg Try.f61 0) (reg Try.f61 0).toList ([U,Y,x2,x3,W,X,V,Z,x8,x9,i,j,k,l,m,c,d,a,n,o,p,q,r,s,t,u,v,f,g,b,w,x,y,z,A,B,C,D,E,F,G,H,I,J,K,L,M,N,P,Q,R]) S =
  ( some ([U,Y,Value.slice none 0 0,Value.int IntKind.i64 0,W,X,V,Z,x8,x9,i,j,k,l,m,c,d,a,n,o,p,q,r,s,t,u,v,f,g,b,w,x,y,z,A,B,C,D,E,F,G,H,I,J,K,L,M,N,P,Q,R], S)) := by
 kernel_rfl
theorem zo.r1  : jC Try.prog ⟨false, false, false⟩ (jc Try.prog O) (reg Try.f61 1) (reg Try.f61 1).toList ([U,Y,x2,x3,W,X,V,Z,x8,x9,i,j,k,l,m,c,d,a,n,o,p,q,r,s,t,u,v,f,g,b,w,x,y,z,A,B,C,D,E,F,G,H,I,J,K,L,M,N,P,Q,R]) S =
  (zI (Zz Try.prog 26 (dem U) S) (fun v1 S1 => zI (wu Try.prog BinOp.gtr 3 v1 (Value.int IntKind.i64 3) S1) (fun v2 S2 => some ([U,Y,x2,x3,W,X,V,Z,x8,dem U,v1,v2,k,l,m,c,d,a,n,o,p,q,r,s,t,u,v,f,g,b,w,x,y,z,A,B,C,D,E,F,G,H,I,J,K,L,M,N,P,Q,R], S2)) ()) ()) := by
 kernel_rfl
theorem zo.r2  : jC Try.prog ⟨false, false, false⟩ (jc Try.prog O) (reg Try.f61 2) (reg Try.f61 2).toList ([U,Y,x2,x3,W,X,V,Z,x8,x9,i,j,k,l,m,c,d,a,n,o,p,q,r,s,t,u,v,f,g,b,w,x,y,z,A,B,C,D,E,F,G,H,I,J,K,L,M,N,P,Q,R]) S =
  ( some ([U,Y,Value.slice none 0 0,Value.int IntKind.i64 61,W,X,V,Z,x8,x9,i,j,k,l,m,c,d,a,n,o,p,q,r,s,t,u,v,f,g,b,w,x,y,z,A,B,C,D,E,F,G,H,I,J,K,L,M,N,P,Q,R], S)) := by
 kernel_rfl
theorem zo.r3  : jC Try.prog ⟨false, false, false⟩ (jc Try.prog O) (reg Try.f61 3) (reg Try.f61 3).toList ([U,Y,x2,x3,W,X,V,Z,x8,x9,i,j,k,l,m,c,d,a,n,o,p,q,r,s,t,u,v,f,g,b,w,x,y,z,A,B,C,D,E,F,G,H,I,J,K,L,M,N,P,Q,R]) S =
  (zI (Zz Try.prog 26 (dem U) S) (fun v1 S1 => zI (jR Try.prog 57 1 [(0, v1)] S1) (fun v2 S2 => some ([U,Y,x2,x3,v2,X,V,Z,x8,x9,i,j,dem U,v1,dem v2,c,d,a,n,o,p,q,r,s,t,u,v,f,g,b,w,x,y,z,A,B,C,D,E,F,G,H,I,J,K,L,M,N,P,Q,R], S2)) ()) ()) := by
 kernel_rfl
theorem zo.r4  : jC Try.prog ⟨false, false, false⟩ (jc Try.prog O) (reg Try.f61 4) (reg Try.f61 4).toList ([U,Y,x2,x3,W,X,V,Z,x8,x9,i,j,k,l,m,c,d,a,n,o,p,q,r,s,t,u,v,f,g,b,w,x,y,z,A,B,C,D,E,F,G,H,I,J,K,L,M,N,P,Q,R]) S =
  (zI (Zz Try.prog 26 (dem U) S) (fun v1 S1 => some ([U,Y,x2,x3,W,X,V,Z,x8,x9,i,j,k,l,m,dem U,v1,Value.int IntKind.i64 0,n,o,p,q,r,s,t,u,v,f,g,b,w,x,y,z,A,B,C,D,E,F,G,H,I,J,K,L,M,N,P,Q,R], S1)) ()) := by
 kernel_rfl
theorem zo.r5  : jC Try.prog ⟨false, false, false⟩ (jc Try.prog O) (reg Try.f61 5) (reg Try.f61 5).toList ([U,Y,x2,x3,W,X,V,Z,x8,x9,i,j,k,l,m,c,d,a,n,o,p,q,r,s,t,u,v,f,g,b,w,x,y,z,A,B,C,D,E,F,G,H,I,J,K,L,M,N,P,Q,R]) S =
  (zI (wu Try.prog BinOp.lss 3 a d S) (fun v0 S1 => some ([U,Y,x2,x3,W,X,V,Z,x8,x9,i,j,k,l,m,c,d,a,v0,o,p,q,r,s,t,u,v,f,g,b,w,x,y,z,A,B,C,D,E,F,G,H,I,J,K,L,M,N,P,Q,R], S1)) ()) := by
 kernel_rfl
theorem zo.r6  : jC Try.prog ⟨false, false, false⟩ (jc Try.prog O) (reg Try.f61 6) (reg Try.f61 6).toList ([U,Y,x2,x3,W,X,V,Z,x8,x9,i,j,k,l,m,c,d,a,n,o,p,q,r,s,t,u,v,f,g,b,w,x,y,z,A,B,C,D,E,F,G,H,I,J,K,L,M,N,P,Q,R]) S =
  (zI (jo Try.prog 26 c (dem a) S) (fun v1 S1 => zI (jf Try.prog false 25 v1 S1) (fun v2 S2 => zI (yF Try.prog 25 S2) (fun v3 S3 => zI (wH Try.prog 25 v3 (dem v2) S3) (fun v5 S4 => some ([U,Y,x2,x3,W,a,v3,Z,x8,x9,i,j,k,l,m,c,d,dem a,n,dem a,v1,v2,r,s,t,u,v,f,g,b,w,x,y,z,A,B,C,D,E,F,G,H,I,J,K,L,M,N,P,Q,R], S4)) ()) ()) ()) ()) := by
 kernel_rfl
theorem zo.r7  : jC Try.prog ⟨false, false, false⟩ (jc Try.prog O) (reg Try.f61 7) (reg Try.f61 7).toList ([U,Y,x2,x3,W,X,V,Z,x8,x9,i,j,k,l,m,c,d,a,n,o,p,q,r,s,t,u,v,f,g,b,w,x,y,z,A,B,C,D,E,F,G,H,I,J,K,L,M,N,P,Q,R]) S =
  (zI (jf Try.prog false 25 V S) (fun v0 S1 => zI ((jc Try.prog O) 46 [(dem v0)] S1) (fun v1 S2 => zI (aUn Try.prog UnOp.not v1 S2) (fun v2 S3 => some ([U,Y,x2,x3,W,X,V,Z,x8,x9,i,j,k,l,m,c,d,a,n,o,p,q,v0,v1,v2,u,v,f,g,b,w,x,y,z,A,B,C,D,E,F,G,H,I,J,K,L,M,N,P,Q,R], S3)) ()) ()) ()) := by
 kernel_rfl
theorem zo.r8  : jC Try.prog ⟨false, false, false⟩ (jc Try.prog O) (reg Try.f61 8) (reg Try.f61 8).toList ([U,Y,x2,x3,W,X,V,Z,x8,x9,i,j,k,l,m,c,d,a,n,o,p,q,r,s,t,u,v,f,g,b,w,x,y,z,A,B,C,D,E,F,G,H,I,J,K,L,M,N,P,Q,R]) S =
  ( some ([U,Y,Value.slice none 0 0,Value.int IntKind.i64 61,W,X,V,Z,x8,x9,i,j,k,l,m,c,d,a,n,o,p,q,r,s,t,u,v,f,g,b,w,x,y,z,A,B,C,D,E,F,G,H,I,J,K,L,M,N,P,Q,R], S)) := by
 kernel_rfl
theorem zo.r9  : jC Try.prog ⟨false, false, false⟩ (jc Try.prog O) (reg Try.f61 9) (reg Try.f61 9).toList ([U,Y,x2,x3,W,X,V,Z,x8,x9,i,j,k,l,m,c,d,a,n,o,p,q,r,s,t,u,v,f,g,b,w,x,y,z,A,B,C,D,E,F,G,H,I,J,K,L,M,N,P,Q,R]) S =
  (zI (Zc Try.prog false 26 (dem U) none (some (dem X)) S) (fun v2 S1 => zI (Zz Try.prog 26 v2 S1) (fun v3 S2 => some ([U,Y,x2,x3,W,X,V,Z,x8,x9,i,j,k,l,m,c,d,a,n,o,p,q,r,s,t,dem U,dem X,v2,v3,Value.int IntKind.i64 0,w,x,y,z,A,B,C,D,E,F,G,H,I,J,K,L,M,N,P,Q,R], S2)) ()) ()) := by
 kernel_rfl
theorem zo.r10  : jC Try.prog ⟨false, false, false⟩ (jc Try.prog O) (reg Try.f61 10) (reg Try.f61 10).toList ([U,Y,x2,x3,W,X,V,Z,x8,x9,i,j,k,l,m,c,d,a,n,o,p,q,r,s,t,u,v,f,g,b,w,x,y,z,A,B,C,D,E,F,G,H,I,J,K,L,M,N,P,Q,R]) S =
  (zI (wu Try.prog BinOp.lss 3 b g S) (fun v0 S1 => some ([U,Y,x2,x3,W,X,V,Z,x8,x9,i,j,k,l,m,c,d,a,n,o,p,q,r,s,t,u,v,f,g,b,v0,x,y,z,A,B,C,D,E,F,G,H,I,J,K,L,M,N,P,Q,R], S1)) ()) := by
 kernel_rfl
theorem zo.r11  : jC Try.prog ⟨false, false, false⟩ (jc Try.prog O) (reg Try.f61 11) (reg Try.f61 11).toList ([U,Y,x2,x3,W,X,V,Z,x8,x9,i,j,k,l,m,c,d,a,n,o,p,q,r,s,t,u,v,f,g,b,w,x,y,z,A,B,C,D,E,F,G,H,I,J,K,L,M,N,P,Q,R]) S =
  (zI (jo Try.prog 26 f b S) (fun v0 S1 => zI (jf Try.prog false 25 v0 S1) (fun v1 S2 => zI (yF Try.prog 25 S2) (fun v2 S3 => zI (wH Try.prog 25 v2 (dem v1) S3) (fun v3 S4 => some ([U,Y,x2,x3,W,X,V,Z,v2,x9,i,j,k,l,m,c,d,a,n,o,p,q,r,s,t,u,v,f,g,b,w,v0,v1,z,A,B,C,D,E,F,G,H,I,J,K,L,M,N,P,Q,R], S4)) ()) ()) ()) ()) := by
 kernel_rfl
theorem zo.r12  : jC Try.prog ⟨false, false, false⟩ (jc Try.prog O) (reg Try.f61 12) (reg Try.f61 12).toList ([U,Y,x2,x3,W,X,V,Z,x8,x9,i,j,k,l,m,c,d,a,n,o,p,q,r,s,t,u,v,f,g,b,w,x,y,z,A,B,C,D,E,F,G,H,I,J,K,L,M,N,P,Q,R]) S =
  (zI (zy Try.prog 25 x8 0 S) (fun v0 S1 => zI (jf Try.prog false 3 v0 S1) (fun v1 S2 => zI (zy Try.prog 25 V 0 S2) (fun v2 S3 => zI (jf Try.prog false 3 v2 S3) (fun v3 S4 => zI (wu Try.prog BinOp.eql 3 v1 v3 S4) (fun v4 S5 => some ([U,Y,x2,x3,W,X,V,Z,x8,x9,i,j,k,l,m,c,d,a,n,o,p,q,r,s,t,u,v,f,g,b,w,x,y,v0,v1,v2,v3,v4,E,F,G,H,I,J,K,L,M,N,P,Q,R], S5)) ()) ()) ()) ()) ()) := by
 kernel_rfl
theorem zo.r13  : jC Try.prog ⟨false, false, false⟩ (jc Try.prog O) (reg Try.f61 13) (reg Try.f61 13).toList ([U,Y,x2,x3,W,X,V,Z,x8,x9,i,j,k,l,m,c,d,a,n,o,p,q,r,s,t,u,v,f,g,b,w,x,y,z,A,B,C,D,E,F,G,H,I,J,K,L,M,N,P,Q,R]) S =
  ( some ([U,Y,Value.slice none 0 0,Value.int IntKind.i64 61,W,X,V,Z,x8,x9,i,j,k,l,m,c,d,a,n,o,p,q,r,s,t,u,v,f,g,b,w,x,y,z,A,B,C,D,E,F,G,H,I,J,K,L,M,N,P,Q,R], S)) := by
 kernel_rfl
theorem zo.r14  : jC Try.prog ⟨false, false, false⟩ (jc Try.prog O) (reg Try.f61 14) (reg Try.f61 14).toList ([U,Y,x2,x3,W,X,V,Z,x8,x9,i,j,k,l,m,c,d,a,n,o,p,q,r,s,t,u,v,f,g,b,w,x,y,z,A,B,C,D,E,F,G,H,I,J,K,L,M,N,P,Q,R]) S =
  (zI (wu Try.prog BinOp.add 3 b (Value.int IntKind.i64 1) S) (fun v0 S1 => some ([U,Y,x2,x3,W,X,V,Z,x8,x9,i,j,k,l,m,c,d,a,n,o,p,q,r,s,t,u,v,f,g,dem v0,w,x,y,z,A,B,C,D,v0,F,G,H,I,J,K,L,M,N,P,Q,R], S1)) ()) := by
 kernel_rfl
theorem zo.r15  : jC Try.prog ⟨false, false, false⟩ (jc Try.prog O) (reg Try.f61 15) (reg Try.f61 15).toList ([U,Y,x2,x3,W,X,V,Z,x8,x9,i,j,k,l,m,c,d,a,n,o,p,q,r,s,t,u,v,f,g,b,w,x,y,z,A,B,C,D,E,F,G,H,I,J,K,L,M,N,P,Q,R]) S =
  (zI (zy Try.prog 25 V 0 S) (fun v1 S1 => zI (jf Try.prog false 3 v1 S1) (fun v2 S2 => zI (zy Try.prog 25 V 1 S2) (fun v3 S3 => zI (jf Try.prog false 3 v3 S3) (fun v4 S4 => zI (jR Try.prog 57 2 [(0, v2), (1, v4)] S4) (fun v5 S5 => zI (wY Try.prog 57 57 W v5 S5) (fun v6 S6 => some ([U,Y,x2,x3,v6,X,V,Z,x8,x9,i,j,k,l,m,c,d,a,n,o,p,q,r,s,t,u,v,f,g,b,w,x,y,z,A,B,C,D,E,dem W,v1,v2,v3,v4,v5,dem v6,M,N,P,Q,R], S6)) ()) ()) ()) ()) ()) ()) := by
 kernel_rfl
theorem zo.r16  : jC Try.prog ⟨false, false, false⟩ (jc Try.prog O) (reg Try.f61 16) (reg Try.f61 16).toList ([U,Y,x2,x3,W,X,V,Z,x8,x9,i,j,k,l,m,c,d,a,n,o,p,q,r,s,t,u,v,f,g,b,w,x,y,z,A,B,C,D,E,F,G,H,I,J,K,L,M,N,P,Q,R]) S =
  (zI (wu Try.prog BinOp.add 3 a (Value.int IntKind.i64 1) S) (fun v0 S1 => some ([U,Y,x2,x3,W,X,V,Z,x8,x9,i,j,k,l,m,c,d,dem v0,n,o,p,q,r,s,t,u,v,f,g,b,w,x,y,z,A,B,C,D,E,F,G,H,I,J,K,L,v0,N,P,Q,R], S1)) ()) := by
 kernel_rfl
theorem zo.r17  : jC Try.prog ⟨false, false, false⟩ (jc Try.prog O) (reg Try.f61 17) (reg Try.f61 17).toList ([U,Y,x2,x3,W,X,V,Z,x8,x9,i,j,k,l,m,c,d,a,n,o,p,q,r,s,t,u,v,f,g,b,w,x,y,z,A,B,C,D,E,F,G,H,I,J,K,L,M,N,P,Q,R]) S =
  (zI ((jc Try.prog O) 42 [(dem (dem W))] S) (fun v1 S1 => zI (zU v1 0 S1) (fun v2 S2 => zI (zU (zS 0 v1) 1 S2) (fun v3 S3 => some ([U,Y,v2,v3,W,X,V,Z,x8,x9,i,j,k,l,m,c,d,a,n,o,p,q,r,s,t,u,v,f,g,b,w,x,y,z,A,B,C,D,E,F,G,H,I,J,K,L,M,dem W,zS 1 (zS 0 v1),dem v2,dem v3], S3)) ()) ()) ()) := by
 kernel_rfl
theorem zo.rs : type_of% (And.intro @zo.r0 (And.intro @zo.r1 (And.intro @zo.r2 (And.intro @zo.r3 (And.intro @zo.r4 (And.intro @zo.r5 (And.intro @zo.r6 (And.intro @zo.r7 (And.intro @zo.r8 (And.intro @zo.r9 (And.intro @zo.r10 (And.intro @zo.r11 (And.intro @zo.r12 (And.intro @zo.r13 (And.intro @zo.r14 (And.intro @zo.r15 (And.intro @zo.r16 (@zo.r17)))))))))))))))))) := And.intro @zo.r0 (And.intro @zo.r1 (And.intro @zo.r2 (And.intro @zo.r3 (And.intro @zo.r4 (And.intro @zo.r5 (And.intro @zo.r6 (And.intro @zo.r7 (And.intro @zo.r8 (And.intro @zo.r9 (And.intro @zo.r10 (And.intro @zo.r11 (And.intro @zo.r12 (And.intro @zo.r13 (And.intro @zo.r14 (And.intro @zo.r15 (And.intro @zo.r16 (@zo.r17)))))))))))))))))
theorem zo.runs {U : Value} {S S1 : zk} {e : AEx} {T : List Value} (h : zF Try.prog O false zo.code ([U,undef,undef,undef,undef,undef,undef,undef,undef,undef,undef,undef,undef,undef,undef,undef,undef,undef,undef,undef,undef,undef,undef,undef,undef,undef,undef,undef,undef,undef,undef,undef,undef,undef,undef,undef,undef,undef,undef,undef,undef,undef,undef,undef,undef,undef,undef,undef,undef,undef,undef]) zk.empty = some (e, T, S1)) (he : e = .normal ∨ e = .ret)  (h0 : jW (T.getD 2 undef) = true) (h1 : jW (T.getD 3 undef) = true) (hca : [U].all (jH 16) = true) (hcv : jH 16 (Value.tuple #[T.getD 2 undef, T.getD 3 undef]) = true) : jc Try.prog O 61 [U] S = some (Value.tuple #[T.getD 2 undef, T.getD 3 undef], S) :=
 yh rfl rfl Try.func61 (by decide) zo.body (by exact h) he ((yP ((show zO Try.prog T S1 Try.f61.results.toList = zO Try.prog T S1 [(ResultVar.tmp 2), (ResultVar.tmp 3)] from by kernel_rfl).trans (by simp only [zO])) (by kernel_rfl) (by simp only [List.all_cons, List.all_nil, h0, h1, Bool.and_true])).trans rfl) hca hcv
end Go.Proofs.Ytbgcphbbchndkaa
namespace Go.Proofs.Ytbgcphbbchndkaa
open Go.Abs
abbrev yx.id : FuncId := 33
noncomputable def yx.code : Code := (Code.seq (Code.region 0 (reg Try.f33 0) false) (Code.seq (Code.seq (Code.region 1 (reg Try.f33 1) false) (Code.cond (Operand.tmp 8) (Code.seq (Code.region 2 (reg Try.f33 2) false) Code.ret) Code.skip)) (Code.seq (Code.region 3 (reg Try.f33 3) false) (Code.seq (Code.region 4 (reg Try.f33 4) false) Code.ret))))
theorem yx.body : Try.f33.body = some yx.code := by kernel_rfl
variable (a m u v n o p q r s b c d f g i j k l : Value) (S : zk)
theorem yx.r0  : jC Try.prog ⟨false, false, false⟩ (jc Try.prog O) (reg Try.f33 0) (reg Try.f33 0).toList ([a,m,u,v,n,o,p,q,r,s,b,c,d,f,g,i,j,k,l]) S =
  (zI (J5 (dem a) S) (fun w t => some ([a,w,Value.slice none 0 0,Value.int IntKind.i64 0,n,o,p,q,r,s,b,c,d,f,g,i,j,k,l], t)) ()) := by
 kernel_rfl
theorem yx.r1  : jC Try.prog ⟨false, false, false⟩ (jc Try.prog O) (reg Try.f33 1) (reg Try.f33 1).toList ([a,m,u,v,n,o,p,q,r,s,b,c,d,f,g,i,j,k,l]) S =
  (zI (jf Try.prog false 25 m S) (fun w t => zI ((jc Try.prog O) 38 [(dem w)] t) (fun x A => zI (aUn Try.prog UnOp.not x A) (fun y B => some ([a,m,u,v,n,o,w,x,y,s,b,c,d,f,g,i,j,k,l], B)) ()) ()) ()) := by
 kernel_rfl
theorem yx.r2  : jC Try.prog ⟨false, false, false⟩ (jc Try.prog O) (reg Try.f33 2) (reg Try.f33 2).toList ([a,m,u,v,n,o,p,q,r,s,b,c,d,f,g,i,j,k,l]) S =
  ( some ([a,m,Value.slice none 0 0,Value.int IntKind.i64 61,n,o,p,q,r,s,b,c,d,f,g,i,j,k,l], S)) := by
 kernel_rfl
theorem yx.r3  : jC Try.prog ⟨false, false, false⟩ (jc Try.prog O) (reg Try.f33 3) (reg Try.f33 3).toList ([a,m,u,v,n,o,p,q,r,s,b,c,d,f,g,i,j,k,l]) S =
  (zI (zy Try.prog 25 m 0 S) (fun w t => zI (jf Try.prog false 3 w t) (fun x A => zI (zy Try.prog 25 m 1 A) (fun y B => zI (jf Try.prog false 3 y B) (fun C G => zI (jR Try.prog 57 2 [(0, x), (1, C)] G) (fun D H => zI ((jc Try.prog O) 32 [(dem D)] H) (fun z I => zI (zU z 0 I) (fun E J => zI (zU (zS 0 z) 1 J) (fun F K => some ([a,m,u,v,E,F,p,q,r,zS 1 (zS 0 z),w,x,y,C,D,dem z,dem E,dem F,l], K)) ()) ()) ()) ()) ()) ()) ()) ()) := by
 kernel_rfl
theorem yx.r4  : jC Try.prog ⟨false, false, false⟩ (jc Try.prog O) (reg Try.f33 4) (reg Try.f33 4).toList ([a,m,u,v,n,o,p,q,r,s,b,c,d,f,g,i,j,k,l]) S =
  ( some ([a,m,n,Value.int IntKind.i64 0,dem n,o,p,q,r,s,b,c,d,f,g,i,j,k,dem n], S)) := by
 kernel_rfl
theorem yx.rs : type_of% (And.intro @yx.r0 (And.intro @yx.r1 (And.intro @yx.r2 (And.intro @yx.r3 (@yx.r4))))) := And.intro @yx.r0 (And.intro @yx.r1 (And.intro @yx.r2 (And.intro @yx.r3 (@yx.r4))))
theorem yx.runs {a : Value} {S t : zk} {e : AEx} {T : List Value} (h : zF Try.prog O false yx.code ([a,undef,undef,undef,undef,undef,undef,undef,undef,undef,undef,undef,undef,undef,undef,undef,undef,undef,undef]) zk.empty = some (e, T, t)) (he : e = .normal ∨ e = .ret)  (h0 : jW (T.getD 2 undef) = true) (h1 : jW (T.getD 3 undef) = true) (hca : [a].all (jH 16) = true) (hcv : jH 16 (Value.tuple #[T.getD 2 undef, T.getD 3 undef]) = true) : jc Try.prog O 33 [a] S = some (Value.tuple #[T.getD 2 undef, T.getD 3 undef], S) :=
 yh rfl rfl Try.func33 (by decide) yx.body (by exact h) he ((yP ((show zO Try.prog T t Try.f33.results.toList = zO Try.prog T t [(ResultVar.tmp 2), (ResultVar.tmp 3)] from by kernel_rfl).trans (by simp only [zO])) (by kernel_rfl) (by simp only [List.all_cons, List.all_nil, h0, h1, Bool.and_true])).trans rfl) hca hcv
end Go.Proofs.Ytbgcphbbchndkaa
namespace Go.Proofs.Ytbgcphbbchndkaa
open Go.Abs
abbrev jr.id : FuncId := 43
noncomputable def jr.code : Code := (Code.seq (Code.region 0 (reg Try.f43 0) false) (Code.seq (Code.seq (Code.region 1 (reg Try.f43 1) false) (Code.cond (Operand.tmp 6) (Code.seq (Code.region 2 (reg Try.f43 2) false) Code.ret) Code.skip)) (Code.seq (Code.region 3 (reg Try.f43 3) false) Code.ret)))
theorem jr.body : Try.f43.body = some jr.code := by kernel_rfl
variable (a i r s k l m n o p b c d f g : Value) (S : zk)
theorem jr.r0  : jC Try.prog ⟨false, false, false⟩ (jc Try.prog O) (reg Try.f43 0) (reg Try.f43 0).toList ([a,i,r,s,k,l,m,n,o,p,b,c,d,f,g]) S =
  (zI (J5 (dem a) S) (fun q j => some ([a,q,Value.slice none 0 0,Value.int IntKind.i64 0,k,l,m,n,o,p,b,c,d,f,g], j)) ()) := by
 kernel_rfl
theorem jr.r1  : jC Try.prog ⟨false, false, false⟩ (jc Try.prog O) (reg Try.f43 1) (reg Try.f43 1).toList ([a,i,r,s,k,l,m,n,o,p,b,c,d,f,g]) S =
  (zI (jf Try.prog false 25 i S) (fun q j => zI ((jc Try.prog O) 46 [(dem q)] j) (fun t v => zI (aUn Try.prog UnOp.not t v) (fun u w => some ([a,i,r,s,q,t,u,n,o,p,b,c,d,f,g], w)) ()) ()) ()) := by
 kernel_rfl
theorem jr.r2  : jC Try.prog ⟨false, false, false⟩ (jc Try.prog O) (reg Try.f43 2) (reg Try.f43 2).toList ([a,i,r,s,k,l,m,n,o,p,b,c,d,f,g]) S =
  ( some ([a,i,Value.slice none 0 0,Value.int IntKind.i64 61,k,l,m,n,o,p,b,c,d,f,g], S)) := by
 kernel_rfl
theorem jr.r3  : jC Try.prog ⟨false, false, false⟩ (jc Try.prog O) (reg Try.f43 3) (reg Try.f43 3).toList ([a,i,r,s,k,l,m,n,o,p,b,c,d,f,g]) S =
  (zI (zy Try.prog 25 i 0 S) (fun q j => zI (jf Try.prog false 3 q j) (fun t v => zI (zy Try.prog 25 i 1 v) (fun u w => zI (jf Try.prog false 3 u w) (fun y C => zI (jR Try.prog 57 2 [(0, t), (1, y)] C) (fun z D => zI ((jc Try.prog O) 42 [(dem z)] D) (fun x E => zI (zU x 0 E) (fun A F => zI (zU (zS 0 x) 1 F) (fun B G => some ([a,i,A,B,k,l,m,q,t,u,y,z,zS 1 (zS 0 x),dem A,dem B], G)) ()) ()) ()) ()) ()) ()) ()) ()) := by
 kernel_rfl
theorem jr.rs : type_of% (And.intro @jr.r0 (And.intro @jr.r1 (And.intro @jr.r2 (@jr.r3)))) := And.intro @jr.r0 (And.intro @jr.r1 (And.intro @jr.r2 (@jr.r3)))
theorem jr.runs {a : Value} {S j : zk} {e : AEx} {T : List Value} (h : zF Try.prog O false jr.code ([a,undef,undef,undef,undef,undef,undef,undef,undef,undef,undef,undef,undef,undef,undef]) zk.empty = some (e, T, j)) (he : e = .normal ∨ e = .ret)  (h0 : jW (T.getD 2 undef) = true) (h1 : jW (T.getD 3 undef) = true) (hca : [a].all (jH 16) = true) (hcv : jH 16 (Value.tuple #[T.getD 2 undef, T.getD 3 undef]) = true) : jc Try.prog O 43 [a] S = some (Value.tuple #[T.getD 2 undef, T.getD 3 undef], S) :=
 yh rfl rfl Try.func43 (by decide) jr.body (by exact h) he ((yP ((show zO Try.prog T j Try.f43.results.toList = zO Try.prog T j [(ResultVar.tmp 2), (ResultVar.tmp 3)] from by kernel_rfl).trans (by simp only [zO])) (by kernel_rfl) (by simp only [List.all_cons, List.all_nil, h0, h1, Bool.and_true])).trans rfl) hca hcv
end Go.Proofs.Ytbgcphbbchndkaa
namespace Go.Proofs.Ytbgcphbbchndkaa
open Go.Abs
abbrev wO.id : FuncId := 64
noncomputable def wO.code : Code := (Code.seq (Code.region 0 (reg Try.f64 0) false) (Code.seq (Code.region 1 (reg Try.f64 1) false) (Code.seq (Code.seq (Code.region 2 (reg Try.f64 2) false) (Code.cond (Operand.tmp 16) (Code.seq (Code.region 3 (reg Try.f64 3) false) Code.ret) Code.skip)) (Code.seq (Code.region 4 (reg Try.f64 4) true) (Code.seq (Code.region 5 (reg Try.f64 5) true) Code.ret)))))
theorem wO.body : Try.f64.body = some wO.code := by kernel_rfl
variable (c E C H I b z D A F d f g i j k l m n o p q r s t u w x y : Value) (S : zk)
theorem wO.r0  : jC Try.prog ⟨false, false, false⟩ (jc Try.prog O) (reg Try.f64 0) (reg Try.f64 0).toList ([c,E,C,H,I,b,z,D,A,F,d,f,g,i,j,k,l,m,n,o,p,q,r,s,t,u,w,x,y]) S =
  (zI (yF Try.prog 25 S) (fun J a => some ([c,E,J,Value.slice none 0 0,Value.bool false,b,z,D,A,F,d,f,g,i,j,k,l,m,n,o,p,q,r,s,t,u,w,x,y], a)) ()) := by
 kernel_rfl
theorem wO.r1  : jC Try.prog ⟨false, false, false⟩ (jc Try.prog O) (reg Try.f64 1) (reg Try.f64 1).toList ([c,E,C,H,I,b,z,D,A,F,d,f,g,i,j,k,l,m,n,o,p,q,r,s,t,u,w,x,y]) S =
  (zI ((jc Try.prog O) 51 [(dem (dem c)), (Value.int IntKind.i64 2)] S) (fun B a => zI (zU B 0 a) (fun N K => zI (zU (zS 0 B) 1 K) (fun G L => zI (zU (zS 1 (zS 0 B)) 2 L) (fun P Q => some ([c,E,C,H,I,N,G,P,A,zS 2 (zS 1 (zS 0 B)),dem c,dem B,dem N,dem G,dem P,k,l,m,n,o,p,q,r,s,t,u,w,x,y], Q)) ()) ()) ()) ()) := by
 kernel_rfl
theorem wO.r2  : jC Try.prog ⟨false, false, false⟩ (jc Try.prog O) (reg Try.f64 2) (reg Try.f64 2).toList ([c,E,C,H,I,b,z,D,A,F,d,f,g,i,j,k,l,m,n,o,p,q,r,s,t,u,w,x,y]) S =
  (zI (wu Try.prog BinOp.neq 31 (dem D) (Value.int IntKind.i64 0) S) (fun B a => some ([c,E,C,H,I,b,z,D,A,F,d,f,g,i,j,dem D,B,m,n,o,p,q,r,s,t,u,w,x,y], a)) ()) := by
 kernel_rfl
theorem wO.r3  : jC Try.prog ⟨false, false, false⟩ (jc Try.prog O) (reg Try.f64 3) (reg Try.f64 3).toList ([c,E,C,H,I,b,z,D,A,F,d,f,g,i,j,k,l,m,n,o,p,q,r,s,t,u,w,x,y]) S =
  (zI (yJ Try.prog 25 [] S) (fun J a => zI (wH Try.prog 25 C (dem J) a) (fun B K => some ([c,E,C,Value.slice none 0 0,Value.bool false,b,z,D,A,F,d,f,g,i,j,k,l,J,n,o,p,q,r,s,t,u,w,x,y], K)) ()) ()) := by
 kernel_rfl
theorem wO.d4 : qW Try.prog (reg Try.f64 4) = true := by kernel_rfl
theorem wO.ff4 : fixed Try.prog (reg Try.f64 4) = false := by kernel_rfl
theorem wO.k4 : checked Try.prog (reg Try.f64 4) = [0, 1, 2, 3, 4, 5, 6] := by kernel_rfl
theorem wO.g4 : again Try.prog (reg Try.f64 4) = [(2, 7), (5, 7)] := by kernel_rfl
theorem wO.r4  : zF Try.prog O false (.region 4 (reg Try.f64 4) true) ([c,E,C,H,I,b,z,D,A,F,d,f,g,i,j,k,l,m,n,o,p,q,r,s,t,u,w,x,y]) S =
  Jm (okK b ( zI (jo Try.prog 57 (dem b) (Value.int IntKind.i64 0) S) (fun B a => okK B ( zI (jf Try.prog false 3 B a) (fun M K => okK M ( okK b ( zI (jo Try.prog 57 (dem b) (Value.int IntKind.i64 1) K) (fun G L => okK G ( zI (jf Try.prog false 3 G L) (fun P Q => okK P ( zI (yJ Try.prog 25 [(0, (dem M)), (1, (dem P))] Q) (fun R W => okK R ( zI (yF Try.prog 25 W) (fun V U => zI (wH Try.prog 25 V (dem R) U) (fun Y X => ckK (qB B a U && (qB G L U && (true))) (some ([c,E,C,H,I,b,z,D,V,F,d,f,g,i,j,k,l,m,dem b,B,M,dem b,G,P,R,u,w,x,y], X)) ()) ()) ()) ()) ()) ()) ()) ()) ()) ()) ()) ()) ()) ()) ()) := by
 rw [yO wO.d4 wO.ff4 wO.k4 wO.g4]
 refine congrArg Jm ?_
 refine uPC Try.f64 4 0 (v := b) (pe := undef) ?_
 refine uDC Try.f64 4 1 (pe := undef) (fun B a => ?_)
 refine uDC Try.f64 4 2 (pe := B) (fun M K => ?_)
 refine uPC Try.f64 4 3 (v := b) (pe := undef) ?_
 refine uDC Try.f64 4 4 (pe := undef) (fun G L => ?_)
 refine uDC Try.f64 4 5 (pe := G) (fun P Q => ?_)
 refine uDC Try.f64 4 6 (pe := undef) (fun R W => ?_)
 refine uD Try.f64 4 7 (pe := undef) (fun V U => ?_)
 refine uD Try.f64 4 8 (pe := undef) (fun Y X => ?_)
 kernel_rfl
theorem wO.d5 : qW Try.prog (reg Try.f64 5) = true := by kernel_rfl
theorem wO.ff5 : fixed Try.prog (reg Try.f64 5) = false := by kernel_rfl
theorem wO.k5 : checked Try.prog (reg Try.f64 5) = [0, 1, 1] := by kernel_rfl
theorem wO.g5 : again Try.prog (reg Try.f64 5) = [(0, 3)] := by kernel_rfl
theorem wO.r5  : zF Try.prog O false (.region 5 (reg Try.f64 5) true) ([c,E,C,H,I,b,z,D,A,F,d,f,g,i,j,k,l,m,n,o,p,q,r,s,t,u,w,x,y]) S =
  Jm (zI (jf Try.prog false 25 A S) (fun J a => okK J ( okK z ( zI (jf Try.prog false 25 A a) (fun M K => zI ((jc Try.prog O) 38 [(dem M)] K) (fun N L => zI (wH Try.prog 25 C (dem J) L) (fun G Q => ckK (qB A S L && (true)) (some ([c,E,C,z,N,b,dem z,D,A,F,d,f,g,i,j,k,l,m,n,o,p,q,r,s,t,J,dem z,M,dem N], Q)) ()) ()) ()) ()) ()) ()) ()) := by
 rw [yO wO.d5 wO.ff5 wO.k5 wO.g5]
 refine congrArg Jm ?_
 refine uDC Try.f64 5 0 (pe := A) (fun J a => ?_)
 refine uPC Try.f64 5 1 (v := z) (pe := undef) ?_
 refine uD Try.f64 5 2 (pe := A) (fun M K => ?_)
 refine uD Try.f64 5 3 (pe := undef) (fun N L => ?_)
 refine uD Try.f64 5 4 (pe := undef) (fun G Q => ?_)
 refine uP Try.f64 5 5 (v := z) (pe := undef) ?_
 refine uP Try.f64 5 6 (v := N) (pe := undef) ?_
 kernel_rfl
theorem wO.rs : type_of% (And.intro @wO.r0 (And.intro @wO.r1 (And.intro @wO.r2 (And.intro @wO.r3 (And.intro @wO.r4 (@wO.r5)))))) := And.intro @wO.r0 (And.intro @wO.r1 (And.intro @wO.r2 (And.intro @wO.r3 (And.intro @wO.r4 (@wO.r5)))))
theorem wO.runs {c : Value} {S a : zk} {e : AEx} {T : List Value} (h : zF Try.prog O false wO.code ([c,undef,undef,undef,undef,undef,undef,undef,undef,undef,undef,undef,undef,undef,undef,undef,undef,undef,undef,undef,undef,undef,undef,undef,undef,undef,undef,undef,undef]) zk.empty = some (e, T, a)) (he : e = .normal ∨ e = .ret) {w0 : Value} (c0 : jf Try.prog false 25 (T.getD 2 undef) a = some (w0, a)) (h0 : jW (w0) = true) (h1 : jW (T.getD 3 undef) = true) (h2 : jW (T.getD 4 undef) = true) (hca : [c].all (jH 16) = true) (hcv : jH 16 (Value.tuple #[w0, T.getD 3 undef, T.getD 4 undef]) = true) : jc Try.prog O 64 [c] S = some (Value.tuple #[w0, T.getD 3 undef, T.getD 4 undef], S) :=
 yh rfl rfl Try.func64 (by decide) wO.body (by exact h) he ((yP ((show zO Try.prog T a Try.f64.results.toList = zO Try.prog T a [(ResultVar.cell 2 25), (ResultVar.tmp 3), (ResultVar.tmp 4)] from by kernel_rfl).trans (by simp only [zO, c0])) (by kernel_rfl) (by simp only [List.all_cons, List.all_nil, h0, h1, h2, Bool.and_true])).trans rfl) hca hcv
end Go.Proofs.Ytbgcphbbchndkaa
namespace Go.Proofs.Ytbgcphbbchndkaa
open Go.Abs
abbrev yE.id : FuncId := 52
noncomputable def yE.code : Code := (Code.seq (Code.region 0 (reg Try.f52 0) false) (Code.seq (Code.region 1 (reg Try.f52 1) false) (Code.seq (Code.seq (Code.region 2 (reg Try.f52 2) false) (Code.cond (Operand.tmp 19) (Code.seq (Code.region 3 (reg Try.f52 3) false) Code.ret) Code.skip)) (Code.seq (Code.region 4 (reg Try.f52 4) false) Code.ret))))
theorem yE.body : Try.f52.body = some yE.code := by kernel_rfl
variable (a u t C w x s y z A d f g i k l m n o p q r : Value) (S : zk)
theorem yE.r0  : jC Try.prog ⟨false, false, false⟩ (jc Try.prog O) (reg Try.f52 0) (reg Try.f52 0).toList ([a,u,t,C,w,x,s,y,z,A,d,f,g,i,k,l,m,n,o,p,q,r]) S =
  (zI (yF Try.prog 25 S) (fun D b => some ([a,u,D,Value.int IntKind.i64 0,w,x,s,y,z,A,d,f,g,i,k,l,m,n,o,p,q,r], b)) ()) := by
 kernel_rfl
theorem yE.r1  : jC Try.prog ⟨false, false, false⟩ (jc Try.prog O) (reg Try.f52 1) (reg Try.f52 1).toList ([a,u,t,C,w,x,s,y,z,A,d,f,g,i,k,l,m,n,o,p,q,r]) S =
  (zI ((jc Try.prog O) 64 [(dem (dem a))] S) (fun c b => zI (zU c 0 b) (fun E B => zI (zU (zS 0 c) 1 B) (fun F I => zI (zU (zS 1 (zS 0 c)) 2 I) (fun G J => zI (yF Try.prog 25 J) (fun H K => zI (wH Try.prog 25 H (dem E) K) (fun M L => some ([a,u,t,C,H,F,G,zS 2 (zS 1 (zS 0 c)),dem a,dem c,E,dem F,dem G,i,k,l,m,n,o,p,q,r], L)) ()) ()) ()) ()) ()) ()) := by
 kernel_rfl
theorem yE.r2  : jC Try.prog ⟨false, false, false⟩ (jc Try.prog O) (reg Try.f52 2) (reg Try.f52 2).toList ([a,u,t,C,w,x,s,y,z,A,d,f,g,i,k,l,m,n,o,p,q,r]) S =
  (zI (aUn Try.prog UnOp.not (dem s) S) (fun c b => gdK (dem c) false (ret x) b (fun E B => gdK (dem c) false (Zz Try.prog 23 (dem E)) B (fun F I => gdK (dem c) false (wu Try.prog BinOp.gtr 3 F (Value.int IntKind.i64 0)) I (fun G J => zI (wJ (dem c) (Value.bool true) G J) (fun H K => some ([a,u,t,C,w,x,s,y,z,A,d,f,g,dem s,c,dem c,dem E,F,G,H,q,r], K)) ()) ()) ()) ()) ()) := by
 refine sP Try.f52 2 0 (v := s) ?_
 refine sD Try.f52 2 1 (fun c b => ?_)
 refine sP Try.f52 2 2 (v := c) ?_
 refine sG Try.f52 2 3 (j := 2) (fun E B => ?_)
 refine sG Try.f52 2 4 (j := 2) (fun F I => ?_)
 refine sG Try.f52 2 5 (j := 2) (fun G J => ?_)
 refine sD Try.f52 2 6 (fun H K => ?_)
 kernel_rfl
theorem yE.r3  : jC Try.prog ⟨false, false, false⟩ (jc Try.prog O) (reg Try.f52 3) (reg Try.f52 3).toList ([a,u,t,C,w,x,s,y,z,A,d,f,g,i,k,l,m,n,o,p,q,r]) S =
  (zI (yJ Try.prog 25 [] S) (fun D b => zI (wH Try.prog 25 t (dem D) b) (fun c B => some ([a,u,t,Value.int IntKind.i64 61,w,x,s,y,z,A,d,f,g,i,k,l,m,n,o,p,D,r], B)) ()) ()) := by
 kernel_rfl
theorem yE.r4  : jC Try.prog ⟨false, false, false⟩ (jc Try.prog O) (reg Try.f52 4) (reg Try.f52 4).toList ([a,u,t,C,w,x,s,y,z,A,d,f,g,i,k,l,m,n,o,p,q,r]) S =
  (zI (jf Try.prog false 25 w S) (fun D b => zI (wH Try.prog 25 t (dem D) b) (fun c B => some ([a,u,t,Value.int IntKind.i64 0,w,x,s,y,z,A,d,f,g,i,k,l,m,n,o,p,q,D], B)) ()) ()) := by
 kernel_rfl
theorem yE.rs : type_of% (And.intro @yE.r0 (And.intro @yE.r1 (And.intro @yE.r2 (And.intro @yE.r3 (@yE.r4))))) := And.intro @yE.r0 (And.intro @yE.r1 (And.intro @yE.r2 (And.intro @yE.r3 (@yE.r4))))
theorem yE.runs {a : Value} {S b : zk} {e : AEx} {T : List Value} (h : zF Try.prog O false yE.code ([a,undef,undef,undef,undef,undef,undef,undef,undef,undef,undef,undef,undef,undef,undef,undef,undef,undef,undef,undef,undef,undef]) zk.empty = some (e, T, b)) (he : e = .normal ∨ e = .ret) {w0 : Value} (c0 : jf Try.prog false 25 (T.getD 2 undef) b = some (w0, b)) (h0 : jW (w0) = true) (h1 : jW (T.getD 3 undef) = true) (hca : [a].all (jH 16) = true) (hcv : jH 16 (Value.tuple #[w0, T.getD 3 undef]) = true) : jc Try.prog O 52 [a] S = some (Value.tuple #[w0, T.getD 3 undef], S) :=
 yh rfl rfl Try.func52 (by decide) yE.body (by exact h) he ((yP ((show zO Try.prog T b Try.f52.results.toList = zO Try.prog T b [(ResultVar.cell 2 25), (ResultVar.tmp 3)] from by kernel_rfl).trans (by simp only [zO, c0])) (by kernel_rfl) (by simp only [List.all_cons, List.all_nil, h0, h1, Bool.and_true])).trans rfl) hca hcv
end Go.Proofs.Ytbgcphbbchndkaa
namespace Go.Proofs.Ytbgcphbbchndkaa
open Go.Abs
abbrev zM.id : FuncId := 29
noncomputable def zM.code : Code := (Code.seq (Code.region 0 (reg Try.f29 0) false) (Code.seq (Code.region 1 (reg Try.f29 1) false) (Code.seq (Code.seq (Code.region 2 (reg Try.f29 2) true) (Code.cond (Operand.tmp 30) (Code.seq (Code.region 3 (reg Try.f29 3) false) Code.ret) Code.skip)) (Code.seq (Code.region 4 (reg Try.f29 4) true) Code.ret))))
theorem zM.body : Try.f29.body = some zM.code := by kernel_rfl
variable (f P N Z c Q M V W X g i k l m n o p q r s t u w x y z A B C D E F G H I J K L : Value) (S : zk)
theorem zM.r0  : jC Try.prog ⟨false, false, false⟩ (jc Try.prog O) (reg Try.f29 0) (reg Try.f29 0).toList ([f,P,N,Z,c,Q,M,V,W,X,g,i,k,l,m,n,o,p,q,r,s,t,u,w,x,y,z,A,B,C,D,E,F,G,H,I,J,K,L]) S =
  (zI (yF Try.prog 25 S) (fun v0 d => some ([f,P,v0,Value.int IntKind.i64 0,c,Q,M,V,W,X,g,i,k,l,m,n,o,p,q,r,s,t,u,w,x,y,z,A,B,C,D,E,F,G,H,I,J,K,L], d)) ()) := by
 kernel_rfl
theorem zM.r1  : jC Try.prog ⟨false, false, false⟩ (jc Try.prog O) (reg Try.f29 1) (reg Try.f29 1).toList ([f,P,N,Z,c,Q,M,V,W,X,g,i,k,l,m,n,o,p,q,r,s,t,u,w,x,y,z,A,B,C,D,E,F,G,H,I,J,K,L]) S =
  (zI ((jc Try.prog O) 28 [(dem (dem f)), (Value.int IntKind.i64 2)] S) (fun a d => zI (zU a 0 d) (fun v3 Y => zI (zU (zS 0 a) 1 Y) (fun R S3 => zI (zU (zS 1 (zS 0 a)) 2 S3) (fun U S4 => some ([f,P,N,Z,v3,R,U,zS 2 (zS 1 (zS 0 a)),dem f,dem a,dem v3,dem R,dem U,l,m,n,o,p,q,r,s,t,u,w,x,y,z,A,B,C,D,E,F,G,H,I,J,K,L], S4)) ()) ()) ()) ()) := by
 kernel_rfl
theorem zM.d2 : qW Try.prog (reg Try.f29 2) = true := by kernel_rfl
theorem zM.ff2 : fixed Try.prog (reg Try.f29 2) = false := by kernel_rfl
theorem zM.k2 : checked Try.prog (reg Try.f29 2) = [] := by kernel_rfl
theorem zM.g2 : again Try.prog (reg Try.f29 2) = [] := by kernel_rfl
theorem zM.r2  : zF Try.prog O false (.region 2 (reg Try.f29 2) true) ([f,P,N,Z,c,Q,M,V,W,X,g,i,k,l,m,n,o,p,q,r,s,t,u,w,x,y,z,A,B,C,D,E,F,G,H,I,J,K,L]) S =
  Jm (zI (wu Try.prog BinOp.neq 3 (dem M) (Value.int IntKind.i64 0) S) (fun a d => gdK (dem a) false (ret Q) d (fun v3 Y => gdK (dem a) false (Zz Try.prog 23 (dem v3)) Y (fun R S3 => gdK (dem a) false (wu Try.prog BinOp.gtr 3 R (Value.int IntKind.i64 0)) S3 (fun U S4 => zI (wJ (dem a) (Value.bool true) U S4) (fun b S5 => gdK (dem b) false (ret c) S5 (fun v8 S6 => gdK (dem b) false (jo Try.prog 57 (dem v8) (Value.int IntKind.i64 0)) S6 (fun v9 S7 => gdK (dem b) false (jf Try.prog false 3 v9) S7 (fun a0 S8 => gdK (dem b) false (ret c) S8 (fun a1 S9 => gdK (dem b) false (jo Try.prog 57 (dem a1) (Value.int IntKind.i64 1)) S9 (fun a2 a7 => gdK (dem b) false (jf Try.prog false 3 a2) a7 (fun a3 a8 => gdK (dem b) false (yJ Try.prog 25 [(0, (dem a0)), (1, (dem a3))]) a8 (fun a4 a9 => gdK (dem b) false ((jc Try.prog O) 46 [(dem a4)]) a9 (fun a5 b0 => gdK (dem b) false (aUn Try.prog UnOp.not a5) b0 (fun a6 b1 => zI (wJ (dem b) (Value.bool true) a6 b1) (fun b2 b3 => some ([f,P,N,Z,c,Q,M,V,W,X,g,i,k,dem M,a,dem a,dem v3,R,U,b,dem b,dem v8,v9,a0,dem a1,a2,a3,a4,a5,a6,b2,E,F,G,H,I,J,K,L], b3)) ()) ()) ()) ()) ()) ()) ()) ()) ()) ()) ()) ()) ()) ()) ()) := by
 rw [yO zM.d2 zM.ff2 zM.k2 zM.g2]
 refine congrArg Jm ?_
 refine tP Try.f29 2 0 (v := M) ?_
 refine tD Try.f29 2 1 (fun a d => ?_)
 refine tP Try.f29 2 2 (v := a) ?_
 refine tG Try.f29 2 3 (j := 2) (fun v3 Y => ?_)
 refine tG Try.f29 2 4 (j := 2) (fun R S3 => ?_)
 refine tG Try.f29 2 5 (j := 2) (fun U S4 => ?_)
 refine tD Try.f29 2 6 (fun b S5 => ?_)
 refine tP Try.f29 2 7 (v := b) ?_
 refine tG Try.f29 2 8 (j := 7) (fun v8 S6 => ?_)
 refine tG Try.f29 2 9 (j := 7) (fun v9 S7 => ?_)
 refine tG Try.f29 2 10 (j := 7) (fun a0 S8 => ?_)
 refine tG Try.f29 2 11 (j := 7) (fun a1 S9 => ?_)
 refine tG Try.f29 2 12 (j := 7) (fun a2 a7 => ?_)
 refine tG Try.f29 2 13 (j := 7) (fun a3 a8 => ?_)
 refine tG Try.f29 2 14 (j := 7) (fun a4 a9 => ?_)
 refine tG Try.f29 2 15 (j := 7) (fun a5 b0 => ?_)
 refine tG Try.f29 2 16 (j := 7) (fun a6 b1 => ?_)
 refine tD Try.f29 2 17 (fun b2 b3 => ?_)
 kernel_rfl
theorem zM.r3  : jC Try.prog ⟨false, false, false⟩ (jc Try.prog O) (reg Try.f29 3) (reg Try.f29 3).toList ([f,P,N,Z,c,Q,M,V,W,X,g,i,k,l,m,n,o,p,q,r,s,t,u,w,x,y,z,A,B,C,D,E,F,G,H,I,J,K,L]) S =
  (zI (yJ Try.prog 25 [] S) (fun v0 d => zI (wH Try.prog 25 N (dem v0) d) (fun a Y => some ([f,P,N,Value.int IntKind.i64 61,c,Q,M,V,W,X,g,i,k,l,m,n,o,p,q,r,s,t,u,w,x,y,z,A,B,C,D,v0,F,G,H,I,J,K,L], Y)) ()) ()) := by
 kernel_rfl
theorem zM.d4 : qW Try.prog (reg Try.f29 4) = true := by kernel_rfl
theorem zM.ff4 : fixed Try.prog (reg Try.f29 4) = false := by kernel_rfl
theorem zM.k4 : checked Try.prog (reg Try.f29 4) = [] := by kernel_rfl
theorem zM.g4 : again Try.prog (reg Try.f29 4) = [] := by kernel_rfl
theorem zM.r4  : zF Try.prog O false (.region 4 (reg Try.f29 4) true) ([f,P,N,Z,c,Q,M,V,W,X,g,i,k,l,m,n,o,p,q,r,s,t,u,w,x,y,z,A,B,C,D,E,F,G,H,I,J,K,L]) S =
  Jm (zI (jo Try.prog 57 (dem c) (Value.int IntKind.i64 0) S) (fun a d => zI (jf Try.prog false 3 a d) (fun v2 Y => zI (jo Try.prog 57 (dem c) (Value.int IntKind.i64 1) Y) (fun R S3 => zI (jf Try.prog false 3 R S3) (fun U S4 => zI (yJ Try.prog 25 [(0, (dem v2)), (1, (dem U))] S4) (fun b S5 => zI (wH Try.prog 25 N (dem b) S5) (fun v7 S6 => some ([f,P,N,Value.int IntKind.i64 0,c,Q,M,V,W,X,g,i,k,l,m,n,o,p,q,r,s,t,u,w,x,y,z,A,B,C,D,E,dem c,a,v2,dem c,R,U,b], S6)) ()) ()) ()) ()) ()) ()) := by
 rw [yO zM.d4 zM.ff4 zM.k4 zM.g4]
 refine congrArg Jm ?_
 refine tP Try.f29 4 0 (v := c) ?_
 refine tD Try.f29 4 1 (fun a d => ?_)
 refine tD Try.f29 4 2 (fun v2 Y => ?_)
 refine tP Try.f29 4 3 (v := c) ?_
 refine tD Try.f29 4 4 (fun R S3 => ?_)
 refine tD Try.f29 4 5 (fun U S4 => ?_)
 refine tD Try.f29 4 6 (fun b S5 => ?_)
 refine tD Try.f29 4 7 (fun v7 S6 => ?_)
 refine tP Try.f29 4 8 (v := (Value.int IntKind.i64 0)) ?_
 kernel_rfl
theorem zM.rs : type_of% (And.intro @zM.r0 (And.intro @zM.r1 (And.intro @zM.r2 (And.intro @zM.r3 (@zM.r4))))) := And.intro @zM.r0 (And.intro @zM.r1 (And.intro @zM.r2 (And.intro @zM.r3 (@zM.r4))))
theorem zM.runs {f : Value} {S d : zk} {e : AEx} {T : List Value} (h : zF Try.prog O false zM.code ([f,undef,undef,undef,undef,undef,undef,undef,undef,undef,undef,undef,undef,undef,undef,undef,undef,undef,undef,undef,undef,undef,undef,undef,undef,undef,undef,undef,undef,undef,undef,undef,undef,undef,undef,undef,undef,undef,undef]) zk.empty = some (e, T, d)) (he : e = .normal ∨ e = .ret) {w0 : Value} (c0 : jf Try.prog false 25 (T.getD 2 undef) d = some (w0, d)) (h0 : jW (w0) = true) (h1 : jW (T.getD 3 undef) = true) (hca : [f].all (jH 16) = true) (hcv : jH 16 (Value.tuple #[w0, T.getD 3 undef]) = true) : jc Try.prog O 29 [f] S = some (Value.tuple #[w0, T.getD 3 undef], S) :=
 yh rfl rfl Try.func29 (by decide) zM.body (by exact h) he ((yP ((show zO Try.prog T d Try.f29.results.toList = zO Try.prog T d [(ResultVar.cell 2 25), (ResultVar.tmp 3)] from by kernel_rfl).trans (by simp only [zO, c0])) (by kernel_rfl) (by simp only [List.all_cons, List.all_nil, h0, h1, Bool.and_true])).trans rfl) hca hcv
end Go.Proofs.Ytbgcphbbchndkaa
namespace Go.Proofs.Ytbgcphbbchndkaa
open Go.Abs
abbrev yY.id : FuncId := 38
noncomputable def yY.code : Code := (Code.seq (Code.region 0 (reg Try.f38 0) false) (Code.seq (Code.region 1 (reg Try.f38 1) false) Code.ret))
theorem yY.body : Try.f38.body = some yY.code := by kernel_rfl
variable (c i Y J K L M N P Q l m n o p q r s t u w : Value) (S : zk)
theorem yY.r0  : jC Try.prog ⟨false, false, false⟩ (jc Try.prog O) (reg Try.f38 0) (reg Try.f38 0).toList ([c,i,Y,J,K,L,M,N,P,Q,l,m,n,o,p,q,r,s,t,u,w]) S =
  (zI (J5 (dem c) S) (fun x d => some ([c,x,Value.bool false,J,K,L,M,N,P,Q,l,m,n,o,p,q,r,s,t,u,w], d)) ()) := by
 kernel_rfl
theorem yY.r1  : jC Try.prog ⟨false, false, false⟩ (jc Try.prog O) (reg Try.f38 1) (reg Try.f38 1).toList ([c,i,Y,J,K,L,M,N,P,Q,l,m,n,o,p,q,r,s,t,u,w]) S =
  (zI (zy Try.prog 25 i 0 S) (fun x d => zI (jf Try.prog false 3 x d) (fun R Z => zI (wu Try.prog BinOp.geq 3 R (Value.int IntKind.i64 1) Z) (fun f S3 => gdK (dem f) true (zy Try.prog 25 i 0) S3 (fun U S4 => gdK (dem f) true (jf Try.prog false 3 U) S4 (fun V S5 => gdK (dem f) true (wu Try.prog BinOp.leq 3 V (Value.int IntKind.i64 1000000)) S5 (fun W S6 => zI (wJ (dem f) W (Value.bool false) S6) (fun g S7 => gdK (dem g) true (zy Try.prog 25 i 1) S7 (fun X S8 => gdK (dem g) true (jf Try.prog false 3 X) S8 (fun y S9 => gdK (dem g) true (wu Try.prog BinOp.geq 3 y (Value.int IntKind.i64 0)) S9 (fun z D => zI (wJ (dem g) z (Value.bool false) D) (fun b E => gdK (dem b) true (zy Try.prog 25 i 1) E (fun A F => gdK (dem b) true (jf Try.prog false 3 A) F (fun B G => gdK (dem b) true (wu Try.prog BinOp.leq 3 B (Value.int IntKind.i64 1000)) G (fun C H => zI (wJ (dem b) C (Value.bool false) H) (fun k I => some ([c,i,k,x,R,f,dem f,U,V,W,g,dem g,X,y,z,b,dem b,A,B,C,dem k], I)) ()) ()) ()) ()) ()) ()) ()) ()) ()) ()) ()) ()) ()) ()) ()) := by
 refine sD Try.f38 1 0 (fun x d => ?_)
 refine sD Try.f38 1 1 (fun R Z => ?_)
 refine sD Try.f38 1 2 (fun f S3 => ?_)
 refine sP Try.f38 1 3 (v := f) ?_
 refine sG Try.f38 1 4 (j := 3) (fun U S4 => ?_)
 refine sG Try.f38 1 5 (j := 3) (fun V S5 => ?_)
 refine sG Try.f38 1 6 (j := 3) (fun W S6 => ?_)
 refine sD Try.f38 1 7 (fun g S7 => ?_)
 refine sP Try.f38 1 8 (v := g) ?_
 refine sG Try.f38 1 9 (j := 8) (fun X S8 => ?_)
 refine sG Try.f38 1 10 (j := 8) (fun y S9 => ?_)
 refine sG Try.f38 1 11 (j := 8) (fun z D => ?_)
 refine sD Try.f38 1 12 (fun b E => ?_)
 refine sP Try.f38 1 13 (v := b) ?_
 refine sG Try.f38 1 14 (j := 13) (fun A F => ?_)
 refine sG Try.f38 1 15 (j := 13) (fun B G => ?_)
 refine sG Try.f38 1 16 (j := 13) (fun C H => ?_)
 refine sD Try.f38 1 17 (fun k I => ?_)
 refine sP Try.f38 1 18 (v := k) ?_
 kernel_rfl
theorem yY.rs : type_of% (And.intro @yY.r0 (@yY.r1)) := And.intro @yY.r0 (@yY.r1)
theorem yY.runs {c : Value} {S d : zk} {e : AEx} {T : List Value} (h : zF Try.prog O false yY.code ([c,undef,undef,undef,undef,undef,undef,undef,undef,undef,undef,undef,undef,undef,undef,undef,undef,undef,undef,undef,undef]) zk.empty = some (e, T, d)) (he : e = .normal ∨ e = .ret) (hca : [c].all (jH 16) = true) (hcv : jH 16 (T.getD 2 undef) = true) : jc Try.prog O 38 [c] S = some (T.getD 2 undef, S) :=
 yh rfl rfl Try.func38 (by decide) yY.body (by exact h) he (yN (a := T.getD 2 undef) ((show zO Try.prog T d Try.f38.results.toList = zO Try.prog T d [(ResultVar.tmp 2)] from by kernel_rfl).trans (by simp only [zO])) (by kernel_rfl)) hca hcv
end Go.Proofs.Ytbgcphbbchndkaa
namespace Go.Proofs.Ytbgcphbbchndkaa
open Go.Abs
abbrev jl.id : FuncId := 46
noncomputable def jl.code : Code := (Code.seq (Code.region 0 (reg Try.f46 0) false) (Code.seq (Code.region 1 (reg Try.f46 1) false) Code.ret))
theorem jl.body : Try.f46.body = some jl.code := by kernel_rfl
variable (c i Y J K L M N P Q l m n o p q r s t u w : Value) (S : zk)
theorem jl.r0  : jC Try.prog ⟨false, false, false⟩ (jc Try.prog O) (reg Try.f46 0) (reg Try.f46 0).toList ([c,i,Y,J,K,L,M,N,P,Q,l,m,n,o,p,q,r,s,t,u,w]) S =
  (zI (J5 (dem c) S) (fun x d => some ([c,x,Value.bool false,J,K,L,M,N,P,Q,l,m,n,o,p,q,r,s,t,u,w], d)) ()) := by
 kernel_rfl
theorem jl.r1  : jC Try.prog ⟨false, false, false⟩ (jc Try.prog O) (reg Try.f46 1) (reg Try.f46 1).toList ([c,i,Y,J,K,L,M,N,P,Q,l,m,n,o,p,q,r,s,t,u,w]) S =
  (zI (zy Try.prog 25 i 0 S) (fun x d => zI (jf Try.prog false 3 x d) (fun R Z => zI (wu Try.prog BinOp.gtr 3 R (Value.int IntKind.i64 0) Z) (fun f S3 => gdK (dem f) true (zy Try.prog 25 i 0) S3 (fun U S4 => gdK (dem f) true (jf Try.prog false 3 U) S4 (fun V S5 => gdK (dem f) true (wu Try.prog BinOp.leq 3 V (Value.int IntKind.i64 1000000)) S5 (fun W S6 => zI (wJ (dem f) W (Value.bool false) S6) (fun g S7 => gdK (dem g) true (zy Try.prog 25 i 1) S7 (fun X S8 => gdK (dem g) true (jf Try.prog false 3 X) S8 (fun y S9 => gdK (dem g) true (wu Try.prog BinOp.geq 3 y (Value.int IntKind.i64 0)) S9 (fun z D => zI (wJ (dem g) z (Value.bool false) D) (fun b E => gdK (dem b) true (zy Try.prog 25 i 1) E (fun A F => gdK (dem b) true (jf Try.prog false 3 A) F (fun B G => gdK (dem b) true (wu Try.prog BinOp.leq 3 B (Value.int IntKind.i64 1000)) G (fun C H => zI (wJ (dem b) C (Value.bool false) H) (fun k I => some ([c,i,k,x,R,f,dem f,U,V,W,g,dem g,X,y,z,b,dem b,A,B,C,dem k], I)) ()) ()) ()) ()) ()) ()) ()) ()) ()) ()) ()) ()) ()) ()) ()) := by
 refine sD Try.f46 1 0 (fun x d => ?_)
 refine sD Try.f46 1 1 (fun R Z => ?_)
 refine sD Try.f46 1 2 (fun f S3 => ?_)
 refine sP Try.f46 1 3 (v := f) ?_
 refine sG Try.f46 1 4 (j := 3) (fun U S4 => ?_)
 refine sG Try.f46 1 5 (j := 3) (fun V S5 => ?_)
 refine sG Try.f46 1 6 (j := 3) (fun W S6 => ?_)
 refine sD Try.f46 1 7 (fun g S7 => ?_)
 refine sP Try.f46 1 8 (v := g) ?_
 refine sG Try.f46 1 9 (j := 8) (fun X S8 => ?_)
 refine sG Try.f46 1 10 (j := 8) (fun y S9 => ?_)
 refine sG Try.f46 1 11 (j := 8) (fun z D => ?_)
 refine sD Try.f46 1 12 (fun b E => ?_)
 refine sP Try.f46 1 13 (v := b) ?_
 refine sG Try.f46 1 14 (j := 13) (fun A F => ?_)
 refine sG Try.f46 1 15 (j := 13) (fun B G => ?_)
 refine sG Try.f46 1 16 (j := 13) (fun C H => ?_)
 refine sD Try.f46 1 17 (fun k I => ?_)
 refine sP Try.f46 1 18 (v := k) ?_
 kernel_rfl
theorem jl.rs : type_of% (And.intro @jl.r0 (@jl.r1)) := And.intro @jl.r0 (@jl.r1)
theorem jl.runs {c : Value} {S d : zk} {e : AEx} {T : List Value} (h : zF Try.prog O false jl.code ([c,undef,undef,undef,undef,undef,undef,undef,undef,undef,undef,undef,undef,undef,undef,undef,undef,undef,undef,undef,undef]) zk.empty = some (e, T, d)) (he : e = .normal ∨ e = .ret) (hca : [c].all (jH 16) = true) (hcv : jH 16 (T.getD 2 undef) = true) : jc Try.prog O 46 [c] S = some (T.getD 2 undef, S) :=
 yh rfl rfl Try.func46 (by decide) jl.body (by exact h) he (yN (a := T.getD 2 undef) ((show zO Try.prog T d Try.f46.results.toList = zO Try.prog T d [(ResultVar.tmp 2)] from by kernel_rfl).trans (by simp only [zO])) (by kernel_rfl)) hca hcv
end Go.Proofs.Ytbgcphbbchndkaa
namespace Go.Proofs.Ytbgcphbbchndkaa
open Go.Abs
theorem ahd {t : TypeId} {a b : List UInt8} {S : zk} : Je Try.prog .eql t (.string ⟨a.toArray⟩) (.string ⟨b.toArray⟩) S = some (.bool (decide (a = b)), S) := by rw [acu]
end Go.Proofs.Ytbgcphbbchndkaa
namespace Go.Proofs.Ytbgcphbbchndkaa
open Go.Abs
structure TxV where
 id : Int
 fee : Int
 deriving DecidableEq
def fT (t : TxV) : List Value := [.int .i64 t.id, .int .i64 t.fee]
abbrev tv (t : TxV) : Value := .agg [Value.int .i64 t.id, .int .i64 t.fee].toArray
structure TxV.Ok (t : TxV) : Prop where
 id : -9223372036854775808 ≤ t.id ∧ t.id < 9223372036854775808
 fee : -9223372036854775808 ≤ t.fee ∧ t.fee < 9223372036854775808
def yV (t : TxV) : Bool := decide (1 ≤ t.id) && decide (t.id ≤ 1000000) && decide (0 ≤ t.fee) && decide (t.fee ≤ 1000)
theorem kJ {t : TxV} : yV t = true ↔ 1 ≤ t.id ∧ t.id ≤ 1000000 ∧ 0 ≤ t.fee ∧ t.fee ≤ 1000 := by
 simp [yV, and_assoc]
abbrev mem1 (t : TxV) : zk := zk.empty.push (.cells [Value.int .i64 t.id, .int .i64 t.fee] (.own []) 0)
theorem box1 (t : TxV) : J5 (tv t) zk.empty = some (.pointer (some ⟨0, 0, none⟩), mem1 t) := rfl
theorem vS (t : TxV) : (mem1 t).get 0 = some (.cells [Value.int .i64 t.id, .int .i64 t.fee] (.own []) 0) := rfl
theorem yY.v (t : TxV) (S : zk) : jc Try.prog O yY.id [tv t] S = some (.bool (yV t), S) := by
 obtain ⟨T, hTe⟩ : ∃ T, T = (tv t :: undef :: undef :: undef :: undef :: undef :: undef :: undef :: undef :: undef :: undef :: undef :: undef :: undef :: undef :: undef :: undef :: undef :: undef :: undef :: undef :: []) := ⟨_, rfl⟩
 have hr : zF Try.prog O false yY.code T zk.empty = zF Try.prog O false yY.code T zk.empty := rfl
 have l0 := qC (t := 3) (o := 0 + 0) (vS t) ZL rfl
 have l1 := qC (t := 3) (o := 0 + 1) (vS t) ZL rfl
 by_cases h1 : 1 ≤ t.id <;> by_cases h2 : t.id ≤ 1000000 <;> by_cases h3 : 0 ≤ t.fee <;> by_cases h4 : t.fee ≤ 1000
 all_goals
  conv at hr =>
   rhs
   rw [hTe]
   simp only [yY.code, yY.rs, zSs, reduceIte, Nat.reduceEqDiff, Int.reduceEq, Int.reduceLT, Int.reduceLE, box1, ku, Zw, l0, l1, h1, h2, h3, h4]
  rw [hTe] at hr
  simp only [yV, h1, h2, h3, h4, decide_true, decide_false, Bool.and_true, Bool.and_false, Bool.false_and]
  exact yY.runs hr (.inr rfl) rfl rfl
theorem jl.v (t : TxV) (S : zk) : jc Try.prog O jl.id [tv t] S = some (.bool (yV t), S) := by
 obtain ⟨T, hTe⟩ : ∃ T, T = (tv t :: undef :: undef :: undef :: undef :: undef :: undef :: undef :: undef :: undef :: undef :: undef :: undef :: undef :: undef :: undef :: undef :: undef :: undef :: undef :: undef :: []) := ⟨_, rfl⟩
 have hr : zF Try.prog O false jl.code T zk.empty = zF Try.prog O false jl.code T zk.empty := rfl
 have l0 := qC (t := 3) (o := 0 + 0) (vS t) ZL rfl
 have l1 := qC (t := 3) (o := 0 + 1) (vS t) ZL rfl
 have h0 : decide (1 ≤ t.id) = decide (0 < t.id) := decide_eq_decide.mpr (by omega)
 unfold yV
 rw [h0]
 by_cases h1 : 0 < t.id <;> by_cases h2 : t.id ≤ 1000000 <;> by_cases h3 : 0 ≤ t.fee <;> by_cases h4 : t.fee ≤ 1000
 all_goals
  conv at hr =>
   rhs
   rw [hTe]
   simp only [jl.code, jl.rs, zSs, reduceIte, Nat.reduceEqDiff, Int.reduceEq, Int.reduceLT, Int.reduceLE, box1, ku, Zw, l0, l1, h1, h2, h3, h4]
  rw [hTe] at hr
  simp only [h1, h2, h3, h4, decide_true, decide_false, Bool.and_true, Bool.and_false, Bool.false_and]
  exact jl.runs hr (.inr rfl) rfl rfl
end Go.Proofs.Ytbgcphbbchndkaa
namespace Go.Proofs.Ytbgcphbbchndkaa
open Go.Abs
def txB (t : TxV) : List UInt8 := encs [t.id, t.fee]
def ahS (t : TxV) : Value := if yV t then .tuple #[by_ 2 (txB t), .int .i64 0] else .tuple #[.slice none 0 0, .int .i64 61]
theorem aaz {t : TxV} (h : yV t = true) : (txB t).length ≤ 20 := by
 obtain ⟨h1, h2, h3, h4⟩ := kJ.mp h
 have := ZI (l := [t.id, t.fee]) (by intro n hn; simp at hn; rcases hn with rfl | rfl <;> omega)
 exact this
theorem aaK (x y : Int) : sv 2 1 2 [.int .i64 x, .int .i64 y] = iz 2 [x, y] := rfl
theorem yx.v (t : TxV) (S : zk) : jc Try.prog O yx.id [tv t] S = some (ahS t, S) := by
 obtain ⟨T, hTe⟩ : ∃ T, T = (tv t :: undef :: undef :: undef :: undef :: undef :: undef :: undef :: undef :: undef :: undef :: undef :: undef :: undef :: undef :: undef :: undef :: undef :: undef :: []) := ⟨_, rfl⟩
 have hr : zF Try.prog O false yx.code T zk.empty = zF Try.prog O false yx.code T zk.empty := rfl
 have l0 := qC (t := 3) (o := 0 + 0) (vS t) ZL rfl
 have l1 := qC (t := 3) (o := 0 + 1) (vS t) ZL rfl
 have lt := Y2 (vS t)
 unfold ahS
 by_cases h : yV t = true
 ·
  have hh := kJ.mp h
  have c1 := fun S => jw.v (l := [t.id, t.fee]) Okl.read (by decide) (by simp; omega) S
  conv at hr =>
   rhs
   rw [hTe]
   simp only [yx.code, yx.rs, zSs, reduceIte, Nat.reduceEqDiff, Int.reduceEq, Int.reduceLT, Int.reduceLE, box1, lt, vg, yY.v, h, ku, Zw, l0, l1, Yz, aaK, c1, JF (l := [t.id, t.fee]) (by simp) (by simp; omega) (by simp)]
  rw [hTe] at hr
  rw [if_pos h]
  exact yx.runs hr (.inr rfl) (by simp only [List.getD_cons_succ, List.getD_cons_zero, jX, jT, jF, jG, jU]) rfl rfl (yC (all2 (yZ (k := 2) (Nat.le_refl 2)) rfl))
 ·
  rw [Bool.not_eq_true] at h
  conv at hr =>
   rhs
   rw [hTe]
   simp only [yx.code, yx.rs, zSs, reduceIte, Nat.reduceEqDiff, Int.reduceEq, Int.reduceLT, Int.reduceLE, box1, lt, vg, yY.v, h]
  rw [hTe] at hr
  rw [if_neg (by rw [h]; decide)]
  exact yx.runs hr (.inr rfl) rfl rfl rfl rfl
theorem jr.v (t : TxV) (S : zk) : jc Try.prog O jr.id [tv t] S = some (ahS t, S) := by
 obtain ⟨T, hTe⟩ : ∃ T, T = (tv t :: undef :: undef :: undef :: undef :: undef :: undef :: undef :: undef :: undef :: undef :: undef :: undef :: undef :: undef :: []) := ⟨_, rfl⟩
 have hr : zF Try.prog O false jr.code T zk.empty = zF Try.prog O false jr.code T zk.empty := rfl
 have l0 := qC (t := 3) (o := 0 + 0) (vS t) ZL rfl
 have l1 := qC (t := 3) (o := 0 + 1) (vS t) ZL rfl
 have lt := Y2 (vS t)
 unfold ahS
 by_cases h : yV t = true
 ·
  have hh := kJ.mp h
  have c1 := fun S => zB.v (l := [t.id, t.fee]) Okl.read (by decide) (by simp; omega) S
  conv at hr =>
   rhs
   rw [hTe]
   simp only [jr.code, jr.rs, zSs, reduceIte, Nat.reduceEqDiff, Int.reduceEq, Int.reduceLT, Int.reduceLE, box1, lt, vg, jl.v, h, ku, Zw, l0, l1, Yz, aaK, c1, JF (l := [t.id, t.fee]) (by simp) (by simp; omega) (by simp)]
  rw [hTe] at hr
  rw [if_pos h]
  exact jr.runs hr (.inr rfl) (by simp only [List.getD_cons_succ, List.getD_cons_zero, jX, jT, jF, jG, jU]) rfl rfl (yC (all2 (yZ (k := 2) (Nat.le_refl 2)) rfl))
 ·
  rw [Bool.not_eq_true] at h
  conv at hr =>
   rhs
   rw [hTe]
   simp only [jr.code, jr.rs, zSs, reduceIte, Nat.reduceEqDiff, Int.reduceEq, Int.reduceLT, Int.reduceLE, box1, lt, vg, jl.v, h]
  rw [hTe] at hr
  rw [if_neg (by rw [h]; decide)]
  exact jr.runs hr (.inr rfl) rfl rfl rfl rfl
theorem Ja (S : zk) : yF Try.prog 25 S = some (.pointer (some ⟨S.next, 0, none⟩), S.push (.cells (fT ⟨0, 0⟩) (.own []) 0)) := by kernel_rfl
theorem QU (S : zk) (t : TxV) : ∃ S2, wH Try.prog 25 (.pointer (some ⟨S.next, 0, none⟩)) (tv t) (S.push (.cells (fT ⟨0, 0⟩) (.own []) 0)) = some (undef, S2) ∧ S2.get S.next = some (.cells (fT t) (.own []) 0) ∧ Ext S S2 ∧ S.next < S2.next :=
 Qd S (by rw [qX, List.toList_toArray]; rfl) Zf rfl rfl
theorem aaf {S S0 : zk} {q : Nat} {u : TxV} (t : TxV) (hg : S.get q = some (.cells (fT u) (.own []) 0)) (hE : Ext S0 S) (hq : S0.next ≤ q) : ∃ S2, wH Try.prog 25 (.pointer (some ⟨q, 0, none⟩)) (tv t) S = some (undef, S2) ∧ S2.get q = some (.cells (fT t) (.own []) 0) ∧ Ext S0 S2 ∧ S2.next = S.next ∧ ∀ k, k ≠ q → S2.get k = S.get k :=
 Vo hg Zf rfl rfl (by simp [fT]) hE hq
theorem ai6 {R : Type} {a b : Int} (r : Option R) (p : WA r) : okK (.agg [Value.int .i64 a, .int .i64 b].toArray) r p = r := qZ rfl r p
theorem Ju {S : zk} {q : Nat} {t : TxV} (h : S.get q = some (.cells (fT t) (.own []) 0)) : jf Try.prog false 25 (.pointer (some ⟨q, 0, none⟩)) S = some (tv t, S) := Y2 h
theorem Qa {S : zk} {q : Nat} {t : TxV} (h : S.get q = some (.cells (fT t) (.own []) 0)) : jf Try.prog false 3 (.pointer (some ⟨q, 0 + 0, none⟩)) S = some (.int .i64 t.id, S) := qC (t := 3) (o := 0 + 0) h ZL rfl
theorem aiN {S : zk} {q : Nat} {t : TxV} (h : S.get q = some (.cells (fT t) (.own []) 0)) : jf Try.prog false 3 (.pointer (some ⟨q, 0 + 1, none⟩)) S = some (.int .i64 t.fee, S) := qC (t := 3) (o := 0 + 1) h ZL rfl
theorem ajH (k : Nat) (hk : k ≤ 2) (a b : Int) (h : k ≠ 0) (S : zk) : jo Try.prog 57 (iz k [a, b]) (.int .i64 0) S = some (EP [.int .i64 a], S) := acd ⟨hk, fun h0 => absurd h0 h⟩ (by decide) (by simp)
theorem ajK (k : Nat) (hk : k ≤ 2) (a b : Int) (h : k ≠ 0) (S : zk) : jo Try.prog 57 (iz k [a, b]) (.int .i64 1) S = some (EP [.int .i64 b], S) := acd ⟨hk, fun h0 => absurd h0 h⟩ (by decide) (by simp)
def agp (l : List UInt8) : Value := match yM 2 l with
 | some ([a, b], r) => .tuple #[tv ⟨a, b⟩, by_ 2 r, .bool (yV ⟨a, b⟩)]
 | _ => .tuple #[tv ⟨0, 0⟩, .slice none 0 0, .bool false]
theorem QD (l : List UInt8) : yM 2 l = none ∨ ∃ a b r, yM 2 l = some ([a, b], r) ∧ r.length ≤ l.length := by
 cases h : yM 2 l with
 | none => exact .inl rfl
 | some ar =>
  obtain ⟨a, r⟩ := ar
  obtain ⟨h1, h2⟩ := JY h
  match a, h1 with
  | [x, y], _ => exact .inr ⟨x, y, r, rfl, h2⟩
theorem wO.v {k : Nat} {l : List UInt8} (hk : Okl k l) (k2 : k ≠ 2) (hl : l.length ≤ 140737488355328) (S : zk) : jc Try.prog O wO.id [by_ k l] S = some (agp l, S) := by
 obtain ⟨T, hTe⟩ : ∃ T, T = (by_ k l :: undef :: undef :: undef :: undef :: undef :: undef :: undef :: undef :: undef :: undef :: undef :: undef :: undef :: undef :: undef :: undef :: undef :: undef :: undef :: undef :: undef :: undef :: undef :: undef :: undef :: undef :: undef :: undef :: []) := ⟨_, rfl⟩
 have hr : zF Try.prog O false wO.code T zk.empty = zF Try.prog O false wO.code T zk.empty := rfl
 have c1 := fun S => zG.v (many := 2) hk k2 hl S
 have a1 := Ja zk.empty
 have g1 : (zk.empty.push (.cells (fT ⟨0, 0⟩) (.own []) 0)).get 0 = some (.cells (fT ⟨0, 0⟩) (.own []) 0) := by kernel_rfl
 have n1 : (zk.empty.push (.cells (fT ⟨0, 0⟩) (.own []) 0)).next = 1 := by kernel_rfl
 rw [show zk.empty.next = 0 from rfl] at a1
 have r1 : vC 0 (if k = 0 then 0 else 2) 2 l = _ := kX (m := 2) (by decide) (by decide)
 rw [r1] at c1
 unfold agp
 generalize hS1 : zk.empty.push (.cells (fT ⟨0, 0⟩) (.own []) 0) = S1 at a1 g1 n1
 rcases QD l with h | ⟨a, b, r, h, hlr⟩
 ·
  rw [h] at c1 ⊢
  obtain ⟨S2, p1, p2, p3, p4⟩ := aaf ⟨0, 0⟩ g1 (Ext.refl zk.empty |>.trans (hS1 ▸ Ext.push _ _)) (Nat.zero_le _)
  conv at hr =>
   rhs
   rw [hTe]
   simp only [wO.code, wO.rs, zSs, reduceIte, Nat.reduceEqDiff, Int.reduceEq, Int.reduceLT, Int.reduceLE, if_neg k2, a1, c1, jS, p1]
  rw [hTe] at hr
  exact wO.runs hr (.inr rfl) (Ju p2) rfl rfl rfl (all1 (yZ (k := k) hk.le)) rfl
 ·
  rw [h] at c1 ⊢
  have e0 := ajH 1 (by decide) a b (by decide)
  have e1 := ajK 1 (by decide) a b (by decide)
  have c2 : ∀ S, jc Try.prog O 38 [.agg [Value.int .i64 a, .int .i64 b].toArray] S = some (.bool (yV ⟨a, b⟩), S) := fun S => yY.v ⟨a, b⟩ S
  obtain ⟨S2, p1, p2, p3, p4⟩ := QU S1 ⟨a, b⟩
  have g2 : S2.get 0 = some (.cells (fT ⟨0, 0⟩) (.own []) 0) := by rw [p3.get 0 (by omega), g1]
  obtain ⟨S3, q1, q2, q3, q4, q5⟩ := aaf ⟨a, b⟩ g2 (Ext.trans (hS1 ▸ Ext.push _ _ : Ext zk.empty S1) p3) (Nat.zero_le _)
  conv at hr =>
   rhs
   rw [hTe]
   simp only [wO.code, wO.rs, zSs, reduceIte, Nat.reduceEqDiff, Int.reduceEq, Int.reduceLT, Int.reduceLE, if_neg k2, a1, c1, e0, e1, yX, Zj (yu) (yu), Ja, p1, Ju p2, q1, c2, y7 p2, ai6]
  rw [hTe] at hr
  exact wO.runs hr (.inr rfl) (Ju q2) rfl (by simp only [List.getD_cons_succ, List.getD_cons_zero, jX, jT, jF, jG, jU]) rfl (all1 (yZ (k := k) hk.le)) (yC (ajS rfl (yZ (k := 2) (Nat.le_refl 2)) rfl))
noncomputable def ae1 (l : List UInt8) : Option TxV := rd (fun t => yV t = true) txB l
theorem ad9 {a b : TxV} {r s : List UInt8} (ha : yV a = true) (hb : yV b = true) (h : txB a ++ r = txB b ++ s) : a = b ∧ r = s := by
 obtain ⟨a1, a2, a3, a4⟩ := kJ.mp ha
 obtain ⟨b1, b2, b3, b4⟩ := kJ.mp hb
 obtain ⟨h1, h2⟩ := JH (a := [a.id, a.fee]) (c := [b.id, b.fee]) rfl (by simp [Few]; omega) (by simp [Few]; omega) h
 refine ⟨?_, h2⟩
 cases a; cases b
 simp at h1
 rw [h1.1, h1.2]
theorem Z5 (l : List UInt8) (t : TxV) : ae1 l = some t ↔ yV t = true ∧ l = txB t :=
 ae6 (fun x y hx hy h => (ad9 (r := []) (s := []) hx hy (by simpa using h)).1) l t
theorem V3 {l : List UInt8} (h : ∀ t, ¬ (yV t = true ∧ l = txB t)) : ae1 l = none := by
 cases hr : ae1 l with
 | none => rfl
 | some t => exact absurd ((Z5 l t).mp hr) (h t)
noncomputable def acS (l : List UInt8) : Value := match ae1 l with
 | some t => .tuple #[tv t, .int .i64 0]
 | none => .tuple #[tv ⟨0, 0⟩, .int .i64 61]
theorem ads {l r : List UInt8} {a b : Int} (h : yM 2 l = some ([a, b], r)) : ae1 l = if yV ⟨a, b⟩ = true ∧ r = [] then some ⟨a, b⟩ else none := by
 obtain ⟨_, h2, h3⟩ := (yB _ _ _ _).mp h
 split
 ·
  rename_i hc
  exact (Z5 _ _).mpr ⟨hc.1, by rw [h2, hc.2, List.append_nil]; rfl⟩
 ·
  rename_i hc
  refine V3 fun t ht => hc ?_
  obtain ⟨b1, b2, b3, b4⟩ := kJ.mp ht.1
  have h4 : encs [t.id, t.fee] ++ [] = encs [a, b] ++ r := by rw [List.append_nil, ← h2]; exact ht.2.symm
  obtain ⟨h5, h6⟩ := JH (a := [t.id, t.fee]) (c := [a, b]) rfl (by simp [Few]; omega) h3 h4
  simp at h5
  rw [← h5.1, ← h5.2]
  exact ⟨ht.1, h6.symm⟩
theorem YL {l : List UInt8} (h : yM 2 l = none) : ae1 l = none := by
 refine V3 fun t ht => ?_
 obtain ⟨b1, b2, b3, b4⟩ := kJ.mp ht.1
 have := (yB 2 l [t.id, t.fee] []).mpr ⟨rfl, by rw [List.append_nil]; exact ht.2, by simp [Few]; omega⟩
 rw [h] at this
 cases this
theorem yE.v {k : Nat} {l : List UInt8} (hk : Okl k l) (k2 : k ≠ 2) (hl : l.length ≤ 140737488355328) (S : zk) : jc Try.prog O yE.id [by_ k l] S = some (acS l, S) := by
 obtain ⟨T, hTe⟩ : ∃ T, T = (by_ k l :: undef :: undef :: undef :: undef :: undef :: undef :: undef :: undef :: undef :: undef :: undef :: undef :: undef :: undef :: undef :: undef :: undef :: undef :: undef :: undef :: undef :: []) := ⟨_, rfl⟩
 have hr : zF Try.prog O false yE.code T zk.empty = zF Try.prog O false yE.code T zk.empty := rfl
 have c1 := fun S => wO.v hk k2 hl S
 have a1 := Ja zk.empty
 have g1 : (zk.empty.push (.cells (fT ⟨0, 0⟩) (.own []) 0)).get 0 = some (.cells (fT ⟨0, 0⟩) (.own []) 0) := by kernel_rfl
 have n1 : (zk.empty.push (.cells (fT ⟨0, 0⟩) (.own []) 0)).next = 1 := by kernel_rfl
 rw [show zk.empty.next = 0 from rfl] at a1
 have hE1 : Ext zk.empty (zk.empty.push (.cells (fT ⟨0, 0⟩) (.own []) 0)) := Ext.push _ _
 generalize zk.empty.push (.cells (fT ⟨0, 0⟩) (.own []) 0) = S1 at a1 g1 n1 hE1
 unfold agp at c1
 unfold acS
 rcases QD l with h | ⟨a, b, r, h, hlr⟩
 ·
  rw [h] at c1
  rw [YL h]
  obtain ⟨S2, p1, p2, p3, p4⟩ := QU S1 ⟨0, 0⟩
  have g2 : S2.get 0 = some (.cells (fT ⟨0, 0⟩) (.own []) 0) := by rw [p3.get 0 (by omega), g1]
  obtain ⟨S3, q1, q2, q3, q4, q5⟩ := aaf ⟨0, 0⟩ g2 (Ext.trans hE1 p3) (Nat.zero_le _)
  conv at hr =>
   rhs
   rw [hTe]
   simp only [yE.code, yE.rs, zSs, reduceIte, Nat.reduceEqDiff, Int.reduceEq, Int.reduceLT, Int.reduceLE, if_neg k2, a1, c1, Ja, p1, jS, q1]
  rw [hTe] at hr
  exact yE.runs hr (.inr rfl) (Ju q2) rfl rfl (all1 (yZ (k := k) hk.le)) rfl
 ·
  rw [h] at c1
  rw [ads h]
  by_cases hok : yV ⟨a, b⟩ = true
  ·
   obtain ⟨S2, p1, p2, p3, p4⟩ := QU S1 ⟨a, b⟩
   have g2 : S2.get 0 = some (.cells (fT ⟨0, 0⟩) (.own []) 0) := by rw [p3.get 0 (by omega), g1]
   by_cases h0 : r = []
   ·
    subst h0
    obtain ⟨S3, q1, q2, q3, q4, q5⟩ := aaf ⟨a, b⟩ g2 (Ext.trans hE1 p3) (Nat.zero_le _)
    conv at hr =>
     rhs
     rw [hTe]
     simp only [yE.code, yE.rs, zSs, reduceIte, Nat.reduceEqDiff, Int.reduceEq, Int.reduceLT, Int.reduceLE, if_neg k2, a1, c1, Ja, p1, hok, vZ Okl.read, goInt, List.length_nil, Int.ofNat_zero, Int.natCast_zero, Int.lt_irrefl, Ju p2, q1]
    rw [if_pos ⟨hok, rfl⟩]
    rw [hTe] at hr
    exact yE.runs hr (.inr rfl) (Ju q2) rfl rfl (all1 (yZ (k := k) hk.le)) rfl
   ·
    have hp : (0 : Int) < (r.length : Int) := by have := List.length_pos_iff.mpr h0; omega
    obtain ⟨S3, q1, q2, q3, q4, q5⟩ := aaf ⟨0, 0⟩ g2 (Ext.trans hE1 p3) (Nat.zero_le _)
    conv at hr =>
     rhs
     rw [hTe]
     simp only [yE.code, yE.rs, zSs, reduceIte, Nat.reduceEqDiff, Int.reduceEq, Int.reduceLT, Int.reduceLE, if_neg k2, a1, c1, Ja, p1, hok, vZ Okl.read, goInt, decide_eq_true hp, jS, q1]
    rw [if_neg (fun h => h0 h.2)]
    rw [hTe] at hr
    exact yE.runs hr (.inr rfl) (Ju q2) rfl rfl (all1 (yZ (k := k) hk.le)) rfl
  ·
   rw [if_neg (fun h => hok h.1)]
   rw [Bool.not_eq_true] at hok
   obtain ⟨S2, p1, p2, p3, p4⟩ := QU S1 ⟨a, b⟩
   have g2 : S2.get 0 = some (.cells (fT ⟨0, 0⟩) (.own []) 0) := by rw [p3.get 0 (by omega), g1]
   obtain ⟨S3, q1, q2, q3, q4, q5⟩ := aaf ⟨0, 0⟩ g2 (Ext.trans hE1 p3) (Nat.zero_le _)
   conv at hr =>
    rhs
    rw [hTe]
    simp only [yE.code, yE.rs, zSs, reduceIte, Nat.reduceEqDiff, Int.reduceEq, Int.reduceLT, Int.reduceLE, if_neg k2, a1, c1, Ja, p1, hok, jS, q1]
   rw [hTe] at hr
   exact yE.runs hr (.inr rfl) (Ju q2) rfl rfl (all1 (yZ (k := k) hk.le)) rfl
theorem zM.v {k : Nat} {l : List UInt8} (hk : Okl k l) (k2 : k ≠ 2) (hl : l.length ≤ 140737488355328) (S : zk) : jc Try.prog O zM.id [by_ k l] S = some (acS l, S) := by
 obtain ⟨T, hTe⟩ : ∃ T, T = (by_ k l :: undef :: undef :: undef :: undef :: undef :: undef :: undef :: undef :: undef :: undef :: undef :: undef :: undef :: undef :: undef :: undef :: undef :: undef :: undef :: undef :: undef :: undef :: undef :: undef :: undef :: undef :: undef :: undef :: undef :: undef :: undef :: undef :: undef :: undef :: undef :: undef :: undef :: undef :: []) := ⟨_, rfl⟩
 have hr : zF Try.prog O false zM.code T zk.empty = zF Try.prog O false zM.code T zk.empty := rfl
 have c1 := fun S => zq.v (many := 2) hk k2 hl S
 have r1 : vC 2 2 2 l = _ := kX (m := 2) (by decide) (by decide)
 rw [r1] at c1
 have a1 := Ja zk.empty
 have g1 : (zk.empty.push (.cells (fT ⟨0, 0⟩) (.own []) 0)).get 0 = some (.cells (fT ⟨0, 0⟩) (.own []) 0) := by kernel_rfl
 rw [show zk.empty.next = 0 from rfl] at a1
 have hE1 : Ext zk.empty (zk.empty.push (.cells (fT ⟨0, 0⟩) (.own []) 0)) := Ext.push _ _
 generalize zk.empty.push (.cells (fT ⟨0, 0⟩) (.own []) 0) = S1 at a1 g1 hE1
 obtain ⟨S3, q1, q2, q3, q4, q5⟩ := aaf ⟨0, 0⟩ g1 hE1 (Nat.zero_le _)
 unfold acS
 rcases QD l with h | ⟨a, b, r, h, hlr⟩
 ·
  rw [h] at c1
  rw [YL h]
  conv at hr =>
   rhs
   rw [hTe]
   simp only [zM.code, zM.rs, zSs, reduceIte, Nat.reduceEqDiff, Int.reduceEq, Int.reduceLT, Int.reduceLE, if_neg k2, a1, c1, jS, q1]
  rw [hTe] at hr
  exact zM.runs hr (.inr rfl) (Ju q2) rfl rfl (all1 (yZ (k := k) hk.le)) rfl
 ·
  rw [h] at c1
  rw [ads h]
  have e0 := ajH 1 (by decide) a b (by decide)
  have e1 := ajK 1 (by decide) a b (by decide)
  have c2 : ∀ S, jc Try.prog O 46 [.agg [Value.int .i64 a, .int .i64 b].toArray] S = some (.bool (yV ⟨a, b⟩), S) := fun S => jl.v ⟨a, b⟩ S
  by_cases h0 : r = []
  ·
   subst h0
   by_cases hok : yV ⟨a, b⟩ = true
   ·
    obtain ⟨S4, p1, p2, p3, p4⟩ := aaf ⟨a, b⟩ g1 hE1 (Nat.zero_le _)
    conv at hr =>
     rhs
     rw [hTe]
     simp only [zM.code, zM.rs, zSs, reduceIte, Nat.reduceEqDiff, Int.reduceEq, Int.reduceLT, Int.reduceLE, if_neg k2, a1, c1, vZ Okl.read, goInt, List.length_nil, Int.ofNat_zero, Int.natCast_zero, Int.lt_irrefl, e0, e1, yX, Zj (yu) (yu), c2, hok, p1]
    rw [if_pos ⟨hok, rfl⟩]
    rw [hTe] at hr
    exact zM.runs hr (.inr rfl) (Ju p2) rfl rfl (all1 (yZ (k := k) hk.le)) rfl
   ·
    rw [if_neg (fun h => hok h.1)]
    rw [Bool.not_eq_true] at hok
    conv at hr =>
     rhs
     rw [hTe]
     simp only [zM.code, zM.rs, zSs, reduceIte, Nat.reduceEqDiff, Int.reduceEq, Int.reduceLT, Int.reduceLE, if_neg k2, a1, c1, vZ Okl.read, goInt, List.length_nil, Int.ofNat_zero, Int.natCast_zero, Int.lt_irrefl, e0, e1, yX, Zj (yu) (yu), c2, hok, jS, q1]
    rw [hTe] at hr
    exact zM.runs hr (.inr rfl) (Ju q2) rfl rfl (all1 (yZ (k := k) hk.le)) rfl
  ·
   have hp : (0 : Int) < (r.length : Int) := by have := List.length_pos_iff.mpr h0; omega
   rw [if_neg (fun h => h0 h.2)]
   conv at hr =>
    rhs
    rw [hTe]
    simp only [zM.code, zM.rs, zSs, reduceIte, Nat.reduceEqDiff, Int.reduceEq, Int.reduceLT, Int.reduceLE, if_neg k2, a1, c1, vZ Okl.read, goInt, decide_eq_true hp, jS, q1]
   rw [hTe] at hr
   exact zM.runs hr (.inr rfl) (Ju q2) rfl rfl (all1 (yZ (k := k) hk.le)) rfl
end Go.Proofs.Ytbgcphbbchndkaa
namespace Go.Abs
variable {K : Type}
def MapAt (enc : K → Value) (S : zk) (q : Nat) (m : List (K × Value)) : Prop :=
 ∃ es c, S.get q = some (.map es c) ∧ es.map (fun e => (e.key, e.val)) = m.map fun p => (enc p.1, p.2)
theorem ail {P : Program} {t : TypeId} (enc : K → Value) (S : zk) : ∃ S2, Zh P t none S = some (.map (some S.next), S2) ∧ MapAt enc S2 S.next [] ∧ S2.next = S.next + 1 ∧ (∀ j, j < S.next → S2.get j = S.get j) ∧ Ext S S2 :=
 ⟨_, rfl, ⟨[], 0, by rw [zk.yD, if_pos rfl], rfl⟩, by simp, fun j hj => by rw [zk.yD, if_neg (by omega)], Ext.push _ _⟩
theorem MapAt.keep {enc : K → Value} {S : zk} {q : Nat} {m : List (K × Value)} {S2 : zk} (h : MapAt enc S q m) (hg : S2.get q = S.get q) : MapAt enc S2 q m := by
 obtain ⟨es, c, h1, h2⟩ := h
 exact ⟨es, c, hg.trans h1, h2⟩
variable [DecidableEq K]
def ada : List (K × Value) → K → Option Value
 | [], _ => none
 | (a, v) :: m, k => if a = k then some v else ada m k
def midx : List (K × Value) → K → Nat
 | [], _ => 0
 | (a, _) :: m, k => if a = k then 0 else midx m k + 1
def aiF : List (K × Value) → K → Value → List (K × Value)
 | [], k, x => [(k, x)]
 | (a, v) :: m, k, x => if a = k then (k, x) :: m else (a, v) :: aiF m k x
theorem abX {m : List (K × Value)} {k : K} {x : Value} (h : ada m k = none) : aiF m k x = m ++ [(k, x)] := by
 induction m with
 | nil => rfl
 | cons p m ih =>
  obtain ⟨a, v⟩ := p
  unfold ada at h
  split at h
  ·
   cases h
  ·
   rename_i hn
   simp only [aiF, if_neg hn, ih h, List.cons_append]
structure agv (enc : K → Value) (kd : TypeDesc) : Prop where
 kind : ∀ k, WE kd (enc k) = true
 same : ∀ a b, Instr.sameNow kd (enc a) (enc b) = some (decide (a = b))
theorem ad6 : agv (fun n : Int => Value.int .i64 n) (.int .i64) := ⟨fun _ => rfl, fun a b => by
 show (if IntKind.i64 = IntKind.i64 then some (a == b) else none) = _
 rw [if_pos rfl]; by_cases h : a = b <;> simp [h]⟩
theorem QE {enc : K → Value} {kd : TypeDesc} (hK : agv enc kd) (k : K) : ∀ (es : List MapEntry) (m : List (K × Value)) (i : Nat), es.map (fun e => (e.key, e.val)) = m.map (fun p => (enc p.1, p.2)) →
  Instr.findNow kd (enc k) es i = some ((ada m k).map fun v => (i + midx m k, v)) := by
 intro es
 induction es with
 | nil =>
  intro m i h
  cases m with
  | nil => rfl
  | cons p m => simp at h
 | cons e es ih =>
  intro m i h
  cases m with
  | nil => simp at h
  | cons p m =>
   obtain ⟨a, v⟩ := p
   simp only [List.map_cons, List.cons.injEq, Prod.mk.injEq] at h
   obtain ⟨⟨h1, h2⟩, h3⟩ := h
   simp only [Instr.findNow, h1, hK.same, ada, midx]
   by_cases hk : k = a
   ·
    simp [hk, h2]
   ·
    rw [decide_eq_false hk, if_neg (fun h => hk h.symm), if_neg (fun h => hk h.symm)]
    simp only []
    rw [ih m (i + 1) h3]
    congr 2
    funext x
    congr 1
    omega
theorem adU {enc : K → Value} {k : K} {x : Value} : ∀ (es : List MapEntry) (m : List (K × Value)), es.map (fun e => (e.key, e.val)) = m.map (fun p => (enc p.1, p.2)) → ada m k ≠ none →
  (es.modify (midx m k) fun e => { e with key := enc k, val := x }).map (fun e => (e.key, e.val)) = (aiF m k x).map fun p => (enc p.1, p.2) := by
 intro es
 induction es with
 | nil =>
  intro m h hn
  cases m with
  | nil => exact absurd rfl hn
  | cons p m => simp at h
 | cons e es ih =>
  intro m h hn
  cases m with
  | nil => simp at h
  | cons p m =>
   obtain ⟨a, v⟩ := p
   simp only [List.map_cons, List.cons.injEq, Prod.mk.injEq] at h
   obtain ⟨⟨h1, h2⟩, h3⟩ := h
   simp only [midx, aiF]
   by_cases hk : a = k
   ·
    simp [hk, h3]
   ·
    rw [if_neg hk, if_neg hk, List.modify_succ_cons]
    have hn' : ada m k ≠ none := by unfold ada at hn; rwa [if_neg hk] at hn
    simp only [List.map_cons, ih m h3 hn', h1, h2]
variable {P : Program} {t kt et : TypeId} {kd : TypeDesc} {z : Value} {enc : K → Value} {S S0 : zk} {q : Nat} {m : List (K × Value)}
theorem ah7 (hK : agv enc kd) (hm : MapAt enc S q m) (ht : P.underlying t = some (.map kt et)) (hk : P.underlying kt = some kd) (hz : zeroOf P et = some z) (hg : ground z = true) (k : K) :
  ZP P false t (.map (some q)) (enc k) false S = some ((ada m k).getD z, S) := by
 obtain ⟨es, c, h1, h2⟩ := hm
 unfold ZP qg
 simp only [Bool.false_eq_true, if_false, ht, hk, hK.kind, if_true, h1, QE hK k es m 0 h2]
 cases ada m k with
 | none => simp [hz, hg]
 | some v => simp
theorem ahB (hK : agv enc kd) (hm : MapAt enc S q m) (ht : P.underlying t = some (.map kt et)) (hk : P.underlying kt = some kd) (k : K) (x : Value) :
  ∃ S2, qj P t (.map (some q)) (enc k) x S = some (undef, S2) ∧ MapAt enc S2 q (aiF m k x) ∧ S2.next = S.next ∧ (∀ j, j ≠ q → S2.get j = S.get j) ∧ (∀ S0, Ext S0 S → S0.next ≤ q → Ext S0 S2) := by
 obtain ⟨es, c, h1, h2⟩ := hm
 unfold qj
 simp only [ht, hk, hK.kind, if_true, h1, QE hK k es m 0 h2]
 cases hg : ada m k with
 | none =>
  refine ⟨_, rfl, ⟨es ++ [{ key := enc k, val := x, born := c }], c + 1, by rw [zk.yU, if_pos rfl], ?_⟩, by simp, fun j hj => by rw [zk.yU, if_neg hj], fun S0 hE hq => hE.set hq _⟩
  rw [abX hg]
  simp [h2]
 | some v =>
  refine ⟨_, rfl, ⟨_, c, by simp only [Option.map_some, Nat.zero_add, zk.yU, if_true], adU es m h2 (by rw [hg]; simp)⟩, by simp, fun j hj => by rw [zk.yU, if_neg hj], fun S0 hE hq => hE.set hq _⟩
end Go.Abs
namespace Go.Proofs.Ytbgcphbbchndkaa
open Go.Abs
abbrev tl (k : Nat) (l : List TxV) : Value := vs fT 2 k l
theorem afj (t : TxV) : (fT t).length = 2 := rfl
theorem ajh (t : TxV) : (fT t).all (·.oneCell') = true := rfl
theorem ZF {k : Nat} {l : List TxV} {S : zk} (h : Okl k l) : Zz Try.prog 26 (tl k l) S = some (.int .i64 l.length, S) := ad2 ZR h
theorem YF {k : Nat} {l pre suf : List TxV} {t : TxV} {S : zk} (h : Okl k l) (hl : l = pre ++ t :: suf) : jo Try.prog 26 (tl k l) (.int .i64 pre.length) S = some (EP [.int .i64 t.id, .int .i64 t.fee], S) := by
 have h1 : (pre.length : Int) < (l.length : Int) := by rw [hl]; simp; omega
 rw [aiq ZR Zf afj h (by omega) h1, V9 hl]; rfl
theorem agf {k : Nat} {l : List TxV} {S : zk} {lo hi : Option Value} {i j : Int} (h : Okl k l) (hlo : vM 0 lo = some i) (hhi : vM l.length hi = some j) (h0 : 0 ≤ i) (hij : i ≤ j) (hj : j ≤ l.length) : Zo Try.prog 26 (tl k l) lo hi S = some (tl (if k = 2 then 1 else k) ((l.drop i.toNat).take (j.toNat - i.toNat)), S) := abl ZR Zf afj h hlo hhi h0 hij hj
theorem aee {k : Nat} {l : List TxV} {t : TxV} {S : zk} (h : Okl k l) (hk : k ≠ 1) (hl : l.length ≤ 8796093022000) : wY Try.prog 26 26 (tl k l) (tl 2 [t]) S = some (tl 2 (l ++ [t]), S) := by
 rw [QB ZR Zf afZ rfl afI (by omega) ZR afj ajh h hk Okl.own (by simp; omega) (by simp; omega), if_neg (fun h => by have := h.2; simp at this)]
theorem abH {α : Type} (g : α → Int) (v : Value) (l : List α) (k : Int) : ada (l.map fun t => (g t, v)) k = if k ∈ l.map g then some v else none := by
 induction l with
 | nil => rfl
 | cons t l ih =>
  simp only [List.map_cons, ada, ih, List.mem_cons]
  by_cases h : g t = k
  ·
   simp [h]
  ·
   have h' : ¬ k = g t := fun e => h e.symm
   simp [h, h']
abbrev kI : Int → Value := fun n => .int .i64 n
def unl (l : List TxV) : Bool := decide ((l.map TxV.id).Nodup) && decide (l.length ≤ 3)
theorem jD.round {k : Nat} {l : List TxV} (hk : Okl k l) (hl : l.length ≤ 8796093022208) {q : Nat} : ∀ (suf pre : List TxV) {T : List Value} {S : zk} {r : St}, qm (zF Try.prog O false jD.jI) T S = r → T.length = 24 →
  T.getD 0 undef = tl k l → T.getD 3 undef = .map (some q) → T.getD 7 undef = tl k l → T.getD 8 undef = .int .i64 l.length → T.getD 9 undef = .int .i64 pre.length → l = pre ++ suf →
  MapAt kI S q (pre.map fun t => (t.id, .bool true)) → q < S.next → (pre.map TxV.id).Nodup →
  ∃ e T' S', r = some (e, T', S') ∧ if (l.map TxV.id).Nodup then e = .exit 0 ∧ T'.length = 24 ∧ T'.getD 0 undef = tl k l else e = .ret ∧ T'.getD 2 undef = .bool false := by
 intro suf
 induction suf with
 | nil =>
  intro pre T S r hL hT h0 h3 h7 h8 h9 hpre hm hq hn
  have hTe := jD.eta hT
  rw [h0, h3, h7, h8, h9] at hTe
  have hr : zF Try.prog O false jD.jI T S = zF Try.prog O false jD.jI T S := rfl
  have d1 : ¬ (pre.length : Int) < (l.length : Int) := by rw [hpre]; simp
  conv at hr =>
   rhs
   rw [hTe]
   simp only [jD.jI, jD.code, jD.rs, zSs, reduceIte, Nat.reduceEqDiff, Int.reduceEq, Int.reduceLT, Int.reduceLE, d1]
  refine ⟨_, _, _, hL.symm.trans (wo hr (by simp)), ?_⟩
  rw [if_pos (by rw [hpre, List.append_nil]; exact hn)]
  exact ⟨rfl, rfl, rfl⟩
 | cons t suf ih =>
  intro pre T S r hL hT h0 h3 h7 h8 h9 hpre hm hq hn
  have hTe := jD.eta hT
  rw [h0, h3, h7, h8, h9] at hTe
  have hr : zF Try.prog O false jD.jI T S = zF Try.prog O false jD.jI T S := rfl
  have d1 : (pre.length : Int) < (l.length : Int) := by rw [hpre]; simp; omega
  have e1 := fun S => YF (S := S) hk hpre
  have wi : IntKind.i64.wrap ((pre.length : Int) + 1) = ((pre ++ [t]).length : Int) := by rw [wrap_i64 (by omega) (by omega)]; simp
  obtain ⟨S2, p1, p2, p3, p4⟩ := QU S t
  have hm2 : MapAt kI S2 q (pre.map fun t => (t.id, .bool true)) := hm.keep (p3.get q hq)
  have m1 : ZP Try.prog false 100 (.map (some q)) (.int .i64 t.id) false S2 = _ := ah7 ad6 hm2 YK agG aiP rfl t.id
  rw [abH] at m1
  by_cases ht : t.id ∈ pre.map TxV.id
  ·
   rw [if_pos ht] at m1
   conv at hr =>
    rhs
    rw [hTe]
    simp only [jD.jI, jD.code, jD.rs, zSs, reduceIte, Nat.reduceEqDiff, Int.reduceEq, Int.reduceLT, Int.reduceLE, d1, e1, kH, Ja, p1, ku, Qa p2, m1, Option.getD_some]
   refine ⟨_, _, _, hL.symm.trans (wo hr (by simp)), ?_⟩
   rw [if_neg (by rw [hpre]; simp only [List.map_append, List.map_cons, List.nodup_append]; intro h; exact h.2.2 _ ht _ (by simp) rfl)]
   exact ⟨rfl, rfl⟩
  ·
   rw [if_neg ht] at m1
   obtain ⟨S3, u1, u2, u3, u4, u5⟩ := ahB ad6 hm2 YK agG t.id (.bool true)
   have u1' : qj Try.prog 100 (.map (some q)) (.int .i64 t.id) (.bool true) S2 = some (undef, S3) := u1
   rw [abX (by rw [abH, if_neg ht])] at u2
   conv at hr =>
    rhs
    rw [hTe]
    simp only [jD.jI, jD.code, jD.rs, zSs, reduceIte, Nat.reduceEqDiff, Int.reduceEq, Int.reduceLT, Int.reduceLE, d1, e1, kH, Ja, p1, ku, Qa p2, m1, Option.getD_none, u1', wi]
   refine ih (pre ++ [t]) ((yg hr).symm.trans hL) rfl rfl rfl rfl rfl rfl (by simp [hpre]) (by simpa using u2) (by omega) ?_
   simp only [List.map_append, List.map_cons, List.map_nil, List.nodup_append]
   exact ⟨hn, by simp, fun a ha b hb => by simp at hb; subst hb; exact fun h => ht (h ▸ ha)⟩
theorem jD.v {k : Nat} {l : List TxV} (hk : Okl k l) (k2 : k ≠ 2) (hl : l.length ≤ 8796093022208) (S : zk) : jc Try.prog O jD.id [tl k l] S = some (.bool (unl l), S) := by
 obtain ⟨T, hTe⟩ : ∃ T, T = (tl k l :: undef :: undef :: undef :: undef :: undef :: undef :: undef :: undef :: undef :: undef :: undef :: undef :: undef :: undef :: undef :: undef :: undef :: undef :: undef :: undef :: undef :: undef :: undef :: []) := ⟨_, rfl⟩
 have hr : zF Try.prog O false jD.code T zk.empty = zF Try.prog O false jD.code T zk.empty := rfl
 obtain ⟨S1, m1, m2, m3, m4, m5⟩ := ail (P := Try.prog) (t := 100) kI zk.empty
 conv at hr =>
  rhs
  rw [hTe]
  simp only [jD.code, jD.rs, zSs, reduceIte, Nat.reduceEqDiff, Int.reduceEq, Int.reduceLT, Int.reduceLE, m1, if_neg k2, ZF hk]
 generalize hL : qm (zF Try.prog O false jD.jI) _ _ = r at hr
 obtain ⟨e, T', S', rfl, g⟩ := jD.round hk hl l [] hL rfl rfl rfl rfl rfl rfl rfl m2 (by omega) List.nodup_nil
 unfold unl
 by_cases h : (l.map TxV.id).Nodup
 ·
  rw [if_pos h] at g
  obtain ⟨rfl, g2, g3⟩ := g
  have hTe' := jD.eta g2
  rw [g3] at hTe'
  have d3 : decide ((l.length : Int) ≤ 3) = decide (l.length ≤ 3) := decide_eq_decide.mpr (by omega)
  conv at hr =>
   rhs
   rw [hTe']
   simp only [jD.code, jD.rs, zSs, reduceIte, Nat.reduceEqDiff, Int.reduceEq, Int.reduceLT, Int.reduceLE, if_neg k2, ZF hk, d3]
  rw [hTe] at hr
  rw [decide_eq_true h, Bool.true_and]
  exact jD.runs hr (.inr rfl) (all1 (ZH hk.le fun _ _ => rfl)) rfl
 ·
  rw [if_neg h] at g
  obtain ⟨rfl, g2⟩ := g
  conv at hr =>
   rhs
   simp only [zSs, reduceIte, Nat.reduceEqDiff, Int.reduceEq, Int.reduceLT, Int.reduceLE]
  rw [hTe] at hr
  rw [decide_eq_false h, Bool.false_and]
  have hrun := jD.runs (S := S) hr (.inr rfl) (all1 (ZH hk.le fun _ _ => rfl)) (by rw [g2]; rfl)
  rw [g2] at hrun
  exact hrun
def Zi (l : List TxV) : Bool := unl l && l.all yV
def flat (l : List TxV) : List Int := l.flatMap fun t => [t.id, t.fee]
def Vx (l : List TxV) : List UInt8 := encs ((l.length : Int) :: flat l)
def ahr (l : List TxV) : Value := if Zi l then .tuple #[by_ 2 (Vx l), .int .i64 0] else .tuple #[.slice none 0 0, .int .i64 61]
theorem Wq (a b : List TxV) : flat (a ++ b) = flat a ++ flat b := by simp [flat]
theorem Z9 (l : List TxV) : (flat l).length = 2 * l.length := by
 induction l with
 | nil => rfl
 | cons t l ih => rw [show flat (t :: l) = [t.id, t.fee] ++ flat l from rfl, List.length_append, ih]; simp; omega
theorem XQ {l : List TxV} (h : ∀ t ∈ l, yV t = true) : ∀ n ∈ flat l, 0 ≤ n ∧ n ≤ 1000000 := by
 intro n hn
 simp only [flat, List.mem_flatMap] at hn
 obtain ⟨t, h1, h2⟩ := hn
 obtain ⟨b1, b2, b3, b4⟩ := kJ.mp (h t h1)
 simp at h2
 omega
theorem vN (l : List TxV) : Vx l = encs [(l.length : Int)] ++ encs (flat l) := vO [(l.length : Int)] (flat l)
theorem WI {l : List TxV} (h : ∀ t ∈ l, yV t = true) : (encs (flat l)).length ≤ 20 * l.length := by
 have h1 := ZI (l := flat l) (fun n hn => by have := XQ h n hn; omega)
 rw [Z9] at h1
 omega
theorem jQ.round {k : Nat} {l : List TxV} (hk : Okl k l) (hl : l.length ≤ 3) {A : List UInt8} (hA : A.length ≤ 100) : ∀ (suf pre : List TxV) {T : List Value} {S : zk} {r : St}, qm (zF Try.prog O false jQ.jI) T S = r → T.length = 39 →
  T.getD 4 undef = by_ 2 (A ++ encs (flat pre)) → T.getD 20 undef = tl k l → T.getD 21 undef = .int .i64 l.length → T.getD 22 undef = .int .i64 pre.length → l = pre ++ suf → (∀ t ∈ pre, yV t = true) →
  ∃ e T' S', r = some (e, T', S') ∧ if l.all yV = true then e = .exit 0 ∧ T'.length = 39 ∧ T'.getD 4 undef = by_ 2 (A ++ encs (flat l)) else e = .ret ∧ T'.getD 2 undef = .slice none 0 0 ∧ T'.getD 3 undef = .int .i64 61 := by
 intro suf
 induction suf with
 | nil =>
  intro pre T S r hL hT h4 h20 h21 h22 hpre hp
  have hTe := jQ.eta hT
  rw [h4, h20, h21, h22] at hTe
  have hr : zF Try.prog O false jQ.jI T S = zF Try.prog O false jQ.jI T S := rfl
  have d1 : ¬ (pre.length : Int) < (l.length : Int) := by rw [hpre]; simp
  conv at hr =>
   rhs
   rw [hTe]
   simp only [jQ.jI, jQ.code, jQ.rs, zSs, reduceIte, Nat.reduceEqDiff, Int.reduceEq, Int.reduceLT, Int.reduceLE, d1]
  refine ⟨_, _, _, hL.symm.trans (wo hr (by simp)), ?_⟩
  rw [List.append_nil] at hpre
  rw [hpre, if_pos (List.all_eq_true.mpr hp)]
  exact ⟨rfl, rfl, rfl⟩
 | cons t suf ih =>
  intro pre T S r hL hT h4 h20 h21 h22 hpre hp
  have hTe := jQ.eta hT
  rw [h4, h20, h21, h22] at hTe
  have hr : zF Try.prog O false jQ.jI T S = zF Try.prog O false jQ.jI T S := rfl
  have d1 : (pre.length : Int) < (l.length : Int) := by rw [hpre]; simp; omega
  have e1 := fun S => YF (S := S) hk hpre
  have wi : IntKind.i64.wrap ((pre.length : Int) + 1) = ((pre ++ [t]).length : Int) := by rw [wrap_i64 (by omega) (by omega)]; simp
  obtain ⟨S2, p1, p2, p3, p4⟩ := QU S t
  have c1 : ∀ S, jc Try.prog O 33 [.agg [Value.int .i64 t.id, .int .i64 t.fee].toArray] S = some (ahS t, S) := fun S => yx.v t S
  unfold ahS at c1
  by_cases ht : yV t = true
  ·
   rw [if_pos ht] at c1
   have hb := aaz ht
   have hf := WI hp
   have hpl : pre.length ≤ 3 := by omega
   have ap : ∀ S, wY Try.prog 23 23 (by_ 2 (A ++ encs (flat pre))) (by_ 1 (txB t)) S = some (by_ 2 (A ++ encs (flat (pre ++ [t]))), S) := fun S => by
    rw [kW Okl.own (by decide) Okl.read (by simp; omega), Wq, vO, ← List.append_assoc]; rfl
   conv at hr =>
    rhs
    rw [hTe]
    simp only [jQ.jI, jQ.code, jQ.rs, zSs, reduceIte, Nat.reduceEqDiff, Int.reduceEq, Int.reduceLT, Int.reduceLE, d1, e1, kH, Ja, p1, Ju p2, c1, ap, wi]
   exact ih (pre ++ [t]) ((yg hr).symm.trans hL) rfl rfl rfl rfl rfl (by simp [hpre]) (fun x hx => by rcases List.mem_append.1 hx with h | h; { exact hp x h }; { simp at h; rw [h]; exact ht })
  ·
   rw [if_neg ht] at c1
   conv at hr =>
    rhs
    rw [hTe]
    simp only [jQ.jI, jQ.code, jQ.rs, zSs, reduceIte, Nat.reduceEqDiff, Int.reduceEq, Int.reduceLT, Int.reduceLE, d1, e1, kH, Ja, p1, Ju p2, c1]
   refine ⟨_, _, _, hL.symm.trans (wo hr (by simp)), ?_⟩
   rw [if_neg (by rw [hpre]; simp [ht])]
   exact ⟨rfl, rfl, rfl⟩
theorem jQ.v {k : Nat} {l : List TxV} (hk : Okl k l) (k2 : k ≠ 2) (hl : l.length ≤ 8796093022208) (S : zk) : jc Try.prog O jQ.id [tl k l] S = some (ahr l, S) := by
 obtain ⟨T, hTe⟩ : ∃ T, T = (tl k l :: undef :: undef :: undef :: undef :: undef :: undef :: undef :: undef :: undef :: undef :: undef :: undef :: undef :: undef :: undef :: undef :: undef :: undef :: undef :: undef :: undef :: undef :: undef :: undef :: undef :: undef :: undef :: undef :: undef :: undef :: undef :: undef :: undef :: undef :: undef :: undef :: undef :: undef :: []) := ⟨_, rfl⟩
 have hr : zF Try.prog O false jQ.code T zk.empty = zF Try.prog O false jQ.code T zk.empty := rfl
 have c1 := fun S => jD.v hk k2 hl S
 have cl : jH 16 (tl k l) = true := ZH hk.le fun _ _ => rfl
 unfold ahr Zi
 by_cases hu : unl l = true
 ·
  have h3 : l.length ≤ 3 := by unfold unl at hu; simp at hu; exact hu.2
  have c2 := fun S => jw.v (l := [(l.length : Int)]) Okl.read (by decide) (by simp; omega) S
  have hA : (encs [(l.length : Int)]).length ≤ 100 := by
   have := ZI (l := [(l.length : Int)]) (by simp; omega)
   simp at this; omega
  conv at hr =>
   rhs
   rw [hTe]
   simp only [jQ.code, jQ.rs, zSs, reduceIte, Nat.reduceEqDiff, Int.reduceEq, Int.reduceLT, Int.reduceLE, if_neg k2, c1, hu, ZF hk, JW, agD, c2, JF (l := [(l.length : Int)]) (by simp) (by intro n hn; simp at hn; omega) (by simp)]
  generalize hL : qm (zF Try.prog O false jQ.jI) _ _ = r at hr
  obtain ⟨e, T', S', rfl, g⟩ := jQ.round hk h3 hA l [] hL rfl (by rw [show flat [] = [] from rfl, show encs [] = [] from rfl, List.append_nil]; rfl) rfl rfl rfl rfl (fun t h => by cases h)
  by_cases ha : l.all yV = true
  ·
   rw [if_pos ha] at g
   obtain ⟨rfl, g2, g3⟩ := g
   have hTe' := jQ.eta g2
   rw [g3] at hTe'
   conv at hr =>
    rhs
    rw [hTe']
    simp only [jQ.code, jQ.rs, zSs, reduceIte, Nat.reduceEqDiff, Int.reduceEq, Int.reduceLT, Int.reduceLE]
   rw [hTe] at hr
   rw [if_pos (by rw [hu, ha]; rfl), vN]
   exact jQ.runs hr (.inr rfl) (by simp only [List.getD_cons_succ, List.getD_cons_zero, jX, jT, jF, jG, jU]) rfl (all1 cl) (yC (all2 (yZ (k := 2) (Nat.le_refl 2)) rfl))
  ·
   rw [if_neg ha] at g
   obtain ⟨rfl, g2, g3⟩ := g
   conv at hr =>
    rhs
    simp only [zSs, reduceIte, Nat.reduceEqDiff, Int.reduceEq, Int.reduceLT, Int.reduceLE]
   rw [hTe] at hr
   rw [if_neg (by rw [hu, Bool.true_and]; exact ha)]
   have hrun := jQ.runs (S := S) hr (.inr rfl) (by rw [g2]; rfl) (by rw [g3]; rfl) (all1 cl) (by rw [g2, g3]; rfl)
   rw [g2, g3] at hrun
   exact hrun
 ·
  rw [Bool.not_eq_true] at hu
  conv at hr =>
   rhs
   rw [hTe]
   simp only [jQ.code, jQ.rs, zSs, reduceIte, Nat.reduceEqDiff, Int.reduceEq, Int.reduceLT, Int.reduceLE, if_neg k2, c1, hu]
  rw [hTe] at hr
  rw [if_neg (by rw [hu]; simp)]
  exact jQ.runs hr (.inr rfl) rfl rfl (all1 cl) rfl
def good (l : List TxV) : Prop := (l.map TxV.id).Nodup ∧ ∀ t ∈ l, yV t = true
theorem kR {l : List TxV} : Zi l = true ↔ good l ∧ l.length ≤ 3 := by
 unfold Zi unl good
 simp [and_assoc, and_comm, and_left_comm]
theorem zo.inner {k : Nat} {l : List TxV} (hk : Okl k l) (hl : l.length ≤ 3) {t : TxV} {q : Nat} :
  ∀ (suf pre : List TxV) {T : List Value} {S : zk} {r : St}, qm (zF Try.prog O false zo.jI) T S = r → T.length = 51 → T.getD 6 undef = .pointer (some ⟨q, 0, none⟩) → T.getD 27 undef = tl k l → T.getD 28 undef = .int .i64 l.length → T.getD 29 undef = .int .i64 pre.length → l = pre ++ suf →
  S.get q = some (.cells (fT t) (.own []) 0) → q < S.next →
  ∃ e T' S', r = some (e, T', S') ∧ Ext S S' ∧ if t.id ∈ suf.map TxV.id then e = .ret ∧ T'.getD 2 undef = .slice none 0 0 ∧ T'.getD 3 undef = .int .i64 61 else e = .exit 2 ∧ T'.length = 51 ∧
   T'.getD 0 undef = T.getD 0 undef ∧ T'.getD 4 undef = T.getD 4 undef ∧ T'.getD 6 undef = T.getD 6 undef ∧ T'.getD 15 undef = T.getD 15 undef ∧ T'.getD 16 undef = T.getD 16 undef ∧ T'.getD 17 undef = T.getD 17 undef := by
 intro suf
 induction suf with
 | nil =>
  intro pre T S r hL hT h6 h27 h28 h29 hpre hg hq
  have hTe := zo.eta hT
  rw [h27, h28, h29] at hTe
  have hr : zF Try.prog O false zo.jI T S = zF Try.prog O false zo.jI T S := rfl
  have d1 : ¬ (pre.length : Int) < (l.length : Int) := by rw [hpre]; simp
  conv at hr =>
   rhs
   rw [hTe]
   simp only [zo.jI, zo.code, zo.rs, zSs, reduceIte, Nat.reduceEqDiff, Int.reduceEq, Int.reduceLT, Int.reduceLE, d1]
  refine ⟨_, _, _, hL.symm.trans (wo hr (by simp)), Ext.refl _, ?_⟩
  rw [if_neg (by simp)]
  exact ⟨rfl, rfl, rfl, rfl, rfl, rfl, rfl, rfl⟩
 | cons u suf ih =>
  intro pre T S r hL hT h6 h27 h28 h29 hpre hg hq
  have hTe := zo.eta hT
  rw [h6, h27, h28, h29] at hTe
  have hr : zF Try.prog O false zo.jI T S = zF Try.prog O false zo.jI T S := rfl
  have d1 : (pre.length : Int) < (l.length : Int) := by rw [hpre]; simp; omega
  have e1 := fun S => YF (S := S) hk hpre
  have wi : IntKind.i64.wrap ((pre.length : Int) + 1) = ((pre ++ [u]).length : Int) := by rw [wrap_i64 (by omega) (by omega)]; simp
  obtain ⟨S2, p1, p2, p3, p4⟩ := QU S u
  have g2 : S2.get q = some (.cells (fT t) (.own []) 0) := (p3.get q hq).trans hg
  by_cases ht : u.id = t.id
  ·
   conv at hr =>
    rhs
    rw [hTe]
    simp only [zo.jI, zo.code, zo.rs, zSs, reduceIte, Nat.reduceEqDiff, Int.reduceEq, Int.reduceLT, Int.reduceLE, d1, e1, kH, Ja, p1, ku, Qa p2, Qa g2, decide_eq_true ht]
   refine ⟨_, _, _, hL.symm.trans (wo hr (by simp)), p3, ?_⟩
   rw [if_pos (by simp [ht])]
   exact ⟨rfl, rfl, rfl⟩
  ·
   conv at hr =>
    rhs
    rw [hTe]
    simp only [zo.jI, zo.code, zo.rs, zSs, reduceIte, Nat.reduceEqDiff, Int.reduceEq, Int.reduceLT, Int.reduceLE, d1, e1, kH, Ja, p1, ku, Qa p2, Qa g2, decide_eq_false ht, wi]
   obtain ⟨e, T', S', i1, i2, i3⟩ := ih (pre ++ [u]) ((yg hr).symm.trans hL) rfl rfl rfl rfl rfl (by simp [hpre]) g2 (by omega)
   refine ⟨e, T', S', i1, p3.trans i2, ?_⟩
   have hm : t.id ∈ (u :: suf).map TxV.id ↔ t.id ∈ suf.map TxV.id := by
    simp only [List.map_cons, List.mem_cons]
    exact ⟨fun h => h.resolve_left (fun e => ht e.symm), .inr⟩
   by_cases hc : t.id ∈ suf.map TxV.id
   ·
    rw [if_pos hc] at i3
    rw [if_pos (hm.mpr hc)]
    exact i3
   ·
    rw [if_neg hc] at i3
    rw [if_neg (fun h => hc (hm.mp h))]
    obtain ⟨j1, j2, j3, j4, j5, j6, j7, j8⟩ := i3
    exact ⟨j1, j2, j3, j4, j5.trans h6.symm, j6, j7, j8⟩
theorem zo.round {k : Nat} {l : List TxV} (hk : Okl k l) (k2 : k ≠ 2) (hl : l.length ≤ 3) {n : Int} : ∀ (suf pre : List TxV) {T : List Value} {S : zk} {r : St}, qm (zF Try.prog O false zo.xJ) T S = r → T.length = 51 →
  T.getD 0 undef = tl k l → T.getD 4 undef = iz 2 (n :: flat pre) → T.getD 15 undef = tl k l → T.getD 16 undef = .int .i64 l.length → T.getD 17 undef = .int .i64 pre.length → l = pre ++ suf → good pre →
  ∃ e T' S', r = some (e, T', S') ∧ ((good l ∧ e = .exit 0 ∧ T'.length = 51 ∧ T'.getD 4 undef = iz 2 (n :: flat l)) ∨ (¬ good l ∧ e = .ret ∧ T'.getD 2 undef = .slice none 0 0 ∧ T'.getD 3 undef = .int .i64 61)) := by
 intro suf
 induction suf with
 | nil =>
  intro pre T S r hL hT h0 h4 h15 h16 h17 hpre hp
  have hTe := zo.eta hT
  rw [h0, h4, h15, h16, h17] at hTe
  have hr : zF Try.prog O false zo.xJ T S = zF Try.prog O false zo.xJ T S := rfl
  have d1 : ¬ (pre.length : Int) < (l.length : Int) := by rw [hpre]; simp
  conv at hr =>
   rhs
   rw [hTe]
   simp only [zo.xJ, zo.code, zo.rs, zSs, reduceIte, Nat.reduceEqDiff, Int.reduceEq, Int.reduceLT, Int.reduceLE, d1]
  refine ⟨_, _, _, hL.symm.trans (wo hr (by simp)), .inl ?_⟩
  rw [List.append_nil] at hpre
  rw [hpre]
  exact ⟨hp, rfl, rfl, rfl⟩
 | cons t suf ih =>
  intro pre T S r hL hT h0 h4 h15 h16 h17 hpre hp
  have hTe := zo.eta hT
  rw [h0, h4, h15, h16, h17] at hTe
  have hr : zF Try.prog O false zo.xJ T S = zF Try.prog O false zo.xJ T S := rfl
  have d1 : (pre.length : Int) < (l.length : Int) := by rw [hpre]; simp; omega
  have e1 := fun S => YF (S := S) hk hpre
  have wi : IntKind.i64.wrap ((pre.length : Int) + 1) = ((pre ++ [t]).length : Int) := by rw [wrap_i64 (by omega) (by omega)]; simp
  obtain ⟨S2, p1, p2, p3, p4⟩ := QU S t
  have c1 : ∀ S, jc Try.prog O 46 [.agg [Value.int .i64 t.id, .int .i64 t.fee].toArray] S = some (.bool (yV t), S) := fun S => jl.v t S
  by_cases ht : yV t = true
  ·
   have sl : ∀ S, Zo Try.prog 26 (tl k l) none (some (.int .i64 pre.length)) S = some (tl k pre, S) := fun S => by
    rw [agf hk rfl rfl (by omega) (by omega) (by omega), if_neg k2, hpre]
    simp
   have hkp : Okl k pre := ⟨hk.le, fun h => by have := hk.nil h; rw [hpre] at this; simp at this⟩
   conv at hr =>
    rhs
    rw [hTe]
    simp only [zo.xJ, zo.code, zo.rs, zSs, reduceIte, Nat.reduceEqDiff, Int.reduceEq, Int.reduceLT, Int.reduceLE, d1, e1, kH, Ja, p1, Ju p2, c1, ht, if_neg k2, sl, ZF hkp]
   generalize hL2 : qm (zF Try.prog O false zo.jI) _ _ = r2 at hr
   obtain ⟨e, T', S', rfl, g1, g⟩ := zo.inner (t := t) hkp (by rw [hpre] at hl; simp at hl; omega) pre [] hL2 rfl rfl rfl rfl rfl rfl p2 p4
   by_cases hin : t.id ∈ pre.map TxV.id
   ·
    rw [if_pos hin] at g
    obtain ⟨rfl, g2, g3⟩ := g
    conv at hr =>
     rhs
     simp only [zSs, reduceIte, Nat.reduceEqDiff, Int.reduceEq, Int.reduceLT, Int.reduceLE]
    refine ⟨_, _, _, hL.symm.trans (wo hr (by simp)), .inr ⟨?_, rfl, g2, g3⟩⟩
    intro hgd
    have := hgd.1
    rw [hpre] at this
    simp only [List.map_append, List.map_cons, List.nodup_append] at this
    exact this.2.2 _ hin _ (by simp) rfl
   ·
    rw [if_neg hin] at g
    obtain ⟨rfl, g2, f0, f4, f6, f15, f16, f17⟩ := g
    have hTe' := zo.eta g2
    rw [f0, f4, f6, f15, f16, f17] at hTe'
    simp only [List.getD_cons_succ, List.getD_cons_zero] at hTe'
    have g3 : S'.get S.next = some (.cells (fT t) (.own []) 0) := (g1.get _ p4).trans p2
    have ap : ∀ S, wY Try.prog 57 57 (iz 2 (n :: flat pre)) (iz 2 [t.id, t.fee]) S = some (iz 2 (n :: flat (pre ++ [t])), S) := fun S => by
     rw [aal Okl.own (by decide) Okl.own (by simp [Z9]; omega), Wq]; rfl
    conv at hr =>
     rhs
     rw [hTe']
     simp only [zo.code, zo.rs, zSs, reduceIte, Nat.reduceEqDiff, Int.reduceEq, Int.reduceLT, Int.reduceLE, ku, Zw, Qa g3, aiN g3, Yz, aaK, ap, wi]
    refine ih (pre ++ [t]) ((yg hr).symm.trans hL) rfl rfl rfl rfl rfl rfl (by simp [hpre]) ?_
    refine ⟨?_, fun x hx => by rcases List.mem_append.1 hx with h | h; { exact hp.2 x h }; { simp at h; rw [h]; exact ht }⟩
    simp only [List.map_append, List.map_cons, List.map_nil, List.nodup_append]
    exact ⟨hp.1, by simp, fun a ha b hb => by simp at hb; subst hb; exact fun h => hin (h ▸ ha)⟩
  ·
   have ht' := ht
   rw [Bool.not_eq_true] at ht'
   conv at hr =>
    rhs
    rw [hTe]
    simp only [zo.xJ, zo.code, zo.rs, zSs, reduceIte, Nat.reduceEqDiff, Int.reduceEq, Int.reduceLT, Int.reduceLE, d1, e1, kH, Ja, p1, Ju p2, c1, ht']
   refine ⟨_, _, _, hL.symm.trans (wo hr (by simp)), .inr ⟨?_, rfl, rfl, rfl⟩⟩
   intro hgd
   exact ht (hgd.2 t (by rw [hpre]; simp))
theorem zo.v {k : Nat} {l : List TxV} (hk : Okl k l) (k2 : k ≠ 2) (hl : l.length ≤ 8796093022208) (S : zk) : jc Try.prog O zo.id [tl k l] S = some (ahr l, S) := by
 obtain ⟨T, hTe⟩ : ∃ T, T = (tl k l :: undef :: undef :: undef :: undef :: undef :: undef :: undef :: undef :: undef :: undef :: undef :: undef :: undef :: undef :: undef :: undef :: undef :: undef :: undef :: undef :: undef :: undef :: undef :: undef :: undef :: undef :: undef :: undef :: undef :: undef :: undef :: undef :: undef :: undef :: undef :: undef :: undef :: undef :: undef :: undef :: undef :: undef :: undef :: undef :: undef :: undef :: undef :: undef :: undef :: undef :: []) := ⟨_, rfl⟩
 have hr : zF Try.prog O false zo.code T zk.empty = zF Try.prog O false zo.code T zk.empty := rfl
 have cl : jH 16 (tl k l) = true := ZH hk.le fun _ _ => rfl
 unfold ahr
 by_cases h3 : l.length ≤ 3
 ·
  have d3 : ¬ (3 : Int) < (l.length : Int) := by omega
  conv at hr =>
   rhs
   rw [hTe]
   simp only [zo.code, zo.rs, zSs, reduceIte, Nat.reduceEqDiff, Int.reduceEq, Int.reduceLT, Int.reduceLE, if_neg k2, ZF hk, d3, JW, agD]
  generalize hL : qm (zF Try.prog O false zo.xJ) _ _ = r at hr
  obtain ⟨e, T', S', rfl, ⟨g0, rfl, g2, g3⟩ | ⟨g0, rfl, g2, g3⟩⟩ := zo.round hk k2 h3 l [] hL rfl rfl rfl rfl rfl rfl rfl ⟨List.nodup_nil, fun t h => by cases h⟩
  ·
   have hTe' := zo.eta g2
   rw [g3] at hTe'
   have few := XQ g0.2
   have c2 := fun S => zB.v (l := (l.length : Int) :: flat l) Okl.read (by decide) (by intro n hn; rcases List.mem_cons.1 hn with rfl | hn; { omega }; { have := few n hn; omega }) S
   have n2 := JF (k := 2) (l := (l.length : Int) :: flat l) (by simp [Z9]; omega) (by intro n hn; rcases List.mem_cons.1 hn with rfl | hn; { omega }; { have := few n hn; omega }) (by simp)
   conv at hr =>
    rhs
    rw [hTe']
    simp only [zo.code, zo.rs, zSs, reduceIte, Nat.reduceEqDiff, Int.reduceEq, Int.reduceLT, Int.reduceLE, c2, n2]
   rw [hTe] at hr
   rw [if_pos (kR.mpr ⟨g0, h3⟩)]
   exact zo.runs hr (.inr rfl) (by simp only [List.getD_cons_succ, List.getD_cons_zero, jX, jT, jF, jG, jU]) rfl (all1 cl) (yC (all2 (yZ (k := 2) (Nat.le_refl 2)) rfl))
  ·
   conv at hr =>
    rhs
    simp only [zSs, reduceIte, Nat.reduceEqDiff, Int.reduceEq, Int.reduceLT, Int.reduceLE]
   rw [hTe] at hr
   rw [if_neg (fun h => g0 (kR.mp h).1)]
   have hrun := zo.runs (S := S) hr (.inr rfl) (by rw [g2]; rfl) (by rw [g3]; rfl) (all1 cl) (by rw [g2, g3]; rfl)
   rw [g2, g3] at hrun
   exact hrun
 ·
  have d3 : (3 : Int) < (l.length : Int) := by omega
  conv at hr =>
   rhs
   rw [hTe]
   simp only [zo.code, zo.rs, zSs, reduceIte, Nat.reduceEqDiff, Int.reduceEq, Int.reduceLT, Int.reduceLE, if_neg k2, ZF hk, d3]
  rw [hTe] at hr
  rw [if_neg (fun h => h3 (kR.mp h).2)]
  exact zo.runs hr (.inr rfl) rfl rfl (all1 cl) rfl
end Go.Proofs.Ytbgcphbbchndkaa
namespace Go.Abs
variable {P : Program} {t : TypeId} {xs ys : Array Value} {d : Nat}
theorem Yu (P : Program) : qx P program = some P := rfl
def FEq (P : Program) (d : Nat) (xs ys : Array Value) : List Field → List Bool → Prop
 | [], [] => True
 | f :: fs, b :: bs => (f.name ≠ "_" ∧ ∃ v w, qx P (part f.type xs f.offset) = some v ∧ qx P (part f.type ys f.offset) = some w ∧ qx P (Op.equalIn d f.type v w) = some b) ∧ FEq P d xs ys fs bs
 | _, _ => False
theorem adL {fs : List Field} (hu : P.underlying t = some (.struct fs.toArray)) (hs : P.stoodInHeld t = false) {bs : List Bool} (h : FEq P d xs ys fs bs) : qx P (Op.equalIn (d + 1) t (.agg xs) (.agg ys)) = some (bs.all id) := by
 rw [Op.equalIn]
 simp only [qo, xW hu, Option.bind_some, Yu, hs, Bool.false_eq_true, if_false, List.forIn_toArray]
 clear hu hs
 induction fs generalizing bs with
 | nil =>
  cases bs with
  | nil => rfl
  | cons b bs => exact absurd h id
 | cons f fs ih =>
  cases bs with
  | nil => exact absurd h id
  | cons b bs =>
   obtain ⟨⟨h1, v, w, h2, h3, h4⟩, h5⟩ := h
   rw [List.forIn_cons]
   simp only [qo, if_pos h1, h2, h3, h4, Option.bind_some]
   cases b with
   | true =>
    simp only [Bool.not_true, Bool.false_eq_true, if_false, wV, Option.bind_some, List.all_cons, id, Bool.true_and]
    exact ih h5
   | false =>
    simp only [Bool.not_false, if_true, wV, Option.bind_some, List.all_cons, id, Bool.false_and]
theorem acj {fs : List Field} {S : zk} (hu : P.underlying t = some (.struct fs.toArray)) (hs : P.stoodInHeld t = false) (hg : P.eqGuardType P.depth t = false) {bs : List Bool} (h : FEq P 9999 xs ys fs bs)
  (gx : ground (.agg xs) = true) (gy : ground (.agg ys) = true) : wu P .eql t (.agg xs) (.agg ys) S = some (.bool (bs.all id), S) ∧ wu P .neq t (.agg xs) (.agg ys) S = some (.bool (!bs.all id), S) := by
 rw [abD, abD]
 have e : qx P (Op.equal t (.agg xs) (.agg ys)) = some (bs.all id) := adL hu hs h
 have g : qx P (eqGuard .eql t (.tmp 0) (.tmp 0) (.agg xs) (.agg ys)) = some () := by
  unfold eqGuard
  simp only [Bool.not_true, Bool.false_eq_true, if_false, qo, Yu, Option.bind_some, hg, Bool.not_false, if_true]
  rfl
 have g' : qx P (eqGuard .neq t (.tmp 0) (.tmp 0) (.agg xs) (.agg ys)) = some () := by
  unfold eqGuard
  simp only [Bool.not_true, Bool.false_eq_true, if_false, qo, Yu, Option.bind_some, hg, Bool.not_false, if_true]
  rfl
 have ha : [Value.agg xs, .agg ys].all ground = true := by simp [gx, gy]
 constructor
 ·
  unfold Je xB
  simp only [hu]
  show qc P [Value.agg xs, .agg ys] _ S = _
  refine wZ ha ?_ rfl
  simp only [qo, g, Option.bind_some]
  unfold binOp
  simp only [qo, e, Option.bind_some, wV]
 ·
  unfold Je xB
  simp only [hu]
  show qc P [Value.agg xs, .agg ys] _ S = _
  refine wZ ha ?_ rfl
  simp only [qo, g', Option.bind_some]
  unfold binOp
  simp only [qo, e, Option.bind_some, wV]
end Go.Abs
