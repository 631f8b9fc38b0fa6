/-
The law MsgMarks returns true for every input, and leaves it as it was; no condition. Part 6 of 6 of the texts (put together by a program: own names are short, what isn't needed is left out).
-/
import Derived.Test.YtbgcphbbchndkaaZMsgMarks5
import Derived.Test.YtbgcphbbchndkaaRows
import Derived.WalkKit
import Derived.ProofKit
import Derived.OpenShut
import Derived.ShutString
import Derived.ChangeOld
import Derived.Below
import Derived.SizedLaws
import Derived.Carry
set_option linter.unusedVariables false
set_option linter.unusedSimpArgs false
set_option maxRecDepth 100000
namespace Go.Proofs.Ytbgcphbbchndkaa
open Go.Abs
def txB (t : TxV) : List UInt8 := encs [t.id, t.fee]
def aiG (t : TxV) : Value := if yC t then .tuple #[by_ 2 (txB t), .int .i64 0] else .tuple #[.slice none 0 0, .int .i64 61]
theorem VX {t : TxV} (h : yC t = true) : (txB t).length ≤ 20 := by
 obtain ⟨h1, h2, h3, h4⟩ := qK.mp h
 have := vY (l := [t.id, t.fee]) (by intro n hn; simp at hn; rcases hn with rfl | rfl <;> omega)
 exact this
theorem agK (x y : Int) : sv 2 1 2 [.int .i64 x, .int .i64 y] = iz 2 [x, y] := rfl
theorem jZ.v (t : TxV) (S : zh) : zM Try.prog O jZ.id [tv t] S = some (aiG t, S) := by
 obtain ⟨T, hTe⟩ : ∃ T, T = (tv t :: undef :: undef :: undef :: undef :: undef :: undef :: undef :: undef :: undef :: undef :: undef :: undef :: undef :: undef :: undef :: undef :: undef :: undef :: []) := ⟨_, rfl⟩
 have hr : zu Try.prog O false jZ.code T zh.empty = zu Try.prog O false jZ.code T zh.empty := rfl
 have l0 := qc (t := 3) (o := 0 + 0) (JY t) ZV rfl
 have l1 := qc (t := 3) (o := 0 + 1) (JY t) ZV rfl
 have lt := Xq (JY t)
 unfold aiG
 by_cases h : yC t = true
 ·
  have hh := qK.mp h
  have c1 := fun S => zJ.v (l := [t.id, t.fee]) Okl.read (by decide) (by simp; omega) S
  conv at hr =>
   rhs
   rw [hTe]
   simp only [jZ.code, jZ.rs, zSs, reduceIte, Nat.reduceEqDiff, Int.reduceEq, Int.reduceLT, Int.reduceLE, box1, lt, xq, wM.v, h, vX, Yi, l0, l1, abE, agK, c1, WR (l := [t.id, t.fee]) (by simp) (by simp; omega) (by simp)]
  rw [hTe] at hr
  rw [if_pos h]
  exact jZ.runs hr (.inr rfl) (by simp only [List.getD_cons_succ, List.getD_cons_zero, jM, jI, jk, jB, jJ]) rfl rfl (wX (all2 (qg (k := 2) (Nat.le_refl 2)) rfl))
 ·
  rw [Bool.not_eq_true] at h
  conv at hr =>
   rhs
   rw [hTe]
   simp only [jZ.code, jZ.rs, zSs, reduceIte, Nat.reduceEqDiff, Int.reduceEq, Int.reduceLT, Int.reduceLE, box1, lt, xq, wM.v, h]
  rw [hTe] at hr
  rw [if_neg (by rw [h]; decide)]
  exact jZ.runs hr (.inr rfl) rfl rfl rfl rfl
theorem JD (S : zh) : wF Try.prog 25 S = some (.pointer (some ⟨S.next, 0, none⟩), S.push (.cells (fT ⟨0, 0⟩) (.own []) 0)) := by kernel_rfl
theorem Xf (S : zh) (t : TxV) : ∃ S2, jP Try.prog 25 (.pointer (some ⟨S.next, 0, none⟩)) (tv t) (S.push (.cells (fT ⟨0, 0⟩) (.own []) 0)) = some (undef, S2) ∧ S2.get S.next = some (.cells (fT t) (.own []) 0) ∧ Ext S S2 ∧ S.next < S2.next :=
 Yl S (by rw [y7, List.toList_toArray]; rfl) xZ rfl rfl
theorem aa2 {S S0 : zh} {q : Nat} {u : TxV} (t : TxV) (hg : S.get q = some (.cells (fT u) (.own []) 0)) (hE : Ext S0 S) (hq : S0.next ≤ q) : ∃ S2, jP Try.prog 25 (.pointer (some ⟨q, 0, none⟩)) (tv t) S = some (undef, S2) ∧ S2.get q = some (.cells (fT t) (.own []) 0) ∧ Ext S0 S2 ∧ S2.next = S.next ∧ ∀ k, k ≠ q → S2.get k = S.get k :=
 X3 hg xZ rfl rfl (by simp [fT]) hE hq
theorem aiA {R : Type} {a b : Int} (r : Option R) (p : Je r) : okK (.agg [Value.int .i64 a, .int .i64 b].toArray) r p = r := Wy rfl r p
theorem Yz {S : zh} {q : Nat} {t : TxV} (h : S.get q = some (.cells (fT t) (.own []) 0)) : zS Try.prog false 25 (.pointer (some ⟨q, 0, none⟩)) S = some (tv t, S) := Xq h
theorem agf {S : zh} {q : Nat} {t : TxV} (h : S.get q = some (.cells (fT t) (.own []) 0)) : zS Try.prog false 3 (.pointer (some ⟨q, 0 + 0, none⟩)) S = some (.int .i64 t.id, S) := qc (t := 3) (o := 0 + 0) h ZV rfl
theorem ajm (k : Nat) (hk : k ≤ 2) (a b : Int) (h : k ≠ 0) (S : zh) : zW Try.prog 57 (iz k [a, b]) (.int .i64 0) S = some (EP [.int .i64 a], S) := ab6 ⟨hk, fun h0 => absurd h0 h⟩ (by decide) (by simp)
theorem ajl (k : Nat) (hk : k ≤ 2) (a b : Int) (h : k ≠ 0) (S : zh) : zW Try.prog 57 (iz k [a, b]) (.int .i64 1) S = some (EP [.int .i64 b], S) := ab6 ⟨hk, fun h0 => absurd h0 h⟩ (by decide) (by simp)
def aeI (l : List UInt8) : Value := match wL 2 l with
 | some ([a, b], r) => .tuple #[tv ⟨a, b⟩, by_ 2 r, .bool (yC ⟨a, b⟩)]
 | _ => .tuple #[tv ⟨0, 0⟩, .slice none 0 0, .bool false]
theorem QB (l : List UInt8) : wL 2 l = none ∨ ∃ a b r, wL 2 l = some ([a, b], r) ∧ r.length ≤ l.length := by
 cases h : wL 2 l with
 | none => exact .inl rfl
 | some ar =>
  obtain ⟨a, r⟩ := ar
  obtain ⟨h1, h2⟩ := ZK h
  match a, h1 with
  | [x, y], _ => exact .inr ⟨x, y, r, rfl, h2⟩
theorem jE.v {k : Nat} {l : List UInt8} (hk : Okl k l) (k2 : k ≠ 2) (hl : l.length ≤ 140737488355328) (S : zh) : zM Try.prog O jE.id [by_ k l] S = some (aeI l, S) := by
 obtain ⟨T, hTe⟩ : ∃ T, T = (by_ k l :: undef :: undef :: undef :: undef :: undef :: undef :: undef :: undef :: undef :: undef :: undef :: undef :: undef :: undef :: undef :: undef :: undef :: undef :: undef :: undef :: undef :: undef :: undef :: undef :: undef :: undef :: undef :: undef :: []) := ⟨_, rfl⟩
 have hr : zu Try.prog O false jE.code T zh.empty = zu Try.prog O false jE.code T zh.empty := rfl
 have c1 := fun S => zn.v (many := 2) hk k2 hl S
 have a1 := JD zh.empty
 have g1 : (zh.empty.push (.cells (fT ⟨0, 0⟩) (.own []) 0)).get 0 = some (.cells (fT ⟨0, 0⟩) (.own []) 0) := by kernel_rfl
 have n1 : (zh.empty.push (.cells (fT ⟨0, 0⟩) (.own []) 0)).next = 1 := by kernel_rfl
 rw [show zh.empty.next = 0 from rfl] at a1
 have r1 : Zv 0 (if k = 0 then 0 else 2) 2 l = _ := Zc (m := 2) (by decide) (by decide)
 rw [r1] at c1
 unfold aeI
 generalize hS1 : zh.empty.push (.cells (fT ⟨0, 0⟩) (.own []) 0) = S1 at a1 g1 n1
 rcases QB l with h | ⟨a, b, r, h, hlr⟩
 ·
  rw [h] at c1 ⊢
  obtain ⟨S2, p1, p2, p3, p4⟩ := aa2 ⟨0, 0⟩ g1 (Ext.refl zh.empty |>.trans (hS1 ▸ Ext.push _ _)) (Nat.zero_le _)
  conv at hr =>
   rhs
   rw [hTe]
   simp only [jE.code, jE.rs, zSs, reduceIte, Nat.reduceEqDiff, Int.reduceEq, Int.reduceLT, Int.reduceLE, if_neg k2, a1, c1, JQ, p1]
  rw [hTe] at hr
  exact jE.runs hr (.inr rfl) (Yz p2) rfl rfl rfl (all1 (qg (k := k) hk.le)) rfl
 ·
  rw [h] at c1 ⊢
  have e0 := ajm 1 (by decide) a b (by decide)
  have e1 := ajl 1 (by decide) a b (by decide)
  have c2 : ∀ S, zM Try.prog O 38 [.agg [Value.int .i64 a, .int .i64 b].toArray] S = some (.bool (yC ⟨a, b⟩), S) := fun S => wM.v ⟨a, b⟩ S
  obtain ⟨S2, p1, p2, p3, p4⟩ := Xf S1 ⟨a, b⟩
  have g2 : S2.get 0 = some (.cells (fT ⟨0, 0⟩) (.own []) 0) := by rw [p3.get 0 (by omega), g1]
  obtain ⟨S3, q1, q2, q3, q4, q5⟩ := aa2 ⟨a, b⟩ g2 (Ext.trans (hS1 ▸ Ext.push _ _ : Ext zh.empty S1) p3) (Nat.zero_le _)
  conv at hr =>
   rhs
   rw [hTe]
   simp only [jE.code, jE.rs, zSs, reduceIte, Nat.reduceEqDiff, Int.reduceEq, Int.reduceLT, Int.reduceLE, if_neg k2, a1, c1, e0, e1, qZ, KR (qo) (qo), JD, p1, Yz p2, q1, c2, wP p2, aiA]
  rw [hTe] at hr
  exact jE.runs hr (.inr rfl) (Yz q2) rfl (by simp only [List.getD_cons_succ, List.getD_cons_zero, jM, jI, jk, jB, jJ]) rfl (all1 (qg (k := k) hk.le)) (wX (ajh rfl (qg (k := 2) (Nat.le_refl 2)) rfl))
noncomputable def adN (l : List UInt8) : Option TxV := rd (fun t => yC t = true) txB l
theorem acj {a b : TxV} {r s : List UInt8} (ha : yC a = true) (hb : yC b = true) (h : txB a ++ r = txB b ++ s) : a = b ∧ r = s := by
 obtain ⟨a1, a2, a3, a4⟩ := qK.mp ha
 obtain ⟨b1, b2, b3, b4⟩ := qK.mp hb
 obtain ⟨h1, h2⟩ := ZR (a := [a.id, a.fee]) (c := [b.id, b.fee]) rfl (by simp [Few]; omega) (by simp [Few]; omega) h
 refine ⟨?_, h2⟩
 cases a; cases b
 simp at h1
 rw [h1.1, h1.2]
theorem JM (l : List UInt8) (t : TxV) : adN l = some t ↔ yC t = true ∧ l = txB t :=
 ad4 (fun x y hx hy h => (acj (r := []) (s := []) hx hy (by simpa using h)).1) l t
theorem Xu {l : List UInt8} (h : ∀ t, ¬ (yC t = true ∧ l = txB t)) : adN l = none := by
 cases hr : adN l with
 | none => rfl
 | some t => exact absurd ((JM l t).mp hr) (h t)
noncomputable def aeO (l : List UInt8) : Value := match adN l with
 | some t => .tuple #[tv t, .int .i64 0]
 | none => .tuple #[tv ⟨0, 0⟩, .int .i64 61]
theorem ag4 {l r : List UInt8} {a b : Int} (h : wL 2 l = some ([a, b], r)) : adN l = if yC ⟨a, b⟩ = true ∧ r = [] then some ⟨a, b⟩ else none := by
 obtain ⟨_, h2, h3⟩ := (wH _ _ _ _).mp h
 split
 ·
  rename_i hc
  exact (JM _ _).mpr ⟨hc.1, by rw [h2, hc.2, List.append_nil]; rfl⟩
 ·
  rename_i hc
  refine Xu fun t ht => hc ?_
  obtain ⟨b1, b2, b3, b4⟩ := qK.mp ht.1
  have h4 : encs [t.id, t.fee] ++ [] = encs [a, b] ++ r := by rw [List.append_nil, ← h2]; exact ht.2.symm
  obtain ⟨h5, h6⟩ := ZR (a := [t.id, t.fee]) (c := [a, b]) rfl (by simp [Few]; omega) h3 h4
  simp at h5
  rw [← h5.1, ← h5.2]
  exact ⟨ht.1, h6.symm⟩
theorem X5 {l : List UInt8} (h : wL 2 l = none) : adN l = none := by
 refine Xu fun t ht => ?_
 obtain ⟨b1, b2, b3, b4⟩ := qK.mp ht.1
 have := (wH 2 l [t.id, t.fee] []).mpr ⟨rfl, by rw [List.append_nil]; exact ht.2, by simp [Few]; omega⟩
 rw [h] at this
 cases this
theorem wB.v {k : Nat} {l : List UInt8} (hk : Okl k l) (k2 : k ≠ 2) (hl : l.length ≤ 140737488355328) (S : zh) : zM Try.prog O wB.id [by_ k l] S = some (aeO l, S) := by
 obtain ⟨T, hTe⟩ : ∃ T, T = (by_ k l :: undef :: undef :: undef :: undef :: undef :: undef :: undef :: undef :: undef :: undef :: undef :: undef :: undef :: undef :: undef :: undef :: undef :: undef :: undef :: undef :: undef :: []) := ⟨_, rfl⟩
 have hr : zu Try.prog O false wB.code T zh.empty = zu Try.prog O false wB.code T zh.empty := rfl
 have c1 := fun S => jE.v hk k2 hl S
 have a1 := JD zh.empty
 have g1 : (zh.empty.push (.cells (fT ⟨0, 0⟩) (.own []) 0)).get 0 = some (.cells (fT ⟨0, 0⟩) (.own []) 0) := by kernel_rfl
 have n1 : (zh.empty.push (.cells (fT ⟨0, 0⟩) (.own []) 0)).next = 1 := by kernel_rfl
 rw [show zh.empty.next = 0 from rfl] at a1
 have hE1 : Ext zh.empty (zh.empty.push (.cells (fT ⟨0, 0⟩) (.own []) 0)) := Ext.push _ _
 generalize zh.empty.push (.cells (fT ⟨0, 0⟩) (.own []) 0) = S1 at a1 g1 n1 hE1
 unfold aeI at c1
 unfold aeO
 rcases QB l with h | ⟨a, b, r, h, hlr⟩
 ·
  rw [h] at c1
  rw [X5 h]
  obtain ⟨S2, p1, p2, p3, p4⟩ := Xf S1 ⟨0, 0⟩
  have g2 : S2.get 0 = some (.cells (fT ⟨0, 0⟩) (.own []) 0) := by rw [p3.get 0 (by omega), g1]
  obtain ⟨S3, q1, q2, q3, q4, q5⟩ := aa2 ⟨0, 0⟩ g2 (Ext.trans hE1 p3) (Nat.zero_le _)
  conv at hr =>
   rhs
   rw [hTe]
   simp only [wB.code, wB.rs, zSs, reduceIte, Nat.reduceEqDiff, Int.reduceEq, Int.reduceLT, Int.reduceLE, if_neg k2, a1, c1, JD, p1, JQ, q1]
  rw [hTe] at hr
  exact wB.runs hr (.inr rfl) (Yz q2) rfl rfl (all1 (qg (k := k) hk.le)) rfl
 ·
  rw [h] at c1
  rw [ag4 h]
  by_cases hok : yC ⟨a, b⟩ = true
  ·
   obtain ⟨S2, p1, p2, p3, p4⟩ := Xf S1 ⟨a, b⟩
   have g2 : S2.get 0 = some (.cells (fT ⟨0, 0⟩) (.own []) 0) := by rw [p3.get 0 (by omega), g1]
   by_cases h0 : r = []
   ·
    subst h0
    obtain ⟨S3, q1, q2, q3, q4, q5⟩ := aa2 ⟨a, b⟩ g2 (Ext.trans hE1 p3) (Nat.zero_le _)
    conv at hr =>
     rhs
     rw [hTe]
     simp only [wB.code, wB.rs, zSs, reduceIte, Nat.reduceEqDiff, Int.reduceEq, Int.reduceLT, Int.reduceLE, if_neg k2, a1, c1, JD, p1, hok, ZW Okl.read, goInt, List.length_nil, Int.ofNat_zero, Int.natCast_zero, Int.lt_irrefl, Yz p2, q1]
    rw [if_pos ⟨hok, rfl⟩]
    rw [hTe] at hr
    exact wB.runs hr (.inr rfl) (Yz q2) rfl rfl (all1 (qg (k := k) hk.le)) rfl
   ·
    have hp : (0 : Int) < (r.length : Int) := by have := List.length_pos_iff.mpr h0; omega
    obtain ⟨S3, q1, q2, q3, q4, q5⟩ := aa2 ⟨0, 0⟩ g2 (Ext.trans hE1 p3) (Nat.zero_le _)
    conv at hr =>
     rhs
     rw [hTe]
     simp only [wB.code, wB.rs, zSs, reduceIte, Nat.reduceEqDiff, Int.reduceEq, Int.reduceLT, Int.reduceLE, if_neg k2, a1, c1, JD, p1, hok, ZW Okl.read, goInt, decide_eq_true hp, JQ, q1]
    rw [if_neg (fun h => h0 h.2)]
    rw [hTe] at hr
    exact wB.runs hr (.inr rfl) (Yz q2) rfl rfl (all1 (qg (k := k) hk.le)) rfl
  ·
   rw [if_neg (fun h => hok h.1)]
   rw [Bool.not_eq_true] at hok
   obtain ⟨S2, p1, p2, p3, p4⟩ := Xf S1 ⟨a, b⟩
   have g2 : S2.get 0 = some (.cells (fT ⟨0, 0⟩) (.own []) 0) := by rw [p3.get 0 (by omega), g1]
   obtain ⟨S3, q1, q2, q3, q4, q5⟩ := aa2 ⟨0, 0⟩ g2 (Ext.trans hE1 p3) (Nat.zero_le _)
   conv at hr =>
    rhs
    rw [hTe]
    simp only [wB.code, wB.rs, zSs, reduceIte, Nat.reduceEqDiff, Int.reduceEq, Int.reduceLT, Int.reduceLE, if_neg k2, a1, c1, JD, p1, hok, JQ, q1]
   rw [hTe] at hr
   exact wB.runs hr (.inr rfl) (Yz q2) rfl rfl (all1 (qg (k := k) hk.le)) rfl
end Go.Proofs.Ytbgcphbbchndkaa
namespace Go.Abs
variable {K : Type}
def MapAt (enc : K → Value) (S : zh) (q : Nat) (m : List (K × Value)) : Prop :=
 ∃ es c, S.get q = some (.map es c) ∧ es.map (fun e => (e.key, e.val)) = m.map fun p => (enc p.1, p.2)
theorem ag1 {P : Program} {t : TypeId} (enc : K → Value) (S : zh) : ∃ S2, xk P t none S = some (.map (some S.next), S2) ∧ MapAt enc S2 S.next [] ∧ S2.next = S.next + 1 ∧ (∀ j, j < S.next → S2.get j = S.get j) ∧ Ext S S2 :=
 ⟨_, rfl, ⟨[], 0, by rw [zh.wu, if_pos rfl], rfl⟩, by simp, fun j hj => by rw [zh.wu, if_neg (by omega)], Ext.push _ _⟩
theorem MapAt.keep {enc : K → Value} {S : zh} {q : Nat} {m : List (K × Value)} {S2 : zh} (h : MapAt enc S q m) (hg : S2.get q = S.get q) : MapAt enc S2 q m := by
 obtain ⟨es, c, h1, h2⟩ := h
 exact ⟨es, c, hg.trans h1, h2⟩
variable [DecidableEq K]
def abn : List (K × Value) → K → Option Value
 | [], _ => none
 | (a, v) :: m, k => if a = k then some v else abn m k
def midx : List (K × Value) → K → Nat
 | [], _ => 0
 | (a, _) :: m, k => if a = k then 0 else midx m k + 1
def ahS : List (K × Value) → K → Value → List (K × Value)
 | [], k, x => [(k, x)]
 | (a, v) :: m, k, x => if a = k then (k, x) :: m else (a, v) :: ahS m k x
theorem aaP {m : List (K × Value)} {k : K} {x : Value} (h : abn m k = none) : ahS m k x = m ++ [(k, x)] := by
 induction m with
 | nil => rfl
 | cons p m ih =>
  obtain ⟨a, v⟩ := p
  unfold abn at h
  split at h
  ·
   cases h
  ·
   rename_i hn
   simp only [ahS, if_neg hn, ih h, List.cons_append]
structure ae7 (enc : K → Value) (kd : TypeDesc) : Prop where
 kind : ∀ k, Jl kd (enc k) = true
 same : ∀ a b, Instr.sameNow kd (enc a) (enc b) = some (decide (a = b))
theorem adX : ae7 (fun n : Int => Value.int .i64 n) (.int .i64) := ⟨fun _ => rfl, fun a b => by
 show (if IntKind.i64 = IntKind.i64 then some (a == b) else none) = _
 rw [if_pos rfl]; by_cases h : a = b <;> simp [h]⟩
theorem Yh {enc : K → Value} {kd : TypeDesc} (hK : ae7 enc kd) (k : K) : ∀ (es : List MapEntry) (m : List (K × Value)) (i : Nat), es.map (fun e => (e.key, e.val)) = m.map (fun p => (enc p.1, p.2)) →
  Instr.findNow kd (enc k) es i = some ((abn m k).map fun v => (i + midx m k, v)) := by
 intro es
 induction es with
 | nil =>
  intro m i h
  cases m with
  | nil => rfl
  | cons p m => simp at h
 | cons e es ih =>
  intro m i h
  cases m with
  | nil => simp at h
  | cons p m =>
   obtain ⟨a, v⟩ := p
   simp only [List.map_cons, List.cons.injEq, Prod.mk.injEq] at h
   obtain ⟨⟨h1, h2⟩, h3⟩ := h
   simp only [Instr.findNow, h1, hK.same, abn, midx]
   by_cases hk : k = a
   ·
    simp [hk, h2]
   ·
    rw [decide_eq_false hk, if_neg (fun h => hk h.symm), if_neg (fun h => hk h.symm)]
    simp only []
    rw [ih m (i + 1) h3]
    congr 2
    funext x
    congr 1
    omega
theorem adi {enc : K → Value} {k : K} {x : Value} : ∀ (es : List MapEntry) (m : List (K × Value)), es.map (fun e => (e.key, e.val)) = m.map (fun p => (enc p.1, p.2)) → abn m k ≠ none →
  (es.modify (midx m k) fun e => { e with key := enc k, val := x }).map (fun e => (e.key, e.val)) = (ahS m k x).map fun p => (enc p.1, p.2) := by
 intro es
 induction es with
 | nil =>
  intro m h hn
  cases m with
  | nil => exact absurd rfl hn
  | cons p m => simp at h
 | cons e es ih =>
  intro m h hn
  cases m with
  | nil => simp at h
  | cons p m =>
   obtain ⟨a, v⟩ := p
   simp only [List.map_cons, List.cons.injEq, Prod.mk.injEq] at h
   obtain ⟨⟨h1, h2⟩, h3⟩ := h
   simp only [midx, ahS]
   by_cases hk : a = k
   ·
    simp [hk, h3]
   ·
    rw [if_neg hk, if_neg hk, List.modify_succ_cons]
    have hn' : abn m k ≠ none := by unfold abn at hn; rwa [if_neg hk] at hn
    simp only [List.map_cons, ih m h3 hn', h1, h2]
variable {P : Program} {t kt et : TypeId} {kd : TypeDesc} {z : Value} {enc : K → Value} {S S0 : zh} {q : Nat} {m : List (K × Value)}
theorem ag8 (hK : ae7 enc kd) (hm : MapAt enc S q m) (ht : P.underlying t = some (.map kt et)) (hk : P.underlying kt = some kd) (hz : zeroOf P et = some z) (hg : ground z = true) (k : K) :
  vF P false t (.map (some q)) (enc k) false S = some ((abn m k).getD z, S) := by
 obtain ⟨es, c, h1, h2⟩ := hm
 unfold vF yc
 simp only [Bool.false_eq_true, if_false, ht, hk, hK.kind, if_true, h1, Yh hK k es m 0 h2]
 cases abn m k with
 | none => simp [hz, hg]
 | some v => simp
theorem aht (hK : ae7 enc kd) (hm : MapAt enc S q m) (ht : P.underlying t = some (.map kt et)) (hk : P.underlying kt = some kd) (k : K) (x : Value) :
  ∃ S2, wZ P t (.map (some q)) (enc k) x S = some (undef, S2) ∧ MapAt enc S2 q (ahS m k x) ∧ S2.next = S.next ∧ (∀ j, j ≠ q → S2.get j = S.get j) ∧ (∀ S0, Ext S0 S → S0.next ≤ q → Ext S0 S2) := by
 obtain ⟨es, c, h1, h2⟩ := hm
 unfold wZ
 simp only [ht, hk, hK.kind, if_true, h1, Yh hK k es m 0 h2]
 cases hg : abn m k with
 | none =>
  refine ⟨_, rfl, ⟨es ++ [{ key := enc k, val := x, born := c }], c + 1, by rw [zh.wJ, if_pos rfl], ?_⟩, by simp, fun j hj => by rw [zh.wJ, if_neg hj], fun S0 hE hq => hE.set hq _⟩
  rw [aaP hg]
  simp [h2]
 | some v =>
  refine ⟨_, rfl, ⟨_, c, by simp only [Option.map_some, Nat.zero_add, zh.wJ, if_true], adi es m h2 (by rw [hg]; simp)⟩, by simp, fun j hj => by rw [zh.wJ, if_neg hj], fun S0 hE hq => hE.set hq _⟩
end Go.Abs
namespace Go.Proofs.Ytbgcphbbchndkaa
open Go.Abs
abbrev tl (k : Nat) (l : List TxV) : Value := vs fT 2 k l
theorem adK (t : TxV) : (fT t).length = 2 := rfl
theorem ah2 (t : TxV) : (fT t).all (·.oneCell') = true := rfl
theorem Yn {k : Nat} {l : List TxV} {S : zh} (h : Okl k l) : ZT Try.prog 26 (tl k l) S = some (.int .i64 l.length, S) := ac6 ZM h
theorem aaL {k : Nat} {l pre suf : List TxV} {t : TxV} {S : zh} (h : Okl k l) (hl : l = pre ++ t :: suf) : zW Try.prog 26 (tl k l) (.int .i64 pre.length) S = some (EP [.int .i64 t.id, .int .i64 t.fee], S) := by
 have h1 : (pre.length : Int) < (l.length : Int) := by rw [hl]; simp; omega
 rw [agN ZM xZ adK h (by omega) h1, aau hl]; rfl
theorem ahB {k : Nat} {l : List TxV} {t : TxV} {S : zh} (h : Okl k l) (hk : k ≠ 1) (hl : l.length ≤ 8796093022000) : wz Try.prog 26 26 (tl k l) (tl 2 [t]) S = some (tl 2 (l ++ [t]), S) := by
 rw [YK ZM xZ afG rfl afB (by omega) ZM adK ah2 h hk Okl.own (by simp; omega) (by simp; omega), if_neg (fun h => by have := h.2; simp at this)]
theorem aag {α : Type} (g : α → Int) (v : Value) (l : List α) (k : Int) : abn (l.map fun t => (g t, v)) k = if k ∈ l.map g then some v else none := by
 induction l with
 | nil => rfl
 | cons t l ih =>
  simp only [List.map_cons, abn, ih, List.mem_cons]
  by_cases h : g t = k
  ·
   simp [h]
  ·
   have h' : ¬ k = g t := fun e => h e.symm
   simp [h, h']
abbrev kI : Int → Value := fun n => .int .i64 n
def unl (l : List TxV) : Bool := decide ((l.map TxV.id).Nodup) && decide (l.length ≤ 3)
theorem zN.round {k : Nat} {l : List TxV} (hk : Okl k l) (hl : l.length ≤ 8796093022208) {q : Nat} : ∀ (suf pre : List TxV) {T : List Value} {S : zh} {r : St}, qm (zu Try.prog O false zN.jr) T S = r → T.length = 24 →
  T.getD 0 undef = tl k l → T.getD 3 undef = .map (some q) → T.getD 7 undef = tl k l → T.getD 8 undef = .int .i64 l.length → T.getD 9 undef = .int .i64 pre.length → l = pre ++ suf →
  MapAt kI S q (pre.map fun t => (t.id, .bool true)) → q < S.next → (pre.map TxV.id).Nodup →
  ∃ e T' S', r = some (e, T', S') ∧ if (l.map TxV.id).Nodup then e = .exit 0 ∧ T'.length = 24 ∧ T'.getD 0 undef = tl k l else e = .ret ∧ T'.getD 2 undef = .bool false := by
 intro suf
 induction suf with
 | nil =>
  intro pre T S r hL hT h0 h3 h7 h8 h9 hpre hm hq hn
  have hTe := zN.eta hT
  rw [h0, h3, h7, h8, h9] at hTe
  have hr : zu Try.prog O false zN.jr T S = zu Try.prog O false zN.jr T S := rfl
  have d1 : ¬ (pre.length : Int) < (l.length : Int) := by rw [hpre]; simp
  conv at hr =>
   rhs
   rw [hTe]
   simp only [zN.jr, zN.code, zN.rs, zSs, reduceIte, Nat.reduceEqDiff, Int.reduceEq, Int.reduceLT, Int.reduceLE, d1]
  refine ⟨_, _, _, hL.symm.trans (jO hr (by simp)), ?_⟩
  rw [if_pos (by rw [hpre, List.append_nil]; exact hn)]
  exact ⟨rfl, rfl, rfl⟩
 | cons t suf ih =>
  intro pre T S r hL hT h0 h3 h7 h8 h9 hpre hm hq hn
  have hTe := zN.eta hT
  rw [h0, h3, h7, h8, h9] at hTe
  have hr : zu Try.prog O false zN.jr T S = zu Try.prog O false zN.jr T S := rfl
  have d1 : (pre.length : Int) < (l.length : Int) := by rw [hpre]; simp; omega
  have e1 := fun S => aaL (S := S) hk hpre
  have wi : IntKind.i64.wrap ((pre.length : Int) + 1) = ((pre ++ [t]).length : Int) := by rw [wrap_i64 (by omega) (by omega)]; simp
  obtain ⟨S2, p1, p2, p3, p4⟩ := Xf S t
  have hm2 : MapAt kI S2 q (pre.map fun t => (t.id, .bool true)) := hm.keep (p3.get q hq)
  have m1 : vF Try.prog false 100 (.map (some q)) (.int .i64 t.id) false S2 = _ := ag8 adX hm2 WB afh ahX rfl t.id
  rw [aag] at m1
  by_cases ht : t.id ∈ pre.map TxV.id
  ·
   rw [if_pos ht] at m1
   conv at hr =>
    rhs
    rw [hTe]
    simp only [zN.jr, zN.code, zN.rs, zSs, reduceIte, Nat.reduceEqDiff, Int.reduceEq, Int.reduceLT, Int.reduceLE, d1, e1, vP, JD, p1, vX, agf p2, m1, Option.getD_some]
   refine ⟨_, _, _, hL.symm.trans (jO hr (by simp)), ?_⟩
   rw [if_neg (by rw [hpre]; simp only [List.map_append, List.map_cons, List.nodup_append]; intro h; exact h.2.2 _ ht _ (by simp) rfl)]
   exact ⟨rfl, rfl⟩
  ·
   rw [if_neg ht] at m1
   obtain ⟨S3, u1, u2, u3, u4, u5⟩ := aht adX hm2 WB afh t.id (.bool true)
   have u1' : wZ Try.prog 100 (.map (some q)) (.int .i64 t.id) (.bool true) S2 = some (undef, S3) := u1
   rw [aaP (by rw [aag, if_neg ht])] at u2
   conv at hr =>
    rhs
    rw [hTe]
    simp only [zN.jr, zN.code, zN.rs, zSs, reduceIte, Nat.reduceEqDiff, Int.reduceEq, Int.reduceLT, Int.reduceLE, d1, e1, vP, JD, p1, vX, agf p2, m1, Option.getD_none, u1', wi]
   refine ih (pre ++ [t]) ((yx hr).symm.trans hL) rfl rfl rfl rfl rfl rfl (by simp [hpre]) (by simpa using u2) (by omega) ?_
   simp only [List.map_append, List.map_cons, List.map_nil, List.nodup_append]
   exact ⟨hn, by simp, fun a ha b hb => by simp at hb; subst hb; exact fun h => ht (h ▸ ha)⟩
theorem zN.v {k : Nat} {l : List TxV} (hk : Okl k l) (k2 : k ≠ 2) (hl : l.length ≤ 8796093022208) (S : zh) : zM Try.prog O zN.id [tl k l] S = some (.bool (unl l), S) := by
 obtain ⟨T, hTe⟩ : ∃ T, T = (tl k l :: undef :: undef :: undef :: undef :: undef :: undef :: undef :: undef :: undef :: undef :: undef :: undef :: undef :: undef :: undef :: undef :: undef :: undef :: undef :: undef :: undef :: undef :: undef :: []) := ⟨_, rfl⟩
 have hr : zu Try.prog O false zN.code T zh.empty = zu Try.prog O false zN.code T zh.empty := rfl
 obtain ⟨S1, m1, m2, m3, m4, m5⟩ := ag1 (P := Try.prog) (t := 100) kI zh.empty
 conv at hr =>
  rhs
  rw [hTe]
  simp only [zN.code, zN.rs, zSs, reduceIte, Nat.reduceEqDiff, Int.reduceEq, Int.reduceLT, Int.reduceLE, m1, if_neg k2, Yn hk]
 generalize hL : qm (zu Try.prog O false zN.jr) _ _ = r at hr
 obtain ⟨e, T', S', rfl, g⟩ := zN.round hk hl l [] hL rfl rfl rfl rfl rfl rfl rfl m2 (by omega) List.nodup_nil
 unfold unl
 by_cases h : (l.map TxV.id).Nodup
 ·
  rw [if_pos h] at g
  obtain ⟨rfl, g2, g3⟩ := g
  have hTe' := zN.eta g2
  rw [g3] at hTe'
  have d3 : decide ((l.length : Int) ≤ 3) = decide (l.length ≤ 3) := decide_eq_decide.mpr (by omega)
  conv at hr =>
   rhs
   rw [hTe']
   simp only [zN.code, zN.rs, zSs, reduceIte, Nat.reduceEqDiff, Int.reduceEq, Int.reduceLT, Int.reduceLE, if_neg k2, Yn hk, d3]
  rw [hTe] at hr
  rw [decide_eq_true h, Bool.true_and]
  exact zN.runs hr (.inr rfl) (all1 (Za hk.le fun _ _ => rfl)) rfl
 ·
  rw [if_neg h] at g
  obtain ⟨rfl, g2⟩ := g
  conv at hr =>
   rhs
   simp only [zSs, reduceIte, Nat.reduceEqDiff, Int.reduceEq, Int.reduceLT, Int.reduceLE]
  rw [hTe] at hr
  rw [decide_eq_false h, Bool.false_and]
  have hrun := zN.runs (S := S) hr (.inr rfl) (all1 (Za hk.le fun _ _ => rfl)) (by rw [g2]; rfl)
  rw [g2] at hrun
  exact hrun
def xR (l : List TxV) : Bool := unl l && l.all yC
def flat (l : List TxV) : List Int := l.flatMap fun t => [t.id, t.fee]
def aaI (l : List TxV) : List UInt8 := encs ((l.length : Int) :: flat l)
def aiP (l : List TxV) : Value := if xR l then .tuple #[by_ 2 (aaI l), .int .i64 0] else .tuple #[.slice none 0 0, .int .i64 61]
theorem Vt (a b : List TxV) : flat (a ++ b) = flat a ++ flat b := by simp [flat]
theorem KN (l : List TxV) : (flat l).length = 2 * l.length := by
 induction l with
 | nil => rfl
 | cons t l ih => rw [show flat (t :: l) = [t.id, t.fee] ++ flat l from rfl, List.length_append, ih]; simp; omega
theorem aaT {l : List TxV} (h : ∀ t ∈ l, yC t = true) : ∀ n ∈ flat l, 0 ≤ n ∧ n ≤ 1000000 := by
 intro n hn
 simp only [flat, List.mem_flatMap] at hn
 obtain ⟨t, h1, h2⟩ := hn
 obtain ⟨b1, b2, b3, b4⟩ := qK.mp (h t h1)
 simp at h2
 omega
theorem kJ (l : List TxV) : aaI l = encs [(l.length : Int)] ++ encs (flat l) := xE [(l.length : Int)] (flat l)
theorem JB {l : List TxV} (h : ∀ t ∈ l, yC t = true) : (encs (flat l)).length ≤ 20 * l.length := by
 have h1 := vY (l := flat l) (fun n hn => by have := aaT h n hn; omega)
 rw [KN] at h1
 omega
theorem zX.round {k : Nat} {l : List TxV} (hk : Okl k l) (hl : l.length ≤ 3) {A : List UInt8} (hA : A.length ≤ 100) : ∀ (suf pre : List TxV) {T : List Value} {S : zh} {r : St}, qm (zu Try.prog O false zX.jr) T S = r → T.length = 39 →
  T.getD 4 undef = by_ 2 (A ++ encs (flat pre)) → T.getD 20 undef = tl k l → T.getD 21 undef = .int .i64 l.length → T.getD 22 undef = .int .i64 pre.length → l = pre ++ suf → (∀ t ∈ pre, yC t = true) →
  ∃ e T' S', r = some (e, T', S') ∧ if l.all yC = true then e = .exit 0 ∧ T'.length = 39 ∧ T'.getD 4 undef = by_ 2 (A ++ encs (flat l)) else e = .ret ∧ T'.getD 2 undef = .slice none 0 0 ∧ T'.getD 3 undef = .int .i64 61 := by
 intro suf
 induction suf with
 | nil =>
  intro pre T S r hL hT h4 h20 h21 h22 hpre hp
  have hTe := zX.eta hT
  rw [h4, h20, h21, h22] at hTe
  have hr : zu Try.prog O false zX.jr T S = zu Try.prog O false zX.jr T S := rfl
  have d1 : ¬ (pre.length : Int) < (l.length : Int) := by rw [hpre]; simp
  conv at hr =>
   rhs
   rw [hTe]
   simp only [zX.jr, zX.code, zX.rs, zSs, reduceIte, Nat.reduceEqDiff, Int.reduceEq, Int.reduceLT, Int.reduceLE, d1]
  refine ⟨_, _, _, hL.symm.trans (jO hr (by simp)), ?_⟩
  rw [List.append_nil] at hpre
  rw [hpre, if_pos (List.all_eq_true.mpr hp)]
  exact ⟨rfl, rfl, rfl⟩
 | cons t suf ih =>
  intro pre T S r hL hT h4 h20 h21 h22 hpre hp
  have hTe := zX.eta hT
  rw [h4, h20, h21, h22] at hTe
  have hr : zu Try.prog O false zX.jr T S = zu Try.prog O false zX.jr T S := rfl
  have d1 : (pre.length : Int) < (l.length : Int) := by rw [hpre]; simp; omega
  have e1 := fun S => aaL (S := S) hk hpre
  have wi : IntKind.i64.wrap ((pre.length : Int) + 1) = ((pre ++ [t]).length : Int) := by rw [wrap_i64 (by omega) (by omega)]; simp
  obtain ⟨S2, p1, p2, p3, p4⟩ := Xf S t
  have c1 : ∀ S, zM Try.prog O 33 [.agg [Value.int .i64 t.id, .int .i64 t.fee].toArray] S = some (aiG t, S) := fun S => jZ.v t S
  unfold aiG at c1
  by_cases ht : yC t = true
  ·
   rw [if_pos ht] at c1
   have hb := VX ht
   have hf := JB hp
   have hpl : pre.length ≤ 3 := by omega
   have ap : ∀ S, wz Try.prog 23 23 (by_ 2 (A ++ encs (flat pre))) (by_ 1 (txB t)) S = some (by_ 2 (A ++ encs (flat (pre ++ [t]))), S) := fun S => by
    rw [qF Okl.own (by decide) Okl.read (by simp; omega), Vt, xE, ← List.append_assoc]; rfl
   conv at hr =>
    rhs
    rw [hTe]
    simp only [zX.jr, zX.code, zX.rs, zSs, reduceIte, Nat.reduceEqDiff, Int.reduceEq, Int.reduceLT, Int.reduceLE, d1, e1, vP, JD, p1, Yz p2, c1, ap, wi]
   exact ih (pre ++ [t]) ((yx hr).symm.trans hL) rfl rfl rfl rfl rfl (by simp [hpre]) (fun x hx => by rcases List.mem_append.1 hx with h | h; { exact hp x h }; { simp at h; rw [h]; exact ht })
  ·
   rw [if_neg ht] at c1
   conv at hr =>
    rhs
    rw [hTe]
    simp only [zX.jr, zX.code, zX.rs, zSs, reduceIte, Nat.reduceEqDiff, Int.reduceEq, Int.reduceLT, Int.reduceLE, d1, e1, vP, JD, p1, Yz p2, c1]
   refine ⟨_, _, _, hL.symm.trans (jO hr (by simp)), ?_⟩
   rw [if_neg (by rw [hpre]; simp [ht])]
   exact ⟨rfl, rfl, rfl⟩
theorem zX.v {k : Nat} {l : List TxV} (hk : Okl k l) (k2 : k ≠ 2) (hl : l.length ≤ 8796093022208) (S : zh) : zM Try.prog O zX.id [tl k l] S = some (aiP l, S) := by
 obtain ⟨T, hTe⟩ : ∃ T, T = (tl k l :: undef :: undef :: undef :: undef :: undef :: undef :: undef :: undef :: undef :: undef :: undef :: undef :: undef :: undef :: undef :: undef :: undef :: undef :: undef :: undef :: undef :: undef :: undef :: undef :: undef :: undef :: undef :: undef :: undef :: undef :: undef :: undef :: undef :: undef :: undef :: undef :: undef :: undef :: []) := ⟨_, rfl⟩
 have hr : zu Try.prog O false zX.code T zh.empty = zu Try.prog O false zX.code T zh.empty := rfl
 have c1 := fun S => zN.v hk k2 hl S
 have cl : jh 16 (tl k l) = true := Za hk.le fun _ _ => rfl
 unfold aiP xR
 by_cases hu : unl l = true
 ·
  have h3 : l.length ≤ 3 := by unfold unl at hu; simp at hu; exact hu.2
  have c2 := fun S => zJ.v (l := [(l.length : Int)]) Okl.read (by decide) (by simp; omega) S
  have hA : (encs [(l.length : Int)]).length ≤ 100 := by
   have := vY (l := [(l.length : Int)]) (by simp; omega)
   simp at this; omega
  conv at hr =>
   rhs
   rw [hTe]
   simp only [zX.code, zX.rs, zSs, reduceIte, Nat.reduceEqDiff, Int.reduceEq, Int.reduceLT, Int.reduceLE, if_neg k2, c1, hu, Yn hk, Qc, ahY, c2, WR (l := [(l.length : Int)]) (by simp) (by intro n hn; simp at hn; omega) (by simp)]
  generalize hL : qm (zu Try.prog O false zX.jr) _ _ = r at hr
  obtain ⟨e, T', S', rfl, g⟩ := zX.round hk h3 hA l [] hL rfl (by rw [show flat [] = [] from rfl, show encs [] = [] from rfl, List.append_nil]; rfl) rfl rfl rfl rfl (fun t h => by cases h)
  by_cases ha : l.all yC = true
  ·
   rw [if_pos ha] at g
   obtain ⟨rfl, g2, g3⟩ := g
   have hTe' := zX.eta g2
   rw [g3] at hTe'
   conv at hr =>
    rhs
    rw [hTe']
    simp only [zX.code, zX.rs, zSs, reduceIte, Nat.reduceEqDiff, Int.reduceEq, Int.reduceLT, Int.reduceLE]
   rw [hTe] at hr
   rw [if_pos (by rw [hu, ha]; rfl), kJ]
   exact zX.runs hr (.inr rfl) (by simp only [List.getD_cons_succ, List.getD_cons_zero, jM, jI, jk, jB, jJ]) rfl (all1 cl) (wX (all2 (qg (k := 2) (Nat.le_refl 2)) rfl))
  ·
   rw [if_neg ha] at g
   obtain ⟨rfl, g2, g3⟩ := g
   conv at hr =>
    rhs
    simp only [zSs, reduceIte, Nat.reduceEqDiff, Int.reduceEq, Int.reduceLT, Int.reduceLE]
   rw [hTe] at hr
   rw [if_neg (by rw [hu, Bool.true_and]; exact ha)]
   have hrun := zX.runs (S := S) hr (.inr rfl) (by rw [g2]; rfl) (by rw [g3]; rfl) (all1 cl) (by rw [g2, g3]; rfl)
   rw [g2, g3] at hrun
   exact hrun
 ·
  rw [Bool.not_eq_true] at hu
  conv at hr =>
   rhs
   rw [hTe]
   simp only [zX.code, zX.rs, zSs, reduceIte, Nat.reduceEqDiff, Int.reduceEq, Int.reduceLT, Int.reduceLE, if_neg k2, c1, hu]
  rw [hTe] at hr
  rw [if_neg (by rw [hu]; simp)]
  exact zX.runs hr (.inr rfl) rfl rfl (all1 cl) rfl
def good (l : List TxV) : Prop := (l.map TxV.id).Nodup ∧ ∀ t ∈ l, yC t = true
theorem vK {l : List TxV} : xR l = true ↔ good l ∧ l.length ≤ 3 := by
 unfold xR unl good
 simp [and_assoc, and_comm, and_left_comm]
end Go.Proofs.Ytbgcphbbchndkaa
namespace Go.Abs
variable {P : Program} {t : TypeId} {xs ys : Array Value} {d : Nat}
theorem Wh (P : Program) : yh P program = some P := rfl
def FEq (P : Program) (d : Nat) (xs ys : Array Value) : List Field → List Bool → Prop
 | [], [] => True
 | f :: fs, b :: bs => (f.name ≠ "_" ∧ ∃ v w, yh P (part f.type xs f.offset) = some v ∧ yh P (part f.type ys f.offset) = some w ∧ yh P (Op.equalIn d f.type v w) = some b) ∧ FEq P d xs ys fs bs
 | _, _ => False
theorem acr {fs : List Field} (hu : P.underlying t = some (.struct fs.toArray)) (hs : P.stoodInHeld t = false) {bs : List Bool} (h : FEq P d xs ys fs bs) : yh P (Op.equalIn (d + 1) t (.agg xs) (.agg ys)) = some (bs.all id) := by
 rw [Op.equalIn]
 simp only [yu, kG hu, Option.bind_some, Wh, hs, Bool.false_eq_true, if_false, List.forIn_toArray]
 clear hu hs
 induction fs generalizing bs with
 | nil =>
  cases bs with
  | nil => rfl
  | cons b bs => exact absurd h id
 | cons f fs ih =>
  cases bs with
  | nil => exact absurd h id
  | cons b bs =>
   obtain ⟨⟨h1, v, w, h2, h3, h4⟩, h5⟩ := h
   rw [List.forIn_cons]
   simp only [yu, if_pos h1, h2, h3, h4, Option.bind_some]
   cases b with
   | true =>
    simp only [Bool.not_true, Bool.false_eq_true, if_false, jK, Option.bind_some, List.all_cons, id, Bool.true_and]
    exact ih h5
   | false =>
    simp only [Bool.not_false, if_true, jK, Option.bind_some, List.all_cons, id, Bool.false_and]
theorem abC {fs : List Field} {S : zh} (hu : P.underlying t = some (.struct fs.toArray)) (hs : P.stoodInHeld t = false) (hg : P.eqGuardType P.depth t = false) {bs : List Bool} (h : FEq P 9999 xs ys fs bs)
  (gx : ground (.agg xs) = true) (gy : ground (.agg ys) = true) : jT P .eql t (.agg xs) (.agg ys) S = some (.bool (bs.all id), S) ∧ jT P .neq t (.agg xs) (.agg ys) S = some (.bool (!bs.all id), S) := by
 rw [aaS, aaS]
 have e : yh P (Op.equal t (.agg xs) (.agg ys)) = some (bs.all id) := acr hu hs h
 have g : yh P (eqGuard .eql t (.tmp 0) (.tmp 0) (.agg xs) (.agg ys)) = some () := by
  unfold eqGuard
  simp only [Bool.not_true, Bool.false_eq_true, if_false, yu, Wh, Option.bind_some, hg, Bool.not_false, if_true]
  rfl
 have g' : yh P (eqGuard .neq t (.tmp 0) (.tmp 0) (.agg xs) (.agg ys)) = some () := by
  unfold eqGuard
  simp only [Bool.not_true, Bool.false_eq_true, if_false, yu, Wh, Option.bind_some, hg, Bool.not_false, if_true]
  rfl
 have ha : [Value.agg xs, .agg ys].all ground = true := by simp [gx, gy]
 constructor
 ·
  unfold vW qP
  simp only [hu]
  show wU P [Value.agg xs, .agg ys] _ S = _
  refine jQ ha ?_ rfl
  simp only [yu, g, Option.bind_some]
  unfold binOp
  simp only [yu, e, Option.bind_some, jK]
 ·
  unfold vW qP
  simp only [hu]
  show wU P [Value.agg xs, .agg ys] _ S = _
  refine jQ ha ?_ rfl
  simp only [yu, g', Option.bind_some]
  unfold binOp
  simp only [yu, e, Option.bind_some, jK]
end Go.Abs
namespace Go.Proofs.Ytbgcphbbchndkaa
open Go.Abs
theorem TxV.ext_iff' {t u : TxV} : t = u ↔ t.id = u.id ∧ t.fee = u.fee := by cases t; cases u; simp
theorem ah9 (t u : TxV) (S : zh) : jT Try.prog .eql 25 (tv t) (tv u) S = some (.bool (decide (t = u)), S) ∧ jT Try.prog .neq 25 (tv t) (tv u) S = some (.bool (!decide (t = u)), S) := by
 have h := abC (S := S) (xs := #[Value.int .i64 t.id, .int .i64 t.fee]) (ys := #[Value.int .i64 u.id, .int .i64 u.fee]) (bs := [t.id == u.id, t.fee == u.fee]) aeG (by kernel_rfl) (by kernel_rfl)
  ⟨⟨by decide, .int .i64 t.id, .int .i64 u.id, by kernel_rfl, by kernel_rfl, by kernel_rfl⟩, ⟨by decide, .int .i64 t.fee, .int .i64 u.fee, by kernel_rfl, by kernel_rfl, by kernel_rfl⟩, trivial⟩ rfl rfl
 have e : [t.id == u.id, t.fee == u.fee].all id = decide (t = u) := by
  rw [Bool.eq_iff_iff]
  simp [TxV.ext_iff']
 rw [e] at h
 exact h
theorem slices_Equal.round {k j : Nat} {a b : List TxV} (hk : Okl k a) (hj : Okl j b) (k2 : k ≠ 2) (j2 : j ≠ 2) (hab : a.length = b.length) (hlen : a.length ≤ 17592186044416) {S : zh} : ∀ (sa sb pa pb : List TxV) {T : List Value} {r : St}, qm (zu Try.prog O false slices_Equal.jr) T S = r → T.length = 26 →
  T.getD 0 undef = tl k a → T.getD 1 undef = tl j b → T.getD 12 undef = .int .i64 a.length → T.getD 13 undef = .int .i64 pa.length → a = pa ++ sa → b = pb ++ sb → pa.length = pb.length → pa = pb →
  ∃ e T', r = some (e, T', S) ∧ if a = b then e = .exit 0 ∧ T'.length = 26 else e = .ret ∧ T'.getD 4 undef = .bool false := by
 intro sa
 induction sa with
 | nil =>
  intro sb pa pb T r hL hT h0 h1 h12 h13 ha hb hp hpp
  have hTe := slices_Equal.eta hT
  rw [h0, h1, h12, h13] at hTe
  have hr : zu Try.prog O false slices_Equal.jr T S = zu Try.prog O false slices_Equal.jr T S := rfl
  have hd : ¬ (pa.length : Int) < (a.length : Int) := by rw [ha]; simp
  conv at hr =>
   rhs
   rw [hTe]
   simp only [slices_Equal.jr, slices_Equal.code, slices_Equal.rs, zSs, reduceIte, Nat.reduceEqDiff, Int.reduceEq, Int.reduceLT, Int.reduceLE, hd]
  have hsb : sb = [] := by rw [ha, hb] at hab; simp [hp] at hab; exact hab
  refine ⟨_, _, hL.symm.trans (jO hr (by simp)), ?_⟩
  rw [if_pos (by rw [ha, hb, hsb, hpp])]
  exact ⟨rfl, rfl⟩
 | cons x sa ih =>
  intro sb pa pb T r hL hT h0 h1 h12 h13 ha hb hp hpp
  have hTe := slices_Equal.eta hT
  rw [h0, h1, h12, h13] at hTe
  have hr : zu Try.prog O false slices_Equal.jr T S = zu Try.prog O false slices_Equal.jr T S := rfl
  have hd : (pa.length : Int) < (a.length : Int) := by rw [ha]; simp; omega
  cases sb with
  | nil => rw [ha, hb] at hab; simp [hp] at hab
  | cons y sb =>
   have e1 := fun S => aaL (S := S) hk ha
   have e2 : ∀ S, zW Try.prog 26 (tl j b) (.int .i64 pa.length) S = some (EP [.int .i64 y.id, .int .i64 y.fee], S) := fun S => by rw [hp]; exact aaL hj hb
   have wi : IntKind.i64.wrap ((pa.length : Int) + 1) = ((pa ++ [x]).length : Int) := by rw [wrap_i64 (by omega) (by omega)]; simp
   have q : ∀ S, jT Try.prog .neq 25 (.agg [Value.int .i64 x.id, .int .i64 x.fee].toArray) (.agg [Value.int .i64 y.id, .int .i64 y.fee].toArray) S = some (.bool (!decide (x = y)), S) := fun S => (ah9 x y S).2
   by_cases hxy : x = y
   ·
    conv at hr =>
     rhs
     rw [hTe]
     simp only [slices_Equal.jr, slices_Equal.code, slices_Equal.rs, zSs, reduceIte, Nat.reduceEqDiff, Int.reduceEq, Int.reduceLT, Int.reduceLE, hd, if_neg k2, if_neg j2, e1, e2, vP, q, decide_eq_true hxy, wi]
    subst hxy
    exact ih sb (pa ++ [x]) (pb ++ [x]) ((yx hr).symm.trans hL) rfl rfl rfl rfl rfl (by simp [ha]) (by simp [hb]) (by simp [hp]) (by rw [hpp])
   ·
    conv at hr =>
     rhs
     rw [hTe]
     simp only [slices_Equal.jr, slices_Equal.code, slices_Equal.rs, zSs, reduceIte, Nat.reduceEqDiff, Int.reduceEq, Int.reduceLT, Int.reduceLE, hd, if_neg k2, if_neg j2, e1, e2, vP, q, decide_eq_false hxy]
    refine ⟨_, _, hL.symm.trans (jO hr (by simp)), ?_⟩
    rw [if_neg (by rw [ha, hb, hpp]; simp [hxy])]
    exact ⟨rfl, rfl⟩
theorem slices_Equal.v {k j : Nat} {a b : List TxV} (hk : Okl k a) (hj : Okl j b) (k2 : k ≠ 2) (j2 : j ≠ 2) (hlen : a.length ≤ 17592186044416) (S : zh) : zM Try.prog O slices_Equal.id [tl k a, tl j b] S = some (.bool (decide (a = b)), S) := by
 obtain ⟨T, hTe⟩ : ∃ T, T = (tl k a :: tl j b :: undef :: undef :: undef :: undef :: undef :: undef :: undef :: undef :: undef :: undef :: undef :: undef :: undef :: undef :: undef :: undef :: undef :: undef :: undef :: undef :: undef :: undef :: undef :: undef :: []) := ⟨_, rfl⟩
 have hr : zu Try.prog O false slices_Equal.code T S = zu Try.prog O false slices_Equal.code T S := rfl
 by_cases hab : a.length = b.length
 ·
  have d1 : ¬ (a.length : Int) ≠ (b.length : Int) := by omega
  conv at hr =>
   rhs
   rw [hTe]
   simp only [slices_Equal.code, slices_Equal.rs, zSs, reduceIte, Nat.reduceEqDiff, Int.reduceEq, Int.reduceLT, Int.reduceLE, if_neg k2, if_neg j2, Yn hk, Yn hj, hab]
  rw [← hab] at hr
  generalize hL : qm (zu Try.prog O false slices_Equal.jr) _ _ = r at hr
  obtain ⟨e, T', rfl, g⟩ := slices_Equal.round hk hj k2 j2 hab hlen a b [] [] hL rfl rfl rfl rfl rfl rfl rfl rfl rfl
  by_cases h : a = b
  ·
   rw [if_pos h] at g
   obtain ⟨rfl, g2⟩ := g
   have hTe' := slices_Equal.eta g2
   conv at hr =>
    rhs
    rw [hTe']
    simp only [slices_Equal.code, slices_Equal.rs, zSs, reduceIte, Nat.reduceEqDiff, Int.reduceEq, Int.reduceLT, Int.reduceLE]
   rw [hTe] at hr
   rw [decide_eq_true h]
   exact slices_Equal.runs hr (.inr rfl)
  ·
   rw [if_neg h] at g
   obtain ⟨rfl, g2⟩ := g
   conv at hr =>
    rhs
    simp only [zSs, reduceIte, Nat.reduceEqDiff, Int.reduceEq, Int.reduceLT, Int.reduceLE]
   rw [hTe] at hr
   have hrun := slices_Equal.runs hr (.inr rfl)
   rw [g2] at hrun
   rw [decide_eq_false h]
   exact hrun
 ·
  have d1 : ¬ (a.length : Int) = (b.length : Int) := by omega
  conv at hr =>
   rhs
   rw [hTe]
   simp only [slices_Equal.code, slices_Equal.rs, zSs, reduceIte, Nat.reduceEqDiff, Int.reduceEq, Int.reduceLT, Int.reduceLE, if_neg k2, if_neg j2, Yn hk, Yn hj, d1]
  rw [hTe] at hr
  rw [decide_eq_false (fun h : a = b => hab (by rw [h]))]
  exact slices_Equal.runs hr (.inr rfl)
theorem aeS : ∀ {a b : List TxV}, flat a = flat b → a = b := by
 intro a
 induction a with
 | nil => intro b h; cases b with
  | nil => rfl
  | cons u b => simp [flat] at h
 | cons t a ih =>
  intro b h
  cases b with
  | nil => simp [flat] at h
  | cons u b =>
   have h' : [t.id, t.fee] ++ flat a = [u.id, u.fee] ++ flat b := h
   simp at h'
   rw [ih h'.2.2, TxV.ext_iff'.mpr ⟨h'.1, h'.2.1⟩]
theorem afZ {l : List TxV} (h : ∀ t ∈ l, yC t = true) : ∀ n ∈ flat l, Few n := fun n hn => by have := aaT h n hn; unfold Few; omega
theorem ad9 {a b : List TxV} {r s : List UInt8} (la : a.length ≤ 1000) (lb : b.length ≤ 1000) (ha : ∀ t ∈ a, yC t = true) (hb : ∀ t ∈ b, yC t = true) (h : aaI a ++ r = aaI b ++ s) : a = b ∧ r = s := by
 rw [kJ, kJ, List.append_assoc, List.append_assoc] at h
 obtain ⟨h1, h2⟩ := ZR (a := [(a.length : Int)]) (c := [(b.length : Int)]) rfl (by simp [Few]; omega) (by simp [Few]; omega) h
 simp at h1
 obtain ⟨h3, h4⟩ := ZR (by rw [KN, KN]; omega) (afZ ha) (afZ hb) h2
 exact ⟨aeS h3, h4⟩
theorem aaE {a b : List TxV} {r s : List UInt8} (ha : xR a = true) (hb : xR b = true) (h : aaI a ++ r = aaI b ++ s) : a = b ∧ r = s := by
 obtain ⟨h1, h2⟩ := vK.mp ha
 obtain ⟨h3, h4⟩ := vK.mp hb
 exact ad9 (by omega) (by omega) h1.2 h3.2 h
noncomputable def xU (l : List UInt8) : Option (List TxV) := rd (fun t => xR t = true) aaI l
theorem vS (l : List UInt8) (t : List TxV) : xU l = some t ↔ xR t = true ∧ l = aaI t :=
 ad4 (fun x y hx hy h => (aaE (r := []) (s := []) hx hy (by simpa using h)).1) l t
theorem abH {l : List UInt8} (h : ∀ t, ¬ (xR t = true ∧ l = aaI t)) : xU l = none := by
 cases hr : xU l with
 | none => rfl
 | some t => exact absurd ((vS l t).mp hr) (h t)
noncomputable def aaq (k : Nat) (l : List UInt8) : Value := match xU l with
 | some t => .tuple #[tl (if t = [] then k else 2) t, .int .i64 0]
 | none => .tuple #[.slice none 0 0, .int .i64 61]
def Z8 : Nat → List UInt8 → Option (List TxV × List UInt8)
 | 0, l => some ([], l)
 | m + 1, l => match wL 2 l with
  | some ([a, b], r) => if yC ⟨a, b⟩ then (match Z8 m r with
   | some (x, y) => some (⟨a, b⟩ :: x, y)
   | none => none) else none
  | _ => none
theorem Qs : ∀ (m : Nat) (l : List UInt8) (a : List TxV) (b : List UInt8), Z8 m l = some (a, b) ↔ a.length = m ∧ (∀ t ∈ a, yC t = true) ∧ l = encs (flat a) ++ b := by
 intro m
 induction m with
 | zero =>
  intro l a b
  constructor
  ·
   intro h; cases h; exact ⟨rfl, (fun t h => by cases h), rfl⟩
  ·
   rintro ⟨h1, h2, h3⟩
   have : a = [] := List.length_eq_zero_iff.mp h1
   subst this
   rw [h3]; rfl
 | succ m ih =>
  intro l a b
  rw [Z8]
  constructor
  ·
   intro h
   rcases QB l with hn | ⟨x, y, r, hn, hlr⟩
   ·
    rw [hn] at h; cases h
   ·
    rw [hn] at h
    dsimp only at h
    split at h
    ·
     rename_i hok
     cases hr : Z8 m r with
     | none => rw [hr] at h; cases h
     | some ab =>
      obtain ⟨a', b'⟩ := ab
      rw [hr] at h
      obtain ⟨h1, h2, h3⟩ := (ih r a' b').mp hr
      cases h
      obtain ⟨f1, f2, f3⟩ := (wH _ _ _ _).mp hn
      refine ⟨by simp [h1], fun t ht => ?_, ?_⟩
      ·
       rcases List.mem_cons.1 ht with rfl | ht
       ·
        exact hok
       ·
        exact h2 t ht
      ·
       rw [f2, h3, show flat (⟨x, y⟩ :: a') = [x, y] ++ flat a' from rfl, xE, List.append_assoc]
    ·
     cases h
  ·
   rintro ⟨h1, h2, h3⟩
   cases a with
   | nil => simp at h1
   | cons t a =>
    have ht := h2 t (by simp)
    obtain ⟨b1, b2, b3, b4⟩ := qK.mp ht
    have hn := (wH 2 l [t.id, t.fee] (encs (flat a) ++ b)).mpr ⟨rfl, by rw [h3, show flat (t :: a) = [t.id, t.fee] ++ flat a from rfl, xE, List.append_assoc], by simp [Few]; omega⟩
    rw [hn]
    dsimp only
    rw [if_pos ht, (ih (encs (flat a) ++ b) a b).mpr ⟨by simpa using h1, fun u hu => h2 u (by simp [hu]), rfl⟩]
theorem agJ (l : List UInt8) : wL 1 l = none ∨ ∃ a r, wL 1 l = some ([a], r) ∧ r.length ≤ l.length := by
 cases h : wL 1 l with
 | none => exact .inl rfl
 | some ar =>
  obtain ⟨a, r⟩ := ar
  obtain ⟨h1, h2⟩ := ZK h
  match a, h1 with
  | [x], _ => exact .inr ⟨x, r, rfl, h2⟩
theorem ZE {l r : List UInt8} {n : Int} (h : wL 1 l = some ([n], r)) (t : List TxV) : xU l = some t ↔ 0 ≤ n ∧ n ≤ 3 ∧ Z8 n.toNat r = some (t, []) ∧ unl t = true := by
 obtain ⟨_, h2, h3⟩ := (wH _ _ _ _).mp h
 rw [vS, Qs]
 constructor
 ·
  rintro ⟨g1, g2⟩
  obtain ⟨h5, h6⟩ := vK.mp g1
  rw [kJ, h2] at g2
  obtain ⟨h7, h8⟩ := ZR (a := [n]) (c := [(t.length : Int)]) rfl h3 (by simp [Few]; omega) g2
  simp at h7
  refine ⟨by omega, by omega, ⟨by omega, h5.2, by simpa using h8⟩, ?_⟩
  unfold xR at g1
  simp at g1
  exact g1.1
 ·
  rintro ⟨g1, g2, ⟨g3, g4, g5⟩, g6⟩
  refine ⟨?_, ?_⟩
  ·
   unfold xR
   rw [g6, Bool.true_and, List.all_eq_true]
   exact g4
  ·
   have : n = (t.length : Int) := by omega
   rw [h2, g5, List.append_nil, kJ, this]
theorem QN {l : List UInt8} (h : wL 1 l = none) : xU l = none := by
 refine abH fun t ht => ?_
 obtain ⟨h5, h6⟩ := vK.mp ht.1
 have := (wH 1 l [(t.length : Int)] (encs (flat t))).mpr ⟨rfl, by rw [ht.2, kJ], by simp [Few]; omega⟩
 rw [h] at this
 cases this
end Go.Proofs.Ytbgcphbbchndkaa
namespace Go.Proofs.Ytbgcphbbchndkaa
open Go.Abs
theorem aiz (t : TxV) (S : zh) : jy Try.prog 26 1 [(0, tv t)] S = some (tl 2 [t], S) := by kernel_rfl
theorem ajk (k : Nat) (hk : k ≤ 2) (a : Int) (h : k ≠ 0) (S : zh) : zW Try.prog 57 (iz k [a]) (.int .i64 0) S = some (EP [.int .i64 a], S) := ab6 ⟨hk, fun h0 => absurd h0 h⟩ (by decide) (by simp)
theorem adn {k : Nat} (hk : k ≤ 2) (l : List TxV) : Okl (if l = [] then k else 2) l := ⟨by split <;> omega, fun h => by split at h <;> first | assumption | omega⟩
theorem zo.round {n : Int} (hn : n ≤ 3) : ∀ (m : Nat) (i : Int) (rest : List UInt8) (out : List TxV) {T : List Value} {S : zh} {r : St}, qm (zu Try.prog O false zo.jr) T S = r → T.length = 59 →
  T.getD 5 undef = by_ 2 rest → T.getD 7 undef = tl (if out = [] then 0 else 2) out → T.getD 33 undef = .int .i64 n → T.getD 34 undef = .int .i64 i → 0 ≤ i → n = i + m → out.length ≤ 3 - m → rest.length ≤ 140737488355328 →
  ∃ e T' S', r = some (e, T', S') ∧ match Z8 m rest with
   | some (ts, r') => e = .exit 0 ∧ T'.length = 59 ∧ T'.getD 5 undef = by_ 2 r' ∧ T'.getD 7 undef = tl (if out ++ ts = [] then 0 else 2) (out ++ ts)
   | none => e = .ret ∧ T'.getD 2 undef = .slice none 0 0 ∧ T'.getD 3 undef = .int .i64 61 := by
 intro m
 induction m with
 | zero =>
  intro i rest out T S r hL hT h5 h7 h33 h34 hi hm ho hl
  have hTe := zo.eta hT
  rw [h5, h7, h33, h34] at hTe
  have hr : zu Try.prog O false zo.jr T S = zu Try.prog O false zo.jr T S := rfl
  have d1 : ¬ i < n := by omega
  conv at hr =>
   rhs
   rw [hTe]
   simp only [zo.jr, zo.code, zo.rs, zSs, reduceIte, Nat.reduceEqDiff, Int.reduceEq, Int.reduceLT, Int.reduceLE, d1]
  refine ⟨_, _, _, hL.symm.trans (jO hr (by simp)), ?_⟩
  rw [Z8]
  exact ⟨rfl, rfl, rfl, by rw [List.append_nil]; rfl⟩
 | succ m ih =>
  intro i rest out T S r hL hT h5 h7 h33 h34 hi hm ho hl
  have hTe := zo.eta hT
  rw [h5, h7, h33, h34] at hTe
  have hr : zu Try.prog O false zo.jr T S = zu Try.prog O false zo.jr T S := rfl
  have d1 : i < n := by omega
  have c1 := fun S => jE.v (k := 1) (l := rest) Okl.read (by decide) hl S
  unfold aeI at c1
  rw [Z8]
  rcases QB rest with h | ⟨a, b, q, h, hlr⟩
  ·
   rw [h] at c1
   rw [h]
   obtain ⟨S2, p1, p2, p3, p4⟩ := Xf S ⟨0, 0⟩
   conv at hr =>
    rhs
    rw [hTe]
    simp only [zo.jr, zo.code, zo.rs, zSs, reduceIte, Nat.reduceEqDiff, Int.reduceEq, Int.reduceLT, Int.reduceLE, d1, c1, JD, p1]
   exact ⟨_, _, _, hL.symm.trans (jO hr (by simp)), rfl, rfl, rfl⟩
  ·
   rw [h] at c1
   rw [h]
   obtain ⟨S2, p1, p2, p3, p4⟩ := Xf S ⟨a, b⟩
   by_cases hok : yC ⟨a, b⟩ = true
   ·
    have wi : IntKind.i64.wrap (i + 1) = i + 1 := wrap_i64 (by omega) (by omega)
    have ap : ∀ S, wz Try.prog 26 26 (tl (if out = [] then 0 else 2) out) (tl 2 [⟨a, b⟩]) S = some (tl 2 (out ++ [⟨a, b⟩]), S) := fun S => ahB ⟨by split <;> omega, fun h => by split at h <;> first | assumption | omega⟩ (by split <;> omega) (by omega)
    have c2 : ∀ S, jy Try.prog 26 1 [(0, .agg [Value.int .i64 a, .int .i64 b].toArray)] S = some (tl 2 [⟨a, b⟩], S) := fun S => aiz ⟨a, b⟩ S
    have c3 : zS Try.prog false 25 (.pointer (some ⟨S.next, 0, none⟩)) S2 = some (.agg [Value.int .i64 a, .int .i64 b].toArray, S2) := Yz p2
    conv at hr =>
     rhs
     rw [hTe]
     simp only [zo.jr, zo.code, zo.rs, zSs, reduceIte, Nat.reduceEqDiff, Int.reduceEq, Int.reduceLT, Int.reduceLE, d1, c1, JD, p1, hok, c3, c2, ap, wi]
    obtain ⟨e, T', S', j1, j2⟩ := ih (i + 1) q (out ++ [⟨a, b⟩]) ((yx hr).symm.trans hL) rfl rfl (by rw [show (if out ++ [TxV.mk a b] = [] then 0 else 2) = 2 from if_neg (by simp)]; rfl) rfl rfl (by omega) (by omega) (by simp; omega) (by omega)
    refine ⟨e, T', S', j1, ?_⟩
    dsimp only
    rw [if_pos hok]
    cases hq : Z8 m q with
    | none => rw [hq] at j2; exact j2
    | some tr =>
     obtain ⟨ts, r'⟩ := tr
     rw [hq] at j2
     dsimp only at j2 ⊢
     rw [List.append_assoc] at j2
     exact j2
   ·
    dsimp only
    rw [if_neg hok]
    rw [Bool.not_eq_true] at hok
    conv at hr =>
     rhs
     rw [hTe]
     simp only [zo.jr, zo.code, zo.rs, zSs, reduceIte, Nat.reduceEqDiff, Int.reduceEq, Int.reduceLT, Int.reduceLE, d1, c1, JD, p1, hok]
    exact ⟨_, _, _, hL.symm.trans (jO hr (by simp)), rfl, rfl, rfl⟩
theorem zo.v {k : Nat} {l : List UInt8} (hk : Okl k l) (k2 : k ≠ 2) (hl : l.length ≤ 140737488355328) (S : zh) : zM Try.prog O zo.id [by_ k l] S = some (aaq 0 l, S) := by
 obtain ⟨T, hTe⟩ : ∃ T, T = (by_ k l :: undef :: undef :: undef :: undef :: undef :: undef :: undef :: undef :: undef :: undef :: undef :: undef :: undef :: undef :: undef :: undef :: undef :: undef :: undef :: undef :: undef :: undef :: undef :: undef :: undef :: undef :: undef :: undef :: undef :: undef :: undef :: undef :: undef :: undef :: undef :: undef :: undef :: undef :: undef :: undef :: undef :: undef :: undef :: undef :: undef :: undef :: undef :: undef :: undef :: undef :: undef :: undef :: undef :: undef :: undef :: undef :: undef :: undef :: []) := ⟨_, rfl⟩
 have hr : zu Try.prog O false zo.code T zh.empty = zu Try.prog O false zo.code T zh.empty := rfl
 have c1 := fun S => zn.v (many := 1) hk k2 hl S
 have r1 : Zv 0 (if k = 0 then 0 else 2) 1 l = _ := Zc (m := 1) (by decide) (by decide)
 rw [r1] at c1
 have cl : [by_ k l].all (jh 16) = true := all1 (qg (k := k) hk.le)
 unfold aaq
 rcases agJ l with h | ⟨n, rest, h, hlr⟩
 ·
  rw [h] at c1
  rw [QN h]
  conv at hr =>
   rhs
   rw [hTe]
   simp only [zo.code, zo.rs, zSs, reduceIte, Nat.reduceEqDiff, Int.reduceEq, Int.reduceLT, Int.reduceLE, if_neg k2, c1]
  rw [hTe] at hr
  exact zo.runs hr (.inr rfl) rfl rfl cl rfl
 ·
  rw [h] at c1
  have e0 := ajk 1 (by decide) n (by decide)
  by_cases h0 : n < 0
  ·
   have hno : xU l = none := by
    cases hx : xU l with
    | none => rfl
    | some t => have := (ZE h t).mp hx; omega
   rw [hno]
   conv at hr =>
    rhs
    rw [hTe]
    simp only [zo.code, zo.rs, zSs, reduceIte, Nat.reduceEqDiff, Int.reduceEq, Int.reduceLT, Int.reduceLE, if_neg k2, c1, e0, qZ, h0]
   rw [hTe] at hr
   exact zo.runs hr (.inr rfl) rfl rfl cl rfl
  ·
   by_cases h3 : 3 < n
   ·
    have hno : xU l = none := by
     cases hx : xU l with
     | none => rfl
     | some t => have := (ZE h t).mp hx; omega
    rw [hno]
    conv at hr =>
     rhs
     rw [hTe]
     simp only [zo.code, zo.rs, zSs, reduceIte, Nat.reduceEqDiff, Int.reduceEq, Int.reduceLT, Int.reduceLE, if_neg k2, c1, e0, qZ, h0, h3]
    rw [hTe] at hr
    exact zo.runs hr (.inr rfl) rfl rfl cl rfl
   ·
    conv at hr =>
     rhs
     rw [hTe]
     simp only [zo.code, zo.rs, zSs, reduceIte, Nat.reduceEqDiff, Int.reduceEq, Int.reduceLT, Int.reduceLE, if_neg k2, c1, e0, qZ, h0, h3]
    generalize hL : qm (zu Try.prog O false zo.jr) _ _ = r at hr
    obtain ⟨e, T', S', rfl, g⟩ := zo.round (n := n) (by omega) n.toNat 0 rest [] hL rfl rfl rfl rfl rfl (by omega) (by omega) (by simp) (by omega)
    cases hts : Z8 n.toNat rest with
    | none =>
     rw [hts] at g
     obtain ⟨rfl, g2, g3⟩ := g
     have hno : xU l = none := by
      cases hx : xU l with
      | none => rfl
      | some t => have := (ZE h t).mp hx; rw [hts] at this; simp at this
     rw [hno]
     conv at hr =>
      rhs
      simp only [zSs, reduceIte, Nat.reduceEqDiff, Int.reduceEq, Int.reduceLT, Int.reduceLE]
     rw [hTe] at hr
     have hrun := zo.runs (S := S) hr (.inr rfl) (by rw [g2]; rfl) (by rw [g3]; rfl) cl (by rw [g2, g3]; rfl)
     rw [g2, g3] at hrun
     exact hrun
    | some tr =>
     obtain ⟨ts, r'⟩ := tr
     rw [hts] at g
     obtain ⟨rfl, g2, g3, g4⟩ := g
     rw [List.nil_append] at g4
     have hTe' := zo.eta g2
     rw [g3, g4] at hTe'
     by_cases hr0 : r' = []
     ·
      subst hr0
      have hts3 : ts.length ≤ 3 := by have := (Qs _ _ _ _).mp hts; omega
      have c3 := fun S => zN.v (adn (by decide) ts).dem (QK (if ts = [] then 0 else 2)) (by omega) S
      by_cases hu : unl ts = true
      ·
       have hyes : xU l = some ts := (ZE h ts).mpr ⟨by omega, by omega, hts, hu⟩
       rw [hyes]
       conv at hr =>
        rhs
        rw [hTe']
        simp only [zo.code, zo.rs, zSs, reduceIte, Nat.reduceEqDiff, Int.reduceEq, Int.reduceLT, Int.reduceLE, ZW Okl.read, goInt, List.length_nil, Int.natCast_zero, Int.lt_irrefl, afY, c3, hu]
       rw [hTe] at hr
       exact zo.runs hr (.inr rfl) (by simp only [List.getD_cons_succ, List.getD_cons_zero, jM, jI, jk, jB, jJ]) rfl cl (wX (all2 (Za (adn (by decide) ts).le fun _ _ => rfl) rfl))
      ·
       have hno : xU l = none := by
        cases hx : xU l with
        | none => rfl
        | some t => have := (ZE h t).mp hx; rw [hts] at this; simp at this; rw [this.2.2.1] at hu; exact absurd this.2.2.2 hu
       rw [hno]
       rw [Bool.not_eq_true] at hu
       conv at hr =>
        rhs
        rw [hTe']
        simp only [zo.code, zo.rs, zSs, reduceIte, Nat.reduceEqDiff, Int.reduceEq, Int.reduceLT, Int.reduceLE, ZW Okl.read, goInt, List.length_nil, Int.natCast_zero, Int.lt_irrefl, afY, c3, hu]
       rw [hTe] at hr
       exact zo.runs hr (.inr rfl) rfl rfl cl rfl
     ·
      have hp : (0 : Int) < (r'.length : Int) := by have := List.length_pos_iff.mpr hr0; omega
      have hno : xU l = none := by
       cases hx : xU l with
       | none => rfl
       | some t => have := (ZE h t).mp hx; rw [hts] at this; simp at this; exact absurd this.2.2.1.2 hr0
      rw [hno]
      conv at hr =>
       rhs
       rw [hTe']
       simp only [zo.code, zo.rs, zSs, reduceIte, Nat.reduceEqDiff, Int.reduceEq, Int.reduceLT, Int.reduceLE, ZW Okl.read, goInt, decide_eq_true hp]
      rw [hTe] at hr
      exact zo.runs hr (.inr rfl) rfl rfl cl rfl
end Go.Proofs.Ytbgcphbbchndkaa
namespace Go.Proofs.Ytbgcphbbchndkaa
open Go.Abs
theorem Z5 {k : Nat} {l : List Int} {i : Int} {x : Int} {m : Nat} (h : Okl k l) (hi : i = (m : Int)) (hx : l[m]? = some x) (S : zh) : zW Try.prog 57 (iz k l) (.int .i64 i) S = some (EP [.int .i64 x], S) := by
 obtain ⟨h1, h2⟩ := List.getElem?_eq_some_iff.mp hx
 subst hi
 rw [ab6 h (by omega) (by omega)]
 simp [← h2]
end Go.Proofs.Ytbgcphbbchndkaa
namespace Go.Proofs.Ytbgcphbbchndkaa
open Go.Abs
theorem aae {l : List TxV} (h : xR l = true) : (aaI l).length ≤ 100 := by
 obtain ⟨h1, h2⟩ := vK.mp h
 have h3 := JB h1.2
 have h4 := vY (l := [(l.length : Int)]) (by simp; omega)
 rw [kJ, List.length_append]
 simp at h4
 omega
theorem abD (l : List UInt8) : ∃ t e, aeO l = .tuple #[tv t, .int .i64 e] ∧ ((e = 0 ∧ adN l = some t) ∨ (e = 61 ∧ adN l = none ∧ t = ⟨0, 0⟩)) := by
 unfold aeO
 cases h : adN l with
 | none => exact ⟨⟨0, 0⟩, 61, rfl, .inr ⟨rfl, rfl, rfl⟩⟩
 | some t => exact ⟨t, 0, rfl, .inl ⟨rfl, rfl⟩⟩
theorem VB {j : Nat} (hj : j ≤ 2) (l : List UInt8) : ∃ k t e, Okl k t ∧ List.length t ≤ 3 ∧ aaq j l = .tuple #[tl k t, .int .i64 e] ∧ ((e = 0 ∧ xU l = some t) ∨ (e = 61 ∧ xU l = none ∧ t = [])) := by
 unfold aaq
 cases h : xU l with
 | none => exact ⟨0, [], 61, Okl.none, by simp, rfl, .inr ⟨rfl, rfl, rfl⟩⟩
 | some t => exact ⟨_, t, 0, adn hj t, (vK.mp ((vS l t).mp h).1).2, rfl, .inl ⟨rfl, rfl⟩⟩
theorem aiI (x : (Ty.slc 16 tTx).Val) (hg : (Ty.slc 16 tTx).Good x) : ∃ k l, Okl k l ∧ k ≠ 2 ∧ (Ty.slc 16 tTx).Ws x = [tl k l] ∧ l.length * 16 ≤ 140737488351232 ∧ ∀ t ∈ l, t.Ok :=
 aip (b := 16) fT TxV.Ok ais adK x hg
end Go.Proofs.Ytbgcphbbchndkaa
namespace Go.Proofs.Ytbgcphbbchndkaa
open Go.Abs
structure kT where
 slot : Int
 miner : Int
 variant : Int
 parent : Int
 k : Nat
 txs : List TxV
def fBk (b : kT) : List Value := [.int .i64 b.slot, .int .i64 b.miner, .int .i64 b.variant, .int .i64 b.parent, tl b.k b.txs]
abbrev bv (b : kT) : Value := .agg [Value.int .i64 b.slot, .int .i64 b.miner, .int .i64 b.variant, .int .i64 b.parent, tl b.k b.txs].toArray
structure kT.Ok (b : kT) : Prop where
 okl : Okl b.k b.txs
 ne : b.k ≠ 2
 len : b.txs.length * 16 ≤ 140737488351232
 par : b.parent < 9223372036854775808
abbrev tBk : Ty := .pair (.int .i64) (.pair (.int .i64) (.pair (.int .i64) (.pair (.int .i64) (.pair (.slc 16 tTx) .unit))))
def headB (b : kT) : Bool := btw b.slot 1 4095 && btw b.miner 0 6 && btw b.variant 0 255 && (decide (b.parent = 0) || (Zf b.parent && decide (b.parent / 65536 < b.slot)))
def jS (b : kT) : Bool := headB b && xR b.txs
theorem afi {b : kT} : headB b = true ↔ (1 ≤ b.slot ∧ b.slot ≤ 4095) ∧ (0 ≤ b.miner ∧ b.miner ≤ 6) ∧ (0 ≤ b.variant ∧ b.variant ≤ 255) ∧ (b.parent = 0 ∨ (Zf b.parent = true ∧ b.parent / 65536 < b.slot)) := by
 simp [headB, adv, and_assoc]
theorem qA {b : kT} {d : Nat} (h : b.k ≤ 2) : jh (d + 6) (bv b) = true := by
 have h1 : jh (d + 5) (tl b.k b.txs) = true := Za (d := d + 1) h fun _ _ => rfl
 refine Xi ?_
 simp only [List.all_cons, List.all_nil, h1, Bool.and_true]
 rfl
abbrev aiN (b : kT) : zh := zh.empty.push (.cells (fBk b) (.own []) 0)
theorem X7 (b : kT) : Wi (bv b) zh.empty = some (.pointer (some ⟨0, 0, none⟩), aiN b) := rfl
theorem qY (b : kT) : (aiN b).get 0 = some (.cells (fBk b) (.own []) 0) := rfl
theorem aft {S : zh} {q : Nat} {b : kT} (h : S.get q = some (.cells (fBk b) (.own []) 0)) : zS Try.prog false 3 (.pointer (some ⟨q, 0 + 0, none⟩)) S = some (.int .i64 b.slot, S) := qc (t := 3) (o := 0 + 0) h ZV rfl
theorem afL {S : zh} {q : Nat} {b : kT} (h : S.get q = some (.cells (fBk b) (.own []) 0)) : zS Try.prog false 3 (.pointer (some ⟨q, 0 + 1, none⟩)) S = some (.int .i64 b.miner, S) := qc (t := 3) (o := 0 + 1) h ZV rfl
theorem afK {S : zh} {q : Nat} {b : kT} (h : S.get q = some (.cells (fBk b) (.own []) 0)) : zS Try.prog false 3 (.pointer (some ⟨q, 0 + 2, none⟩)) S = some (.int .i64 b.variant, S) := qc (t := 3) (o := 0 + 2) h ZV rfl
theorem aeF {S : zh} {q : Nat} {b : kT} (h : S.get q = some (.cells (fBk b) (.own []) 0)) : zS Try.prog false 3 (.pointer (some ⟨q, 0 + 3, none⟩)) S = some (.int .i64 b.parent, S) := qc (t := 3) (o := 0 + 3) h ZV rfl
theorem aeD {S : zh} {q : Nat} {b : kT} (h : S.get q = some (.cells (fBk b) (.own []) 0)) (hk : b.k ≠ 2) : zS Try.prog false 26 (.pointer (some ⟨q, 0 + 4, none⟩)) S = some (tl b.k b.txs, S) := by
 rw [aan (o := 0 + 4) (v := tl b.k b.txs) h aaX rfl (fun l h => by unfold tl vs sv at h; split at h <;> cases h), adZ, if_neg hk]
theorem ahQ {S : zh} {q : Nat} {b : kT} (h : S.get q = some (.cells (fBk b) (.own []) 0)) (hk : b.k ≠ 2) : zS Try.prog false 28 (.pointer (some ⟨q, 0, none⟩)) S = some (bv b, S) := by
 rw [Xw h, xq, xq, xq, xq, VY, if_neg hk]
theorem zI.v {b : kT} (hb : b.Ok) (S : zh) : zM Try.prog O zI.id [bv b] S = some (.bool (jS b), S) := by
 obtain ⟨T, hTe⟩ : ∃ T, T = (bv b :: undef :: undef :: undef :: undef :: undef :: undef :: undef :: undef :: undef :: undef :: undef :: undef :: undef :: undef :: undef :: undef :: undef :: undef :: undef :: undef :: undef :: undef :: undef :: undef :: undef :: undef :: undef :: undef :: undef :: undef :: undef :: undef :: undef :: undef :: undef :: undef :: undef :: undef :: undef :: undef :: undef :: undef :: undef :: undef :: undef :: []) := ⟨_, rfl⟩
 have hr : zu Try.prog O false zI.code T zh.empty = zu Try.prog O false zI.code T zh.empty := rfl
 have l0 := aft (qY b)
 have l1 := afL (qY b)
 have l2 := afK (qY b)
 have l3 := aeF (qY b)
 have l4 := aeD (qY b) hb.ne
 have c1 := fun S => zX.v hb.okl hb.ne (by have := hb.len; omega) S
 unfold aiP at c1
 cases h1 : btw b.slot 1 4095
 ·
  have e : jS b = false := by simp [jS, headB, h1]
  rw [e]
  conv at hr =>
   rhs
   rw [hTe]
   simp only [zI.code, zI.rs, zSs, reduceIte, Nat.reduceEqDiff, Int.reduceEq, Int.reduceLT, Int.reduceLE, X7, jV, jU, jY, jW, jX, l0, l1, l2, l3, l4, if_neg hb.ne, zV.v, h1]
  rw [hTe] at hr
  exact zI.runs hr (.inr rfl) (all1 (qA hb.okl.le)) rfl
 ·
  cases h2 : btw b.miner 0 6
  ·
   have e : jS b = false := by simp [jS, headB, h1, h2]
   rw [e]
   conv at hr =>
    rhs
    rw [hTe]
    simp only [zI.code, zI.rs, zSs, reduceIte, Nat.reduceEqDiff, Int.reduceEq, Int.reduceLT, Int.reduceLE, X7, jV, jU, jY, jW, jX, l0, l1, l2, l3, l4, if_neg hb.ne, zV.v, h1, h2]
   rw [hTe] at hr
   exact zI.runs hr (.inr rfl) (all1 (qA hb.okl.le)) rfl
  ·
   cases h3 : btw b.variant 0 255
   ·
    have e : jS b = false := by simp [jS, headB, h1, h2, h3]
    rw [e]
    conv at hr =>
     rhs
     rw [hTe]
     simp only [zI.code, zI.rs, zSs, reduceIte, Nat.reduceEqDiff, Int.reduceEq, Int.reduceLT, Int.reduceLE, X7, jV, jU, jY, jW, jX, l0, l1, l2, l3, l4, if_neg hb.ne, zV.v, h1, h2, h3]
    rw [hTe] at hr
    exact zI.runs hr (.inr rfl) (all1 (qA hb.okl.le)) rfl
   ·
    by_cases h4 : b.parent = 0
    ·
     by_cases h7 : xR b.txs = true
     ·
      rw [if_pos h7] at c1
      have e : jS b = true := by simp [jS, headB, h1, h2, h3, h4, h7]
      rw [e]
      conv at hr =>
       rhs
       rw [hTe]
       simp only [zI.code, zI.rs, zSs, reduceIte, Nat.reduceEqDiff, Int.reduceEq, Int.reduceLT, Int.reduceLE, X7, jV, jU, jY, jW, jX, l0, l1, l2, l3, l4, if_neg hb.ne, zV.v, h1, h2, h3, decide_eq_true h4, c1]
      rw [hTe] at hr
      exact zI.runs hr (.inr rfl) (all1 (qA hb.okl.le)) rfl
     ·
      rw [if_neg h7] at c1
      have e : jS b = false := by simp [jS, h7]
      rw [e]
      conv at hr =>
       rhs
       rw [hTe]
       simp only [zI.code, zI.rs, zSs, reduceIte, Nat.reduceEqDiff, Int.reduceEq, Int.reduceLT, Int.reduceLE, X7, jV, jU, jY, jW, jX, l0, l1, l2, l3, l4, if_neg hb.ne, zV.v, h1, h2, h3, decide_eq_true h4, c1]
      rw [hTe] at hr
      exact zI.runs hr (.inr rfl) (all1 (qA hb.okl.le)) rfl
    ·
     cases h5 : Zf b.parent
     ·
      have e : jS b = false := by simp [jS, headB, h1, h2, h3, h4, h5]
      rw [e]
      conv at hr =>
       rhs
       rw [hTe]
       simp only [zI.code, zI.rs, zSs, reduceIte, Nat.reduceEqDiff, Int.reduceEq, Int.reduceLT, Int.reduceLE, X7, jV, jU, jY, jW, jX, l0, l1, l2, l3, l4, if_neg hb.ne, zV.v, h1, h2, h3, decide_eq_false h4, jl.v, h5]
      rw [hTe] at hr
      exact zI.runs hr (.inr rfl) (all1 (qA hb.okl.le)) rfl
     ·
      have hn := ZA.mp h5
      have q1 : IntKind.i64.wrap (b.parent.tdiv 65536) = b.parent / 65536 := by rw [Ko (by omega), wrap_i64 (by omega) (by omega)]
      by_cases h6 : b.parent / 65536 < b.slot
      ·
       have h6' : ¬ b.slot ≤ b.parent / 65536 := by omega
       by_cases h7 : xR b.txs = true
       ·
        rw [if_pos h7] at c1
        have e : jS b = true := by simp [jS, headB, h1, h2, h3, h4, h5, h6, h7]
        rw [e]
        conv at hr =>
         rhs
         rw [hTe]
         simp only [zI.code, zI.rs, zSs, reduceIte, Nat.reduceEqDiff, Int.reduceEq, Int.reduceLT, Int.reduceLE, X7, jV, jU, jY, jW, jX, l0, l1, l2, l3, l4, if_neg hb.ne, zV.v, h1, h2, h3, decide_eq_false h4, jl.v, h5, ZI _ _ _ XO, q1, decide_eq_false h6', c1]
        rw [hTe] at hr
        exact zI.runs hr (.inr rfl) (all1 (qA hb.okl.le)) rfl
       ·
        rw [if_neg h7] at c1
        have e : jS b = false := by simp [jS, h7]
        rw [e]
        conv at hr =>
         rhs
         rw [hTe]
         simp only [zI.code, zI.rs, zSs, reduceIte, Nat.reduceEqDiff, Int.reduceEq, Int.reduceLT, Int.reduceLE, X7, jV, jU, jY, jW, jX, l0, l1, l2, l3, l4, if_neg hb.ne, zV.v, h1, h2, h3, decide_eq_false h4, jl.v, h5, ZI _ _ _ XO, q1, decide_eq_false h6', c1]
        rw [hTe] at hr
        exact zI.runs hr (.inr rfl) (all1 (qA hb.okl.le)) rfl
      ·
       have h6' : b.slot ≤ b.parent / 65536 := by omega
       have e : jS b = false := by simp [jS, headB, h1, h2, h3, h4, h5, h6]
       rw [e]
       conv at hr =>
        rhs
        rw [hTe]
        simp only [zI.code, zI.rs, zSs, reduceIte, Nat.reduceEqDiff, Int.reduceEq, Int.reduceLT, Int.reduceLE, X7, jV, jU, jY, jW, jX, l0, l1, l2, l3, l4, if_neg hb.ne, zV.v, h1, h2, h3, decide_eq_false h4, jl.v, h5, ZI _ _ _ XO, q1, decide_eq_true h6']
       rw [hTe] at hr
       exact zI.runs hr (.inr rfl) (all1 (qA hb.okl.le)) rfl
end Go.Proofs.Ytbgcphbbchndkaa
namespace Go.Proofs.Ytbgcphbbchndkaa
open Go.Abs
def ZB (a b : kT) : Bool := decide (a.slot = b.slot) && (decide (a.miner = b.miner) && (decide (a.variant = b.variant) && (decide (a.parent = b.parent) && decide (a.txs = b.txs))))
abbrev ahh (a b : kT) : zh := (aiN a).push (.cells (fBk b) (.own []) 0)
theorem ac3 (a b : kT) : Wi (bv b) (aiN a) = some (.pointer (some ⟨1, 0, none⟩), ahh a b) := by kernel_rfl
theorem Yk (a b : kT) : (ahh a b).get 0 = some (.cells (fBk a) (.own []) 0) := by kernel_rfl
theorem Yx (a b : kT) : (ahh a b).get 1 = some (.cells (fBk b) (.own []) 0) := by kernel_rfl
theorem jm.v {a b : kT} (ha : a.Ok) (hb : b.Ok) (S : zh) : zM Try.prog O jm.id [bv a, bv b] S = some (.bool (ZB a b), S) := by
 obtain ⟨T, hTe⟩ : ∃ T, T = (bv a :: bv b :: undef :: undef :: undef :: undef :: undef :: undef :: undef :: undef :: undef :: undef :: undef :: undef :: undef :: undef :: undef :: undef :: undef :: undef :: undef :: undef :: undef :: undef :: undef :: undef :: undef :: undef :: undef :: undef :: undef :: undef :: undef :: undef :: undef :: undef :: undef :: undef :: []) := ⟨_, rfl⟩
 have hr : zu Try.prog O false jm.code T zh.empty = zu Try.prog O false jm.code T zh.empty := rfl
 have l0 := aft (Yk a b)
 have m0 := aft (Yx a b)
 have l1 := afL (Yk a b)
 have m1 := afL (Yx a b)
 have l2 := afK (Yk a b)
 have m2 := afK (Yx a b)
 have l3 := aeF (Yk a b)
 have m3 := aeF (Yx a b)
 have l4 := aeD (Yk a b) ha.ne
 have m4 := aeD (Yx a b) hb.ne
 have c1 := fun S => slices_Equal.v ha.okl hb.okl ha.ne hb.ne (by have := ha.len; omega) S
 have cc : [bv a, bv b].all (jh 16) = true := all2 (qA ha.okl.le) (qA hb.okl.le)
 unfold ZB
 by_cases h1 : a.slot = b.slot
 ·
  have e1 := decide_eq_true h1
  by_cases h2 : a.miner = b.miner
  ·
   have e2 := decide_eq_true h2
   by_cases h3 : a.variant = b.variant
   ·
    have e3 := decide_eq_true h3
    by_cases h4 : a.parent = b.parent
    ·
     have e4 := decide_eq_true h4
     conv at hr =>
      rhs
      rw [hTe]
      simp only [jm.code, jm.rs, zSs, reduceIte, Nat.reduceEqDiff, Int.reduceEq, Int.reduceLT, Int.reduceLE, X7, ac3, jV, jU, jY, jW, jX, l0, l1, l2, l3, l4, m0, m1, m2, m3, m4, if_neg ha.ne, if_neg hb.ne, e1, e2, e3, e4, c1]
     rw [hTe] at hr
     rw [e1, Bool.true_and, e2, Bool.true_and, e3, Bool.true_and, e4, Bool.true_and]
     exact jm.runs hr (.inr rfl) cc rfl
    ·
     have e4 := decide_eq_false h4
     conv at hr =>
      rhs
      rw [hTe]
      simp only [jm.code, jm.rs, zSs, reduceIte, Nat.reduceEqDiff, Int.reduceEq, Int.reduceLT, Int.reduceLE, X7, ac3, jV, jU, jY, jW, jX, l0, l1, l2, l3, l4, m0, m1, m2, m3, m4, if_neg ha.ne, if_neg hb.ne, e1, e2, e3, e4]
     rw [hTe] at hr
     rw [e1, Bool.true_and, e2, Bool.true_and, e3, Bool.true_and, e4, Bool.false_and]
     exact jm.runs hr (.inr rfl) cc rfl
   ·
    have e3 := decide_eq_false h3
    conv at hr =>
     rhs
     rw [hTe]
     simp only [jm.code, jm.rs, zSs, reduceIte, Nat.reduceEqDiff, Int.reduceEq, Int.reduceLT, Int.reduceLE, X7, ac3, jV, jU, jY, jW, jX, l0, l1, l2, l3, l4, m0, m1, m2, m3, m4, if_neg ha.ne, if_neg hb.ne, e1, e2, e3]
    rw [hTe] at hr
    rw [e1, Bool.true_and, e2, Bool.true_and, e3, Bool.false_and]
    exact jm.runs hr (.inr rfl) cc rfl
  ·
   have e2 := decide_eq_false h2
   conv at hr =>
    rhs
    rw [hTe]
    simp only [jm.code, jm.rs, zSs, reduceIte, Nat.reduceEqDiff, Int.reduceEq, Int.reduceLT, Int.reduceLE, X7, ac3, jV, jU, jY, jW, jX, l0, l1, l2, l3, l4, m0, m1, m2, m3, m4, if_neg ha.ne, if_neg hb.ne, e1, e2]
   rw [hTe] at hr
   rw [e1, Bool.true_and, e2, Bool.false_and]
   exact jm.runs hr (.inr rfl) cc rfl
 ·
  have e1 := decide_eq_false h1
  conv at hr =>
   rhs
   rw [hTe]
   simp only [jm.code, jm.rs, zSs, reduceIte, Nat.reduceEqDiff, Int.reduceEq, Int.reduceLT, Int.reduceLE, X7, ac3, jV, jU, jY, jW, jX, l0, l1, l2, l3, l4, m0, m1, m2, m3, m4, if_neg ha.ne, if_neg hb.ne, e1]
  rw [hTe] at hr
  rw [e1, Bool.false_and]
  exact jm.runs hr (.inr rfl) cc rfl
def X8 (b : kT) : List UInt8 := encs [b.slot, b.miner, b.variant, b.parent] ++ aaI b.txs
def ag9 (b : kT) : Value := if jS b then .tuple #[by_ 2 (X8 b), .int .i64 0] else .tuple #[.slice none 0 0, .int .i64 71]
theorem JK {b : kT} (h : headB b = true) : ∀ n ∈ [b.slot, b.miner, b.variant, b.parent], 0 ≤ n ∧ n ≤ 268435455 := by
 obtain ⟨h1, h2, h3, h4⟩ := afi.mp h
 have h5 : 0 ≤ b.parent ∧ b.parent ≤ 268435455 := by
  rcases h4 with h4 | ⟨h4, _⟩
  ·
   omega
  ·
   have := ZA.mp h4; omega
 intro n hn
 simp only [List.mem_cons, List.not_mem_nil, or_false] at hn
 rcases hn with rfl | rfl | rfl | rfl <;> omega
theorem bs4 (a b c d : Int) (S : zh) : jy Try.prog 57 4 [(0, .int .i64 a), (1, .int .i64 b), (2, .int .i64 c), (3, .int .i64 d)] S = some (iz 2 [a, b, c, d], S) := by kernel_rfl
theorem aam {b : kT} (h : headB b = true) : (encs [b.slot, b.miner, b.variant, b.parent]).length ≤ 40 := by
 have h1 := JK h
 have := vY (l := [b.slot, b.miner, b.variant, b.parent]) (fun n hn => by have := h1 n hn; omega)
 exact this
theorem jd.v {b : kT} (hb : b.Ok) (S : zh) : zM Try.prog O jd.id [bv b] S = some (ag9 b, S) := by
 obtain ⟨T, hTe⟩ : ∃ T, T = (bv b :: undef :: undef :: undef :: undef :: undef :: undef :: undef :: undef :: undef :: undef :: undef :: undef :: undef :: undef :: undef :: undef :: undef :: undef :: undef :: undef :: undef :: undef :: undef :: undef :: undef :: undef :: undef :: undef :: undef :: undef :: undef :: undef :: []) := ⟨_, rfl⟩
 have hr : zu Try.prog O false jd.code T zh.empty = zu Try.prog O false jd.code T zh.empty := rfl
 have l0 := aft (qY b)
 have l1 := afL (qY b)
 have l2 := afK (qY b)
 have l3 := aeF (qY b)
 have l4 := aeD (qY b) hb.ne
 have lb := ahQ (qY b) hb.ne
 have c1 := fun S => zI.v hb S
 unfold ag9
 cases hR : jS b
 ·
  rw [hR] at c1
  conv at hr =>
   rhs
   rw [hTe]
   simp only [jd.code, jd.rs, zSs, reduceIte, Nat.reduceEqDiff, Int.reduceEq, Int.reduceLT, Int.reduceLE, X7, lb, c1]
  rw [hTe] at hr
  exact jd.runs hr (.inr rfl) rfl rfl (all1 (qA hb.okl.le)) rfl
 ·
  rw [hR] at c1
  have hh : headB b = true ∧ xR b.txs = true := by simpa [jS] using hR
  have few := JK hh.1
  have c2 := fun S => zJ.v (l := [b.slot, b.miner, b.variant, b.parent]) Okl.read (by decide) (fun n hn => by have := few n hn; omega) S
  have n2 := WR (k := 0) (l := [b.slot, b.miner, b.variant, b.parent]) (by simp) (fun n hn => by have := few n hn; omega) (by simp)
  have c3 := fun S => zX.v hb.okl hb.ne (by have := hb.len; omega) S
  have t3 : aiP b.txs = .tuple #[by_ 2 (aaI b.txs), .int .i64 0] := if_pos hh.2
  have ap : ∀ S, wz Try.prog 23 23 (by_ 2 (encs [b.slot, b.miner, b.variant, b.parent])) (by_ 1 (aaI b.txs)) S = some (by_ 2 (X8 b), S) := fun S => by
   rw [qF Okl.own (by decide) Okl.read (by have := aam hh.1; have := aae hh.2; omega)]; rfl
  conv at hr =>
   rhs
   rw [hTe]
   simp only [jd.code, jd.rs, zSs, reduceIte, Nat.reduceEqDiff, Int.reduceEq, Int.reduceLT, Int.reduceLE, X7, lb, c1, jV, jU, jY, jW, jX, l0, l1, l2, l3, l4, if_neg hb.ne, bs4, c2, n2, c3, t3, ap]
  rw [hTe] at hr
  exact jd.runs hr (.inr rfl) (by simp only [List.getD_cons_succ, List.getD_cons_zero, jM, jI, jk, jB, jJ]) rfl (all1 (qA hb.okl.le)) (wX (all2 (qg (k := 2) (Nat.le_refl 2)) rfl))
end Go.Proofs.Ytbgcphbbchndkaa
namespace Go.Proofs.Ytbgcphbbchndkaa
open Go.Abs
theorem af6 {α : Type} {f : α → List Value} {e k : Nat} {l : List α} {d : Nat} : okq d (vs f e k l) = true := by unfold vs sv; cases d <;> split <;> rfl
theorem aeg {R : Type} {a b c d : Int} {k : Nat} {l : List TxV} (r : Option R) (p : Je r) : okK (.agg [Value.int .i64 a, .int .i64 b, .int .i64 c, .int .i64 d, tl k l].toArray) r p = r := Wy (by
 show ([Value.int .i64 a, .int .i64 b, .int .i64 c, .int .i64 d, tl k l].toArray.toList.all (okq 2)) = true
 simp only [List.toList_toArray, List.all_cons, List.all_nil, af6, Bool.and_true]
 rfl) r p
theorem aiY (x : tBk.Val) (hg : tBk.Good x) : ∃ b : kT, tBk.Ws x = fBk b ∧ b.Ok := by
 obtain ⟨s, m, v, p, ts, u⟩ := x
 obtain ⟨h1, h2, h3, h4, h5, _⟩ := hg
 obtain ⟨k, l, p1, p2, p3, p4, p5⟩ := aiI ts h5
 refine ⟨⟨s, m, v, p, k, l⟩, ?_, ⟨p1, p2, p4, (Z4 h4).2⟩⟩
 show [Value.int .i64 s] ++ ([Value.int .i64 m] ++ ([Value.int .i64 v] ++ ([Value.int .i64 p] ++ ((Ty.slc 16 tTx).Ws ts ++ [])))) = _
 rw [p3]; rfl
end Go.Proofs.Ytbgcphbbchndkaa
namespace Go.Proofs.Ytbgcphbbchndkaa
open Go.Abs
abbrev bk0 : kT := ⟨0, 0, 0, 0, 0, []⟩
theorem aeX (S : zh) : wF Try.prog 28 S = some (.pointer (some ⟨S.next, 0, none⟩), S.push (.cells (fBk bk0) (.own []) 0)) := by kernel_rfl
theorem acL (b : kT) : (fBk b).all (·.oneCell') = true := by
 simp only [fBk, List.all_cons, List.all_nil, acW, agm, Bool.and_true]
theorem ai3 (S : zh) (b : kT) : ∃ S2, jP Try.prog 28 (.pointer (some ⟨S.next, 0, none⟩)) (bv b) (S.push (.cells (fBk bk0) (.own []) 0)) = some (undef, S2) ∧ S2.get S.next = some (.cells (fBk b) (.own []) 0) ∧ Ext S S2 ∧ S.next < S2.next :=
 Yl S (by rw [y7, List.toList_toArray]; rfl) xG rfl (acL b)
theorem ae5 {S S0 : zh} {q : Nat} {u : kT} (b : kT) (hg : S.get q = some (.cells (fBk u) (.own []) 0)) (hE : Ext S0 S) (hq : S0.next ≤ q) : ∃ S2, jP Try.prog 28 (.pointer (some ⟨q, 0, none⟩)) (bv b) S = some (undef, S2) ∧ S2.get q = some (.cells (fBk b) (.own []) 0) ∧ Ext S0 S2 ∧ S2.next = S.next ∧ ∀ k, k ≠ q → S2.get k = S.get k :=
 X3 hg xG rfl (acL b) (by simp [fBk]) hE hq
theorem aaQ {x y : kT} {r s : List UInt8} (hx : jS x = true) (hy : jS y = true) (h : X8 x ++ r = X8 y ++ s) : (x.slot = y.slot ∧ x.miner = y.miner ∧ x.variant = y.variant ∧ x.parent = y.parent ∧ x.txs = y.txs) ∧ r = s := by
 have h1 : headB x = true ∧ xR x.txs = true := by simpa [jS] using hx
 have h2 : headB y = true ∧ xR y.txs = true := by simpa [jS] using hy
 have f1 := JK h1.1
 have f2 := JK h2.1
 unfold X8 at h
 rw [List.append_assoc, List.append_assoc] at h
 obtain ⟨e1, e2⟩ := ZR (a := [x.slot, x.miner, x.variant, x.parent]) (c := [y.slot, y.miner, y.variant, y.parent]) rfl (fun n hn => by have := f1 n hn; unfold Few; omega) (fun n hn => by have := f2 n hn; unfold Few; omega) h
 obtain ⟨e3, e4⟩ := aaE h1.2 h2.2 e2
 simp only [List.cons.injEq, and_true] at e1
 exact ⟨⟨e1.1, e1.2.1, e1.2.2.1, e1.2.2.2, e3⟩, e4⟩
noncomputable def aem (l : List UInt8) : Option kT := rd (fun b => jS b = true ∧ b.k = 0) X8 l
theorem aiX {x y : kT} (h : x.slot = y.slot ∧ x.miner = y.miner ∧ x.variant = y.variant ∧ x.parent = y.parent ∧ x.txs = y.txs) (hk : x.k = y.k) : x = y := by
 cases x; cases y
 simp at h hk
 obtain ⟨rfl, rfl, rfl, rfl, rfl⟩ := h
 rw [hk]
theorem JI (l : List UInt8) (b : kT) : aem l = some b ↔ (jS b = true ∧ b.k = 0) ∧ l = X8 b :=
 ad4 (fun x y hx hy h => aiX (aaQ (r := []) (s := []) hx.1 hy.1 (by rw [List.append_nil, List.append_nil]; exact h)).1 (hx.2.trans hy.2.symm)) l b
theorem Ye {l : List UInt8} (h : ∀ b : kT, b.k = 0 → jS b = true → l ≠ X8 b) : aem l = none := by
 cases hr : aem l with
 | none => rfl
 | some b => obtain ⟨⟨h1, h2⟩, h3⟩ := (JI l b).mp hr; exact absurd h3 (h b h2 h1)
theorem agR (l : List UInt8) : wL 4 l = none ∨ ∃ a b c d r, wL 4 l = some ([a, b, c, d], r) ∧ r.length ≤ l.length := by
 cases h : wL 4 l with
 | none => exact .inl rfl
 | some ar =>
  obtain ⟨a, r⟩ := ar
  obtain ⟨h1, h2⟩ := ZK h
  match a, h1 with
  | [x, y, z, w], _ => exact .inr ⟨x, y, z, w, r, rfl, h2⟩
theorem Vx {l r : List UInt8} {b : kT} (hb : jS b = true) (h : l = X8 b ++ r) : wL 4 l = some ([b.slot, b.miner, b.variant, b.parent], aaI b.txs ++ r) := by
 have h1 : headB b = true ∧ xR b.txs = true := by simpa [jS] using hb
 have f1 := JK h1.1
 exact (wH _ _ _ _).mpr ⟨rfl, by rw [h, X8, List.append_assoc], fun n hn => by have := f1 n hn; unfold Few; omega⟩
theorem aa0 {l : List UInt8} (h : wL 4 l = none) : aem l = none := Ye fun b _ hb hl => by
 have := Vx (l := l) (r := []) hb (by rw [List.append_nil]; exact hl)
 rw [h] at this; cases this
theorem abd {l r : List UInt8} {a b c d : Int} (h : wL 4 l = some ([a, b, c, d], r)) (h2 : xU r = none) : aem l = none := Ye fun x _ hb hl => by
 have := Vx (l := l) (r := []) hb (by rw [List.append_nil]; exact hl)
 rw [h] at this
 simp only [Option.some.injEq, Prod.mk.injEq, List.append_nil] at this
 have h1 : headB x = true ∧ xR x.txs = true := by simpa [jS] using hb
 rw [(vS r x.txs).mpr ⟨h1.2, this.2⟩] at h2
 cases h2
theorem acd {l r : List UInt8} {a b c d : Int} {ts : List TxV} (h : wL 4 l = some ([a, b, c, d], r)) (h2 : xU r = some ts) : aem l = if jS ⟨a, b, c, d, 0, ts⟩ = true then some ⟨a, b, c, d, 0, ts⟩ else none := by
 obtain ⟨_, g2, _⟩ := (wH _ _ _ _).mp h
 obtain ⟨t1, t2⟩ := (vS r ts).mp h2
 split
 ·
  rename_i hR
  exact (JI _ _).mpr ⟨⟨hR, rfl⟩, by rw [g2, t2]; rfl⟩
 ·
  rename_i hR
  refine Ye fun x _ hb hl => hR ?_
  have := Vx (l := l) (r := []) hb (by rw [List.append_nil]; exact hl)
  rw [h] at this
  simp only [Option.some.injEq, Prod.mk.injEq, List.append_nil, List.cons.injEq, and_true] at this
  have h1 : headB x = true ∧ xR x.txs = true := by simpa [jS] using hb
  have h3 := (vS r x.txs).mpr ⟨h1.2, this.2⟩
  rw [h2] at h3
  injection h3 with h3
  obtain ⟨⟨i1, i2, i3, i4⟩, _⟩ := this
  rw [i1, i2, i3, i4, h3]
  exact hb
theorem acy (a b c d : Int) (k j : Nat) (t : List TxV) : jS ⟨a, b, c, d, k, t⟩ = jS ⟨a, b, c, d, j, t⟩ := rfl
def ag7 (l : List UInt8) (b : kT) (e : Int) : Prop := b.Ok ∧ b.txs.length ≤ 3 ∧ ((e = 0 ∧ aem l = some ⟨b.slot, b.miner, b.variant, b.parent, 0, b.txs⟩ ∧ jS b = true) ∨ (e = 71 ∧ aem l = none ∧ b = bk0))
theorem ok0 : bk0.Ok := ⟨Okl.none, by decide, by simp, by decide⟩
theorem zO.v {k : Nat} {l : List UInt8} (hk : Okl k l) (k2 : k ≠ 2) (hl : l.length ≤ 140737488355328) : ∃ b e, ag7 l b e ∧ ∀ S, zM Try.prog O zO.id [by_ k l] S = some (.tuple #[bv b, .int .i64 e], S) := by
 have a1 := aeX zh.empty
 have g1 : (zh.empty.push (.cells (fBk bk0) (.own []) 0)).get 0 = some (.cells (fBk bk0) (.own []) 0) := by kernel_rfl
 have n1 : (zh.empty.push (.cells (fBk bk0) (.own []) 0)).next = 1 := by kernel_rfl
 rw [show zh.empty.next = 0 from rfl] at a1
 have hE1 : Ext zh.empty (zh.empty.push (.cells (fBk bk0) (.own []) 0)) := Ext.push _ _
 have cl : [by_ k l].all (jh 16) = true := all1 (qg (k := k) hk.le)
 obtain ⟨T, hTe⟩ : ∃ T, T = (by_ k l :: undef :: undef :: undef :: undef :: undef :: undef :: undef :: undef :: undef :: undef :: undef :: undef :: undef :: undef :: undef :: undef :: undef :: undef :: undef :: undef :: undef :: undef :: undef :: undef :: undef :: undef :: undef :: undef :: undef :: undef :: undef :: undef :: undef :: undef :: undef :: undef :: undef :: undef :: undef :: undef :: undef :: undef :: undef :: undef :: undef :: []) := ⟨_, rfl⟩
 have hr : zu Try.prog O false zO.code T zh.empty = zu Try.prog O false zO.code T zh.empty := rfl
 have c1 := fun S => zn.v (many := 4) hk k2 hl S
 have r1 : ∀ k0 k1, Zv k0 k1 4 l = _ := fun k0 k1 => Zc (m := 4) (by decide) (by decide)
 rw [r1] at c1
 have z0 : ∀ S, yA Try.prog 28 [] S = some (bv bk0, S) := fun S => Xm S
 generalize zh.empty.push (.cells (fBk bk0) (.own []) 0) = S1 at a1 g1 n1 hE1
 rcases agR l with h | ⟨a, b, c, d, r, h, hlr⟩
 ·
  rw [h] at c1
  obtain ⟨S3, q1, q2, q3, q4, q5⟩ := ae5 bk0 g1 hE1 (Nat.zero_le _)
  refine ⟨bk0, 71, ⟨ok0, by simp, .inr ⟨rfl, aa0 h, rfl⟩⟩, fun S => ?_⟩
  conv at hr =>
   rhs
   rw [hTe]
   simp only [zO.code, zO.rs, zSs, reduceIte, Nat.reduceEqDiff, Int.reduceEq, Int.reduceLT, Int.reduceLE, if_neg k2, a1, c1, z0, q1]
  rw [hTe] at hr
  exact zO.runs hr (.inr rfl) (ahQ q2 (by decide)) rfl rfl cl rfl
 ·
  rw [h] at c1
  have i0 := fun S => Z5 (k := 1) (i := 0) (m := 0) (l := [a, b, c, d]) Okl.read rfl rfl S
  have i1 := fun S => Z5 (k := 1) (i := 1) (m := 1) (l := [a, b, c, d]) Okl.read rfl rfl S
  have i2 := fun S => Z5 (k := 1) (i := 2) (m := 2) (l := [a, b, c, d]) Okl.read rfl rfl S
  have i3 := fun S => Z5 (k := 1) (i := 3) (m := 3) (l := [a, b, c, d]) Okl.read rfl rfl S
  have few := ((wH _ _ _ _).mp h).2.2
  have fd : d ≤ 4611686018427387904 := (few d (by simp)).2
  obtain ⟨j, t, e, o1, o2, o3, o4⟩ := VB (j := 0) (by decide) r
  have c2 := fun S => zo.v (k := 1) (l := r) Okl.read (by decide) (by omega) S
  rw [o3] at c2
  have hok : kT.Ok ⟨a, b, c, d, if j = 2 then 1 else j, t⟩ := ⟨o1.dem, QK j, by show t.length * 16 ≤ _; omega, by show d < _; omega⟩
  obtain ⟨S2, p1, p2, p3, p4⟩ := ai3 S1 ⟨a, b, c, d, if j = 2 then 1 else j, t⟩
  have g2 : S2.get 0 = some (.cells (fBk bk0) (.own []) 0) := by rw [p3.get 0 (by omega), g1]
  have bd := fun S => Zj (y0 := .int .i64 a) (y1 := .int .i64 b) (y2 := .int .i64 c) (y3 := .int .i64 d) (y4 := tl (if j = 2 then 1 else j) t) qo qo qo qo aeR S
  have c3 : ∀ S, zM Try.prog O 39 [.agg [Value.int .i64 a, .int .i64 b, .int .i64 c, .int .i64 d, tl (if j = 2 then 1 else j) t].toArray] S = some (.bool (jS ⟨a, b, c, d, if j = 2 then 1 else j, t⟩), S) := fun S => zI.v hok S
  have lb : zS Try.prog false 28 (.pointer (some ⟨S1.next, 0, none⟩)) S2 = some (.agg [Value.int .i64 a, .int .i64 b, .int .i64 c, .int .i64 d, tl (if j = 2 then 1 else j) t].toArray, S2) := ahQ p2 (QK j)
  rcases o4 with ⟨rfl, hx⟩ | ⟨rfl, hx, rfl⟩
  ·
   cases hR : jS ⟨a, b, c, d, if j = 2 then 1 else j, t⟩
   ·
    rw [hR] at c3
    obtain ⟨S3, q1, q2, q3, q4, q5⟩ := ae5 bk0 g2 (Ext.trans hE1 p3) (Nat.zero_le _)
    refine ⟨bk0, 71, ⟨ok0, by simp, .inr ⟨rfl, ?_, rfl⟩⟩, fun S => ?_⟩
    ·
     rw [acd h hx, if_neg (by rw [acy a b c d 0 (if j = 2 then 1 else j) t, hR]; decide)]
    conv at hr =>
     rhs
     rw [hTe]
     simp only [zO.code, zO.rs, zSs, reduceIte, Nat.reduceEqDiff, Int.reduceEq, Int.reduceLT, Int.reduceLE, if_neg k2, a1, c1, c2, i0, i1, i2, i3, qZ, afY, bd, aeg, aeX, p1, lb, c3, z0, q1]
    rw [hTe] at hr
    exact zO.runs hr (.inr rfl) (ahQ q2 (by decide)) rfl rfl cl rfl
   ·
    rw [hR] at c3
    obtain ⟨S3, q1, q2, q3, q4, q5⟩ := ae5 ⟨a, b, c, d, if j = 2 then 1 else j, t⟩ g2 (Ext.trans hE1 p3) (Nat.zero_le _)
    refine ⟨⟨a, b, c, d, if j = 2 then 1 else j, t⟩, 0, ⟨hok, o2, .inl ⟨rfl, ?_, hR⟩⟩, fun S => ?_⟩
    ·
     rw [acd h hx, if_pos (by rw [acy a b c d 0 (if j = 2 then 1 else j) t, hR])]
    conv at hr =>
     rhs
     rw [hTe]
     simp only [zO.code, zO.rs, zSs, reduceIte, Nat.reduceEqDiff, Int.reduceEq, Int.reduceLT, Int.reduceLE, if_neg k2, a1, c1, c2, i0, i1, i2, i3, qZ, afY, bd, aeg, aeX, p1, lb, c3, q1]
    rw [hTe] at hr
    exact zO.runs hr (.inr rfl) (ahQ q2 (QK j)) rfl rfl cl (wX (all2 (qA (b := ⟨a, b, c, d, if j = 2 then 1 else j, t⟩) hok.okl.le) rfl))
  ·
   obtain ⟨S3, q1, q2, q3, q4, q5⟩ := ae5 bk0 g2 (Ext.trans hE1 p3) (Nat.zero_le _)
   refine ⟨bk0, 71, ⟨ok0, by simp, .inr ⟨rfl, abd h hx, rfl⟩⟩, fun S => ?_⟩
   conv at hr =>
    rhs
    rw [hTe]
    simp only [zO.code, zO.rs, zSs, reduceIte, Nat.reduceEqDiff, Int.reduceEq, Int.reduceLT, Int.reduceLE, if_neg k2, a1, c1, c2, i0, i1, i2, i3, qZ, afY, bd, aeg, aeX, p1, z0, q1]
   rw [hTe] at hr
   exact zO.runs hr (.inr rfl) (ahQ q2 (by decide)) rfl rfl cl rfl
end Go.Proofs.Ytbgcphbbchndkaa
namespace Go.Proofs.Ytbgcphbbchndkaa
open Go.Abs
structure jL where
 kind : Int
 frm : Int
 index : Int
 view : Int
 value : Int
 prep : Int
 tx : TxV
 b : kT
def fM (m : jL) : List Value := [.int .i64 m.kind, .int .i64 m.frm, .int .i64 m.index, .int .i64 m.view, .int .i64 m.value, .int .i64 m.prep, .int .i64 m.tx.id, .int .i64 m.tx.fee, .int .i64 m.b.slot, .int .i64 m.b.miner, .int .i64 m.b.variant, .int .i64 m.b.parent, tl m.b.k m.b.txs]
abbrev mv (m : jL) : Value := .agg [Value.int .i64 m.kind, .int .i64 m.frm, .int .i64 m.index, .int .i64 m.view, .int .i64 m.value, .int .i64 m.prep, .int .i64 m.tx.id, .int .i64 m.tx.fee, .int .i64 m.b.slot, .int .i64 m.b.miner, .int .i64 m.b.variant, .int .i64 m.b.parent, tl m.b.k m.b.txs].toArray
def Big (n : Int) : Prop := -9223372036854775808 ≤ n ∧ n < 9223372036854775808
structure jL.Ok (m : jL) : Prop where
 b : m.b.Ok
 tx : m.tx.Ok
 kind : Big m.kind
 frm : Big m.frm
 index : Big m.index
 view : Big m.view
 value : Big m.value
 prep : Big m.prep
abbrev m0 : jL := ⟨0, 0, 0, 0, 0, 0, ⟨0, 0⟩, bk0⟩
theorem mk_eq {x y : jL} (h1 : x.kind = y.kind) (h2 : x.frm = y.frm) (h3 : x.index = y.index) (h4 : x.view = y.view) (h5 : x.value = y.value) (h6 : x.prep = y.prep) (h7 : x.tx = y.tx) (h8 : x.b = y.b) : x = y := by
 cases x; cases y; simp_all
theorem wK {m : jL} {d : Nat} (h : m.b.k ≤ 2) : jh (d + 6) (mv m) = true := by
 have h1 : jh (d + 5) (tl m.b.k m.b.txs) = true := Za (d := d + 1) h fun _ _ => rfl
 refine Xi ?_
 simp only [List.all_cons, List.all_nil, h1, Bool.and_true]
 rfl
theorem aiu (m : jL) : (fM m).all (·.oneCell') = true := by
 simp only [fM, List.all_cons, List.all_nil, acW, agm, Bool.and_true]
section
variable {S : zh} {q e : Nat} {m : jL} {own : Own}
theorem wG (h : S.get q = some (.cells (fM m) own e)) : zS Try.prog false 3 (.pointer (some ⟨q, 0 + 0, none⟩)) S = some (.int .i64 m.kind, S) := qc (t := 3) (o := 0 + 0) h ZV rfl
theorem yK (h : S.get q = some (.cells (fM m) own e)) : zS Try.prog false 3 (.pointer (some ⟨q, 0 + 1, none⟩)) S = some (.int .i64 m.frm, S) := qc (t := 3) (o := 0 + 1) h ZV rfl
theorem qj (h : S.get q = some (.cells (fM m) own e)) : zS Try.prog false 3 (.pointer (some ⟨q, 0 + 2, none⟩)) S = some (.int .i64 m.index, S) := qc (t := 3) (o := 0 + 2) h ZV rfl
theorem qL (h : S.get q = some (.cells (fM m) own e)) : zS Try.prog false 3 (.pointer (some ⟨q, 0 + 3, none⟩)) S = some (.int .i64 m.view, S) := qc (t := 3) (o := 0 + 3) h ZV rfl
theorem yw (h : S.get q = some (.cells (fM m) own e)) : zS Try.prog false 3 (.pointer (some ⟨q, 0 + 4, none⟩)) S = some (.int .i64 m.value, S) := qc (t := 3) (o := 0 + 4) h ZV rfl
theorem kK (h : S.get q = some (.cells (fM m) own e)) : zS Try.prog false 3 (.pointer (some ⟨q, 0 + 5, none⟩)) S = some (.int .i64 m.prep, S) := qc (t := 3) (o := 0 + 5) h ZV rfl
theorem kW (h : S.get q = some (.cells (fM m) own e)) : zS Try.prog false 25 (.pointer (some ⟨q, 0 + 6, none⟩)) S = some (tv m.tx, S) := (Jt (o := 0 + 6) h KO xZ (by simp [fM])).trans (by simp [fM, xq])
theorem xJ (h : S.get q = some (.cells (fM m) own e)) (hk : m.b.k ≠ 2) : zS Try.prog false 28 (.pointer (some ⟨q, 0 + 8, none⟩)) S = some (bv m.b, S) := by
 rw [Jt (o := 0 + 8) h Yj xG (by simp [fM])]
 simp [fM, xq, VY, hk]
theorem qG (h : S.get q = some (.cells (fM m) own e)) (hk : m.b.k ≠ 2) : zS Try.prog false 30 (.pointer (some ⟨q, 0, none⟩)) S = some (mv m, S) := by
 rw [aby h]
 simp only [xq, VY, if_neg hk]
end
abbrev WC (m : jL) : zh := zh.empty.push (.cells (fM m) (.own []) 0)
theorem Zi (m : jL) : Wi (mv m) zh.empty = some (.pointer (some ⟨0, 0, none⟩), WC m) := rfl
theorem JU (m : jL) : (WC m).get 0 = some (.cells (fM m) (.own []) 0) := rfl
abbrev Vj (a b : jL) : zh := (WC a).push (.cells (fM b) (.own []) 0)
theorem Xl (a b : jL) : Wi (mv b) (WC a) = some (.pointer (some ⟨1, 0, none⟩), Vj a b) := by kernel_rfl
theorem adp (a b : jL) : (Vj a b).get 0 = some (.cells (fM a) (.own []) 0) := by kernel_rfl
theorem acg (a b : jL) : (Vj a b).get 1 = some (.cells (fM b) (.own []) 0) := by kernel_rfl
theorem YW (S : zh) : wF Try.prog 30 S = some (.pointer (some ⟨S.next, 0, none⟩), S.push (.cells (fM m0) (.own []) 0)) := by kernel_rfl
def Jh (a b : jL) : Bool := decide (a.kind = b.kind) && (decide (a.frm = b.frm) && (decide (a.index = b.index) && (decide (a.view = b.view) && (decide (a.value = b.value) && (decide (a.prep = b.prep) && (decide (a.tx = b.tx) && ZB a.b b.b))))))
theorem jq.v {a b : jL} (ha : a.Ok) (hb : b.Ok) (S : zh) : zM Try.prog O jq.id [mv a, mv b] S = some (.bool (Jh a b), S) := by
 obtain ⟨T, hTe⟩ : ∃ T, T = (mv a :: mv b :: undef :: undef :: undef :: undef :: undef :: undef :: undef :: undef :: undef :: undef :: undef :: undef :: undef :: undef :: undef :: undef :: undef :: undef :: undef :: undef :: undef :: undef :: undef :: undef :: undef :: undef :: undef :: undef :: undef :: undef :: undef :: undef :: undef :: undef :: undef :: undef :: undef :: undef :: undef :: undef :: undef :: undef :: undef :: undef :: undef :: undef :: undef :: undef :: undef :: undef :: undef :: undef :: undef :: undef :: undef :: undef :: undef :: undef :: undef :: []) := ⟨_, rfl⟩
 have hr : zu Try.prog O false jq.code T zh.empty = zu Try.prog O false jq.code T zh.empty := rfl
 have g0 := adp a b
 have g1 := acg a b
 have c1 := fun S => jm.v ha.b hb.b S
 have e1 := fun S => (ah9 a.tx b.tx S).1
 have hc : [mv a, mv b].all (jh 16) = true := all2 (wK ha.b.okl.le) (wK hb.b.okl.le)
 unfold Jh
 by_cases h1 : a.kind = b.kind
 ·
  by_cases h2 : a.frm = b.frm
  ·
   by_cases h3 : a.index = b.index
   ·
    by_cases h4 : a.view = b.view
    ·
     by_cases h5 : a.value = b.value
     ·
      by_cases h6 : a.prep = b.prep
      ·
       by_cases h7 : a.tx = b.tx
       ·
        rw [decide_eq_true h1, decide_eq_true h2, decide_eq_true h3, decide_eq_true h4, decide_eq_true h5, decide_eq_true h6, decide_eq_true h7]
        simp only [Bool.true_and]
        conv at hr =>
         rhs
         rw [hTe]
         simp only [jq.code, jq.rs, zSs, reduceIte, Nat.reduceEqDiff, Int.reduceEq, Int.reduceLT, Int.reduceLE, Zi, Xl, zL, zT, je, jg, zQ, jv, jo, jw, wG g0, wG g1, yK g0, yK g1, qj g0, qj g1, qL g0, qL g1, yw g0, yw g1, kK g0, kK g1, kW g0, kW g1, xJ g0 ha.b.ne, xJ g1 hb.b.ne, decide_eq_true h1, decide_eq_true h2, decide_eq_true h3, decide_eq_true h4, decide_eq_true h5, decide_eq_true h6, decide_eq_true h7, e1, c1]
        rw [hTe] at hr
        exact jq.runs hr (.inr rfl) hc rfl
       ·
        rw [decide_eq_false h7]
        simp only [Bool.false_and, Bool.and_false]
        conv at hr =>
         rhs
         rw [hTe]
         simp only [jq.code, jq.rs, zSs, reduceIte, Nat.reduceEqDiff, Int.reduceEq, Int.reduceLT, Int.reduceLE, Zi, Xl, zL, zT, je, jg, zQ, jv, jo, wG g0, wG g1, yK g0, yK g1, qj g0, qj g1, qL g0, qL g1, yw g0, yw g1, kK g0, kK g1, kW g0, kW g1, decide_eq_true h1, decide_eq_true h2, decide_eq_true h3, decide_eq_true h4, decide_eq_true h5, decide_eq_true h6, decide_eq_false h7, e1]
        rw [hTe] at hr
        exact jq.runs hr (.inr rfl) hc rfl
      ·
       rw [decide_eq_false h6]
       simp only [Bool.false_and, Bool.and_false]
       conv at hr =>
        rhs
        rw [hTe]
        simp only [jq.code, jq.rs, zSs, reduceIte, Nat.reduceEqDiff, Int.reduceEq, Int.reduceLT, Int.reduceLE, Zi, Xl, zL, zT, je, jg, zQ, jv, wG g0, wG g1, yK g0, yK g1, qj g0, qj g1, qL g0, qL g1, yw g0, yw g1, kK g0, kK g1, decide_eq_true h1, decide_eq_true h2, decide_eq_true h3, decide_eq_true h4, decide_eq_true h5, decide_eq_false h6]
       rw [hTe] at hr
       exact jq.runs hr (.inr rfl) hc rfl
     ·
      rw [decide_eq_false h5]
      simp only [Bool.false_and, Bool.and_false]
      conv at hr =>
       rhs
       rw [hTe]
       simp only [jq.code, jq.rs, zSs, reduceIte, Nat.reduceEqDiff, Int.reduceEq, Int.reduceLT, Int.reduceLE, Zi, Xl, zL, zT, je, jg, zQ, wG g0, wG g1, yK g0, yK g1, qj g0, qj g1, qL g0, qL g1, yw g0, yw g1, decide_eq_true h1, decide_eq_true h2, decide_eq_true h3, decide_eq_true h4, decide_eq_false h5]
      rw [hTe] at hr
      exact jq.runs hr (.inr rfl) hc rfl
    ·
     rw [decide_eq_false h4]
     simp only [Bool.false_and, Bool.and_false]
     conv at hr =>
      rhs
      rw [hTe]
      simp only [jq.code, jq.rs, zSs, reduceIte, Nat.reduceEqDiff, Int.reduceEq, Int.reduceLT, Int.reduceLE, Zi, Xl, zL, zT, je, jg, wG g0, wG g1, yK g0, yK g1, qj g0, qj g1, qL g0, qL g1, decide_eq_true h1, decide_eq_true h2, decide_eq_true h3, decide_eq_false h4]
     rw [hTe] at hr
     exact jq.runs hr (.inr rfl) hc rfl
   ·
    rw [decide_eq_false h3]
    simp only [Bool.false_and, Bool.and_false]
    conv at hr =>
     rhs
     rw [hTe]
     simp only [jq.code, jq.rs, zSs, reduceIte, Nat.reduceEqDiff, Int.reduceEq, Int.reduceLT, Int.reduceLE, Zi, Xl, zL, zT, je, wG g0, wG g1, yK g0, yK g1, qj g0, qj g1, decide_eq_true h1, decide_eq_true h2, decide_eq_false h3]
    rw [hTe] at hr
    exact jq.runs hr (.inr rfl) hc rfl
  ·
   rw [decide_eq_false h2]
   simp only [Bool.false_and, Bool.and_false]
   conv at hr =>
    rhs
    rw [hTe]
    simp only [jq.code, jq.rs, zSs, reduceIte, Nat.reduceEqDiff, Int.reduceEq, Int.reduceLT, Int.reduceLE, Zi, Xl, zL, zT, wG g0, wG g1, yK g0, yK g1, decide_eq_true h1, decide_eq_false h2]
   rw [hTe] at hr
   exact jq.runs hr (.inr rfl) hc rfl
 ·
  rw [decide_eq_false h1]
  simp only [Bool.false_and]
  conv at hr =>
   rhs
   rw [hTe]
   simp only [jq.code, jq.rs, zSs, reduceIte, Nat.reduceEqDiff, Int.reduceEq, Int.reduceLT, Int.reduceLE, Zi, Xl, zL, wG g0, wG g1, decide_eq_false h1]
  rw [hTe] at hr
  exact jq.runs hr (.inr rfl) hc rfl
end Go.Proofs.Ytbgcphbbchndkaa
namespace Go.Proofs.Ytbgcphbbchndkaa
open Go.Abs
def J3 (m : jL) : Bool := decide (m.kind = 4) || decide (m.kind = 5)
def yG (m : jL) : Bool := decide (m.value = 0) || decide (0 < JW m.value) || (J3 m && decide (m.value = -1))
theorem zY.v {m : jL} (hm : m.Ok) (S : zh) : zM Try.prog O zY.id [mv m] S = some (.bool (yG m), S) := by
 obtain ⟨T, hTe⟩ : ∃ T, T = (mv m :: undef :: undef :: undef :: undef :: undef :: undef :: undef :: undef :: undef :: undef :: undef :: undef :: undef :: undef :: undef :: undef :: undef :: undef :: undef :: undef :: undef :: undef :: undef :: undef :: undef :: undef :: undef :: undef :: []) := ⟨_, rfl⟩
 have hr : zu Try.prog O false zY.code T zh.empty = zu Try.prog O false zY.code T zh.empty := rfl
 have g0 := JU m
 have c1 := fun S => jD.v m.value S
 have hc : [mv m].all (jh 16) = true := all1 (wK hm.b.okl.le)
 by_cases k4 : m.kind = 4
 ·
  have hvote : J3 m = true := by simp [J3, k4]
  by_cases v0 : m.value = 0
  ·
   rw [show yG m = true from by simp [yG, v0]]
   conv at hr =>
    rhs
    rw [hTe]
    simp only [zY.code, zY.rs, zSs, reduceIte, Nat.reduceEqDiff, Int.reduceEq, Int.reduceLT, Int.reduceLE, Zi, zL, zQ, wG g0, yw g0, decide_eq_true k4, decide_eq_true v0]
   rw [hTe] at hr
   exact zY.runs hr (.inr rfl) hc rfl
  by_cases v1 : 0 < JW m.value
  ·
   rw [show yG m = true from by simp [yG, v1]]
   conv at hr =>
    rhs
    rw [hTe]
    simp only [zY.code, zY.rs, zSs, reduceIte, Nat.reduceEqDiff, Int.reduceEq, Int.reduceLT, Int.reduceLE, Zi, zL, zQ, wG g0, yw g0, decide_eq_true k4, decide_eq_false v0, c1, decide_eq_true v1]
   rw [hTe] at hr
   exact zY.runs hr (.inr rfl) hc rfl
  by_cases v2 : m.value = -1
  ·
   rw [show yG m = true from by simp [yG, v2, hvote]]
   conv at hr =>
    rhs
    rw [hTe]
    simp only [zY.code, zY.rs, zSs, reduceIte, Nat.reduceEqDiff, Int.reduceEq, Int.reduceLT, Int.reduceLE, Zi, zL, zQ, wG g0, yw g0, decide_eq_true k4, decide_eq_false v0, c1, decide_eq_false v1, decide_eq_true v2]
   rw [hTe] at hr
   exact zY.runs hr (.inr rfl) hc rfl
  rw [show yG m = false from by simp [yG, v0, v1, v2]]
  conv at hr =>
   rhs
   rw [hTe]
   simp only [zY.code, zY.rs, zSs, reduceIte, Nat.reduceEqDiff, Int.reduceEq, Int.reduceLT, Int.reduceLE, Zi, zL, zQ, wG g0, yw g0, decide_eq_true k4, decide_eq_false v0, c1, decide_eq_false v1, decide_eq_false v2]
  rw [hTe] at hr
  exact zY.runs hr (.inr rfl) hc rfl
 by_cases k5 : m.kind = 5
 ·
  have hvote : J3 m = true := by simp [J3, k5]
  by_cases v0 : m.value = 0
  ·
   rw [show yG m = true from by simp [yG, v0]]
   conv at hr =>
    rhs
    rw [hTe]
    simp only [zY.code, zY.rs, zSs, reduceIte, Nat.reduceEqDiff, Int.reduceEq, Int.reduceLT, Int.reduceLE, Zi, zL, zQ, wG g0, yw g0, decide_eq_false k4, decide_eq_true k5, decide_eq_true v0]
   rw [hTe] at hr
   exact zY.runs hr (.inr rfl) hc rfl
  by_cases v1 : 0 < JW m.value
  ·
   rw [show yG m = true from by simp [yG, v1]]
   conv at hr =>
    rhs
    rw [hTe]
    simp only [zY.code, zY.rs, zSs, reduceIte, Nat.reduceEqDiff, Int.reduceEq, Int.reduceLT, Int.reduceLE, Zi, zL, zQ, wG g0, yw g0, decide_eq_false k4, decide_eq_true k5, decide_eq_false v0, c1, decide_eq_true v1]
   rw [hTe] at hr
   exact zY.runs hr (.inr rfl) hc rfl
  by_cases v2 : m.value = -1
  ·
   rw [show yG m = true from by simp [yG, v2, hvote]]
   conv at hr =>
    rhs
    rw [hTe]
    simp only [zY.code, zY.rs, zSs, reduceIte, Nat.reduceEqDiff, Int.reduceEq, Int.reduceLT, Int.reduceLE, Zi, zL, zQ, wG g0, yw g0, decide_eq_false k4, decide_eq_true k5, decide_eq_false v0, c1, decide_eq_false v1, decide_eq_true v2]
   rw [hTe] at hr
   exact zY.runs hr (.inr rfl) hc rfl
  rw [show yG m = false from by simp [yG, v0, v1, v2]]
  conv at hr =>
   rhs
   rw [hTe]
   simp only [zY.code, zY.rs, zSs, reduceIte, Nat.reduceEqDiff, Int.reduceEq, Int.reduceLT, Int.reduceLE, Zi, zL, zQ, wG g0, yw g0, decide_eq_false k4, decide_eq_true k5, decide_eq_false v0, c1, decide_eq_false v1, decide_eq_false v2]
  rw [hTe] at hr
  exact zY.runs hr (.inr rfl) hc rfl
 have hvote : J3 m = false := by simp [J3, k4, k5]
 by_cases v0 : m.value = 0
 ·
  rw [show yG m = true from by simp [yG, v0]]
  conv at hr =>
   rhs
   rw [hTe]
   simp only [zY.code, zY.rs, zSs, reduceIte, Nat.reduceEqDiff, Int.reduceEq, Int.reduceLT, Int.reduceLE, Zi, zL, zQ, wG g0, yw g0, decide_eq_false k4, decide_eq_false k5, decide_eq_true v0]
  rw [hTe] at hr
  exact zY.runs hr (.inr rfl) hc rfl
 by_cases v1 : 0 < JW m.value
 ·
  rw [show yG m = true from by simp [yG, v1]]
  conv at hr =>
   rhs
   rw [hTe]
   simp only [zY.code, zY.rs, zSs, reduceIte, Nat.reduceEqDiff, Int.reduceEq, Int.reduceLT, Int.reduceLE, Zi, zL, zQ, wG g0, yw g0, decide_eq_false k4, decide_eq_false k5, decide_eq_false v0, c1, decide_eq_true v1]
  rw [hTe] at hr
  exact zY.runs hr (.inr rfl) hc rfl
 rw [show yG m = false from by simp [yG, v0, v1, hvote]]
 conv at hr =>
  rhs
  rw [hTe]
  simp only [zY.code, zY.rs, zSs, reduceIte, Nat.reduceEqDiff, Int.reduceEq, Int.reduceLT, Int.reduceLE, Zi, zL, zQ, wG g0, yw g0, decide_eq_false k4, decide_eq_false k5, decide_eq_false v0, c1, decide_eq_false v1]
 rw [hTe] at hr
 exact zY.runs hr (.inr rfl) hc rfl
def wC (m : jL) : jL :=
 if m.kind = 0 then ⟨m.kind, m.frm, 0, 0, 0, 0, m.tx, bk0⟩
 else if m.kind = 1 then ⟨m.kind, m.frm, 0, 0, 0, 0, ⟨0, 0⟩, m.b⟩
 else if m.kind = 2 then ⟨m.kind, m.frm, 0, 0, m.value, 0, ⟨0, 0⟩, bk0⟩
 else if m.kind = 3 then ⟨m.kind, m.frm, m.index, m.view, m.value, m.prep, ⟨0, 0⟩, bk0⟩
 else if m.kind = 4 then ⟨m.kind, m.frm, m.index, m.view, m.value, 0, ⟨0, 0⟩, bk0⟩
 else if m.kind = 5 then ⟨m.kind, m.frm, m.index, m.view, m.value, 0, ⟨0, 0⟩, bk0⟩
 else ⟨m.kind, m.frm, m.index, 0, m.value, 0, ⟨0, 0⟩, bk0⟩
abbrev yM (S : zh) (q : Nat) (x : jL) : zh := (S.kills []).set q (.cells (fM x) (.own []) 0)
theorem jG (S : zh) (q : Nat) (x : jL) : (yM S q x).get q = some (.cells (fM x) (.own []) 0) := by rw [zh.wJ, if_pos rfl]
theorem jR {S : zh} {q k : Nat} {x : jL} (h : k ≠ q) : (yM S q x).get k = S.get k := by rw [zh.wJ, if_neg h]; rfl
theorem ZQ {S : zh} {q k o : Nat} {x y : jL} (h : S.get k = some (.cells (fM y) (.own []) 0)) (hk : k ≠ q) : qx (.pointer (some ⟨k, o, none⟩)) S (yM S q x) = true := by
 have hl : (yM S q x).log = q :: S.log := rfl
 simp only [qx, h, hl, List.length_cons, Nat.add_sub_cancel_left, List.take_succ_cons, List.take_zero]
 simp [hk]
section
variable {S : zh} {q : Nat} {x : jL}
theorem WY (h : S.get q = some (.cells (fM x) (.own []) 0)) (y : jL) : jP Try.prog 30 (.pointer (some ⟨q, 0, none⟩)) (mv y) S = some (undef, yM S q y) := by
 rw [qQ (x := mv y) (n := 13) h Yq (by rw [y7]; rfl) (by rw [y7, List.toList_toArray]; exact aiu y) (by simp [fM]), y7, List.toList_toArray]; rfl
theorem aiT (h : S.get q = some (.cells (fM x) (.own []) 0)) (v : Int) : jP Try.prog 3 (.pointer (some ⟨q, 0 + 1, none⟩)) (.int .i64 v) S = some (undef, yM S q { x with frm := v }) := by
 rw [qQ (n := 1) h Vz rfl rfl (by simp [fM])]; rfl
theorem afy (h : S.get q = some (.cells (fM x) (.own []) 0)) (v : Int) : jP Try.prog 3 (.pointer (some ⟨q, 0 + 2, none⟩)) (.int .i64 v) S = some (undef, yM S q { x with index := v }) := by
 rw [qQ (n := 1) h Vz rfl rfl (by simp [fM])]; rfl
theorem ahw (h : S.get q = some (.cells (fM x) (.own []) 0)) (v : Int) : jP Try.prog 3 (.pointer (some ⟨q, 0 + 3, none⟩)) (.int .i64 v) S = some (undef, yM S q { x with view := v }) := by
 rw [qQ (n := 1) h Vz rfl rfl (by simp [fM])]; rfl
theorem acY (h : S.get q = some (.cells (fM x) (.own []) 0)) (v : Int) : jP Try.prog 3 (.pointer (some ⟨q, 0 + 4, none⟩)) (.int .i64 v) S = some (undef, yM S q { x with value := v }) := by
 rw [qQ (n := 1) h Vz rfl rfl (by simp [fM])]; rfl
theorem ai0 (h : S.get q = some (.cells (fM x) (.own []) 0)) (v : Int) : jP Try.prog 3 (.pointer (some ⟨q, 0 + 5, none⟩)) (.int .i64 v) S = some (undef, yM S q { x with prep := v }) := by
 rw [qQ (n := 1) h Vz rfl rfl (by simp [fM])]; rfl
theorem aik (h : S.get q = some (.cells (fM x) (.own []) 0)) (t : TxV) : jP Try.prog 25 (.pointer (some ⟨q, 0 + 6, none⟩)) (tv t) S = some (undef, yM S q { x with tx := t }) := by
 rw [qQ (n := 2) h xZ rfl rfl (by simp [fM])]; rfl
theorem aiL (h : S.get q = some (.cells (fM x) (.own []) 0)) (b : kT) : jP Try.prog 28 (.pointer (some ⟨q, 0 + 8, none⟩)) (bv b) S = some (undef, yM S q { x with b := b }) := by
 rw [qQ (x := bv b) (n := 5) h xG (by rw [y7]; rfl) (by rw [y7, List.toList_toArray]; exact acL b) (by simp [fM]), y7, List.toList_toArray]; rfl
end
theorem zx.v0 {m : jL} (hm : m.Ok) (hk : m.kind = 0) (S : zh) : zM Try.prog O zx.id [mv m] S = some (mv (wC m), S) := by
 obtain ⟨T, hTe⟩ : ∃ T, T = (mv m :: undef :: undef :: undef :: undef :: undef :: undef :: undef :: undef :: undef :: undef :: undef :: undef :: undef :: undef :: undef :: undef :: undef :: undef :: undef :: undef :: undef :: undef :: undef :: undef :: undef :: undef :: undef :: undef :: undef :: undef :: undef :: undef :: undef :: undef :: undef :: undef :: undef :: undef :: undef :: undef :: undef :: undef :: undef :: undef :: undef :: []) := ⟨_, rfl⟩
 have hr : zu Try.prog O false zx.code T zh.empty = zu Try.prog O false zx.code T zh.empty := rfl
 obtain ⟨A1, hA1⟩ : ∃ A, A = (WC m).push (.cells (fM m0) (.own []) 0) := ⟨_, rfl⟩
 have a1 : wF Try.prog 30 (WC m) = some (.pointer (some ⟨1, 0, none⟩), A1) := by rw [hA1]; exact YW _
 have p0 : A1.get 0 = some (.cells (fM m) (.own []) 0) := by rw [hA1]; kernel_rfl
 obtain ⟨A2, hA2⟩ : ∃ A, A = A1.push (.cells (fM m0) (.own []) 0) := ⟨_, rfl⟩
 have a2 : wF Try.prog 30 A1 = some (.pointer (some ⟨2, 0, none⟩), A2) := by rw [hA2, hA1]; exact YW _
 have q0 : A2.get 0 = some (.cells (fM m) (.own []) 0) := by rw [hA2, hA1]; kernel_rfl
 have q1 : A2.get 1 = some (.cells (fM m0) (.own []) 0) := by rw [hA2, hA1]; kernel_rfl
 have q2 : A2.get 2 = some (.cells (fM m0) (.own []) 0) := by rw [hA2, hA1]; kernel_rfl
 have s0 : jP Try.prog 30 (.pointer (some ⟨2, 0, none⟩)) (.agg [Value.int .i64 m.kind, .int .i64 m.frm, .int .i64 0, .int .i64 0, .int .i64 0, .int .i64 0, .int .i64 0, .int .i64 0, .int .i64 0, .int .i64 0, .int .i64 0, .int .i64 0, .slice none 0 0].toArray) A2 = some (undef, yM A2 2 (⟨m.kind, m.frm, 0, 0, 0, 0, ⟨0, 0⟩, bk0⟩ : jL)) := WY q2 (⟨m.kind, m.frm, 0, 0, 0, 0, ⟨0, 0⟩, bk0⟩ : jL)
 have b0 : (yM A2 2 (⟨m.kind, m.frm, 0, 0, 0, 0, ⟨0, 0⟩, bk0⟩ : jL)).get 0 = some (.cells (fM m) (.own []) 0) := (jR (by decide)).trans q0
 have b1 : (yM A2 2 (⟨m.kind, m.frm, 0, 0, 0, 0, ⟨0, 0⟩, bk0⟩ : jL)).get 1 = some (.cells (fM m0) (.own []) 0) := (jR (by decide)).trans q1
 have b2 := jG A2 2 (⟨m.kind, m.frm, 0, 0, 0, 0, ⟨0, 0⟩, bk0⟩ : jL)
 generalize hB0 : yM A2 2 (⟨m.kind, m.frm, 0, 0, 0, 0, ⟨0, 0⟩, bk0⟩ : jL) = B0 at s0 b0 b1 b2
 have s1 := aik b2 m.tx
 have c1_0 : (yM B0 2 (⟨m.kind, m.frm, 0, 0, 0, 0, m.tx, bk0⟩ : jL)).get 0 = some (.cells (fM m) (.own []) 0) := (jR (by decide)).trans b0
 have c1_1 : (yM B0 2 (⟨m.kind, m.frm, 0, 0, 0, 0, m.tx, bk0⟩ : jL)).get 1 = some (.cells (fM m0) (.own []) 0) := (jR (by decide)).trans b1
 have c1_2 := jG B0 2 (⟨m.kind, m.frm, 0, 0, 0, 0, m.tx, bk0⟩ : jL)
 dsimp only at s1
 generalize hB1 : yM B0 2 (⟨m.kind, m.frm, 0, 0, 0, 0, m.tx, bk0⟩ : jL) = B1 at s1  c1_0 c1_1 c1_2
 have eb : (⟨m.kind, m.frm, 0, 0, 0, 0, m.tx, bk0⟩ : jL) = wC m := by simp [wC, hk]
 rw [eb] at c1_2
 have hbk : (wC m).b.k ≠ 2 := by simp [wC, hk]
 have ld := qG c1_2 hbk
 have sl := WY c1_1 (wC m)
 have fin := qG (jG B1 1 (wC m)) hbk
 have hcb : (wC m).b.k ≤ 2 := by simp [wC, hk]
 conv at hr =>
  rhs
  rw [hTe]
  simp only [zx.code, zx.rs, zSs, reduceIte, Nat.reduceEqDiff, Int.reduceEq, Int.reduceLT, Int.reduceLE, Zi, a1, a2, zL, zT, wG p0, yK p0, yZ (y0 := .int .i64 m.kind) (y1 := .int .i64 m.frm) rfl rfl, s0, wG b0, jo, s1, kW b0, decide_eq_true hk, vU, ld, sl]
 rw [hTe] at hr
 exact zx.runs hr (.inr rfl) fin (all1 (wK hm.b.okl.le)) (wK hcb)
theorem zx.v1 {m : jL} (hm : m.Ok) (hk : m.kind = 1) (S : zh) : zM Try.prog O zx.id [mv m] S = some (mv (wC m), S) := by
 obtain ⟨T, hTe⟩ : ∃ T, T = (mv m :: undef :: undef :: undef :: undef :: undef :: undef :: undef :: undef :: undef :: undef :: undef :: undef :: undef :: undef :: undef :: undef :: undef :: undef :: undef :: undef :: undef :: undef :: undef :: undef :: undef :: undef :: undef :: undef :: undef :: undef :: undef :: undef :: undef :: undef :: undef :: undef :: undef :: undef :: undef :: undef :: undef :: undef :: undef :: undef :: undef :: []) := ⟨_, rfl⟩
 have hr : zu Try.prog O false zx.code T zh.empty = zu Try.prog O false zx.code T zh.empty := rfl
 obtain ⟨A1, hA1⟩ : ∃ A, A = (WC m).push (.cells (fM m0) (.own []) 0) := ⟨_, rfl⟩
 have a1 : wF Try.prog 30 (WC m) = some (.pointer (some ⟨1, 0, none⟩), A1) := by rw [hA1]; exact YW _
 have p0 : A1.get 0 = some (.cells (fM m) (.own []) 0) := by rw [hA1]; kernel_rfl
 obtain ⟨A2, hA2⟩ : ∃ A, A = A1.push (.cells (fM m0) (.own []) 0) := ⟨_, rfl⟩
 have a2 : wF Try.prog 30 A1 = some (.pointer (some ⟨2, 0, none⟩), A2) := by rw [hA2, hA1]; exact YW _
 have q0 : A2.get 0 = some (.cells (fM m) (.own []) 0) := by rw [hA2, hA1]; kernel_rfl
 have q1 : A2.get 1 = some (.cells (fM m0) (.own []) 0) := by rw [hA2, hA1]; kernel_rfl
 have q2 : A2.get 2 = some (.cells (fM m0) (.own []) 0) := by rw [hA2, hA1]; kernel_rfl
 have s0 : jP Try.prog 30 (.pointer (some ⟨2, 0, none⟩)) (.agg [Value.int .i64 m.kind, .int .i64 m.frm, .int .i64 0, .int .i64 0, .int .i64 0, .int .i64 0, .int .i64 0, .int .i64 0, .int .i64 0, .int .i64 0, .int .i64 0, .int .i64 0, .slice none 0 0].toArray) A2 = some (undef, yM A2 2 (⟨m.kind, m.frm, 0, 0, 0, 0, ⟨0, 0⟩, bk0⟩ : jL)) := WY q2 (⟨m.kind, m.frm, 0, 0, 0, 0, ⟨0, 0⟩, bk0⟩ : jL)
 have b0 : (yM A2 2 (⟨m.kind, m.frm, 0, 0, 0, 0, ⟨0, 0⟩, bk0⟩ : jL)).get 0 = some (.cells (fM m) (.own []) 0) := (jR (by decide)).trans q0
 have b1 : (yM A2 2 (⟨m.kind, m.frm, 0, 0, 0, 0, ⟨0, 0⟩, bk0⟩ : jL)).get 1 = some (.cells (fM m0) (.own []) 0) := (jR (by decide)).trans q1
 have b2 := jG A2 2 (⟨m.kind, m.frm, 0, 0, 0, 0, ⟨0, 0⟩, bk0⟩ : jL)
 generalize hB0 : yM A2 2 (⟨m.kind, m.frm, 0, 0, 0, 0, ⟨0, 0⟩, bk0⟩ : jL) = B0 at s0 b0 b1 b2
 have s1 := aiL b2 m.b
 have c1_0 : (yM B0 2 (⟨m.kind, m.frm, 0, 0, 0, 0, ⟨0, 0⟩, m.b⟩ : jL)).get 0 = some (.cells (fM m) (.own []) 0) := (jR (by decide)).trans b0
 have c1_1 : (yM B0 2 (⟨m.kind, m.frm, 0, 0, 0, 0, ⟨0, 0⟩, m.b⟩ : jL)).get 1 = some (.cells (fM m0) (.own []) 0) := (jR (by decide)).trans b1
 have c1_2 := jG B0 2 (⟨m.kind, m.frm, 0, 0, 0, 0, ⟨0, 0⟩, m.b⟩ : jL)
 dsimp only at s1
 generalize hB1 : yM B0 2 (⟨m.kind, m.frm, 0, 0, 0, 0, ⟨0, 0⟩, m.b⟩ : jL) = B1 at s1  c1_0 c1_1 c1_2
 have eb : (⟨m.kind, m.frm, 0, 0, 0, 0, ⟨0, 0⟩, m.b⟩ : jL) = wC m := by simp [wC, hk]
 rw [eb] at c1_2
 have hbk : (wC m).b.k ≠ 2 := by simp [wC, hk, hm.b.ne]
 have ld := qG c1_2 hbk
 have sl := WY c1_1 (wC m)
 have fin := qG (jG B1 1 (wC m)) hbk
 have hcb : (wC m).b.k ≤ 2 := by simp [wC, hk, hm.b.okl.le]
 conv at hr =>
  rhs
  rw [hTe]
  simp only [zx.code, zx.rs, zSs, reduceIte, Nat.reduceEqDiff, Int.reduceEq, Int.reduceLT, Int.reduceLE, Zi, a1, a2, zL, zT, wG p0, yK p0, yZ (y0 := .int .i64 m.kind) (y1 := .int .i64 m.frm) rfl rfl, s0, wG b0, jw, s1, xJ b0 hm.b.ne, decide_eq_false (show ¬ m.kind = 0 by omega), decide_eq_true hk, vU, ld, sl]
 rw [hTe] at hr
 exact zx.runs hr (.inr rfl) fin (all1 (wK hm.b.okl.le)) (wK hcb)
theorem zx.v2 {m : jL} (hm : m.Ok) (hk : m.kind = 2) (S : zh) : zM Try.prog O zx.id [mv m] S = some (mv (wC m), S) := by
 obtain ⟨T, hTe⟩ : ∃ T, T = (mv m :: undef :: undef :: undef :: undef :: undef :: undef :: undef :: undef :: undef :: undef :: undef :: undef :: undef :: undef :: undef :: undef :: undef :: undef :: undef :: undef :: undef :: undef :: undef :: undef :: undef :: undef :: undef :: undef :: undef :: undef :: undef :: undef :: undef :: undef :: undef :: undef :: undef :: undef :: undef :: undef :: undef :: undef :: undef :: undef :: undef :: []) := ⟨_, rfl⟩
 have hr : zu Try.prog O false zx.code T zh.empty = zu Try.prog O false zx.code T zh.empty := rfl
 obtain ⟨A1, hA1⟩ : ∃ A, A = (WC m).push (.cells (fM m0) (.own []) 0) := ⟨_, rfl⟩
 have a1 : wF Try.prog 30 (WC m) = some (.pointer (some ⟨1, 0, none⟩), A1) := by rw [hA1]; exact YW _
 have p0 : A1.get 0 = some (.cells (fM m) (.own []) 0) := by rw [hA1]; kernel_rfl
 obtain ⟨A2, hA2⟩ : ∃ A, A = A1.push (.cells (fM m0) (.own []) 0) := ⟨_, rfl⟩
 have a2 : wF Try.prog 30 A1 = some (.pointer (some ⟨2, 0, none⟩), A2) := by rw [hA2, hA1]; exact YW _
 have q0 : A2.get 0 = some (.cells (fM m) (.own []) 0) := by rw [hA2, hA1]; kernel_rfl
 have q1 : A2.get 1 = some (.cells (fM m0) (.own []) 0) := by rw [hA2, hA1]; kernel_rfl
 have q2 : A2.get 2 = some (.cells (fM m0) (.own []) 0) := by rw [hA2, hA1]; kernel_rfl
 have s0 : jP Try.prog 30 (.pointer (some ⟨2, 0, none⟩)) (.agg [Value.int .i64 m.kind, .int .i64 m.frm, .int .i64 0, .int .i64 0, .int .i64 0, .int .i64 0, .int .i64 0, .int .i64 0, .int .i64 0, .int .i64 0, .int .i64 0, .int .i64 0, .slice none 0 0].toArray) A2 = some (undef, yM A2 2 (⟨m.kind, m.frm, 0, 0, 0, 0, ⟨0, 0⟩, bk0⟩ : jL)) := WY q2 (⟨m.kind, m.frm, 0, 0, 0, 0, ⟨0, 0⟩, bk0⟩ : jL)
 have b0 : (yM A2 2 (⟨m.kind, m.frm, 0, 0, 0, 0, ⟨0, 0⟩, bk0⟩ : jL)).get 0 = some (.cells (fM m) (.own []) 0) := (jR (by decide)).trans q0
 have b1 : (yM A2 2 (⟨m.kind, m.frm, 0, 0, 0, 0, ⟨0, 0⟩, bk0⟩ : jL)).get 1 = some (.cells (fM m0) (.own []) 0) := (jR (by decide)).trans q1
 have b2 := jG A2 2 (⟨m.kind, m.frm, 0, 0, 0, 0, ⟨0, 0⟩, bk0⟩ : jL)
 generalize hB0 : yM A2 2 (⟨m.kind, m.frm, 0, 0, 0, 0, ⟨0, 0⟩, bk0⟩ : jL) = B0 at s0 b0 b1 b2
 have s1 := acY b2 m.value
 have c1_0 : (yM B0 2 (⟨m.kind, m.frm, 0, 0, m.value, 0, ⟨0, 0⟩, bk0⟩ : jL)).get 0 = some (.cells (fM m) (.own []) 0) := (jR (by decide)).trans b0
 have c1_1 : (yM B0 2 (⟨m.kind, m.frm, 0, 0, m.value, 0, ⟨0, 0⟩, bk0⟩ : jL)).get 1 = some (.cells (fM m0) (.own []) 0) := (jR (by decide)).trans b1
 have c1_2 := jG B0 2 (⟨m.kind, m.frm, 0, 0, m.value, 0, ⟨0, 0⟩, bk0⟩ : jL)
 dsimp only at s1
 generalize hB1 : yM B0 2 (⟨m.kind, m.frm, 0, 0, m.value, 0, ⟨0, 0⟩, bk0⟩ : jL) = B1 at s1  c1_0 c1_1 c1_2
 have eb : (⟨m.kind, m.frm, 0, 0, m.value, 0, ⟨0, 0⟩, bk0⟩ : jL) = wC m := by simp [wC, hk]
 rw [eb] at c1_2
 have hbk : (wC m).b.k ≠ 2 := by simp [wC, hk]
 have ld := qG c1_2 hbk
 have sl := WY c1_1 (wC m)
 have fin := qG (jG B1 1 (wC m)) hbk
 have hcb : (wC m).b.k ≤ 2 := by simp [wC, hk]
 conv at hr =>
  rhs
  rw [hTe]
  simp only [zx.code, zx.rs, zSs, reduceIte, Nat.reduceEqDiff, Int.reduceEq, Int.reduceLT, Int.reduceLE, Zi, a1, a2, zL, zT, wG p0, yK p0, yZ (y0 := .int .i64 m.kind) (y1 := .int .i64 m.frm) rfl rfl, s0, wG b0, zQ, s1, yw b0, decide_eq_false (show ¬ m.kind = 0 by omega), decide_eq_false (show ¬ m.kind = 1 by omega), decide_eq_true hk, vU, ld, sl]
 rw [hTe] at hr
 exact zx.runs hr (.inr rfl) fin (all1 (wK hm.b.okl.le)) (wK hcb)
theorem zx.v3 {m : jL} (hm : m.Ok) (hk : m.kind = 3) (S : zh) : zM Try.prog O zx.id [mv m] S = some (mv (wC m), S) := by
 obtain ⟨T, hTe⟩ : ∃ T, T = (mv m :: undef :: undef :: undef :: undef :: undef :: undef :: undef :: undef :: undef :: undef :: undef :: undef :: undef :: undef :: undef :: undef :: undef :: undef :: undef :: undef :: undef :: undef :: undef :: undef :: undef :: undef :: undef :: undef :: undef :: undef :: undef :: undef :: undef :: undef :: undef :: undef :: undef :: undef :: undef :: undef :: undef :: undef :: undef :: undef :: undef :: []) := ⟨_, rfl⟩
 have hr : zu Try.prog O false zx.code T zh.empty = zu Try.prog O false zx.code T zh.empty := rfl
 obtain ⟨A1, hA1⟩ : ∃ A, A = (WC m).push (.cells (fM m0) (.own []) 0) := ⟨_, rfl⟩
 have a1 : wF Try.prog 30 (WC m) = some (.pointer (some ⟨1, 0, none⟩), A1) := by rw [hA1]; exact YW _
 have p0 : A1.get 0 = some (.cells (fM m) (.own []) 0) := by rw [hA1]; kernel_rfl
 obtain ⟨A2, hA2⟩ : ∃ A, A = A1.push (.cells (fM m0) (.own []) 0) := ⟨_, rfl⟩
 have a2 : wF Try.prog 30 A1 = some (.pointer (some ⟨2, 0, none⟩), A2) := by rw [hA2, hA1]; exact YW _
 have q0 : A2.get 0 = some (.cells (fM m) (.own []) 0) := by rw [hA2, hA1]; kernel_rfl
 have q1 : A2.get 1 = some (.cells (fM m0) (.own []) 0) := by rw [hA2, hA1]; kernel_rfl
 have q2 : A2.get 2 = some (.cells (fM m0) (.own []) 0) := by rw [hA2, hA1]; kernel_rfl
 have s0 : jP Try.prog 30 (.pointer (some ⟨2, 0, none⟩)) (.agg [Value.int .i64 m.kind, .int .i64 m.frm, .int .i64 0, .int .i64 0, .int .i64 0, .int .i64 0, .int .i64 0, .int .i64 0, .int .i64 0, .int .i64 0, .int .i64 0, .int .i64 0, .slice none 0 0].toArray) A2 = some (undef, yM A2 2 (⟨m.kind, m.frm, 0, 0, 0, 0, ⟨0, 0⟩, bk0⟩ : jL)) := WY q2 (⟨m.kind, m.frm, 0, 0, 0, 0, ⟨0, 0⟩, bk0⟩ : jL)
 have b0 : (yM A2 2 (⟨m.kind, m.frm, 0, 0, 0, 0, ⟨0, 0⟩, bk0⟩ : jL)).get 0 = some (.cells (fM m) (.own []) 0) := (jR (by decide)).trans q0
 have b1 : (yM A2 2 (⟨m.kind, m.frm, 0, 0, 0, 0, ⟨0, 0⟩, bk0⟩ : jL)).get 1 = some (.cells (fM m0) (.own []) 0) := (jR (by decide)).trans q1
 have b2 := jG A2 2 (⟨m.kind, m.frm, 0, 0, 0, 0, ⟨0, 0⟩, bk0⟩ : jL)
 generalize hB0 : yM A2 2 (⟨m.kind, m.frm, 0, 0, 0, 0, ⟨0, 0⟩, bk0⟩ : jL) = B0 at s0 b0 b1 b2
 have s1 := ai0 b2 m.prep
 have c1_0 : (yM B0 2 (⟨m.kind, m.frm, 0, 0, 0, m.prep, ⟨0, 0⟩, bk0⟩ : jL)).get 0 = some (.cells (fM m) (.own []) 0) := (jR (by decide)).trans b0
 have c1_1 : (yM B0 2 (⟨m.kind, m.frm, 0, 0, 0, m.prep, ⟨0, 0⟩, bk0⟩ : jL)).get 1 = some (.cells (fM m0) (.own []) 0) := (jR (by decide)).trans b1
 have c1_2 := jG B0 2 (⟨m.kind, m.frm, 0, 0, 0, m.prep, ⟨0, 0⟩, bk0⟩ : jL)
 dsimp only at s1
 generalize hB1 : yM B0 2 (⟨m.kind, m.frm, 0, 0, 0, m.prep, ⟨0, 0⟩, bk0⟩ : jL) = B1 at s1  c1_0 c1_1 c1_2
 have s2 := ahw c1_2 m.view
 have c2_0 : (yM B1 2 (⟨m.kind, m.frm, 0, m.view, 0, m.prep, ⟨0, 0⟩, bk0⟩ : jL)).get 0 = some (.cells (fM m) (.own []) 0) := (jR (by decide)).trans c1_0
 have c2_1 : (yM B1 2 (⟨m.kind, m.frm, 0, m.view, 0, m.prep, ⟨0, 0⟩, bk0⟩ : jL)).get 1 = some (.cells (fM m0) (.own []) 0) := (jR (by decide)).trans c1_1
 have c2_2 := jG B1 2 (⟨m.kind, m.frm, 0, m.view, 0, m.prep, ⟨0, 0⟩, bk0⟩ : jL)
 dsimp only at s2
 generalize hB2 : yM B1 2 (⟨m.kind, m.frm, 0, m.view, 0, m.prep, ⟨0, 0⟩, bk0⟩ : jL) = B2 at s2  c2_0 c2_1 c2_2
 have s3 := afy c2_2 m.index
 have sq := ZQ (o := 0 + 4) (x := (⟨m.kind, m.frm, m.index, m.view, 0, m.prep, ⟨0, 0⟩, bk0⟩ : jL)) c2_0 (show (0 : Nat) ≠ 2 by decide)
 have c3_0 : (yM B2 2 (⟨m.kind, m.frm, m.index, m.view, 0, m.prep, ⟨0, 0⟩, bk0⟩ : jL)).get 0 = some (.cells (fM m) (.own []) 0) := (jR (by decide)).trans c2_0
 have c3_1 : (yM B2 2 (⟨m.kind, m.frm, m.index, m.view, 0, m.prep, ⟨0, 0⟩, bk0⟩ : jL)).get 1 = some (.cells (fM m0) (.own []) 0) := (jR (by decide)).trans c2_1
 have c3_2 := jG B2 2 (⟨m.kind, m.frm, m.index, m.view, 0, m.prep, ⟨0, 0⟩, bk0⟩ : jL)
 dsimp only at s3
 generalize hB3 : yM B2 2 (⟨m.kind, m.frm, m.index, m.view, 0, m.prep, ⟨0, 0⟩, bk0⟩ : jL) = B3 at s3 sq c3_0 c3_1 c3_2
 have s4 := acY c3_2 m.value
 have c4_0 : (yM B3 2 (⟨m.kind, m.frm, m.index, m.view, m.value, m.prep, ⟨0, 0⟩, bk0⟩ : jL)).get 0 = some (.cells (fM m) (.own []) 0) := (jR (by decide)).trans c3_0
 have c4_1 : (yM B3 2 (⟨m.kind, m.frm, m.index, m.view, m.value, m.prep, ⟨0, 0⟩, bk0⟩ : jL)).get 1 = some (.cells (fM m0) (.own []) 0) := (jR (by decide)).trans c3_1
 have c4_2 := jG B3 2 (⟨m.kind, m.frm, m.index, m.view, m.value, m.prep, ⟨0, 0⟩, bk0⟩ : jL)
 dsimp only at s4
 generalize hB4 : yM B3 2 (⟨m.kind, m.frm, m.index, m.view, m.value, m.prep, ⟨0, 0⟩, bk0⟩ : jL) = B4 at s4  c4_0 c4_1 c4_2
 have eb : (⟨m.kind, m.frm, m.index, m.view, m.value, m.prep, ⟨0, 0⟩, bk0⟩ : jL) = wC m := by simp [wC, hk]
 rw [eb] at c4_2
 have hbk : (wC m).b.k ≠ 2 := by simp [wC, hk]
 have ld := qG c4_2 hbk
 have sl := WY c4_1 (wC m)
 have fin := qG (jG B4 1 (wC m)) hbk
 have hcb : (wC m).b.k ≤ 2 := by simp [wC, hk]
 conv at hr =>
  rhs
  rw [hTe]
  simp only [zx.code, zx.rs, zSs, reduceIte, Nat.reduceEqDiff, Int.reduceEq, Int.reduceLT, Int.reduceLE, Zi, a1, a2, zL, zT, wG p0, yK p0, yZ (y0 := .int .i64 m.kind) (y1 := .int .i64 m.frm) rfl rfl, s0, wG b0, jv, s1, kK b0, jg, s2, qL b0, qL c1_0, je, s3, sq, qj c1_0, qj c2_0, yw c2_0, zQ, zQ, s4, yw c2_0, yw c3_0, decide_eq_false (show ¬ m.kind = 0 by omega), decide_eq_false (show ¬ m.kind = 1 by omega), decide_eq_false (show ¬ m.kind = 2 by omega), decide_eq_true hk, vU, ld, sl]
 rw [hTe] at hr
 exact zx.runs hr (.inr rfl) fin (all1 (wK hm.b.okl.le)) (wK hcb)
theorem zx.v4 {m : jL} (hm : m.Ok) (hk : m.kind = 4) (S : zh) : zM Try.prog O zx.id [mv m] S = some (mv (wC m), S) := by
 obtain ⟨T, hTe⟩ : ∃ T, T = (mv m :: undef :: undef :: undef :: undef :: undef :: undef :: undef :: undef :: undef :: undef :: undef :: undef :: undef :: undef :: undef :: undef :: undef :: undef :: undef :: undef :: undef :: undef :: undef :: undef :: undef :: undef :: undef :: undef :: undef :: undef :: undef :: undef :: undef :: undef :: undef :: undef :: undef :: undef :: undef :: undef :: undef :: undef :: undef :: undef :: undef :: []) := ⟨_, rfl⟩
 have hr : zu Try.prog O false zx.code T zh.empty = zu Try.prog O false zx.code T zh.empty := rfl
 obtain ⟨A1, hA1⟩ : ∃ A, A = (WC m).push (.cells (fM m0) (.own []) 0) := ⟨_, rfl⟩
 have a1 : wF Try.prog 30 (WC m) = some (.pointer (some ⟨1, 0, none⟩), A1) := by rw [hA1]; exact YW _
 have p0 : A1.get 0 = some (.cells (fM m) (.own []) 0) := by rw [hA1]; kernel_rfl
 obtain ⟨A2, hA2⟩ : ∃ A, A = A1.push (.cells (fM m0) (.own []) 0) := ⟨_, rfl⟩
 have a2 : wF Try.prog 30 A1 = some (.pointer (some ⟨2, 0, none⟩), A2) := by rw [hA2, hA1]; exact YW _
 have q0 : A2.get 0 = some (.cells (fM m) (.own []) 0) := by rw [hA2, hA1]; kernel_rfl
 have q1 : A2.get 1 = some (.cells (fM m0) (.own []) 0) := by rw [hA2, hA1]; kernel_rfl
 have q2 : A2.get 2 = some (.cells (fM m0) (.own []) 0) := by rw [hA2, hA1]; kernel_rfl
 have s0 : jP Try.prog 30 (.pointer (some ⟨2, 0, none⟩)) (.agg [Value.int .i64 m.kind, .int .i64 m.frm, .int .i64 0, .int .i64 0, .int .i64 0, .int .i64 0, .int .i64 0, .int .i64 0, .int .i64 0, .int .i64 0, .int .i64 0, .int .i64 0, .slice none 0 0].toArray) A2 = some (undef, yM A2 2 (⟨m.kind, m.frm, 0, 0, 0, 0, ⟨0, 0⟩, bk0⟩ : jL)) := WY q2 (⟨m.kind, m.frm, 0, 0, 0, 0, ⟨0, 0⟩, bk0⟩ : jL)
 have b0 : (yM A2 2 (⟨m.kind, m.frm, 0, 0, 0, 0, ⟨0, 0⟩, bk0⟩ : jL)).get 0 = some (.cells (fM m) (.own []) 0) := (jR (by decide)).trans q0
 have b1 : (yM A2 2 (⟨m.kind, m.frm, 0, 0, 0, 0, ⟨0, 0⟩, bk0⟩ : jL)).get 1 = some (.cells (fM m0) (.own []) 0) := (jR (by decide)).trans q1
 have b2 := jG A2 2 (⟨m.kind, m.frm, 0, 0, 0, 0, ⟨0, 0⟩, bk0⟩ : jL)
 generalize hB0 : yM A2 2 (⟨m.kind, m.frm, 0, 0, 0, 0, ⟨0, 0⟩, bk0⟩ : jL) = B0 at s0 b0 b1 b2
 have s1 := ahw b2 m.view
 have c1_0 : (yM B0 2 (⟨m.kind, m.frm, 0, m.view, 0, 0, ⟨0, 0⟩, bk0⟩ : jL)).get 0 = some (.cells (fM m) (.own []) 0) := (jR (by decide)).trans b0
 have c1_1 : (yM B0 2 (⟨m.kind, m.frm, 0, m.view, 0, 0, ⟨0, 0⟩, bk0⟩ : jL)).get 1 = some (.cells (fM m0) (.own []) 0) := (jR (by decide)).trans b1
 have c1_2 := jG B0 2 (⟨m.kind, m.frm, 0, m.view, 0, 0, ⟨0, 0⟩, bk0⟩ : jL)
 dsimp only at s1
 generalize hB1 : yM B0 2 (⟨m.kind, m.frm, 0, m.view, 0, 0, ⟨0, 0⟩, bk0⟩ : jL) = B1 at s1  c1_0 c1_1 c1_2
 have s2 := afy c1_2 m.index
 have sq := ZQ (o := 0 + 4) (x := (⟨m.kind, m.frm, m.index, m.view, 0, 0, ⟨0, 0⟩, bk0⟩ : jL)) c1_0 (show (0 : Nat) ≠ 2 by decide)
 have c2_0 : (yM B1 2 (⟨m.kind, m.frm, m.index, m.view, 0, 0, ⟨0, 0⟩, bk0⟩ : jL)).get 0 = some (.cells (fM m) (.own []) 0) := (jR (by decide)).trans c1_0
 have c2_1 : (yM B1 2 (⟨m.kind, m.frm, m.index, m.view, 0, 0, ⟨0, 0⟩, bk0⟩ : jL)).get 1 = some (.cells (fM m0) (.own []) 0) := (jR (by decide)).trans c1_1
 have c2_2 := jG B1 2 (⟨m.kind, m.frm, m.index, m.view, 0, 0, ⟨0, 0⟩, bk0⟩ : jL)
 dsimp only at s2
 generalize hB2 : yM B1 2 (⟨m.kind, m.frm, m.index, m.view, 0, 0, ⟨0, 0⟩, bk0⟩ : jL) = B2 at s2 sq c2_0 c2_1 c2_2
 have s3 := acY c2_2 m.value
 have c3_0 : (yM B2 2 (⟨m.kind, m.frm, m.index, m.view, m.value, 0, ⟨0, 0⟩, bk0⟩ : jL)).get 0 = some (.cells (fM m) (.own []) 0) := (jR (by decide)).trans c2_0
 have c3_1 : (yM B2 2 (⟨m.kind, m.frm, m.index, m.view, m.value, 0, ⟨0, 0⟩, bk0⟩ : jL)).get 1 = some (.cells (fM m0) (.own []) 0) := (jR (by decide)).trans c2_1
 have c3_2 := jG B2 2 (⟨m.kind, m.frm, m.index, m.view, m.value, 0, ⟨0, 0⟩, bk0⟩ : jL)
 dsimp only at s3
 generalize hB3 : yM B2 2 (⟨m.kind, m.frm, m.index, m.view, m.value, 0, ⟨0, 0⟩, bk0⟩ : jL) = B3 at s3  c3_0 c3_1 c3_2
 have eb : (⟨m.kind, m.frm, m.index, m.view, m.value, 0, ⟨0, 0⟩, bk0⟩ : jL) = wC m := by simp [wC, hk]
 rw [eb] at c3_2
 have hbk : (wC m).b.k ≠ 2 := by simp [wC, hk]
 have ld := qG c3_2 hbk
 have sl := WY c3_1 (wC m)
 have fin := qG (jG B3 1 (wC m)) hbk
 have hcb : (wC m).b.k ≤ 2 := by simp [wC, hk]
 conv at hr =>
  rhs
  rw [hTe]
  simp only [zx.code, zx.rs, zSs, reduceIte, Nat.reduceEqDiff, Int.reduceEq, Int.reduceLT, Int.reduceLE, Zi, a1, a2, zL, zT, wG p0, yK p0, yZ (y0 := .int .i64 m.kind) (y1 := .int .i64 m.frm) rfl rfl, s0, wG b0, jg, s1, qL b0, je, s2, sq, qj b0, qj c1_0, yw c1_0, zQ, zQ, s3, yw c1_0, yw c2_0, decide_eq_false (show ¬ m.kind = 0 by omega), decide_eq_false (show ¬ m.kind = 1 by omega), decide_eq_false (show ¬ m.kind = 2 by omega), decide_eq_false (show ¬ m.kind = 3 by omega), decide_eq_true hk, decide_eq_false (show ¬ m.kind = 5 by omega), decide_eq_false (show ¬ m.kind = 6 by omega), vU, ld, sl]
 rw [hTe] at hr
 exact zx.runs hr (.inr rfl) fin (all1 (wK hm.b.okl.le)) (wK hcb)
theorem zx.v5 {m : jL} (hm : m.Ok) (hk : m.kind = 5) (S : zh) : zM Try.prog O zx.id [mv m] S = some (mv (wC m), S) := by
 obtain ⟨T, hTe⟩ : ∃ T, T = (mv m :: undef :: undef :: undef :: undef :: undef :: undef :: undef :: undef :: undef :: undef :: undef :: undef :: undef :: undef :: undef :: undef :: undef :: undef :: undef :: undef :: undef :: undef :: undef :: undef :: undef :: undef :: undef :: undef :: undef :: undef :: undef :: undef :: undef :: undef :: undef :: undef :: undef :: undef :: undef :: undef :: undef :: undef :: undef :: undef :: undef :: []) := ⟨_, rfl⟩
 have hr : zu Try.prog O false zx.code T zh.empty = zu Try.prog O false zx.code T zh.empty := rfl
 obtain ⟨A1, hA1⟩ : ∃ A, A = (WC m).push (.cells (fM m0) (.own []) 0) := ⟨_, rfl⟩
 have a1 : wF Try.prog 30 (WC m) = some (.pointer (some ⟨1, 0, none⟩), A1) := by rw [hA1]; exact YW _
 have p0 : A1.get 0 = some (.cells (fM m) (.own []) 0) := by rw [hA1]; kernel_rfl
 obtain ⟨A2, hA2⟩ : ∃ A, A = A1.push (.cells (fM m0) (.own []) 0) := ⟨_, rfl⟩
 have a2 : wF Try.prog 30 A1 = some (.pointer (some ⟨2, 0, none⟩), A2) := by rw [hA2, hA1]; exact YW _
 have q0 : A2.get 0 = some (.cells (fM m) (.own []) 0) := by rw [hA2, hA1]; kernel_rfl
 have q1 : A2.get 1 = some (.cells (fM m0) (.own []) 0) := by rw [hA2, hA1]; kernel_rfl
 have q2 : A2.get 2 = some (.cells (fM m0) (.own []) 0) := by rw [hA2, hA1]; kernel_rfl
 have s0 : jP Try.prog 30 (.pointer (some ⟨2, 0, none⟩)) (.agg [Value.int .i64 m.kind, .int .i64 m.frm, .int .i64 0, .int .i64 0, .int .i64 0, .int .i64 0, .int .i64 0, .int .i64 0, .int .i64 0, .int .i64 0, .int .i64 0, .int .i64 0, .slice none 0 0].toArray) A2 = some (undef, yM A2 2 (⟨m.kind, m.frm, 0, 0, 0, 0, ⟨0, 0⟩, bk0⟩ : jL)) := WY q2 (⟨m.kind, m.frm, 0, 0, 0, 0, ⟨0, 0⟩, bk0⟩ : jL)
 have b0 : (yM A2 2 (⟨m.kind, m.frm, 0, 0, 0, 0, ⟨0, 0⟩, bk0⟩ : jL)).get 0 = some (.cells (fM m) (.own []) 0) := (jR (by decide)).trans q0
 have b1 : (yM A2 2 (⟨m.kind, m.frm, 0, 0, 0, 0, ⟨0, 0⟩, bk0⟩ : jL)).get 1 = some (.cells (fM m0) (.own []) 0) := (jR (by decide)).trans q1
 have b2 := jG A2 2 (⟨m.kind, m.frm, 0, 0, 0, 0, ⟨0, 0⟩, bk0⟩ : jL)
 generalize hB0 : yM A2 2 (⟨m.kind, m.frm, 0, 0, 0, 0, ⟨0, 0⟩, bk0⟩ : jL) = B0 at s0 b0 b1 b2
 have s1 := ahw b2 m.view
 have c1_0 : (yM B0 2 (⟨m.kind, m.frm, 0, m.view, 0, 0, ⟨0, 0⟩, bk0⟩ : jL)).get 0 = some (.cells (fM m) (.own []) 0) := (jR (by decide)).trans b0
 have c1_1 : (yM B0 2 (⟨m.kind, m.frm, 0, m.view, 0, 0, ⟨0, 0⟩, bk0⟩ : jL)).get 1 = some (.cells (fM m0) (.own []) 0) := (jR (by decide)).trans b1
 have c1_2 := jG B0 2 (⟨m.kind, m.frm, 0, m.view, 0, 0, ⟨0, 0⟩, bk0⟩ : jL)
 dsimp only at s1
 generalize hB1 : yM B0 2 (⟨m.kind, m.frm, 0, m.view, 0, 0, ⟨0, 0⟩, bk0⟩ : jL) = B1 at s1  c1_0 c1_1 c1_2
 have s2 := afy c1_2 m.index
 have sq := ZQ (o := 0 + 4) (x := (⟨m.kind, m.frm, m.index, m.view, 0, 0, ⟨0, 0⟩, bk0⟩ : jL)) c1_0 (show (0 : Nat) ≠ 2 by decide)
 have c2_0 : (yM B1 2 (⟨m.kind, m.frm, m.index, m.view, 0, 0, ⟨0, 0⟩, bk0⟩ : jL)).get 0 = some (.cells (fM m) (.own []) 0) := (jR (by decide)).trans c1_0
 have c2_1 : (yM B1 2 (⟨m.kind, m.frm, m.index, m.view, 0, 0, ⟨0, 0⟩, bk0⟩ : jL)).get 1 = some (.cells (fM m0) (.own []) 0) := (jR (by decide)).trans c1_1
 have c2_2 := jG B1 2 (⟨m.kind, m.frm, m.index, m.view, 0, 0, ⟨0, 0⟩, bk0⟩ : jL)
 dsimp only at s2
 generalize hB2 : yM B1 2 (⟨m.kind, m.frm, m.index, m.view, 0, 0, ⟨0, 0⟩, bk0⟩ : jL) = B2 at s2 sq c2_0 c2_1 c2_2
 have s3 := acY c2_2 m.value
 have c3_0 : (yM B2 2 (⟨m.kind, m.frm, m.index, m.view, m.value, 0, ⟨0, 0⟩, bk0⟩ : jL)).get 0 = some (.cells (fM m) (.own []) 0) := (jR (by decide)).trans c2_0
 have c3_1 : (yM B2 2 (⟨m.kind, m.frm, m.index, m.view, m.value, 0, ⟨0, 0⟩, bk0⟩ : jL)).get 1 = some (.cells (fM m0) (.own []) 0) := (jR (by decide)).trans c2_1
 have c3_2 := jG B2 2 (⟨m.kind, m.frm, m.index, m.view, m.value, 0, ⟨0, 0⟩, bk0⟩ : jL)
 dsimp only at s3
 generalize hB3 : yM B2 2 (⟨m.kind, m.frm, m.index, m.view, m.value, 0, ⟨0, 0⟩, bk0⟩ : jL) = B3 at s3  c3_0 c3_1 c3_2
 have eb : (⟨m.kind, m.frm, m.index, m.view, m.value, 0, ⟨0, 0⟩, bk0⟩ : jL) = wC m := by simp [wC, hk]
 rw [eb] at c3_2
 have hbk : (wC m).b.k ≠ 2 := by simp [wC, hk]
 have ld := qG c3_2 hbk
 have sl := WY c3_1 (wC m)
 have fin := qG (jG B3 1 (wC m)) hbk
 have hcb : (wC m).b.k ≤ 2 := by simp [wC, hk]
 conv at hr =>
  rhs
  rw [hTe]
  simp only [zx.code, zx.rs, zSs, reduceIte, Nat.reduceEqDiff, Int.reduceEq, Int.reduceLT, Int.reduceLE, Zi, a1, a2, zL, zT, wG p0, yK p0, yZ (y0 := .int .i64 m.kind) (y1 := .int .i64 m.frm) rfl rfl, s0, wG b0, jg, s1, qL b0, je, s2, sq, qj b0, qj c1_0, yw c1_0, zQ, zQ, s3, yw c1_0, yw c2_0, decide_eq_false (show ¬ m.kind = 0 by omega), decide_eq_false (show ¬ m.kind = 1 by omega), decide_eq_false (show ¬ m.kind = 2 by omega), decide_eq_false (show ¬ m.kind = 3 by omega), decide_eq_false (show ¬ m.kind = 4 by omega), decide_eq_true hk, vU, ld, sl]
 rw [hTe] at hr
 exact zx.runs hr (.inr rfl) fin (all1 (wK hm.b.okl.le)) (wK hcb)
theorem zx.v6 {m : jL} (hm : m.Ok) (hk : m.kind = 6) (S : zh) : zM Try.prog O zx.id [mv m] S = some (mv (wC m), S) := by
 obtain ⟨T, hTe⟩ : ∃ T, T = (mv m :: undef :: undef :: undef :: undef :: undef :: undef :: undef :: undef :: undef :: undef :: undef :: undef :: undef :: undef :: undef :: undef :: undef :: undef :: undef :: undef :: undef :: undef :: undef :: undef :: undef :: undef :: undef :: undef :: undef :: undef :: undef :: undef :: undef :: undef :: undef :: undef :: undef :: undef :: undef :: undef :: undef :: undef :: undef :: undef :: undef :: []) := ⟨_, rfl⟩
 have hr : zu Try.prog O false zx.code T zh.empty = zu Try.prog O false zx.code T zh.empty := rfl
 obtain ⟨A1, hA1⟩ : ∃ A, A = (WC m).push (.cells (fM m0) (.own []) 0) := ⟨_, rfl⟩
 have a1 : wF Try.prog 30 (WC m) = some (.pointer (some ⟨1, 0, none⟩), A1) := by rw [hA1]; exact YW _
 have p0 : A1.get 0 = some (.cells (fM m) (.own []) 0) := by rw [hA1]; kernel_rfl
 obtain ⟨A2, hA2⟩ : ∃ A, A = A1.push (.cells (fM m0) (.own []) 0) := ⟨_, rfl⟩
 have a2 : wF Try.prog 30 A1 = some (.pointer (some ⟨2, 0, none⟩), A2) := by rw [hA2, hA1]; exact YW _
 have q0 : A2.get 0 = some (.cells (fM m) (.own []) 0) := by rw [hA2, hA1]; kernel_rfl
 have q1 : A2.get 1 = some (.cells (fM m0) (.own []) 0) := by rw [hA2, hA1]; kernel_rfl
 have q2 : A2.get 2 = some (.cells (fM m0) (.own []) 0) := by rw [hA2, hA1]; kernel_rfl
 have s0 : jP Try.prog 30 (.pointer (some ⟨2, 0, none⟩)) (.agg [Value.int .i64 m.kind, .int .i64 m.frm, .int .i64 0, .int .i64 0, .int .i64 0, .int .i64 0, .int .i64 0, .int .i64 0, .int .i64 0, .int .i64 0, .int .i64 0, .int .i64 0, .slice none 0 0].toArray) A2 = some (undef, yM A2 2 (⟨m.kind, m.frm, 0, 0, 0, 0, ⟨0, 0⟩, bk0⟩ : jL)) := WY q2 (⟨m.kind, m.frm, 0, 0, 0, 0, ⟨0, 0⟩, bk0⟩ : jL)
 have b0 : (yM A2 2 (⟨m.kind, m.frm, 0, 0, 0, 0, ⟨0, 0⟩, bk0⟩ : jL)).get 0 = some (.cells (fM m) (.own []) 0) := (jR (by decide)).trans q0
 have b1 : (yM A2 2 (⟨m.kind, m.frm, 0, 0, 0, 0, ⟨0, 0⟩, bk0⟩ : jL)).get 1 = some (.cells (fM m0) (.own []) 0) := (jR (by decide)).trans q1
 have b2 := jG A2 2 (⟨m.kind, m.frm, 0, 0, 0, 0, ⟨0, 0⟩, bk0⟩ : jL)
 generalize hB0 : yM A2 2 (⟨m.kind, m.frm, 0, 0, 0, 0, ⟨0, 0⟩, bk0⟩ : jL) = B0 at s0 b0 b1 b2
 have s1 := afy b2 m.index
 have sq := ZQ (o := 0 + 4) (x := (⟨m.kind, m.frm, m.index, 0, 0, 0, ⟨0, 0⟩, bk0⟩ : jL)) b0 (show (0 : Nat) ≠ 2 by decide)
 have c1_0 : (yM B0 2 (⟨m.kind, m.frm, m.index, 0, 0, 0, ⟨0, 0⟩, bk0⟩ : jL)).get 0 = some (.cells (fM m) (.own []) 0) := (jR (by decide)).trans b0
 have c1_1 : (yM B0 2 (⟨m.kind, m.frm, m.index, 0, 0, 0, ⟨0, 0⟩, bk0⟩ : jL)).get 1 = some (.cells (fM m0) (.own []) 0) := (jR (by decide)).trans b1
 have c1_2 := jG B0 2 (⟨m.kind, m.frm, m.index, 0, 0, 0, ⟨0, 0⟩, bk0⟩ : jL)
 dsimp only at s1
 generalize hB1 : yM B0 2 (⟨m.kind, m.frm, m.index, 0, 0, 0, ⟨0, 0⟩, bk0⟩ : jL) = B1 at s1 sq c1_0 c1_1 c1_2
 have s2 := acY c1_2 m.value
 have c2_0 : (yM B1 2 (⟨m.kind, m.frm, m.index, 0, m.value, 0, ⟨0, 0⟩, bk0⟩ : jL)).get 0 = some (.cells (fM m) (.own []) 0) := (jR (by decide)).trans c1_0
 have c2_1 : (yM B1 2 (⟨m.kind, m.frm, m.index, 0, m.value, 0, ⟨0, 0⟩, bk0⟩ : jL)).get 1 = some (.cells (fM m0) (.own []) 0) := (jR (by decide)).trans c1_1
 have c2_2 := jG B1 2 (⟨m.kind, m.frm, m.index, 0, m.value, 0, ⟨0, 0⟩, bk0⟩ : jL)
 dsimp only at s2
 generalize hB2 : yM B1 2 (⟨m.kind, m.frm, m.index, 0, m.value, 0, ⟨0, 0⟩, bk0⟩ : jL) = B2 at s2  c2_0 c2_1 c2_2
 have eb : (⟨m.kind, m.frm, m.index, 0, m.value, 0, ⟨0, 0⟩, bk0⟩ : jL) = wC m := by simp [wC, hk]
 rw [eb] at c2_2
 have hbk : (wC m).b.k ≠ 2 := by simp [wC, hk]
 have ld := qG c2_2 hbk
 have sl := WY c2_1 (wC m)
 have fin := qG (jG B2 1 (wC m)) hbk
 have hcb : (wC m).b.k ≤ 2 := by simp [wC, hk]
 conv at hr =>
  rhs
  rw [hTe]
  simp only [zx.code, zx.rs, zSs, reduceIte, Nat.reduceEqDiff, Int.reduceEq, Int.reduceLT, Int.reduceLE, Zi, a1, a2, zL, zT, wG p0, yK p0, yZ (y0 := .int .i64 m.kind) (y1 := .int .i64 m.frm) rfl rfl, s0, wG b0, je, s1, sq, qj b0, yw b0, zQ, zQ, s2, yw b0, yw c1_0, decide_eq_false (show ¬ m.kind = 0 by omega), decide_eq_false (show ¬ m.kind = 1 by omega), decide_eq_false (show ¬ m.kind = 2 by omega), decide_eq_false (show ¬ m.kind = 3 by omega), decide_eq_false (show ¬ m.kind = 4 by omega), decide_eq_false (show ¬ m.kind = 5 by omega), decide_eq_true hk, vU, ld, sl]
 rw [hTe] at hr
 exact zx.runs hr (.inr rfl) fin (all1 (wK hm.b.okl.le)) (wK hcb)
theorem zx.v {m : jL} (hm : m.Ok) (h0 : 0 ≤ m.kind) (h6 : m.kind ≤ 6) (S : zh) : zM Try.prog O zx.id [mv m] S = some (mv (wC m), S) := by
 have : m.kind = 0 ∨ m.kind = 1 ∨ m.kind = 2 ∨ m.kind = 3 ∨ m.kind = 4 ∨ m.kind = 5 ∨ m.kind = 6 := by omega
 rcases this with h | h | h | h | h | h | h
 ·
  exact zx.v0 hm h S
 ·
  exact zx.v1 hm h S
 ·
  exact zx.v2 hm h S
 ·
  exact zx.v3 hm h S
 ·
  exact zx.v4 hm h S
 ·
  exact zx.v5 hm h S
 ·
  exact zx.v6 hm h S
end Go.Proofs.Ytbgcphbbchndkaa
namespace Go.Abs
open Go.RowKit
def gv (x b : Bool) (v : Value) : Value := if x = b then v else undef
theorem agx (x b : Bool) (v : Value) : dem (gv x b v) = gv x b (dem v) := by
 unfold gv; split
 ·
  rfl
 ·
  exact Yp
theorem WZ {R : Type} {K : Value → zh → Option R} {p : Je K} {m : M Value} {S : zh} (x b : Bool) : gdK (.bool x) b m S K p = if x = b then zB (m S) K p else K undef S := by
 cases x <;> cases b <;> rfl
section
variable {R : Type} {K : Value → zh → Option R} {p : Je K} {S : zh} {x b c y z : Bool} {m m' : M Value} {P : Program} {O : Ora} {t : TypeId} {v w u : Value}
theorem yj (h : x = b → m S = m' S) : gdK (.bool x) b m S K p = gdK (.bool x) b m' S K p := by
 rw [WZ, WZ]
 split
 ·
  rename_i hx; rw [h hx]
 ·
  rfl
theorem zK (h : m S = some (v, S)) : gdK (.bool x) b m S K p = K (gv x b v) S := by
 rw [WZ]
 unfold gv
 split
 ·
  rw [h]; rfl
 ·
  rfl
theorem Zw (h : m S = some (v, S)) (hq : okq 3 v = true) : afb (.bool x) b m S K p = K (gv x b v) S := by
 unfold gv
 cases x <;> cases b <;> first | rfl | (simp only [VI, V3, h, YA, Wy hq, if_true])
theorem Zr (h : x = b) : gv x b v = v := if_pos h
theorem adz {fx : Bool} : gdK (.bool x) b (zS P fx t (gv x b v)) S K p = gdK (.bool x) b (zS P fx t v) S K p := yj fun h => by rw [Zr h]
theorem Wu {f : Nat} : gdK (.bool x) b (zq P t (gv x b v) f) S K p = gdK (.bool x) b (zq P t v f) S K p := yj fun h => by rw [Zr h]
theorem YM : gdK (.bool x) b (Zx (gv x b v)) S K p = gdK (.bool x) b (Zx v) S K p := yj fun h => by rw [Zr h]
theorem aga : gdK (.bool x) b (ZT P t (gv x b v)) S K p = gdK (.bool x) b (ZT P t v) S K p := yj fun h => by rw [Zr h]
theorem JA : gdK (.bool x) b (zW P t (gv x b v) w) S K p = gdK (.bool x) b (zW P t v w) S K p := yj fun h => by rw [Zr h]
theorem Jv : gdK (.bool x) b (zW P t v (gv x b w)) S K p = gdK (.bool x) b (zW P t v w) S K p := yj fun h => by rw [Zr h]
theorem ah3 {op : UnOp} : gdK (.bool x) b (aUn P op (gv x b v)) S K p = gdK (.bool x) b (aUn P op v) S K p := yj fun h => by rw [Zr h]
theorem ad8 {hp dr : Bool} {t2 : TypeId} : gdK (.bool x) b (y9 P hp dr t t2 (gv x b v)) S K p = gdK (.bool x) b (y9 P hp dr t t2 v) S K p := yj fun h => by rw [Zr h]
theorem ac2 {op : BinOp} : gdK (.bool x) b (jT P op t (gv x b v) w) S K p = gdK (.bool x) b (jT P op t v w) S K p := yj fun h => by rw [Zr h]
theorem ady {op : BinOp} : gdK (.bool x) b (jT P op t v (gv x b w)) S K p = gdK (.bool x) b (jT P op t v w) S K p := yj fun h => by rw [Zr h]
theorem aar {g : FuncId} {l : List Value} : gdK (.bool x) b (zM P O g (gv x b v :: l)) S K p = gdK (.bool x) b (zM P O g (v :: l)) S K p := yj fun h => by rw [Zr h]
theorem aak {g : FuncId} {l : List Value} : gdK (.bool x) b (zM P O g (u :: gv x b v :: l)) S K p = gdK (.bool x) b (zM P O g (u :: v :: l)) S K p := yj fun h => by rw [Zr h]
theorem XB {g : FuncId} {l : List Value} : gdK (.bool x) b (ae4 (zM P O) g (gv x b v :: l)) S K p = gdK (.bool x) b (ae4 (zM P O) g (v :: l)) S K p := yj fun h => by rw [Zr h]
theorem XH {g : FuncId} {l : List Value} : gdK (.bool x) b (ae4 (zM P O) g (u :: gv x b v :: l)) S K p = gdK (.bool x) b (ae4 (zM P O) g (u :: v :: l)) S K p := yj fun h => by rw [Zr h]
theorem agE : gdK (.bool x) b (ret v) S K p = K (gv x b v) S := zK rfl
theorem ah5 : gv x b (gv x b v) = gv x b v := by unfold gv; split <;> rfl
theorem aas : gdK (gv x c (.bool y)) b m S K p = gdK (.bool ((x == c) && (y == b))) true m S K p := by
 unfold gv
 cases x <;> cases c <;> cases y <;> cases b <;> rfl
theorem abZ {fx : Bool} : gdK (.bool ((x == c) && (y == b))) true (zS P fx t (gv x c v)) S K p = gdK (.bool ((x == c) && (y == b))) true (zS P fx t v) S K p := yj fun h => by rw [Zr (by simp at h; exact h.1)]
theorem acH {op : BinOp} : gdK (.bool ((x == c) && (y == b))) true (jT P op t (gv x c v) w) S K p = gdK (.bool ((x == c) && (y == b))) true (jT P op t v w) S K p := yj fun h => by rw [Zr (by simp at h; exact h.1)]
theorem aea {op : BinOp} : gdK (.bool ((x == c) && (y == b))) true (jT P op t v (gv x c w)) S K p = gdK (.bool ((x == c) && (y == b))) true (jT P op t v w) S K p := yj fun h => by rw [Zr (by simp at h; exact h.1)]
theorem agd : gdK (.bool x) c (wR (gv x c (.bool y)) (.bool true) (gv ((x == c) && (y == false)) true (.bool z))) S K p = K (gv x c (.bool (y || z))) S := by
 unfold gv
 cases x <;> cases c <;> cases y <;> cases z <;> rfl
theorem adH : gdK (.bool x) c (wR (gv x c (.bool y)) (gv ((x == c) && (y == true)) true (.bool z)) (.bool false)) S K p = K (gv x c (.bool (y && z))) S := by
 unfold gv
 cases x <;> cases c <;> cases y <;> cases z <;> rfl
theorem ail : (if x = true then Value.bool true else gv x false (.bool y)) = .bool (x || y) := by cases x <;> rfl
theorem af9 : (if x = true then gv x true (.bool y) else Value.bool false) = .bool (x && y) := by cases x <;> rfl
theorem ah7 : gv true true v = v := rfl
theorem aiw : gv false false v = v := rfl
theorem ain : gv true false v = undef := rfl
theorem aij : gv false true v = undef := rfl
theorem agF {k : IntKind} {a d : Int} : gdK (.bool x) b (jT P .lss t (.int k a) (.int k d)) S K p = K (gv x b (.bool (decide (a < d)))) S := zK (KH k a d)
theorem afW {k : IntKind} {a d : Int} : gdK (.bool x) b (jT P .leq t (.int k a) (.int k d)) S K p = K (gv x b (.bool (decide (a ≤ d)))) S := zK (KU k a d)
theorem afT {k : IntKind} {a d : Int} : gdK (.bool x) b (jT P .gtr t (.int k a) (.int k d)) S K p = K (gv x b (.bool (decide (d < a)))) S := zK (Kv k a d)
theorem agl {k : IntKind} {a d : Int} : gdK (.bool x) b (jT P .geq t (.int k a) (.int k d)) S K p = K (gv x b (.bool (decide (d ≤ a)))) S := zK (QM k a d)
theorem agq {k : IntKind} {a d : Int} : gdK (.bool x) b (jT P .eql t (.int k a) (.int k d)) S K p = K (gv x b (.bool (decide (a = d)))) S := zK (QX k a d)
theorem agA {k : IntKind} {a d : Int} : gdK (.bool x) b (jT P .neq t (.int k a) (.int k d)) S K p = K (gv x b (.bool (!decide (a = d)))) S := zK (Ku k a d)
theorem af5 {k : IntKind} {a d : Int} : gdK (.bool x) b (jT P .add t (.int k a) (.int k d)) S K p = K (gv x b (.int k (k.wrap (a + d)))) S := zK (KT k a d)
theorem afN {k : IntKind} {a d : Int} : gdK (.bool x) b (jT P .sub t (.int k a) (.int k d)) S K p = K (gv x b (.int k (k.wrap (a - d)))) S := zK (Ky k a d)
theorem agC : gdK (.bool x) b (aUn P .not (.bool y)) S K p = K (gv x b (.bool (!y))) S := zK (by cases y <;> rfl)
end
theorem gvw : type_of% (And.intro @agx (And.intro @adz (And.intro @Wu (And.intro @YM (And.intro @aga (And.intro @JA (And.intro @Jv (And.intro @ah3 (And.intro @ad8 (And.intro @ac2 (And.intro @ady (And.intro @aar (And.intro @aak (And.intro @XB (And.intro @XH (And.intro @agE (And.intro @ah5 (And.intro @aas (And.intro @abZ (And.intro @acH (And.intro @aea (And.intro @agd (And.intro @adH (And.intro @ail (And.intro @af9 (And.intro @ah7 (And.intro @aiw (And.intro @ain (And.intro @aij (And.intro @agF (And.intro @afW (And.intro @afT (And.intro @agl (And.intro @agq (And.intro @agA (And.intro @af5 (And.intro @afN @agC))))))))))))))))))))))))))))))))))))) :=
 And.intro @agx (And.intro @adz (And.intro @Wu (And.intro @YM (And.intro @aga (And.intro @JA (And.intro @Jv (And.intro @ah3 (And.intro @ad8 (And.intro @ac2 (And.intro @ady (And.intro @aar (And.intro @aak (And.intro @XB (And.intro @XH (And.intro @agE (And.intro @ah5 (And.intro @aas (And.intro @abZ (And.intro @acH (And.intro @aea (And.intro @agd (And.intro @adH (And.intro @ail (And.intro @af9 (And.intro @ah7 (And.intro @aiw (And.intro @ain (And.intro @aij (And.intro @agF (And.intro @afW (And.intro @afT (And.intro @agl (And.intro @agq (And.intro @agA (And.intro @af5 (And.intro @afN @agC))))))))))))))))))))))))))))))))))))
end Go.Abs
namespace Go.Proofs.Ytbgcphbbchndkaa
open Go.Abs
def nameB (n : Int) : Bool := decide (n = 0) || Zf n
theorem afJ (n : Int) : decide (0 < JW n) = Zf n := by
 rw [Bool.eq_iff_iff, decide_eq_true_eq]
 unfold JW
 constructor
 ·
  intro h; split at h
  ·
   assumption
  ·
   omega
 ·
  intro h
  have := ZA.1 h
  rw [if_pos h]; omega
def acz (m : jL) : Bool := ((!decide (m.kind = 0) && !decide (m.tx = ⟨0, 0⟩)) || (!decide (m.kind = 1) && !ZB m.b bk0)) || (!decide (m.kind = 3) && !decide (m.prep = 0))
def aee (m : jL) : Bool := decide (0 ≤ m.index) && decide (m.index ≤ 1000)
def vwB (m : jL) : Bool := decide (0 ≤ m.view) && decide (m.view ≤ 1000)
def Ya (m : jL) : Bool :=
 if m.kind = 0 then ((decide (m.index = 0) && decide (m.view = 0)) && decide (m.value = 0)) && yC m.tx
 else if m.kind = 1 then ((decide (m.index = 0) && decide (m.view = 0)) && decide (m.value = 0)) && jS m.b
 else if m.kind = 2 then (decide (m.index = 0) && decide (m.view = 0)) && nameB m.value
 else if m.kind = 3 then ((((aee m) && (vwB m)) && nameB m.value) && decide (-1 ≤ m.prep)) && decide (m.prep < m.view)
 else if m.kind = 4 ∨ m.kind = 5 then ((aee m) && (vwB m)) && (decide (m.value = -1) || nameB m.value)
 else if m.kind = 6 then ((aee m) && decide (m.view = 0)) && nameB m.value
 else false
def aco (m : jL) : Bool := if decide (m.frm < 0) || decide (6 < m.frm) then false else if acz m then false else Ya m
theorem vJ (m : jL) : okq 3 (mv m) = true := by
 have h := af6 (f := fT) (e := 2) (k := m.b.k) (l := m.b.txs) (d := 2)
 simp only [okq, List.toList_toArray, List.all_cons, List.all_nil, h, Bool.and_true]
def yO (m : jL) : Bool :=
 if m.kind < 0 ∨ 6 < m.kind then false
 else if (decide (m.frm < 0) || decide (7 ≤ m.frm)) || !Jh m (wC m) then false
 else if m.kind = 0 then yC m.tx
 else if m.kind = 1 then jS m.b
 else if m.kind = 3 ∧ (decide (m.prep < -1) || decide (m.view ≤ m.prep)) = true then false
 else (((decide (0 ≤ m.index) && decide (m.index ≤ 1000)) && decide (0 ≤ m.view)) && decide (m.view ≤ 1000)) && yG m
theorem ag6 {m : jL} (hm : m.Ok) : (wC m).Ok := by
 have z : Big 0 := ⟨by omega, by omega⟩
 have zt : TxV.Ok ⟨0, 0⟩ := ⟨z, z⟩
 unfold wC
 split
 ·
  exact ⟨ok0, hm.tx, hm.kind, hm.frm, z, z, z, z⟩
 split
 ·
  exact ⟨hm.b, zt, hm.kind, hm.frm, z, z, z, z⟩
 split
 ·
  exact ⟨ok0, zt, hm.kind, hm.frm, z, z, hm.value, z⟩
 split
 ·
  exact ⟨ok0, zt, hm.kind, hm.frm, hm.index, hm.view, hm.value, hm.prep⟩
 split
 ·
  exact ⟨ok0, zt, hm.kind, hm.frm, hm.index, hm.view, hm.value, z⟩
 split
 ·
  exact ⟨ok0, zt, hm.kind, hm.frm, hm.index, hm.view, hm.value, z⟩
 ·
  exact ⟨ok0, zt, hm.kind, hm.frm, hm.index, z, hm.value, z⟩
theorem zH.v {m : jL} (hm : m.Ok) (S : zh) : zM Try.prog O zH.id [mv m] S = some (.bool (yO m), S) := by
 obtain ⟨T, hTe⟩ : ∃ T, T = (mv m :: undef :: undef :: undef :: undef :: undef :: undef :: undef :: undef :: undef :: undef :: undef :: undef :: undef :: undef :: undef :: undef :: undef :: undef :: undef :: undef :: undef :: undef :: undef :: undef :: undef :: undef :: undef :: undef :: undef :: undef :: undef :: undef :: undef :: undef :: undef :: undef :: undef :: undef :: undef :: undef :: undef :: undef :: undef :: undef :: undef :: undef :: undef :: undef :: undef :: undef :: undef :: undef :: undef :: undef :: undef :: undef :: undef :: undef :: undef :: undef :: undef :: undef :: undef :: undef :: undef :: undef :: undef :: undef :: undef :: undef :: undef :: undef :: undef :: []) := ⟨_, rfl⟩
 have hr : zu Try.prog O false zH.code T zh.empty = zu Try.prog O false zH.code T zh.empty := rfl
 have g0 := JU m
 have c3 := fun S => wM.v m.tx S
 have c4 := fun S => zI.v hm.b S
 have c5 := fun S => zY.v hm S
 have hc : [mv m].all (jh 16) = true := all1 (wK hm.b.okl.le)
 unfold yO
 by_cases k0 : m.kind < 0
 ·
  rw [if_pos (.inl k0)]
  have e0 := decide_eq_true k0
  conv at hr =>
   rhs
   rw [hTe]
   simp only [zH.code, zH.rs, zSs, reduceIte, Nat.reduceEqDiff, Int.reduceEq, Int.reduceLT, Int.reduceLE, Zi, zL, zT, je, jg, zQ, jv, jo, jw, wG g0, yK g0, qj g0, qL g0, yw g0, kK g0, kW g0, xJ g0 hm.b.ne, qG g0 hm.b.ne, zK (zL _ _ _), zK (zT _ _ _), zK (je _ _ _), zK (jg _ _ _), zK (zQ _ _ _), zK (jv _ _ _), zK (jo _ _ _), zK (jw _ _ _), zK (wG g0), zK (yK g0), zK (qj g0), zK (qL g0), zK (yw g0), zK (kK g0), zK (kW g0), zK (xJ g0 hm.b.ne), zK (qG g0 hm.b.ne), Zw (qG g0 hm.b.ne) (vJ m), wP g0, gvw, e0]
  rw [hTe] at hr
  exact zH.runs hr (.inr rfl) hc rfl
 by_cases k6 : 6 < m.kind
 ·
  rw [if_pos (.inr k6)]
  have e0 := decide_eq_false k0
  have e6 := decide_eq_true k6
  conv at hr =>
   rhs
   rw [hTe]
   simp only [zH.code, zH.rs, zSs, reduceIte, Nat.reduceEqDiff, Int.reduceEq, Int.reduceLT, Int.reduceLE, Zi, zL, zT, je, jg, zQ, jv, jo, jw, wG g0, yK g0, qj g0, qL g0, yw g0, kK g0, kW g0, xJ g0 hm.b.ne, qG g0 hm.b.ne, zK (zL _ _ _), zK (zT _ _ _), zK (je _ _ _), zK (jg _ _ _), zK (zQ _ _ _), zK (jv _ _ _), zK (jo _ _ _), zK (jw _ _ _), zK (wG g0), zK (yK g0), zK (qj g0), zK (qL g0), zK (yw g0), zK (kK g0), zK (kW g0), zK (xJ g0 hm.b.ne), zK (qG g0 hm.b.ne), Zw (qG g0 hm.b.ne) (vJ m), wP g0, gvw, e0, e6]
  rw [hTe] at hr
  exact zH.runs hr (.inr rfl) hc rfl
 rw [if_neg (by omega)]
 have e0 := decide_eq_false k0
 have e6 := decide_eq_false k6
 have c1 := fun S => zx.v hm (by omega) (by omega) S
 have c2 := fun S => jq.v hm (ag6 hm) S
 obtain ⟨c, hc0⟩ : ∃ b, ((decide (m.frm < 0) || decide (7 ≤ m.frm)) || !Jh m (wC m)) = b := ⟨_, rfl⟩
 rw [hc0]
 cases c
 ·
  rw [if_neg (by decide)]
  by_cases z0 : m.kind = 0
  ·
   rw [if_pos z0]
   conv at hr =>
    rhs
    rw [hTe]
    simp only [zH.code, zH.rs, zSs, reduceIte, Nat.reduceEqDiff, Int.reduceEq, Int.reduceLT, Int.reduceLE, Zi, zL, zT, je, jg, zQ, jv, jo, jw, wG g0, yK g0, qj g0, qL g0, yw g0, kK g0, kW g0, xJ g0 hm.b.ne, qG g0 hm.b.ne, zK (zL _ _ _), zK (zT _ _ _), zK (je _ _ _), zK (jg _ _ _), zK (zQ _ _ _), zK (jv _ _ _), zK (jo _ _ _), zK (jw _ _ _), zK (wG g0), zK (yK g0), zK (qj g0), zK (qL g0), zK (yw g0), zK (kK g0), zK (kW g0), zK (xJ g0 hm.b.ne), zK (qG g0 hm.b.ne), Zw (qG g0 hm.b.ne) (vJ m), wP g0, gvw, e0, e6, c1, c2, zK (c1 _), zK (c2 _), hc0, decide_eq_true z0, c3]
   rw [hTe] at hr
   exact zH.runs hr (.inr rfl) hc rfl
  rw [if_neg z0]
  by_cases z1 : m.kind = 1
  ·
   rw [if_pos z1]
   conv at hr =>
    rhs
    rw [hTe]
    simp only [zH.code, zH.rs, zSs, reduceIte, Nat.reduceEqDiff, Int.reduceEq, Int.reduceLT, Int.reduceLE, Zi, zL, zT, je, jg, zQ, jv, jo, jw, wG g0, yK g0, qj g0, qL g0, yw g0, kK g0, kW g0, xJ g0 hm.b.ne, qG g0 hm.b.ne, zK (zL _ _ _), zK (zT _ _ _), zK (je _ _ _), zK (jg _ _ _), zK (zQ _ _ _), zK (jv _ _ _), zK (jo _ _ _), zK (jw _ _ _), zK (wG g0), zK (yK g0), zK (qj g0), zK (qL g0), zK (yw g0), zK (kK g0), zK (kW g0), zK (xJ g0 hm.b.ne), zK (qG g0 hm.b.ne), Zw (qG g0 hm.b.ne) (vJ m), wP g0, gvw, e0, e6, c1, c2, zK (c1 _), zK (c2 _), hc0, decide_eq_false z0, decide_eq_true z1, c4]
   rw [hTe] at hr
   exact zH.runs hr (.inr rfl) hc rfl
  rw [if_neg z1]
  by_cases z3 : m.kind = 3
  ·
   obtain ⟨d, hd0⟩ : ∃ b, (decide (m.prep < -1) || decide (m.view ≤ m.prep)) = b := ⟨_, rfl⟩
   rw [hd0]
   cases d
   ·
    rw [if_neg (by simp)]
    conv at hr =>
     rhs
     rw [hTe]
     simp only [zH.code, zH.rs, zSs, reduceIte, Nat.reduceEqDiff, Int.reduceEq, Int.reduceLT, Int.reduceLE, Zi, zL, zT, je, jg, zQ, jv, jo, jw, wG g0, yK g0, qj g0, qL g0, yw g0, kK g0, kW g0, xJ g0 hm.b.ne, qG g0 hm.b.ne, zK (zL _ _ _), zK (zT _ _ _), zK (je _ _ _), zK (jg _ _ _), zK (zQ _ _ _), zK (jv _ _ _), zK (jo _ _ _), zK (jw _ _ _), zK (wG g0), zK (yK g0), zK (qj g0), zK (qL g0), zK (yw g0), zK (kK g0), zK (kW g0), zK (xJ g0 hm.b.ne), zK (qG g0 hm.b.ne), Zw (qG g0 hm.b.ne) (vJ m), wP g0, gvw, e0, e6, c1, c2, zK (c1 _), zK (c2 _), hc0, decide_eq_false z0, decide_eq_false z1, decide_eq_true z3, hd0, c5, zK (c5 _)]
    rw [hTe] at hr
    exact zH.runs hr (.inr rfl) hc rfl
   ·
    rw [if_pos ⟨z3, rfl⟩]
    conv at hr =>
     rhs
     rw [hTe]
     simp only [zH.code, zH.rs, zSs, reduceIte, Nat.reduceEqDiff, Int.reduceEq, Int.reduceLT, Int.reduceLE, Zi, zL, zT, je, jg, zQ, jv, jo, jw, wG g0, yK g0, qj g0, qL g0, yw g0, kK g0, kW g0, xJ g0 hm.b.ne, qG g0 hm.b.ne, zK (zL _ _ _), zK (zT _ _ _), zK (je _ _ _), zK (jg _ _ _), zK (zQ _ _ _), zK (jv _ _ _), zK (jo _ _ _), zK (jw _ _ _), zK (wG g0), zK (yK g0), zK (qj g0), zK (qL g0), zK (yw g0), zK (kK g0), zK (kW g0), zK (xJ g0 hm.b.ne), zK (qG g0 hm.b.ne), Zw (qG g0 hm.b.ne) (vJ m), wP g0, gvw, e0, e6, c1, c2, zK (c1 _), zK (c2 _), hc0, decide_eq_false z0, decide_eq_false z1, decide_eq_true z3, hd0]
    rw [hTe] at hr
    exact zH.runs hr (.inr rfl) hc rfl
  rw [if_neg (fun h => z3 h.1)]
  conv at hr =>
   rhs
   rw [hTe]
   simp only [zH.code, zH.rs, zSs, reduceIte, Nat.reduceEqDiff, Int.reduceEq, Int.reduceLT, Int.reduceLE, Zi, zL, zT, je, jg, zQ, jv, jo, jw, wG g0, yK g0, qj g0, qL g0, yw g0, kK g0, kW g0, xJ g0 hm.b.ne, qG g0 hm.b.ne, zK (zL _ _ _), zK (zT _ _ _), zK (je _ _ _), zK (jg _ _ _), zK (zQ _ _ _), zK (jv _ _ _), zK (jo _ _ _), zK (jw _ _ _), zK (wG g0), zK (yK g0), zK (qj g0), zK (qL g0), zK (yw g0), zK (kK g0), zK (kW g0), zK (xJ g0 hm.b.ne), zK (qG g0 hm.b.ne), Zw (qG g0 hm.b.ne) (vJ m), wP g0, gvw, e0, e6, c1, c2, zK (c1 _), zK (c2 _), hc0, decide_eq_false z0, decide_eq_false z1, decide_eq_false z3, c5, zK (c5 _)]
  rw [hTe] at hr
  exact zH.runs hr (.inr rfl) hc rfl
 ·
  rw [if_pos rfl]
  conv at hr =>
   rhs
   rw [hTe]
   simp only [zH.code, zH.rs, zSs, reduceIte, Nat.reduceEqDiff, Int.reduceEq, Int.reduceLT, Int.reduceLE, Zi, zL, zT, je, jg, zQ, jv, jo, jw, wG g0, yK g0, qj g0, qL g0, yw g0, kK g0, kW g0, xJ g0 hm.b.ne, qG g0 hm.b.ne, zK (zL _ _ _), zK (zT _ _ _), zK (je _ _ _), zK (jg _ _ _), zK (zQ _ _ _), zK (jv _ _ _), zK (jo _ _ _), zK (jw _ _ _), zK (wG g0), zK (yK g0), zK (qj g0), zK (qL g0), zK (yw g0), zK (kK g0), zK (kW g0), zK (xJ g0 hm.b.ne), zK (qG g0 hm.b.ne), Zw (qG g0 hm.b.ne) (vJ m), wP g0, gvw, e0, e6, c1, c2, zK (c1 _), zK (c2 _), hc0]
  rw [hTe] at hr
  exact zH.runs hr (.inr rfl) hc rfl
theorem kL (b : kT) : ZB b b = true := by simp [ZB]
theorem right_eq (m : jL) : yO m = aco m := by
 unfold yO aco acz
 by_cases hk : m.kind < 0 ∨ 6 < m.kind
 ·
  rw [if_pos hk]
  have : Ya m = false := by simp only [Ya, if_neg (show ¬ m.kind = 0 by omega), if_neg (show ¬ m.kind = 1 by omega), if_neg (show ¬ m.kind = 2 by omega), if_neg (show ¬ m.kind = 3 by omega), if_neg (show ¬ (m.kind = 4 ∨ m.kind = 5) by omega), if_neg (show ¬ m.kind = 6 by omega)]
  rw [this]
  simp
 rw [if_neg hk]
 by_cases f0 : m.frm < 0
 ·
  simp [f0]
 by_cases f7 : 6 < m.frm
 ·
  simp [f0, f7, show 7 ≤ m.frm by omega]
 have f8 : ¬ 7 ≤ m.frm := by omega
 have hv : decide (0 < JW m.value) = Zf m.value := afJ m.value
 have : m.kind = 0 ∨ m.kind = 1 ∨ m.kind = 2 ∨ m.kind = 3 ∨ m.kind = 4 ∨ m.kind = 5 ∨ m.kind = 6 := by omega
 rcases this with h | h | h | h | h | h | h
 ·
  simp only [Jh, wC, Ya, h, decide_true, decide_false, Bool.true_and, Bool.false_and, Bool.not_true, Bool.not_false, Int.reduceEq, Int.reduceLT, if_true, if_false, reduceIte, aee, vwB, yG, J3, nameB, hv, f0, f7, f8, or_true, true_or, or_false, false_or, or_self, Bool.or_false, Bool.false_or, kL, false_and, true_and]
  grind
 ·
  simp only [Jh, wC, Ya, h, decide_true, decide_false, Bool.true_and, Bool.false_and, Bool.not_true, Bool.not_false, Int.reduceEq, Int.reduceLT, if_true, if_false, reduceIte, aee, vwB, yG, J3, nameB, hv, f0, f7, f8, or_true, true_or, or_false, false_or, or_self, Bool.or_false, Bool.false_or, kL, false_and, true_and]
  grind
 ·
  simp only [Jh, wC, Ya, h, decide_true, decide_false, Bool.true_and, Bool.false_and, Bool.not_true, Bool.not_false, Int.reduceEq, Int.reduceLT, if_true, if_false, reduceIte, aee, vwB, yG, J3, nameB, hv, f0, f7, f8, or_true, true_or, or_false, false_or, or_self, Bool.or_false, Bool.false_or, kL, false_and, true_and]
  grind
 ·
  simp only [Jh, wC, Ya, h, decide_true, decide_false, Bool.true_and, Bool.false_and, Bool.not_true, Bool.not_false, Int.reduceEq, Int.reduceLT, if_true, if_false, reduceIte, aee, vwB, yG, J3, nameB, hv, f0, f7, f8, or_true, true_or, or_false, false_or, or_self, Bool.or_false, Bool.false_or, kL, false_and, true_and]
  grind
 ·
  simp only [Jh, wC, Ya, h, decide_true, decide_false, Bool.true_and, Bool.false_and, Bool.not_true, Bool.not_false, Int.reduceEq, Int.reduceLT, if_true, if_false, reduceIte, aee, vwB, yG, J3, nameB, hv, f0, f7, f8, or_true, true_or, or_false, false_or, or_self, Bool.or_false, Bool.false_or, kL, false_and, true_and]
  grind
 ·
  simp only [Jh, wC, Ya, h, decide_true, decide_false, Bool.true_and, Bool.false_and, Bool.not_true, Bool.not_false, Int.reduceEq, Int.reduceLT, if_true, if_false, reduceIte, aee, vwB, yG, J3, nameB, hv, f0, f7, f8, or_true, true_or, or_false, false_or, or_self, Bool.or_false, Bool.false_or, kL, false_and, true_and]
  grind
 ·
  simp only [Jh, wC, Ya, h, decide_true, decide_false, Bool.true_and, Bool.false_and, Bool.not_true, Bool.not_false, Int.reduceEq, Int.reduceLT, if_true, if_false, reduceIte, aee, vwB, yG, J3, nameB, hv, f0, f7, f8, or_true, true_or, or_false, false_or, or_self, Bool.or_false, Bool.false_or, kL, false_and, true_and]
  grind
end Go.Proofs.Ytbgcphbbchndkaa
namespace Go.Proofs.Ytbgcphbbchndkaa
open Go.Abs
theorem abw {n : Int} (h : nameB n = true) : 0 ≤ n ∧ n ≤ 268435455 := by
 unfold nameB at h
 simp only [Bool.or_eq_true, decide_eq_true_eq] at h
 rcases h with h | h
 ·
  omega
 ·
  have := ZA.1 h; omega
structure Xo (m : jL) : Prop where
 kind : 0 ≤ m.kind ∧ m.kind ≤ 6
 frm : 0 ≤ m.frm ∧ m.frm ≤ 6
 index : 0 ≤ m.index ∧ m.index ≤ 1000
 view : 0 ≤ m.view ∧ m.view ≤ 1000
 value : -1 ≤ m.value ∧ m.value ≤ 268435455
 prep : -1 ≤ m.prep ∧ m.prep ≤ 1000
 tx : m.kind = 0 → yC m.tx = true
 blk : m.kind = 1 → jS m.b = true
 notx : m.kind ≠ 0 → m.tx = ⟨0, 0⟩
 noblk : m.kind ≠ 1 → ZB m.b bk0 = true
 noprep : m.kind ≠ 3 → m.prep = 0
theorem kY {m : jL} (h : yO m = true) : Xo m := by
 rw [right_eq] at h
 unfold aco at h
 split at h
 ·
  cases h
 rename_i hf
 split at h
 ·
  cases h
 rename_i ho
 simp only [Bool.or_eq_true, decide_eq_true_eq, not_or] at hf
 have ho : (m.kind ≠ 0 → m.tx = ⟨0, 0⟩) ∧ (m.kind ≠ 1 → ZB m.b bk0 = true) ∧ (m.kind ≠ 3 → m.prep = 0) := by
  unfold acz at ho
  simp only [Bool.or_eq_true, Bool.and_eq_true, Bool.not_eq_true', decide_eq_false_iff_not, not_or, not_and, Decidable.not_not, Bool.not_eq_false] at ho
  exact ⟨ho.1.1, ho.1.2, ho.2⟩
 unfold Ya aee vwB at h
 have nr := fun hn => abw (n := m.value) hn
 have k : m.kind = 0 ∨ m.kind = 1 ∨ m.kind = 2 ∨ m.kind = 3 ∨ m.kind = 4 ∨ m.kind = 5 ∨ m.kind = 6 := by
  by_cases a : m.kind = 0 ∨ m.kind = 1 ∨ m.kind = 2 ∨ m.kind = 3 ∨ m.kind = 4 ∨ m.kind = 5 ∨ m.kind = 6
  ·
   exact a
  ·
   simp only [if_neg (show ¬ m.kind = 0 by omega), if_neg (show ¬ m.kind = 1 by omega), if_neg (show ¬ m.kind = 2 by omega), if_neg (show ¬ m.kind = 3 by omega), if_neg (show ¬ (m.kind = 4 ∨ m.kind = 5) by omega), if_neg (show ¬ m.kind = 6 by omega)] at h
   cases h
 rcases k with k | k | k | k | k | k | k
 ·
  simp only [k, Int.reduceEq, if_true, if_false, reduceIte, or_true, true_or, or_false, or_self, Bool.and_eq_true, Bool.or_eq_true, decide_eq_true_eq] at h
  have hp := ho.2.2
  have hv : -1 ≤ m.value ∧ m.value ≤ 268435455 := by grind
  refine ⟨by omega, by omega, by omega, by omega, hv, by grind, fun e => by grind, fun e => by grind, ho.1, ho.2.1, ho.2.2⟩
 ·
  simp only [k, Int.reduceEq, if_true, if_false, reduceIte, or_true, true_or, or_false, or_self, Bool.and_eq_true, Bool.or_eq_true, decide_eq_true_eq] at h
  have hp := ho.2.2
  have hv : -1 ≤ m.value ∧ m.value ≤ 268435455 := by grind
  refine ⟨by omega, by omega, by omega, by omega, hv, by grind, fun e => by grind, fun e => by grind, ho.1, ho.2.1, ho.2.2⟩
 ·
  simp only [k, Int.reduceEq, if_true, if_false, reduceIte, or_true, true_or, or_false, or_self, Bool.and_eq_true, Bool.or_eq_true, decide_eq_true_eq] at h
  have hp := ho.2.2
  have hv : -1 ≤ m.value ∧ m.value ≤ 268435455 := by grind
  refine ⟨by omega, by omega, by omega, by omega, hv, by grind, fun e => by grind, fun e => by grind, ho.1, ho.2.1, ho.2.2⟩
 ·
  simp only [k, Int.reduceEq, if_true, if_false, reduceIte, or_true, true_or, or_false, or_self, Bool.and_eq_true, Bool.or_eq_true, decide_eq_true_eq] at h
  have hp := ho.2.2
  have hv : -1 ≤ m.value ∧ m.value ≤ 268435455 := by grind
  refine ⟨by omega, by omega, by omega, by omega, hv, by grind, fun e => by grind, fun e => by grind, ho.1, ho.2.1, ho.2.2⟩
 ·
  simp only [k, Int.reduceEq, if_true, if_false, reduceIte, or_true, true_or, or_false, or_self, Bool.and_eq_true, Bool.or_eq_true, decide_eq_true_eq] at h
  have hp := ho.2.2
  have hv : -1 ≤ m.value ∧ m.value ≤ 268435455 := by grind
  refine ⟨by omega, by omega, by omega, by omega, hv, by grind, fun e => by grind, fun e => by grind, ho.1, ho.2.1, ho.2.2⟩
 ·
  simp only [k, Int.reduceEq, if_true, if_false, reduceIte, or_true, true_or, or_false, or_self, Bool.and_eq_true, Bool.or_eq_true, decide_eq_true_eq] at h
  have hp := ho.2.2
  have hv : -1 ≤ m.value ∧ m.value ≤ 268435455 := by grind
  refine ⟨by omega, by omega, by omega, by omega, hv, by grind, fun e => by grind, fun e => by grind, ho.1, ho.2.1, ho.2.2⟩
 ·
  simp only [k, Int.reduceEq, if_true, if_false, reduceIte, or_true, true_or, or_false, or_self, Bool.and_eq_true, Bool.or_eq_true, decide_eq_true_eq] at h
  have hp := ho.2.2
  have hv : -1 ≤ m.value ∧ m.value ≤ 268435455 := by grind
  refine ⟨by omega, by omega, by omega, by omega, hv, by grind, fun e => by grind, fun e => by grind, ho.1, ho.2.1, ho.2.2⟩
def vw (m : jL) : List UInt8 := if m.kind = 0 then txB m.tx else if m.kind = 1 then X8 m.b else []
def ZU (m : jL) : List Int := [m.kind, m.frm, m.index, m.view, m.value, m.prep]
def yL (m : jL) : List UInt8 := encs (ZU m) ++ vw m
def mkM (m : jL) : Nat := (Jg (abI m.frm) (yL m)).toNat
def Xa (m : jL) : List UInt8 := enc (mkM m) ++ yL m
def aaZ (m : jL) : Value := if yO m then .tuple #[by_ 2 (Xa m), .int .i64 0] else .tuple #[.slice none 0 0, .int .i64 121]
theorem aap (key : Int) (b : List UInt8) : 0 ≤ Jg key b ∧ Jg key b < 18446744073709551616 := afq _ _
theorem ad1 (key : Int) (b : List UInt8) : ((Jg key b).toNat : Int) = Jg key b := Int.toNat_of_nonneg (aap key b).1
theorem ahc (key : Int) (b : List UInt8) : (Jg key b).toNat < 2 ^ 64 := by have := aap key b; omega
theorem YQ {m : jL} (h : Xo m) : ∀ n ∈ ZU m, -1 ≤ n ∧ n ≤ 268435455 := by
 intro n hn
 have h1 := h.kind; have h2 := h.frm; have h3 := h.index; have h4 := h.view; have h5 := h.value; have h6 := h.prep
 simp only [ZU, List.mem_cons, List.not_mem_nil, or_false] at hn
 rcases hn with rfl | rfl | rfl | rfl | rfl | rfl <;> omega
theorem KF {m : jL} (h : Xo m) : (encs (ZU m)).length ≤ 60 := by
 have h1 := YQ h
 exact vY (l := ZU m) (fun n hn => by have := h1 n hn; omega)
theorem aax {b : kT} (h : jS b = true) : (X8 b).length ≤ 140 := by
 have hh : headB b = true ∧ xR b.txs = true := by simpa [jS] using h
 unfold X8
 have := aam hh.1; have := aae hh.2
 rw [List.length_append]; omega
theorem ae0 {m : jL} (h : Xo m) : (vw m).length ≤ 140 := by
 unfold vw
 split
 ·
  rename_i h0; have := VX (h.tx h0); omega
 split
 ·
  rename_i h1; exact aax (h.blk h1)
 ·
  simp
theorem JO {m : jL} (h : Xo m) : (yL m).length ≤ 200 := by
 unfold yL; have := KF h; have := ae0 h; rw [List.length_append]; omega
theorem bs6 (a b c d e f : Int) (S : zh) : jy Try.prog 57 6 [(0, .int .i64 a), (1, .int .i64 b), (2, .int .i64 c), (3, .int .i64 d), (4, .int .i64 e), (5, .int .i64 f)] S = some (iz 2 [a, b, c, d, e, f], S) := by kernel_rfl
theorem zU.v {m : jL} (hm : m.Ok) (S : zh) : zM Try.prog O zU.id [mv m] S = some (aaZ m, S) := by
 obtain ⟨T, hTe⟩ : ∃ T, T = (mv m :: undef :: undef :: undef :: undef :: undef :: undef :: undef :: undef :: undef :: undef :: undef :: undef :: undef :: undef :: undef :: undef :: undef :: undef :: undef :: undef :: undef :: undef :: undef :: undef :: undef :: undef :: undef :: undef :: undef :: undef :: undef :: undef :: undef :: undef :: undef :: undef :: undef :: undef :: undef :: undef :: undef :: undef :: undef :: undef :: undef :: undef :: undef :: undef :: undef :: undef :: undef :: undef :: undef :: undef :: undef :: undef :: undef :: undef :: undef :: undef :: undef :: undef :: []) := ⟨_, rfl⟩
 have hr : zu Try.prog O false zU.code T zh.empty = zu Try.prog O false zU.code T zh.empty := rfl
 have g0 := JU m
 have hc : [mv m].all (jh 16) = true := all1 (wK hm.b.okl.le)
 have c0 : ∀ S, zM Try.prog O 14 [mv m] S = some (.bool (yO m), S) := fun S => zH.v hm S
 unfold aaZ
 cases hR : yO m
 ·
  rw [hR] at c0
  conv at hr =>
   rhs
   rw [hTe]
   simp only [zU.code, zU.rs, zSs, reduceIte, Nat.reduceEqDiff, Int.reduceEq, Int.reduceLT, Int.reduceLE, Zi, zL, zT, je, jg, zQ, jv, jo, jw, wG g0, yK g0, qj g0, qL g0, yw g0, kK g0, kW g0, xJ g0 hm.b.ne, qG g0 hm.b.ne, c0]
  rw [hTe] at hr
  exact zU.runs hr (.inr rfl) rfl rfl hc rfl
 ·
  rw [hR] at c0
  have hf := kY hR
  have few := YQ hf
  have c2 : ∀ S, zM Try.prog O 32 [iz 1 [m.kind, m.frm, m.index, m.view, m.value, m.prep]] S = some (.tuple #[by_ 2 (encs (ZU m)), .int .i64 0], S) := fun S => by
   rw [zJ.v (l := [m.kind, m.frm, m.index, m.view, m.value, m.prep]) Okl.read (by decide) (fun n hn => by have := few n hn; omega) S, WR (l := [m.kind, m.frm, m.index, m.view, m.value, m.prep]) (by simp) (fun n hn => (few n hn).1) (by simp)]; rfl
  have ck : ∀ S, zM Try.prog O 27 [.int .i64 m.frm] S = some (.int .u64 (abI m.frm), S) := fun S => yP.v m.frm S
  have cn : ∀ b S, zM Try.prog O 35 [.int .u64 (Jg (abI m.frm) b)] S = some (by_ 2 (enc (Jg (abI m.frm) b).toNat), S) := fun b S => by
   have := jF.v (Jg (abI m.frm) b).toNat (ahc _ _) S
   rw [ad1] at this
   exact this
  have a0 : ∀ S, wz Try.prog 23 23 (by_ 2 (enc (mkM m))) (by_ 1 (yL m)) S = some (by_ 2 (Xa m), S) := fun S => by
   rw [qF Okl.own (by decide) Okl.read (by have := JO hf; have := xM (ahc (abI m.frm) (yL m)); unfold mkM; omega)]; rfl
  have em : enc (Jg (abI m.frm) (yL m)).toNat = enc (mkM m) := rfl
  have cof : ∀ S, zM Try.prog O 36 [.int .u64 (abI m.frm), sv 1 1 1 [by_ 1 (yL m)]] S = some (.int .u64 (Jg (abI m.frm) (yL m)), S) := fun S => jf.v (by have := JO hf; omega) S
  have hcv : jh 16 (.tuple #[by_ 2 (Xa m), .int .i64 0]) = true := wX (all2 (qg (k := 2) (Nat.le_refl 2)) rfl)
  by_cases k0 : m.kind = 0
  ·
   have c3 : ∀ S, zM Try.prog O 33 [tv m.tx] S = some (.tuple #[by_ 2 (txB m.tx), .int .i64 0], S) := fun S => by
    rw [jZ.v m.tx S, aiG, if_pos (hf.tx k0)]
   have a1 : ∀ S, wz Try.prog 23 23 (by_ 2 (encs (ZU m))) (by_ 1 (txB m.tx)) S = some (by_ 2 (yL m), S) := fun S => by
    rw [qF Okl.own (by decide) Okl.read (by have := KF hf; have := VX (hf.tx k0); omega)]
    rw [if_neg (by omega)]; simp only [yL, vw, if_pos k0]
   conv at hr =>
    rhs
    rw [hTe]
    simp only [zU.code, zU.rs, zSs, reduceIte, Nat.reduceEqDiff, Int.reduceEq, Int.reduceLT, Int.reduceLE, Zi, zL, zT, je, jg, zQ, jv, jo, jw, wG g0, yK g0, qj g0, qL g0, yw g0, kK g0, kW g0, xJ g0 hm.b.ne, qG g0 hm.b.ne, c0, bs6, c2, decide_eq_true k0, c3, a1, ck, WX, cof, cn, em, a0]
   rw [hTe] at hr
   exact zU.runs hr (.inr rfl) (by simp only [List.getD_cons_succ, List.getD_cons_zero, jM, jI, jk, jB, jJ]) rfl hc hcv
  by_cases k1 : m.kind = 1
  ·
   have c3 : ∀ S, zM Try.prog O 34 [bv m.b] S = some (.tuple #[by_ 2 (X8 m.b), .int .i64 0], S) := fun S => by
    rw [jd.v hm.b S, ag9, if_pos (hf.blk k1)]
   have a1 : ∀ S, wz Try.prog 23 23 (by_ 2 (encs (ZU m))) (by_ 1 (X8 m.b)) S = some (by_ 2 (yL m), S) := fun S => by
    rw [qF Okl.own (by decide) Okl.read (by have := KF hf; have := aax (hf.blk k1); omega)]
    rw [if_neg (by omega)]; simp only [yL, vw, if_neg k0, if_pos k1]
   conv at hr =>
    rhs
    rw [hTe]
    simp only [zU.code, zU.rs, zSs, reduceIte, Nat.reduceEqDiff, Int.reduceEq, Int.reduceLT, Int.reduceLE, Zi, zL, zT, je, jg, zQ, jv, jo, jw, wG g0, yK g0, qj g0, qL g0, yw g0, kK g0, kW g0, xJ g0 hm.b.ne, qG g0 hm.b.ne, c0, bs6, c2, decide_eq_false k0, decide_eq_true k1, c3, a1, ck, WX, cof, cn, em, a0]
   rw [hTe] at hr
   exact zU.runs hr (.inr rfl) (by simp only [List.getD_cons_succ, List.getD_cons_zero, jM, jI, jk, jB, jJ]) rfl hc hcv
  have eb : encs (ZU m) = yL m := by simp only [yL, vw, if_neg k0, if_neg k1, List.append_nil]
  conv at hr =>
   rhs
   rw [hTe]
   simp only [zU.code, zU.rs, zSs, reduceIte, Nat.reduceEqDiff, Int.reduceEq, Int.reduceLT, Int.reduceLE, Zi, zL, zT, je, jg, zQ, jv, jo, jw, wG g0, yK g0, qj g0, qL g0, yw g0, kK g0, kW g0, xJ g0 hm.b.ne, qG g0 hm.b.ne, c0, bs6, c2, decide_eq_false k0, decide_eq_false k1, eb, ck, WX, cof, cn, em, a0]
  rw [hTe] at hr
  exact zU.runs hr (.inr rfl) (by simp only [List.getD_cons_succ, List.getD_cons_zero, jM, jI, jk, jB, jJ]) rfl hc hcv
end Go.Proofs.Ytbgcphbbchndkaa
namespace Go.Proofs.Ytbgcphbbchndkaa
open Go.Abs
theorem vI {a b : kT} : ZB a b = true ↔ a.slot = b.slot ∧ a.miner = b.miner ∧ a.variant = b.variant ∧ a.parent = b.parent ∧ a.txs = b.txs := by
 simp [ZB]
theorem Q8 {m : jL} {b : kT} (h : ZB m.b b = true) : yO { m with b := b } = yO m := by
 rw [right_eq, right_eq]
 obtain ⟨k, f, i, v, w, p, t, c⟩ := m
 obtain ⟨c1, c2, c3, c4, c5, c6⟩ := c
 obtain ⟨b1, b2, b3, b4, b5, b6⟩ := b
 obtain ⟨e1, e2, e3, e4, e5⟩ := vI.1 h
 dsimp only at e1 e2 e3 e4 e5
 subst e1 e2 e3 e4 e5
 rfl
theorem agY (l : List UInt8) : wL 6 l = none ∨ ∃ a b c d e f r, wL 6 l = some ([a, b, c, d, e, f], r) ∧ r.length ≤ l.length := by
 cases h : wL 6 l with
 | none => exact .inl rfl
 | some ar =>
  obtain ⟨a, r⟩ := ar
  obtain ⟨h1, h2⟩ := ZK h
  match a, h1 with
  | [x, y, z, w, u, v], _ => exact .inr ⟨x, y, z, w, u, v, r, rfl, h2⟩
theorem Jr {x : jL} (hx : yO x = true) : wL 6 (yL x) = some (ZU x, vw x) := by
 have f1 := YQ (kY hx)
 exact (wH _ _ _ _).mpr ⟨rfl, rfl, fun n hn => by have := f1 n hn; unfold Few; omega⟩
theorem YO {l r : List UInt8} {a b c d e f : Int} (h : wL 6 l = some ([a, b, c, d, e, f], r)) {x : jL} (hx : yO x = true) (hl : l = yL x) :
  x.kind = a ∧ x.frm = b ∧ x.index = c ∧ x.view = d ∧ x.value = e ∧ x.prep = f ∧ vw x = r := by
 have := Jr hx
 rw [← hl, h] at this
 simp only [Option.some.injEq, Prod.mk.injEq, ZU, List.cons.injEq, and_true] at this
 obtain ⟨⟨h1, h2, h3, h4, h5, h6⟩, h7⟩ := this
 exact ⟨h1.symm, h2.symm, h3.symm, h4.symm, h5.symm, h6.symm, h7.symm⟩
def Jj (l : List UInt8) (m : jL) (ok : Bool) : Prop := m.Ok ∧ m.b.txs.length ≤ 3 ∧ ((ok = true ∧ yO m = true ∧ l = yL m) ∨ (ok = false ∧ ∀ x, yO x = true → l ≠ yL x))
theorem XA : m0.Ok := by
 have z : Big 0 := ⟨by omega, by omega⟩
 exact ⟨ok0, ⟨z, z⟩, z, z, z, z, z, z⟩
theorem wO {n : Int} (h : Few n) : Big n := by unfold Few at h; unfold Big; omega
theorem afC {t : TxV} (h : yC t = true) : t.Ok := by
 have := qK.1 h
 exact ⟨⟨by omega, by omega⟩, ⟨by omega, by omega⟩⟩
section
variable {l r : List UInt8} {a b c d e f : Int}
theorem aeV {t : TxV} (h : wL 6 l = some ([a, b, c, d, e, f], r)) (ha : a = 0) (ht : adN r = some t) : Jj l ⟨a, b, c, d, e, f, t, bk0⟩ (yO ⟨a, b, c, d, e, f, t, bk0⟩) := by
 obtain ⟨_, g2, few⟩ := (wH _ _ _ _).mp h
 obtain ⟨t1, t2⟩ := (JM r t).1 ht
 refine ⟨⟨ok0, afC t1, wO (few _ (by simp)), wO (few _ (by simp)), wO (few _ (by simp)), wO (few _ (by simp)), wO (few _ (by simp)), wO (few _ (by simp))⟩, by simp, ?_⟩
 cases hR : yO ⟨a, b, c, d, e, f, t, bk0⟩
 ·
  refine .inr ⟨rfl, fun x hx hl => ?_⟩
  obtain ⟨i1, i2, i3, i4, i5, i6, i7⟩ := YO h hx hl
  have hf := kY hx
  have k0 : x.kind = 0 := by omega
  have h3 := (JM r x.tx).2 ⟨hf.tx k0, by rw [← i7, vw, if_pos k0]⟩
  rw [ht] at h3
  have := Q8 (m := x) (b := bk0) (hf.noblk (by omega))
  rw [hx] at this
  have e : ({ x with b := bk0 } : jL) = ⟨a, b, c, d, e, f, t, bk0⟩ := mk_eq i1 i2 i3 i4 i5 i6 (by injection h3 with h3; exact h3.symm) rfl
  rw [e, hR] at this
  cases this
 ·
  refine .inl ⟨rfl, rfl, ?_⟩
  rw [g2, t2]
  simp only [yL, ZU, vw, if_pos ha]
theorem acE {t : TxV} (h : wL 6 l = some ([a, b, c, d, e, f], r)) (ha : a = 0) (ht : adN r = none) : Jj l ⟨a, b, c, d, e, f, ⟨0, 0⟩, bk0⟩ false := by
 obtain ⟨_, g2, few⟩ := (wH _ _ _ _).mp h
 refine ⟨⟨ok0, XA.tx, wO (few _ (by simp)), wO (few _ (by simp)), wO (few _ (by simp)), wO (few _ (by simp)), wO (few _ (by simp)), wO (few _ (by simp))⟩, by simp, .inr ⟨rfl, fun x hx hl => ?_⟩⟩
 obtain ⟨i1, i2, i3, i4, i5, i6, i7⟩ := YO h hx hl
 have k0 : x.kind = 0 := by omega
 have h3 := (JM r x.tx).2 ⟨(kY hx).tx k0, by rw [← i7, vw, if_pos k0]⟩
 rw [ht] at h3
 cases h3
theorem afI {y : kT} (h : wL 6 l = some ([a, b, c, d, e, f], r)) (ha : a = 1) (hy : y.Ok) (hy3 : y.txs.length ≤ 3) (hb : aem r = some ⟨y.slot, y.miner, y.variant, y.parent, 0, y.txs⟩) : Jj l ⟨a, b, c, d, e, f, ⟨0, 0⟩, y⟩ (yO ⟨a, b, c, d, e, f, ⟨0, 0⟩, y⟩) := by
 obtain ⟨_, g2, few⟩ := (wH _ _ _ _).mp h
 obtain ⟨⟨t1, _⟩, t2⟩ := (JI r _).1 hb
 refine ⟨⟨hy, XA.tx, wO (few _ (by simp)), wO (few _ (by simp)), wO (few _ (by simp)), wO (few _ (by simp)), wO (few _ (by simp)), wO (few _ (by simp))⟩, hy3, ?_⟩
 cases hR : yO ⟨a, b, c, d, e, f, ⟨0, 0⟩, y⟩
 ·
  refine .inr ⟨rfl, fun x hx hl => ?_⟩
  obtain ⟨i1, i2, i3, i4, i5, i6, i7⟩ := YO h hx hl
  have hf := kY hx
  have k1 : x.kind = 1 := by omega
  have h3 := (JI r ⟨x.b.slot, x.b.miner, x.b.variant, x.b.parent, 0, x.b.txs⟩).2 ⟨⟨hf.blk k1, rfl⟩, by rw [← i7, vw, if_neg (by omega), if_pos k1]; rfl⟩
  rw [hb] at h3
  simp only [Option.some.injEq, kT.mk.injEq, true_and] at h3
  have := Q8 (m := x) (b := y) (vI.2 ⟨h3.1.symm, h3.2.1.symm, h3.2.2.1.symm, h3.2.2.2.1.symm, h3.2.2.2.2.symm⟩)
  rw [hx] at this
  have e : ({ x with b := y } : jL) = ⟨a, b, c, d, e, f, ⟨0, 0⟩, y⟩ := mk_eq i1 i2 i3 i4 i5 i6 (hf.notx (by omega)) rfl
  rw [e, hR] at this
  cases this
 ·
  refine .inl ⟨rfl, rfl, ?_⟩
  rw [g2, t2]
  simp only [yL, ZU, vw, if_pos ha, if_neg (show ¬ a = 0 by omega)]
  rfl
theorem ab7 (h : wL 6 l = some ([a, b, c, d, e, f], r)) (ha : a = 1) (hb : aem r = none) : Jj l ⟨a, b, c, d, e, f, ⟨0, 0⟩, bk0⟩ false := by
 obtain ⟨_, g2, few⟩ := (wH _ _ _ _).mp h
 refine ⟨⟨ok0, XA.tx, wO (few _ (by simp)), wO (few _ (by simp)), wO (few _ (by simp)), wO (few _ (by simp)), wO (few _ (by simp)), wO (few _ (by simp))⟩, by simp, .inr ⟨rfl, fun x hx hl => ?_⟩⟩
 obtain ⟨i1, i2, i3, i4, i5, i6, i7⟩ := YO h hx hl
 have k1 : x.kind = 1 := by omega
 have h3 := (JI r ⟨x.b.slot, x.b.miner, x.b.variant, x.b.parent, 0, x.b.txs⟩).2 ⟨⟨(kY hx).blk k1, rfl⟩, by rw [← i7, vw, if_neg (by omega), if_pos k1]; rfl⟩
 rw [hb] at h3
 cases h3
theorem afn (h : wL 6 l = some ([a, b, c, d, e, f], r)) (h0 : a ≠ 0) (h1 : a ≠ 1) : Jj l ⟨a, b, c, d, e, f, ⟨0, 0⟩, bk0⟩ (decide ((r.length : Int) = 0) && yO ⟨a, b, c, d, e, f, ⟨0, 0⟩, bk0⟩) := by
 obtain ⟨_, g2, few⟩ := (wH _ _ _ _).mp h
 refine ⟨⟨ok0, XA.tx, wO (few _ (by simp)), wO (few _ (by simp)), wO (few _ (by simp)), wO (few _ (by simp)), wO (few _ (by simp)), wO (few _ (by simp))⟩, by simp, ?_⟩
 cases hR : (decide ((r.length : Int) = 0) && yO ⟨a, b, c, d, e, f, ⟨0, 0⟩, bk0⟩)
 ·
  refine .inr ⟨rfl, fun x hx hl => ?_⟩
  obtain ⟨i1, i2, i3, i4, i5, i6, i7⟩ := YO h hx hl
  have hf := kY hx
  rw [vw, if_neg (by omega), if_neg (by omega)] at i7
  have := Q8 (m := x) (b := bk0) (hf.noblk (by omega))
  rw [hx] at this
  have e : ({ x with b := bk0 } : jL) = ⟨a, b, c, d, e, f, ⟨0, 0⟩, bk0⟩ := mk_eq i1 i2 i3 i4 i5 i6 (hf.notx (by omega)) rfl
  rw [e] at this
  rw [this, ← i7] at hR
  simp at hR
 ·
  rw [Bool.and_eq_true, decide_eq_true_eq] at hR
  refine .inl ⟨rfl, hR.2, ?_⟩
  have hr0 : r = [] := List.length_eq_zero_iff.1 (by omega)
  rw [g2, hr0]
  simp only [yL, ZU, vw, if_neg h0, if_neg h1]
theorem abM (h : wL 6 l = none) : Jj l m0 false := ⟨XA, by simp, .inr ⟨rfl, fun x hx hl => by
 have := Jr hx
 rw [← hl, h] at this
 cases this⟩⟩
end
theorem zC.v {k : Nat} {l : List UInt8} (hk : Okl k l) (k2 : k ≠ 2) (hl : l.length ≤ 140737488355328) : ∃ m ok, Jj l m ok ∧ ∀ S, zM Try.prog O zC.id [by_ k l] S = some (.tuple #[mv m, .bool ok], S) := by
 have a1 : wF Try.prog 30 zh.empty = some (.pointer (some ⟨0, 0, none⟩), WC m0) := YW zh.empty
 have g1 := JU m0
 have ne0 : (0 : Nat) ≠ 2 := by decide
 have cl : [by_ k l].all (jh 16) = true := all1 (qg (k := k) hk.le)
 obtain ⟨T, hTe⟩ : ∃ T, T = (by_ k l :: undef :: undef :: undef :: undef :: undef :: undef :: undef :: undef :: undef :: undef :: undef :: undef :: undef :: undef :: undef :: undef :: undef :: undef :: undef :: undef :: undef :: undef :: undef :: undef :: undef :: undef :: undef :: undef :: undef :: undef :: undef :: undef :: undef :: undef :: undef :: undef :: undef :: undef :: undef :: undef :: undef :: undef :: undef :: undef :: undef :: undef :: undef :: undef :: undef :: undef :: undef :: undef :: undef :: undef :: undef :: undef :: undef :: undef :: undef :: undef :: undef :: undef :: undef :: undef :: undef :: undef :: undef :: undef :: []) := ⟨_, rfl⟩
 have hr : zu Try.prog O false zC.code T zh.empty = zu Try.prog O false zC.code T zh.empty := rfl
 have c1 := fun S => zn.v (many := 6) hk k2 hl S
 have r1 : ∀ k0 k1, Zv k0 k1 6 l = _ := fun k0 k1 => Zc (m := 6) (by decide) (by decide)
 rw [r1] at c1
 rcases agY l with h | ⟨a, b, c, d, e, f, r, h, hlr⟩
 ·
  rw [h] at c1
  refine ⟨m0, false, abM h, fun S => ?_⟩
  have s1 := WY g1 m0
  conv at hr =>
   rhs
   rw [hTe]
   simp only [zC.code, zC.rs, zSs, reduceIte, Nat.reduceEqDiff, Int.reduceEq, Int.reduceLT, Int.reduceLE, if_neg k2, a1, c1, qG g1 (by decide), s1]
  rw [hTe] at hr
  exact zC.runs hr (.inr rfl) (qG (jG _ 0 m0) (by decide)) rfl rfl cl rfl
 ·
  rw [h] at c1
  have i0 := fun S => Z5 (k := 1) (i := 0) (m := 0) (l := [a, b, c, d, e, f]) Okl.read rfl rfl S
  have i1 := fun S => Z5 (k := 1) (i := 1) (m := 1) (l := [a, b, c, d, e, f]) Okl.read rfl rfl S
  have i2 := fun S => Z5 (k := 1) (i := 2) (m := 2) (l := [a, b, c, d, e, f]) Okl.read rfl rfl S
  have i3 := fun S => Z5 (k := 1) (i := 3) (m := 3) (l := [a, b, c, d, e, f]) Okl.read rfl rfl S
  have i4 := fun S => Z5 (k := 1) (i := 4) (m := 4) (l := [a, b, c, d, e, f]) Okl.read rfl rfl S
  have i5 := fun S => Z5 (k := 1) (i := 5) (m := 5) (l := [a, b, c, d, e, f]) Okl.read rfl rfl S
  have bd := fun S => Zn (y0 := .int .i64 a) (y1 := .int .i64 b) (y2 := .int .i64 c) (y3 := .int .i64 d) (y4 := .int .i64 e) (y5 := .int .i64 f) qo qo qo qo qo qo S
  have s1 : jP Try.prog 30 (.pointer (some ⟨0, 0, none⟩)) (.agg [Value.int .i64 a, .int .i64 b, .int .i64 c, .int .i64 d, .int .i64 e, .int .i64 f, .int .i64 0, .int .i64 0, .int .i64 0, .int .i64 0, .int .i64 0, .int .i64 0, .slice none 0 0].toArray) (WC m0) = some (undef, yM (WC m0) 0 ⟨a, b, c, d, e, f, ⟨0, 0⟩, bk0⟩) := WY g1 ⟨a, b, c, d, e, f, ⟨0, 0⟩, bk0⟩
  have g2 := jG (WC m0) 0 ⟨a, b, c, d, e, f, ⟨0, 0⟩, bk0⟩
  generalize yM (WC m0) 0 ⟨a, b, c, d, e, f, ⟨0, 0⟩, bk0⟩ = A2 at s1 g2
  by_cases k0 : a = 0
  ·
   obtain ⟨t, x, o1, o2⟩ := abD r
   have c2 := fun S => wB.v (k := 1) (l := r) Okl.read (by decide) (by omega) S
   rw [o1] at c2
   have s2 := aik g2 t
   have g3 := jG A2 0 ⟨a, b, c, d, e, f, t, bk0⟩
   dsimp only at s2
   generalize yM A2 0 ⟨a, b, c, d, e, f, t, bk0⟩ = A3 at s2 g3
   have s3 := WY g3 ⟨a, b, c, d, e, f, t, bk0⟩
   have fin := qG (jG A3 0 ⟨a, b, c, d, e, f, t, bk0⟩) (by show (0 : Nat) ≠ 2; decide)
   rcases o2 with ⟨rfl, o2⟩ | ⟨rfl, o2, rfl⟩
   ·
    have hP := aeV h k0 o2
    have c3 := fun S => zH.v hP.1 S
    refine ⟨_, _, hP, fun S => ?_⟩
    conv at hr =>
     rhs
     rw [hTe]
     simp only [zC.code, zC.rs, zSs, reduceIte, Nat.reduceEqDiff, Int.reduceEq, Int.reduceLT, Int.reduceLE, if_neg k2, a1, c1, i0, i1, i2, i3, i4, i5, qZ, bd, s1, zL, wG g2, decide_eq_true k0, c2, jo, s2, qG g3 ne0, Wy (vJ _), c3, wP g3, s3]
    rw [hTe] at hr
    exact zC.runs hr (.inr rfl) fin rfl rfl cl (wX (all2 (wK hP.1.b.okl.le) rfl))
   ·
    have hP := acE (t := ⟨0, 0⟩) h k0 o2
    refine ⟨_, _, hP, fun S => ?_⟩
    conv at hr =>
     rhs
     rw [hTe]
     simp only [zC.code, zC.rs, zSs, reduceIte, Nat.reduceEqDiff, Int.reduceEq, Int.reduceLT, Int.reduceLE, if_neg k2, a1, c1, i0, i1, i2, i3, i4, i5, qZ, bd, s1, zL, wG g2, decide_eq_true k0, c2, jo, s2, qG g3 ne0, Wy (vJ _), wP g3, s3]
    rw [hTe] at hr
    exact zC.runs hr (.inr rfl) fin rfl rfl cl (wX (all2 (wK hP.1.b.okl.le) rfl))
  by_cases k1 : a = 1
  ·
   obtain ⟨y, x, ⟨hy, hy3, o2⟩, c2⟩ := zO.v (k := 1) (l := r) Okl.read (by decide) (by omega)
   have s2 := aiL g2 y
   have g3 := jG A2 0 ⟨a, b, c, d, e, f, ⟨0, 0⟩, y⟩
   dsimp only at s2
   generalize yM A2 0 ⟨a, b, c, d, e, f, ⟨0, 0⟩, y⟩ = A3 at s2 g3
   have s3 := WY g3 ⟨a, b, c, d, e, f, ⟨0, 0⟩, y⟩
   have fin := qG (jG A3 0 ⟨a, b, c, d, e, f, ⟨0, 0⟩, y⟩) hy.ne
   rcases o2 with ⟨rfl, o2, _⟩ | ⟨rfl, o2, rfl⟩
   ·
    have hP := afI h k1 hy hy3 o2
    have c3 := fun S => zH.v hP.1 S
    refine ⟨_, _, hP, fun S => ?_⟩
    conv at hr =>
     rhs
     rw [hTe]
     simp only [zC.code, zC.rs, zSs, reduceIte, Nat.reduceEqDiff, Int.reduceEq, Int.reduceLT, Int.reduceLE, if_neg k2, a1, c1, i0, i1, i2, i3, i4, i5, qZ, bd, s1, zL, wG g2, decide_eq_false k0, decide_eq_true k1, c2, jw, s2, qG g3 hy.ne, Wy (vJ _), c3, wP g3, s3]
    rw [hTe] at hr
    exact zC.runs hr (.inr rfl) fin rfl rfl cl (wX (all2 (wK hP.1.b.okl.le) rfl))
   ·
    have hP := ab7 h k1 o2
    refine ⟨_, _, hP, fun S => ?_⟩
    conv at hr =>
     rhs
     rw [hTe]
     simp only [zC.code, zC.rs, zSs, reduceIte, Nat.reduceEqDiff, Int.reduceEq, Int.reduceLT, Int.reduceLE, if_neg k2, a1, c1, i0, i1, i2, i3, i4, i5, qZ, bd, s1, zL, wG g2, decide_eq_false k0, decide_eq_true k1, c2, jw, s2, qG g3 ne0, Wy (vJ _), wP g3, s3]
    rw [hTe] at hr
    exact zC.runs hr (.inr rfl) fin rfl rfl cl (wX (all2 (wK hP.1.b.okl.le) rfl))
  have hP := afn h k0 k1
  have c3 := fun S => zH.v hP.1 S
  have ln : ∀ S, ZT Try.prog 23 (by_ 1 r) S = some (.int .i64 r.length, S) := fun S => ZW Okl.read
  have s3 := WY g2 ⟨a, b, c, d, e, f, ⟨0, 0⟩, bk0⟩
  have fin := qG (jG A2 0 ⟨a, b, c, d, e, f, ⟨0, 0⟩, bk0⟩) (by show (0 : Nat) ≠ 2; decide)
  refine ⟨_, _, hP, fun S => ?_⟩
  conv at hr =>
   rhs
   rw [hTe]
   simp only [zC.code, zC.rs, zSs, reduceIte, Nat.reduceEqDiff, Int.reduceEq, Int.reduceLT, Int.reduceLE, if_neg k2, a1, c1, i0, i1, i2, i3, i4, i5, qZ, bd, s1, zL, wG g2, decide_eq_false k0, decide_eq_false k1, ln, qG g2 ne0, zK (qG g2 ne0), zK (c3 _), gvw, Wy (vJ _), wP g2, s3]
  rw [hTe] at hr
  exact zC.runs hr (.inr rfl) fin rfl rfl cl (wX (all2 (wK hP.1.b.okl.le) rfl))
end Go.Proofs.Ytbgcphbbchndkaa
namespace Go.Proofs.Ytbgcphbbchndkaa
open Go.Abs
theorem Zy {x y : jL} : Jh x y = true ↔ x.kind = y.kind ∧ x.frm = y.frm ∧ x.index = y.index ∧ x.view = y.view ∧ x.value = y.value ∧ x.prep = y.prep ∧ x.tx = y.tx ∧ ZB x.b y.b = true := by
 simp [Jh]
theorem abJ {a b : kT} (h : ZB a b = true) : ZB b a = true := by
 rw [vI] at h ⊢; exact ⟨h.1.symm, h.2.1.symm, h.2.2.1.symm, h.2.2.2.1.symm, h.2.2.2.2.symm⟩
theorem VJ {a b c : kT} (h : ZB a b = true) (k : ZB b c = true) : ZB a c = true := by
 rw [vI] at h k ⊢; exact ⟨h.1.trans k.1, h.2.1.trans k.2.1, h.2.2.1.trans k.2.2.1, h.2.2.2.1.trans k.2.2.2.1, h.2.2.2.2.trans k.2.2.2.2⟩
theorem like {x y : jL} (h : Jh x y = true) : yO y = yO x ∧ yL y = yL x ∧ Xa y = Xa x := by
 obtain ⟨h1, h2, h3, h4, h5, h6, h7, h8⟩ := Zy.1 h
 have e : y = { x with b := y.b } := mk_eq h1.symm h2.symm h3.symm h4.symm h5.symm h6.symm h7.symm rfl
 have hb : yL y = yL x := by
  obtain ⟨s1, s2, s3, s4, s5⟩ := vI.1 h8
  simp only [yL, ZU, vw, X8, ← h1, ← h2, ← h3, ← h4, ← h5, ← h6, ← h7, ← s1, ← s2, ← s3, ← s4, ← s5]
 refine ⟨?_, hb, ?_⟩
 ·
  rw [e]; exact Q8 h8
 ·
  simp only [Xa, mkM, hb, ← h2]
theorem KD {x y : jL} (hx : yO x = true) (hy : yO y = true) (h : yL x = yL y) : Jh x y = true := by
 have e := Jr hx
 rw [h, Jr hy] at e
 simp only [Option.some.injEq, Prod.mk.injEq, ZU, List.cons.injEq, and_true] at e
 obtain ⟨⟨h1, h2, h3, h4, h5, h6⟩, h7⟩ := e
 have fx := kY hx; have fy := kY hy
 refine Zy.2 ⟨h1.symm, h2.symm, h3.symm, h4.symm, h5.symm, h6.symm, ?_, ?_⟩
 ·
  by_cases k : x.kind = 0
  ·
   have ky : y.kind = 0 := by omega
   rw [vw, vw, if_pos k, if_pos ky] at h7
   exact (acj (r := []) (s := []) (fx.tx k) (fy.tx ky) (by rw [List.append_nil, List.append_nil, h7])).1
  ·
   rw [fx.notx k, fy.notx (by omega)]
 ·
  by_cases k : x.kind = 1
  ·
   have ky : y.kind = 1 := by omega
   rw [vw, vw, if_neg (show ¬ y.kind = 0 by omega), if_neg (show ¬ x.kind = 0 by omega), if_pos ky, if_pos k] at h7
   exact vI.2 (aaQ (r := []) (s := []) (fx.blk k) (fy.blk ky) (by rw [List.append_nil, List.append_nil, h7])).1
  ·
   exact VJ (fx.noblk k) (abJ (fy.noblk (by omega)))
theorem WI (m : jL) : mkM m < 2 ^ 64 := ahc _ _
def ab1 (l : List UInt8) (m : jL) (e : Int) : Prop := m.Ok ∧ m.b.txs.length ≤ 3 ∧ ((e = 0 ∧ yO m = true ∧ l = Xa m) ∨ (e = 121 ∧ m = m0 ∧ ∀ x, yO x = true → l ≠ Xa x))
theorem Vu {l : List UInt8} (h : scan 0 0 l = none) : ab1 l m0 121 := ⟨XA, by simp, .inr ⟨rfl, rfl, fun x hx hl => by
 have := ZP (WI x) (yL x)
 rw [show enc (mkM x) ++ yL x = l from hl.symm, h] at this
 cases this⟩⟩
theorem aah {l r : List UInt8} {n : Nat} (h : scan 0 0 l = some (n, r)) {x : jL} (hl : l = Xa x) : n = mkM x ∧ r = yL x := by
 have := ZP (WI x) (yL x)
 rw [show enc (mkM x) ++ yL x = l from hl.symm, h] at this
 simpa using this
theorem ji.v {k : Nat} {l : List UInt8} (hk : Okl k l) (k2 : k ≠ 2) (hl : l.length ≤ 140737488355328) : ∃ m e, ab1 l m e ∧ ∀ S, zM Try.prog O ji.id [by_ k l] S = some (.tuple #[mv m, .int .i64 e], S) := by
 have a1 : wF Try.prog 30 zh.empty = some (.pointer (some ⟨0, 0, none⟩), WC m0) := YW zh.empty
 have g1 := JU m0
 have ne0 : (0 : Nat) ≠ 2 := by decide
 have cl : [by_ k l].all (jh 16) = true := all1 (qg (k := k) hk.le)
 obtain ⟨T, hTe⟩ : ∃ T, T = (by_ k l :: undef :: undef :: undef :: undef :: undef :: undef :: undef :: undef :: undef :: undef :: undef :: undef :: undef :: undef :: undef :: undef :: undef :: undef :: undef :: undef :: undef :: undef :: undef :: undef :: undef :: undef :: undef :: undef :: undef :: undef :: undef :: undef :: undef :: undef :: undef :: []) := ⟨_, rfl⟩
 have hr : zu Try.prog O false ji.code T zh.empty = zu Try.prog O false ji.code T zh.empty := rfl
 have c1 := fun S => zG.v hk k2 hl S
 unfold Kw at c1
 have z0 : ∀ S, yA Try.prog 30 [] S = some (mv m0, S) := fun S => abq S
 cases h : scan 0 0 l with
 | none =>
  rw [h] at c1
  have s1 := WY g1 m0
  refine ⟨m0, 121, Vu h, fun S => ?_⟩
  conv at hr =>
   rhs
   rw [hTe]
   simp only [ji.code, ji.rs, zSs, reduceIte, Nat.reduceEqDiff, Int.reduceEq, Int.reduceLT, Int.reduceLE, if_neg k2, a1, c1, z0, s1]
  rw [hTe] at hr
  exact ji.runs hr (.inr rfl) (qG (jG _ 0 m0) ne0) rfl rfl cl rfl
 | some nr =>
  obtain ⟨n, r⟩ := nr
  rw [h] at c1
  obtain ⟨hn, hlr⟩ := VN l 0 0 (by decide) (by decide) n r h
  obtain ⟨m, ok, ⟨mo, m3, hP⟩, c2⟩ := zC.v (k := 1) (l := r) Okl.read (by decide) (by omega)
  have a2 : wF Try.prog 30 (WC m0) = some (.pointer (some ⟨1, 0, none⟩), Vj m0 m0) := YW (WC m0)
  have s1 := WY (acg m0 m0) m
  have g2 := jG (Vj m0 m0) 1 m
  have g3 : (yM (Vj m0 m0) 1 m).get 0 = some (.cells (fM m0) (.own []) 0) := (jR (by decide)).trans (adp m0 m0)
  generalize yM (Vj m0 m0) 1 m = A2 at s1 g2 g3
  have s2 := WY g3 m0
  have f2 := qG (jG A2 0 m0) ne0
  have s3 := WY g3 m
  have f3 := qG (jG A2 0 m) mo.b.ne
  rcases hP with ⟨rfl, hR, hb⟩ | ⟨rfl, hP⟩
  ·
   have ck := fun S => yP.v m.frm S
   have ct := fun S => wI.v (k := 1) (l := r) Okl.read rfl (by omega) (key := abI m.frm) (mark := n) S
   have em : Jg (abI m.frm) r = (mkM m : Nat) := by rw [hb]; exact (ad1 _ _).symm
   by_cases hq : Jg (abI m.frm) r = n
   ·
    refine ⟨m, 0, ⟨mo, m3, .inl ⟨rfl, hR, ?_⟩⟩, fun S => ?_⟩
    ·
     rw [(XK h).1, Xa, ← hb]
     congr 2
     omega
    rw [decide_eq_true hq] at ct
    conv at hr =>
     rhs
     rw [hTe]
     simp only [ji.code, ji.rs, zSs, reduceIte, Nat.reduceEqDiff, Int.reduceEq, Int.reduceLT, Int.reduceLE, if_neg k2, a1, c1, c2, a2, s1, zT, yK g2, ck, ct, qG g2 mo.b.ne, s3]
    rw [hTe] at hr
    exact ji.runs hr (.inr rfl) f3 rfl rfl cl (wX (all2 (wK mo.b.okl.le) rfl))
   ·
    refine ⟨m0, 121, ⟨XA, by simp, .inr ⟨rfl, rfl, fun x hx hl => ?_⟩⟩, fun S => ?_⟩
    ·
     obtain ⟨i1, i2⟩ := aah h hl
     have hs := KD hx hR (by rw [← i2, hb])
     refine hq ?_
     rw [em, i1]
     simp only [mkM, (like hs).2.1, (Zy.1 hs).2.1]
    rw [decide_eq_false hq] at ct
    conv at hr =>
     rhs
     rw [hTe]
     simp only [ji.code, ji.rs, zSs, reduceIte, Nat.reduceEqDiff, Int.reduceEq, Int.reduceLT, Int.reduceLE, if_neg k2, a1, c1, c2, a2, s1, zT, yK g2, ck, ct, z0, s2]
    rw [hTe] at hr
    exact ji.runs hr (.inr rfl) f2 rfl rfl cl rfl
  ·
   refine ⟨m0, 121, ⟨XA, by simp, .inr ⟨rfl, rfl, fun x hx hl => hP x hx (aah h hl).2⟩⟩, fun S => ?_⟩
   conv at hr =>
    rhs
    rw [hTe]
    simp only [ji.code, ji.rs, zSs, reduceIte, Nat.reduceEqDiff, Int.reduceEq, Int.reduceLT, Int.reduceLE, if_neg k2, a1, c1, c2, a2, s1, z0, s2]
   rw [hTe] at hr
   exact ji.runs hr (.inr rfl) f2 rfl rfl cl rfl
end Go.Proofs.Ytbgcphbbchndkaa
namespace Go.Proofs.Ytbgcphbbchndkaa
open Go.Abs
theorem agI (m : jL) (S : zh) : ∃ S2, Wi (mv m) S = some (.pointer (some ⟨S.next, 0, none⟩), S2) ∧ S2.get S.next = some (.cells (fM m) (.own []) 0) ∧ Ext S S2 ∧ S.next < S2.next := aiJ (mv m) S
theorem QW (m : jL) (S : zh) : ∃ S2, jP Try.prog 30 (.pointer (some ⟨S.next, 0, none⟩)) (mv m) (S.push (.cells (fM m0) (.own []) 0)) = some (undef, S2) ∧ S2.get S.next = some (.cells (fM m) (.own []) 0) ∧ Ext S S2 ∧ S.next < S2.next :=
 Yl S (by rw [y7]; rfl) Yq rfl (aiu m)
abbrev tM : Ty := .pair (.int .i64) (.pair (.int .i64) (.pair (.int .i64) (.pair (.int .i64) (.pair (.int .i64) (.pair (.int .i64) (.pair tTx (.pair tBk .unit)))))))
theorem aje (x : tM.Val) (hg : tM.Good x) : ∃ m : jL, tM.Ws x = fM m ∧ m.Ok := by
 obtain ⟨a, b, c, d, e, f, t, y, u⟩ := x
 obtain ⟨h1, h2, h3, h4, h5, h6, h7, h8, _⟩ := hg
 obtain ⟨t', t1, ht⟩ := ais t h7
 obtain ⟨y', y1, hy⟩ := aiY y h8
 refine ⟨⟨a, b, c, d, e, f, t', y'⟩, ?_, ⟨hy, ht, Z4 h1, Z4 h2, Z4 h3, Z4 h4, Z4 h5, Z4 h6⟩⟩
 show [Value.int .i64 a] ++ ([Value.int .i64 b] ++ ([Value.int .i64 c] ++ ([Value.int .i64 d] ++ ([Value.int .i64 e] ++ ([Value.int .i64 f] ++ (tTx.Ws t ++ (tBk.Ws y ++ []))))))) = _
 rw [t1, y1]; rfl
theorem aaM {m : jL} (h : yO m = true) : (Xa m).length ≤ 210 := by
 unfold Xa
 have := JO (kY h); have := xM (WI m)
 rw [List.length_append]; omega
end Go.Proofs.Ytbgcphbbchndkaa
namespace Go.Proofs.Ytbgcphbbchndkaa
open Go.Abs
theorem wW.v (S : zh) : zM Try.prog O 9 [] S = some (.bool true, S) := afm (n := 80) (by kernel_rfl)
end Go.Proofs.Ytbgcphbbchndkaa
namespace Go.Proofs.Ytbgcphbbchndkaa
open Go.Abs
namespace msgMarks
def codes : List (Bool × Ty) := [(true, tM), (false, .int .i64), (false, .int .u64)]
theorem coded : Y9 Try.prog 9 [30, 3, 42] = some codes := by kernel_rfl
theorem agk {n : Nat} (hn : n < 2 ^ 64) {a z : jL} {e : Int} (ha : yO a = true) (h : ab1 (enc n ++ yL a) z e) : (e = 0 ∨ e = 121) ∧ (e = 0 ↔ n = mkM a) := by
 obtain ⟨_, _, ⟨rfl, hz, hl⟩ | ⟨rfl, rfl, hno⟩⟩ := h
 ·
  obtain ⟨i1, i2⟩ := agP hn (WI z) hl
  have hs := KD hz ha i2.symm
  have : mkM z = mkM a := by
   have hl := like hs
   simp only [mkM, hl.2.1, (Zy.1 hs).2.1]
  exact ⟨.inl rfl, ⟨fun _ => i1.trans this, fun _ => rfl⟩⟩
 ·
  refine ⟨.inr rfl, ⟨fun h => by omega, fun h => absurd ?_ (hno a ha)⟩⟩
  rw [h]; rfl
theorem run {a : jL} {frm mark : Int} (ha : a.Ok) (hf : Big frm) (hm0 : 0 ≤ mark) (hm1 : mark < 18446744073709551616) (S : zh) : ∃ S', zM Try.prog O 6 [mv a, .int .i64 frm, .int .u64 mark] S = some (.bool true, S') := by
 obtain ⟨T, hTe⟩ : ∃ T, T = (mv a :: .int .i64 frm :: .int .u64 mark :: undef :: undef :: undef :: undef :: undef :: undef :: undef :: undef :: undef :: undef :: undef :: undef :: undef :: undef :: undef :: undef :: undef :: undef :: undef :: undef :: undef :: undef :: undef :: undef :: undef :: undef :: undef :: undef :: undef :: undef :: undef :: undef :: undef :: undef :: undef :: undef :: undef :: undef :: undef :: undef :: undef :: undef :: undef :: undef :: undef :: undef :: undef :: undef :: undef :: undef :: undef :: undef :: undef :: undef :: undef :: undef :: undef :: undef :: undef :: undef :: undef :: undef :: undef :: undef :: undef :: undef :: undef :: undef :: undef :: undef :: undef :: undef :: undef :: undef :: undef :: undef :: undef :: undef :: undef :: undef :: undef :: undef :: undef :: undef :: undef :: undef :: undef :: undef :: undef :: undef :: undef :: undef :: undef :: undef :: undef :: undef :: undef :: undef :: undef :: undef :: []) := ⟨_, rfl⟩
 have hr : zu Try.prog O false zi.code T S = zu Try.prog O false zi.code T S := rfl
 obtain ⟨S1, b1, b2, b3, b4⟩ := agI a S
 obtain ⟨S2, d1, d2, d3, d4⟩ := QW a S1
 have ga : S2.get S.next = some (.cells (fM a) (.own []) 0) := (d3.get _ b4).trans b2
 have s1 := aiT d2 frm
 have gb := jG S2 S1.next { a with frm := frm }
 have ga2 : (yM S2 S1.next { a with frm := frm }).get S.next = some (.cells (fM a) (.own []) 0) := (jR (by omega)).trans ga
 generalize yM S2 S1.next { a with frm := frm } = S3 at s1 gb ga2
 have hb : jL.Ok { a with frm := frm } := ⟨ha.b, ha.tx, ha.kind, hf, ha.index, ha.view, ha.value, ha.prep⟩
 have hbf : ({ a with frm := frm } : jL).frm = frm := rfl
 have hbb : ({ a with frm := frm } : jL).b.k ≠ 2 := ha.b.ne
 generalize ({ a with frm := frm } : jL) = b at hb gb hbf hbb
 have c1 := fun S => zH.v ha S
 have c2 := fun S => zH.v hb S
 by_cases hR : yO a = true
 ·
  rw [hR] at c1
  by_cases hQ : yO b = true
  ·
   rw [hQ] at c2
   by_cases hne : frm = a.frm
   ·
    have dq := decide_eq_true hne
    conv at hr =>
     rhs
     rw [hTe]
     simp only [zi.code, zi.rs, zSs, reduceIte, Nat.reduceEqDiff, Int.reduceEq, Int.reduceLT, Int.reduceLE, b1, wW.v, qG b2 ha.b.ne, YW, d1, zT, s1, qG ga2 ha.b.ne, c1, qG gb hbb, c2, yK ga2, dq]
    rw [hTe] at hr
    exact ⟨_, zi.runs hr (.inr rfl)⟩
   ·
    have dq := decide_eq_false hne
    have c3 := fun S => zU.v ha S
    have c4 := fun S => zU.v hb S
    rw [show aaZ a = .tuple #[by_ 2 (Xa a), .int .i64 0] by rw [aaZ, if_pos hR]] at c3
    rw [show aaZ b = .tuple #[by_ 2 (Xa b), .int .i64 0] by rw [aaZ, if_pos hQ]] at c4
    have la := aaM hR
    have lb := aaM hQ
    have lba := JO (kY hR)
    have lbb := JO (kY hQ)
    have rv : ∀ m, Kw (Xa m) = .tuple #[.int .u64 (mkM m : Nat), by_ 2 (yL m), .int .i64 0] := fun m => by
     unfold Kw
     rw [show scan 0 0 (Xa m) = some (mkM m, yL m) from ZP (WI m) (yL m)]
    have c5 := fun S => zk.v (k := 1) (l := Xa a) Okl.read (by decide) (by omega) S
    have c6 := fun S => zk.v (k := 1) (l := Xa b) Okl.read (by decide) (by omega) S
    rw [rv] at c5 c6
    have hbody : ¬ yL a = yL b := fun h => hne ((Zy.1 (KD hR hQ h)).2.1.symm ▸ hbf.symm)
    have db := decide_eq_false hbody
    have cs2 : ∀ (x : List UInt8) S, Jk Try.prog 23 9 (by_ 1 x) S = some (.string ⟨x.toArray⟩, S) := fun x S => aiE Okl.read
    have cn : ∀ S, zM Try.prog O 17 [.int .u64 (mkM a : Nat)] S = some (by_ 2 (enc (mkM a)), S) := fun S => zy.v _ (WI a) S
    obtain ⟨n, rfl⟩ : ∃ n : Nat, mark = n := ⟨mark.toNat, by omega⟩
    have hn : n < 2 ^ 64 := by omega
    have cn2 : ∀ S, zM Try.prog O 17 [.int .u64 (n : Nat)] S = some (by_ 2 (enc n), S) := fun S => zy.v _ hn S
    have l1 := xM (WI a)
    have l2 := xM hn
    have a1 : ∀ S, wz Try.prog 23 23 (by_ 2 (enc (mkM a))) (by_ 1 (yL b)) S = some (by_ 2 (enc (mkM a) ++ yL b), S) := fun S => by
     rw [qF Okl.own (by decide) Okl.read (by omega), if_neg (by omega)]
    have a2 : ∀ S, wz Try.prog 23 23 (by_ 2 (enc n)) (by_ 1 (yL a)) S = some (by_ 2 (enc n ++ yL a), S) := fun S => by
     rw [qF Okl.own (by decide) Okl.read (by omega), if_neg (by omega)]
    obtain ⟨z, e, q2, c8⟩ := ji.v (k := 1) (l := enc n ++ yL a) Okl.read (by decide) (by rw [List.length_append]; omega)
    obtain ⟨he, hmk⟩ := agk hn hR q2
    have de : decide (e = 0) = decide ((n : Int) = (mkM a : Int)) := by rw [decide_eq_decide, hmk]; omega
    by_cases hmn : mkM a = mkM b
    ·
     have dm : decide ((mkM a : Int) = (mkM b : Int)) = true := decide_eq_true (by omega)
     obtain ⟨S5, f1, f2, f3, f4⟩ := QW z S3
     conv at hr =>
      rhs
      rw [hTe]
      simp only [zi.code, zi.rs, zSs, reduceIte, Nat.reduceEqDiff, Int.reduceEq, Int.reduceLT, Int.reduceLE, b1, wW.v, qG b2 ha.b.ne, YW, d1, zT, s1, qG ga2 ha.b.ne, c1, qG gb hbb, c2, yK ga2, dq, c3, c4, c5, c6, cs2, ags, db, dm, cn2, a2, c8, f1, de, afQ, beq_self_eq_true]
     rw [hTe] at hr
     exact ⟨_, zi.runs hr (.inr rfl)⟩
    ·
     have dm : decide ((mkM a : Int) = (mkM b : Int)) = false := decide_eq_false (by omega)
     obtain ⟨w, g, q1, c7⟩ := ji.v (k := 1) (l := enc (mkM a) ++ yL b) Okl.read (by decide) (by rw [List.length_append]; omega)
     obtain ⟨hg, hmg⟩ := agk (WI a) hQ q1
     have hg : g = 121 := by
      rcases hg with hg | hg
      ·
       exact absurd (hmg.1 hg) hmn
      ·
       exact hg
     subst hg
     obtain ⟨S4, e1, e2, e3, e4⟩ := QW w S3
     obtain ⟨S5, f1, f2, f3, f4⟩ := QW z S4
     conv at hr =>
      rhs
      rw [hTe]
      simp only [zi.code, zi.rs, zSs, reduceIte, Nat.reduceEqDiff, Int.reduceEq, Int.reduceLT, Int.reduceLE, b1, wW.v, qG b2 ha.b.ne, YW, d1, zT, s1, qG ga2 ha.b.ne, c1, qG gb hbb, c2, yK ga2, dq, c3, c4, c5, c6, cs2, ags, db, dm, cn, a1, c7, e1, cn2, a2, c8, f1, de, afQ, beq_self_eq_true]
     rw [hTe] at hr
     exact ⟨_, zi.runs hr (.inr rfl)⟩
  ·
   rw [Bool.not_eq_true] at hQ
   rw [hQ] at c2
   conv at hr =>
    rhs
    rw [hTe]
    simp only [zi.code, zi.rs, zSs, reduceIte, Nat.reduceEqDiff, Int.reduceEq, Int.reduceLT, Int.reduceLE, b1, wW.v, qG b2 ha.b.ne, YW, d1, zT, s1, qG ga2 ha.b.ne, c1, qG gb hbb, c2]
   rw [hTe] at hr
   exact ⟨_, zi.runs hr (.inr rfl)⟩
 ·
  rw [Bool.not_eq_true] at hR
  rw [hR] at c1
  conv at hr =>
   rhs
   rw [hTe]
   simp only [zi.code, zi.rs, zSs, reduceIte, Nat.reduceEqDiff, Int.reduceEq, Int.reduceLT, Int.reduceLE, b1, wW.v, qG b2 ha.b.ne, YW, d1, zT, s1, qG ga2 ha.b.ne, c1]
  rw [hTe] at hr
  exact ⟨_, zi.runs hr (.inr rfl)⟩
theorem law (x : Args codes) (h : Args.Good codes x) : ∃ k, (vO Try.prog k 6 (Args.place codes x zh.empty).1 (Args.place codes x zh.empty).2).map (·.1) = some (.bool true) := by
 obtain ⟨a, b, c, u⟩ := x
 obtain ⟨h1, h2, h3, _⟩ := h
 obtain ⟨m, m1, hm⟩ := aje a h1
 obtain ⟨n, hn, hn2⟩ := ahV h3
 obtain ⟨S', e⟩ := run (mark := c) hm (Z4 h2) (by omega) (by omega) zh.empty
 refine Vm aiB (S' := S') ?_
 have e2 : Args.Ws codes (a, b, c, u) = [mv m, .int .i64 b, .int .u64 c] := by
  show [Zl true (tM.Ws a), Zl false [.int .i64 b], Zl false [.int .u64 c]] = _
  rw [m1]; rfl
 rw [e2]
 exact e
end msgMarks
end Go.Proofs.Ytbgcphbbchndkaa
namespace Go.Proofs.Ytbgcphbbchndkaa.msgMarks
open Go.ChangeShapes Go.WideShapes Go.ChangeAt Go.RowKit Go.Abs
theorem own : ownKnob Try.prog.godebug = none := by kernel_rfl
theorem laidOut : laidOutB Try.prog = true := by kernel_rfl
theorem mixes : Try.prog.follows .mixedOrders = true := by kernel_rfl
set_option maxRecDepth 100000 in
theorem lifted (os : Os) (started : os.Started) (H : Type) (enc : TypeId × Value → H) :
  ReturnsInHanded {} Try.checked os 6 .any (Rows.msgMarksSpec.pre6 enc Try.prog Try.f6 Rows.msgMarksRow.domain false) (Rows.msgMarksSpec.post enc Try.prog Try.f6 false true false false) := by
 refine returnsInHanded_of_change_sized (C := Try.checked) own started (by kernel_rfl) Try.func6
  (ChangeSpec.witness6 (enc := enc) (C := Try.checked) false ⟨#[], #[.agg #[.int .i64 0, .int .i64 0, .int .i64 0, .int .i64 0, .int .i64 0, .int .i64 0, .int .i64 0, .int .i64 0, .int .i64 0, .int .i64 0, .int .i64 0, .int .i64 0, .slice none 0 0], .int .i64 0, .int .u64 0], []⟩ 8 (by kernel_rfl) (by kernel_rfl) (by kernel_rfl) (by kernel_rfl)) ?_
 intro W base args ds gs before hval0 hW hcnd hsz0 _
 have hW' := hW
 obtain ⟨p, q, hA0, hV, rfl, hfz, hnd⟩ := hW
 obtain ⟨rfl, rfl⟩ := trodVars_none hV
 have hsz1 : (DataW.weightsEach Try.prog (Try.f6.params.toList ++ Rows.msgMarksSpec.plain.varTypes Try.prog) (ds ++ [])).all (· ≤ reachBytes) = true := hsz0
 have hval : ∀ (j : Nat) t v, Try.f6.params[j]? = some t → args[j]? = some v → Value.okWide Try.prog W .any base t v := hval0
 have hA1 : DataW.TrodAll enc Try.prog W 0 (fun _ => true) true Try.f6.params.toList args.toList ds p := hA0
 rw [Try.params6] at hA1 hsz1 hval
 have hA : DataW.TrodAll enc Try.prog W 0 (fun _ => true) true [30, 3, 42] args.toList ds p := hA1
 have hsz : (DataW.weightsEach Try.prog [30, 3, 42] ds).all (· ≤ reachBytes) = true := by rw [List.append_nil ds] at hsz1; exact hsz1
 clear hA0 hA1 hval0 hsz0 hsz1
 have r := hA
 obtain ⟨v0, vs0, d0, ds0, p0, q0, hargs0, rfl, hp0, h0, r0⟩ := trodAll_cons r
 obtain ⟨v1, vs1, d1, ds1, p1, q1, hargs1, rfl, hp1, h1, r1⟩ := trodAll_cons r0
 obtain ⟨v2, vs2, d2, ds2, p2, q2, hargs2, rfl, hp2, h2, r2⟩ := trodAll_cons r1
 obtain ⟨_, rfl, _⟩ := trodAll_nil r2
 refine (acs mixes coded law hA (fun j t v h1 h2 => hval j t v (by rw [List.getElem?_toArray]; exact h1) h2) hsz).mono fun e W' ⟨he, bel⟩ => ?_
 subst he
 exact ⟨_, rfl, _, _, _, [], _, [], hW', trodAll_mk1 (shut_bool (by kernel_rfl) _), afp laidOut bel _ _ _ _ (by kernel_rfl) hA, rfl, bel.frame _, fun h => by cases h⟩
theorem over : Rows.msgMarksRow.holds Try.pinned (OpenSpec.ofChange Rows.msgMarksSpec) :=
 OpenClaim.holds_of_wide 6 Try.f6 rfl rfl rfl rfl rfl rfl rfl ⟨rfl, rfl, rfl, rfl, rfl⟩ rfl rfl rfl rfl rfl (by kernel_rfl) Try.func6 (by kernel_rfl)
  (of_decide_eq_true (by kernel_rfl)) (by unfold Func.isWrapper; first | (rw [if_pos (by decide +kernel)]; kernel_rfl) | (rw [if_neg (by decide +kernel)]; exact ⟨rfl, rfl⟩))
  (fun os started H enc _ => lifted os started H enc)
theorem proved : Rows.MsgMarksSaid := over
end Go.Proofs.Ytbgcphbbchndkaa.msgMarks
namespace Go.Proofs.Ytbgcphbbchndkaa
theorem msgMarks_holds : Rows.MsgMarksSaid := msgMarks.proved
#print axioms msgMarks_holds
end Go.Proofs.Ytbgcphbbchndkaa
