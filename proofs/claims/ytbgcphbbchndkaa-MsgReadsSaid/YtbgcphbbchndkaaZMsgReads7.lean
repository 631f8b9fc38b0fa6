/-
The law MsgReads returns true for every input, and leaves it as it was; no condition. Part 7 of 7 of the texts (put together by a program: own names are short, what isn't needed is left out).
-/
import Derived.Test.YtbgcphbbchndkaaZMsgReads6
import Derived.Test.YtbgcphbbchndkaaRows
import Derived.WalkKit
import Derived.ProofKit
import Derived.OpenShut
import Derived.ShutString
import Derived.ChangeOld
import Derived.Below
import Derived.SizedLaws
import Derived.Carry
set_option linter.unusedVariables false
set_option linter.unusedSimpArgs false
set_option maxRecDepth 100000
namespace Go.Proofs.Ytbgcphbbchndkaa
open Go.Abs
theorem TxV.ext_iff' {t u : TxV} : t = u ↔ t.id = u.id ∧ t.fee = u.fee := by cases t; cases u; simp
theorem adl (t u : TxV) (S : zk) : wu Try.prog .eql 25 (tv t) (tv u) S = some (.bool (decide (t = u)), S) ∧ wu Try.prog .neq 25 (tv t) (tv u) S = some (.bool (!decide (t = u)), S) := by
 have h := acj (S := S) (xs := #[Value.int .i64 t.id, .int .i64 t.fee]) (ys := #[Value.int .i64 u.id, .int .i64 u.fee]) (bs := [t.id == u.id, t.fee == u.fee]) agw (by kernel_rfl) (by kernel_rfl)
  ⟨⟨by decide, .int .i64 t.id, .int .i64 u.id, by kernel_rfl, by kernel_rfl, by kernel_rfl⟩, ⟨by decide, .int .i64 t.fee, .int .i64 u.fee, by kernel_rfl, by kernel_rfl, by kernel_rfl⟩, trivial⟩ rfl rfl
 have e : [t.id == u.id, t.fee == u.fee].all id = decide (t = u) := by
  rw [Bool.eq_iff_iff]
  simp [TxV.ext_iff']
 rw [e] at h
 exact h
theorem zC.round {k j : Nat} {a b : List TxV} (hk : Okl k a) (hj : Okl j b) (k2 : k ≠ 2) (j2 : j ≠ 2) (hab : a.length = b.length) (hlen : a.length ≤ 17592186044416) {S : zk} : ∀ (sa sb pa pb : List TxV) {T : List Value} {r : St}, qm (zF Try.prog O false zC.jI) T S = r → T.length = 26 →
  T.getD 0 undef = tl k a → T.getD 1 undef = tl j b → T.getD 12 undef = .int .i64 a.length → T.getD 13 undef = .int .i64 pa.length → a = pa ++ sa → b = pb ++ sb → pa.length = pb.length → pa = pb →
  ∃ e T', r = some (e, T', S) ∧ if a = b then e = .exit 0 ∧ T'.length = 26 else e = .ret ∧ T'.getD 4 undef = .bool false := by
 intro sa
 induction sa with
 | nil =>
  intro sb pa pb T r hL hT h0 h1 h12 h13 ha hb hp hpp
  have hTe := zC.eta hT
  rw [h0, h1, h12, h13] at hTe
  have hr : zF Try.prog O false zC.jI T S = zF Try.prog O false zC.jI T S := rfl
  have hd : ¬ (pa.length : Int) < (a.length : Int) := by rw [ha]; simp
  conv at hr =>
   rhs
   rw [hTe]
   simp only [zC.jI, zC.code, zC.rs, zSs, reduceIte, Nat.reduceEqDiff, Int.reduceEq, Int.reduceLT, Int.reduceLE, hd]
  have hsb : sb = [] := by rw [ha, hb] at hab; simp [hp] at hab; exact hab
  refine ⟨_, _, hL.symm.trans (wo hr (by simp)), ?_⟩
  rw [if_pos (by rw [ha, hb, hsb, hpp])]
  exact ⟨rfl, rfl⟩
 | cons x sa ih =>
  intro sb pa pb T r hL hT h0 h1 h12 h13 ha hb hp hpp
  have hTe := zC.eta hT
  rw [h0, h1, h12, h13] at hTe
  have hr : zF Try.prog O false zC.jI T S = zF Try.prog O false zC.jI T S := rfl
  have hd : (pa.length : Int) < (a.length : Int) := by rw [ha]; simp; omega
  cases sb with
  | nil => rw [ha, hb] at hab; simp [hp] at hab
  | cons y sb =>
   have e1 := fun S => YF (S := S) hk ha
   have e2 : ∀ S, jo Try.prog 26 (tl j b) (.int .i64 pa.length) S = some (EP [.int .i64 y.id, .int .i64 y.fee], S) := fun S => by rw [hp]; exact YF hj hb
   have wi : IntKind.i64.wrap ((pa.length : Int) + 1) = ((pa ++ [x]).length : Int) := by rw [wrap_i64 (by omega) (by omega)]; simp
   have q : ∀ S, wu Try.prog .neq 25 (.agg [Value.int .i64 x.id, .int .i64 x.fee].toArray) (.agg [Value.int .i64 y.id, .int .i64 y.fee].toArray) S = some (.bool (!decide (x = y)), S) := fun S => (adl x y S).2
   by_cases hxy : x = y
   ·
    conv at hr =>
     rhs
     rw [hTe]
     simp only [zC.jI, zC.code, zC.rs, zSs, reduceIte, Nat.reduceEqDiff, Int.reduceEq, Int.reduceLT, Int.reduceLE, hd, if_neg k2, if_neg j2, e1, e2, kH, q, decide_eq_true hxy, wi]
    subst hxy
    exact ih sb (pa ++ [x]) (pb ++ [x]) ((yg hr).symm.trans hL) rfl rfl rfl rfl rfl (by simp [ha]) (by simp [hb]) (by simp [hp]) (by rw [hpp])
   ·
    conv at hr =>
     rhs
     rw [hTe]
     simp only [zC.jI, zC.code, zC.rs, zSs, reduceIte, Nat.reduceEqDiff, Int.reduceEq, Int.reduceLT, Int.reduceLE, hd, if_neg k2, if_neg j2, e1, e2, kH, q, decide_eq_false hxy]
    refine ⟨_, _, hL.symm.trans (wo hr (by simp)), ?_⟩
    rw [if_neg (by rw [ha, hb, hpp]; simp [hxy])]
    exact ⟨rfl, rfl⟩
theorem zC.v {k j : Nat} {a b : List TxV} (hk : Okl k a) (hj : Okl j b) (k2 : k ≠ 2) (j2 : j ≠ 2) (hlen : a.length ≤ 17592186044416) (S : zk) : jc Try.prog O zC.id [tl k a, tl j b] S = some (.bool (decide (a = b)), S) := by
 obtain ⟨T, hTe⟩ : ∃ T, T = (tl k a :: tl j b :: undef :: undef :: undef :: undef :: undef :: undef :: undef :: undef :: undef :: undef :: undef :: undef :: undef :: undef :: undef :: undef :: undef :: undef :: undef :: undef :: undef :: undef :: undef :: undef :: []) := ⟨_, rfl⟩
 have hr : zF Try.prog O false zC.code T S = zF Try.prog O false zC.code T S := rfl
 by_cases hab : a.length = b.length
 ·
  have d1 : ¬ (a.length : Int) ≠ (b.length : Int) := by omega
  conv at hr =>
   rhs
   rw [hTe]
   simp only [zC.code, zC.rs, zSs, reduceIte, Nat.reduceEqDiff, Int.reduceEq, Int.reduceLT, Int.reduceLE, if_neg k2, if_neg j2, ZF hk, ZF hj, hab]
  rw [← hab] at hr
  generalize hL : qm (zF Try.prog O false zC.jI) _ _ = r at hr
  obtain ⟨e, T', rfl, g⟩ := zC.round hk hj k2 j2 hab hlen a b [] [] hL rfl rfl rfl rfl rfl rfl rfl rfl rfl
  by_cases h : a = b
  ·
   rw [if_pos h] at g
   obtain ⟨rfl, g2⟩ := g
   have hTe' := zC.eta g2
   conv at hr =>
    rhs
    rw [hTe']
    simp only [zC.code, zC.rs, zSs, reduceIte, Nat.reduceEqDiff, Int.reduceEq, Int.reduceLT, Int.reduceLE]
   rw [hTe] at hr
   rw [decide_eq_true h]
   exact zC.runs hr (.inr rfl)
  ·
   rw [if_neg h] at g
   obtain ⟨rfl, g2⟩ := g
   conv at hr =>
    rhs
    simp only [zSs, reduceIte, Nat.reduceEqDiff, Int.reduceEq, Int.reduceLT, Int.reduceLE]
   rw [hTe] at hr
   have hrun := zC.runs hr (.inr rfl)
   rw [g2] at hrun
   rw [decide_eq_false h]
   exact hrun
 ·
  have d1 : ¬ (a.length : Int) = (b.length : Int) := by omega
  conv at hr =>
   rhs
   rw [hTe]
   simp only [zC.code, zC.rs, zSs, reduceIte, Nat.reduceEqDiff, Int.reduceEq, Int.reduceLT, Int.reduceLE, if_neg k2, if_neg j2, ZF hk, ZF hj, d1]
  rw [hTe] at hr
  rw [decide_eq_false (fun h : a = b => hab (by rw [h]))]
  exact zC.runs hr (.inr rfl)
theorem slices_Equal.round {k j : Nat} {a b : List TxV} (hk : Okl k a) (hj : Okl j b) (k2 : k ≠ 2) (j2 : j ≠ 2) (hab : a.length = b.length) (hlen : a.length ≤ 17592186044416) {S : zk} : ∀ (sa sb pa pb : List TxV) {T : List Value} {r : St}, qm (zF Try.prog O false slices_Equal.jI) T S = r → T.length = 26 →
  T.getD 0 undef = tl k a → T.getD 1 undef = tl j b → T.getD 12 undef = .int .i64 a.length → T.getD 13 undef = .int .i64 pa.length → a = pa ++ sa → b = pb ++ sb → pa.length = pb.length → pa = pb →
  ∃ e T', r = some (e, T', S) ∧ if a = b then e = .exit 0 ∧ T'.length = 26 else e = .ret ∧ T'.getD 4 undef = .bool false := by
 intro sa
 induction sa with
 | nil =>
  intro sb pa pb T r hL hT h0 h1 h12 h13 ha hb hp hpp
  have hTe := slices_Equal.eta hT
  rw [h0, h1, h12, h13] at hTe
  have hr : zF Try.prog O false slices_Equal.jI T S = zF Try.prog O false slices_Equal.jI T S := rfl
  have hd : ¬ (pa.length : Int) < (a.length : Int) := by rw [ha]; simp
  conv at hr =>
   rhs
   rw [hTe]
   simp only [slices_Equal.jI, slices_Equal.code, slices_Equal.rs, zSs, reduceIte, Nat.reduceEqDiff, Int.reduceEq, Int.reduceLT, Int.reduceLE, hd]
  have hsb : sb = [] := by rw [ha, hb] at hab; simp [hp] at hab; exact hab
  refine ⟨_, _, hL.symm.trans (wo hr (by simp)), ?_⟩
  rw [if_pos (by rw [ha, hb, hsb, hpp])]
  exact ⟨rfl, rfl⟩
 | cons x sa ih =>
  intro sb pa pb T r hL hT h0 h1 h12 h13 ha hb hp hpp
  have hTe := slices_Equal.eta hT
  rw [h0, h1, h12, h13] at hTe
  have hr : zF Try.prog O false slices_Equal.jI T S = zF Try.prog O false slices_Equal.jI T S := rfl
  have hd : (pa.length : Int) < (a.length : Int) := by rw [ha]; simp; omega
  cases sb with
  | nil => rw [ha, hb] at hab; simp [hp] at hab
  | cons y sb =>
   have e1 := fun S => YF (S := S) hk ha
   have e2 : ∀ S, jo Try.prog 26 (tl j b) (.int .i64 pa.length) S = some (EP [.int .i64 y.id, .int .i64 y.fee], S) := fun S => by rw [hp]; exact YF hj hb
   have wi : IntKind.i64.wrap ((pa.length : Int) + 1) = ((pa ++ [x]).length : Int) := by rw [wrap_i64 (by omega) (by omega)]; simp
   have q : ∀ S, wu Try.prog .neq 25 (.agg [Value.int .i64 x.id, .int .i64 x.fee].toArray) (.agg [Value.int .i64 y.id, .int .i64 y.fee].toArray) S = some (.bool (!decide (x = y)), S) := fun S => (adl x y S).2
   by_cases hxy : x = y
   ·
    conv at hr =>
     rhs
     rw [hTe]
     simp only [slices_Equal.jI, slices_Equal.code, slices_Equal.rs, zSs, reduceIte, Nat.reduceEqDiff, Int.reduceEq, Int.reduceLT, Int.reduceLE, hd, if_neg k2, if_neg j2, e1, e2, kH, q, decide_eq_true hxy, wi]
    subst hxy
    exact ih sb (pa ++ [x]) (pb ++ [x]) ((yg hr).symm.trans hL) rfl rfl rfl rfl rfl (by simp [ha]) (by simp [hb]) (by simp [hp]) (by rw [hpp])
   ·
    conv at hr =>
     rhs
     rw [hTe]
     simp only [slices_Equal.jI, slices_Equal.code, slices_Equal.rs, zSs, reduceIte, Nat.reduceEqDiff, Int.reduceEq, Int.reduceLT, Int.reduceLE, hd, if_neg k2, if_neg j2, e1, e2, kH, q, decide_eq_false hxy]
    refine ⟨_, _, hL.symm.trans (wo hr (by simp)), ?_⟩
    rw [if_neg (by rw [ha, hb, hpp]; simp [hxy])]
    exact ⟨rfl, rfl⟩
theorem slices_Equal.v {k j : Nat} {a b : List TxV} (hk : Okl k a) (hj : Okl j b) (k2 : k ≠ 2) (j2 : j ≠ 2) (hlen : a.length ≤ 17592186044416) (S : zk) : jc Try.prog O slices_Equal.id [tl k a, tl j b] S = some (.bool (decide (a = b)), S) := by
 obtain ⟨T, hTe⟩ : ∃ T, T = (tl k a :: tl j b :: undef :: undef :: undef :: undef :: undef :: undef :: undef :: undef :: undef :: undef :: undef :: undef :: undef :: undef :: undef :: undef :: undef :: undef :: undef :: undef :: undef :: undef :: undef :: undef :: []) := ⟨_, rfl⟩
 have hr : zF Try.prog O false slices_Equal.code T S = zF Try.prog O false slices_Equal.code T S := rfl
 by_cases hab : a.length = b.length
 ·
  have d1 : ¬ (a.length : Int) ≠ (b.length : Int) := by omega
  conv at hr =>
   rhs
   rw [hTe]
   simp only [slices_Equal.code, slices_Equal.rs, zSs, reduceIte, Nat.reduceEqDiff, Int.reduceEq, Int.reduceLT, Int.reduceLE, if_neg k2, if_neg j2, ZF hk, ZF hj, hab]
  rw [← hab] at hr
  generalize hL : qm (zF Try.prog O false slices_Equal.jI) _ _ = r at hr
  obtain ⟨e, T', rfl, g⟩ := slices_Equal.round hk hj k2 j2 hab hlen a b [] [] hL rfl rfl rfl rfl rfl rfl rfl rfl rfl
  by_cases h : a = b
  ·
   rw [if_pos h] at g
   obtain ⟨rfl, g2⟩ := g
   have hTe' := slices_Equal.eta g2
   conv at hr =>
    rhs
    rw [hTe']
    simp only [slices_Equal.code, slices_Equal.rs, zSs, reduceIte, Nat.reduceEqDiff, Int.reduceEq, Int.reduceLT, Int.reduceLE]
   rw [hTe] at hr
   rw [decide_eq_true h]
   exact slices_Equal.runs hr (.inr rfl)
  ·
   rw [if_neg h] at g
   obtain ⟨rfl, g2⟩ := g
   conv at hr =>
    rhs
    simp only [zSs, reduceIte, Nat.reduceEqDiff, Int.reduceEq, Int.reduceLT, Int.reduceLE]
   rw [hTe] at hr
   have hrun := slices_Equal.runs hr (.inr rfl)
   rw [g2] at hrun
   rw [decide_eq_false h]
   exact hrun
 ·
  have d1 : ¬ (a.length : Int) = (b.length : Int) := by omega
  conv at hr =>
   rhs
   rw [hTe]
   simp only [slices_Equal.code, slices_Equal.rs, zSs, reduceIte, Nat.reduceEqDiff, Int.reduceEq, Int.reduceLT, Int.reduceLE, if_neg k2, if_neg j2, ZF hk, ZF hj, d1]
  rw [hTe] at hr
  rw [decide_eq_false (fun h : a = b => hab (by rw [h]))]
  exact slices_Equal.runs hr (.inr rfl)
theorem Xo : ∀ {a b : List TxV}, flat a = flat b → a = b := by
 intro a
 induction a with
 | nil => intro b h; cases b with
  | nil => rfl
  | cons u b => simp [flat] at h
 | cons t a ih =>
  intro b h
  cases b with
  | nil => simp [flat] at h
  | cons u b =>
   have h' : [t.id, t.fee] ++ flat a = [u.id, u.fee] ++ flat b := h
   simp at h'
   rw [ih h'.2.2, TxV.ext_iff'.mpr ⟨h'.1, h'.2.1⟩]
theorem aeK {l : List TxV} (h : ∀ t ∈ l, yV t = true) : ∀ n ∈ flat l, Few n := fun n hn => by have := XQ h n hn; unfold Few; omega
theorem afc {a b : List TxV} {r s : List UInt8} (la : a.length ≤ 1000) (lb : b.length ≤ 1000) (ha : ∀ t ∈ a, yV t = true) (hb : ∀ t ∈ b, yV t = true) (h : Vx a ++ r = Vx b ++ s) : a = b ∧ r = s := by
 rw [vN, vN, List.append_assoc, List.append_assoc] at h
 obtain ⟨h1, h2⟩ := JH (a := [(a.length : Int)]) (c := [(b.length : Int)]) rfl (by simp [Few]; omega) (by simp [Few]; omega) h
 simp at h1
 obtain ⟨h3, h4⟩ := JH (by rw [Z9, Z9]; omega) (aeK ha) (aeK hb) h2
 exact ⟨Xo h3, h4⟩
theorem abN {a b : List TxV} {r s : List UInt8} (ha : Zi a = true) (hb : Zi b = true) (h : Vx a ++ r = Vx b ++ s) : a = b ∧ r = s := by
 obtain ⟨h1, h2⟩ := kR.mp ha
 obtain ⟨h3, h4⟩ := kR.mp hb
 exact afc (by omega) (by omega) h1.2 h3.2 h
noncomputable def vG (l : List UInt8) : Option (List TxV) := rd (fun t => Zi t = true) Vx l
theorem kT (l : List UInt8) (t : List TxV) : vG l = some t ↔ Zi t = true ∧ l = Vx t :=
 ae6 (fun x y hx hy h => (abN (r := []) (s := []) hx hy (by simpa using h)).1) l t
theorem acG {l : List UInt8} (h : ∀ t, ¬ (Zi t = true ∧ l = Vx t)) : vG l = none := by
 cases hr : vG l with
 | none => rfl
 | some t => exact absurd ((kT l t).mp hr) (h t)
noncomputable def Xc (k : Nat) (l : List UInt8) : Value := match vG l with
 | some t => .tuple #[tl (if t = [] then k else 2) t, .int .i64 0]
 | none => .tuple #[.slice none 0 0, .int .i64 61]
def Wl : Nat → List UInt8 → Option (List TxV × List UInt8)
 | 0, l => some ([], l)
 | m + 1, l => match yM 2 l with
  | some ([a, b], r) => if yV ⟨a, b⟩ then (match Wl m r with
   | some (x, y) => some (⟨a, b⟩ :: x, y)
   | none => none) else none
  | _ => none
theorem KG : ∀ (m : Nat) (l : List UInt8) (a : List TxV) (b : List UInt8), Wl m l = some (a, b) ↔ a.length = m ∧ (∀ t ∈ a, yV t = true) ∧ l = encs (flat a) ++ b := by
 intro m
 induction m with
 | zero =>
  intro l a b
  constructor
  ·
   intro h; cases h; exact ⟨rfl, (fun t h => by cases h), rfl⟩
  ·
   rintro ⟨h1, h2, h3⟩
   have : a = [] := List.length_eq_zero_iff.mp h1
   subst this
   rw [h3]; rfl
 | succ m ih =>
  intro l a b
  rw [Wl]
  constructor
  ·
   intro h
   rcases QD l with hn | ⟨x, y, r, hn, hlr⟩
   ·
    rw [hn] at h; cases h
   ·
    rw [hn] at h
    dsimp only at h
    split at h
    ·
     rename_i hok
     cases hr : Wl m r with
     | none => rw [hr] at h; cases h
     | some ab =>
      obtain ⟨a', b'⟩ := ab
      rw [hr] at h
      obtain ⟨h1, h2, h3⟩ := (ih r a' b').mp hr
      cases h
      obtain ⟨f1, f2, f3⟩ := (yB _ _ _ _).mp hn
      refine ⟨by simp [h1], fun t ht => ?_, ?_⟩
      ·
       rcases List.mem_cons.1 ht with rfl | ht
       ·
        exact hok
       ·
        exact h2 t ht
      ·
       rw [f2, h3, show flat (⟨x, y⟩ :: a') = [x, y] ++ flat a' from rfl, vO, List.append_assoc]
    ·
     cases h
  ·
   rintro ⟨h1, h2, h3⟩
   cases a with
   | nil => simp at h1
   | cons t a =>
    have ht := h2 t (by simp)
    obtain ⟨b1, b2, b3, b4⟩ := kJ.mp ht
    have hn := (yB 2 l [t.id, t.fee] (encs (flat a) ++ b)).mpr ⟨rfl, by rw [h3, show flat (t :: a) = [t.id, t.fee] ++ flat a from rfl, vO, List.append_assoc], by simp [Few]; omega⟩
    rw [hn]
    dsimp only
    rw [if_pos ht, (ih (encs (flat a) ++ b) a b).mpr ⟨by simpa using h1, fun u hu => h2 u (by simp [hu]), rfl⟩]
theorem ahQ (l : List UInt8) : yM 1 l = none ∨ ∃ a r, yM 1 l = some ([a], r) ∧ r.length ≤ l.length := by
 cases h : yM 1 l with
 | none => exact .inl rfl
 | some ar =>
  obtain ⟨a, r⟩ := ar
  obtain ⟨h1, h2⟩ := JY h
  match a, h1 with
  | [x], _ => exact .inr ⟨x, r, rfl, h2⟩
theorem JV {l r : List UInt8} {n : Int} (h : yM 1 l = some ([n], r)) (t : List TxV) : vG l = some t ↔ 0 ≤ n ∧ n ≤ 3 ∧ Wl n.toNat r = some (t, []) ∧ unl t = true := by
 obtain ⟨_, h2, h3⟩ := (yB _ _ _ _).mp h
 rw [kT, KG]
 constructor
 ·
  rintro ⟨g1, g2⟩
  obtain ⟨h5, h6⟩ := kR.mp g1
  rw [vN, h2] at g2
  obtain ⟨h7, h8⟩ := JH (a := [n]) (c := [(t.length : Int)]) rfl h3 (by simp [Few]; omega) g2
  simp at h7
  refine ⟨by omega, by omega, ⟨by omega, h5.2, by simpa using h8⟩, ?_⟩
  unfold Zi at g1
  simp at g1
  exact g1.1
 ·
  rintro ⟨g1, g2, ⟨g3, g4, g5⟩, g6⟩
  refine ⟨?_, ?_⟩
  ·
   unfold Zi
   rw [g6, Bool.true_and, List.all_eq_true]
   exact g4
  ·
   have : n = (t.length : Int) := by omega
   rw [h2, g5, List.append_nil, vN, this]
theorem Xp {l : List UInt8} (h : yM 1 l = none) : vG l = none := by
 refine acG fun t ht => ?_
 obtain ⟨h5, h6⟩ := kR.mp ht.1
 have := (yB 1 l [(t.length : Int)] (encs (flat t))).mpr ⟨rfl, by rw [ht.2, vN], by simp [Few]; omega⟩
 rw [h] at this
 cases this
end Go.Proofs.Ytbgcphbbchndkaa
namespace Go.Proofs.Ytbgcphbbchndkaa
open Go.Abs
theorem ahp (t : TxV) (S : zk) : jR Try.prog 26 1 [(0, tv t)] S = some (tl 2 [t], S) := by kernel_rfl
theorem ajU (k : Nat) (hk : k ≤ 2) (a : Int) (h : k ≠ 0) (S : zk) : jo Try.prog 57 (iz k [a]) (.int .i64 0) S = some (EP [.int .i64 a], S) := acd ⟨hk, fun h0 => absurd h0 h⟩ (by decide) (by simp)
theorem adJ {k : Nat} (hk : k ≤ 2) (l : List TxV) : Okl (if l = [] then k else 2) l := ⟨by split <;> omega, fun h => by split at h <;> first | assumption | omega⟩
theorem zL.round {n : Int} (hn : n ≤ 3) : ∀ (m : Nat) (i : Int) (rest : List UInt8) (out : List TxV) {T : List Value} {S : zk} {r : St}, qm (zF Try.prog O false zL.jI) T S = r → T.length = 59 →
  T.getD 5 undef = by_ 2 rest → T.getD 7 undef = tl (if out = [] then 0 else 2) out → T.getD 33 undef = .int .i64 n → T.getD 34 undef = .int .i64 i → 0 ≤ i → n = i + m → out.length ≤ 3 - m → rest.length ≤ 140737488355328 →
  ∃ e T' S', r = some (e, T', S') ∧ match Wl m rest with
   | some (ts, r') => e = .exit 0 ∧ T'.length = 59 ∧ T'.getD 5 undef = by_ 2 r' ∧ T'.getD 7 undef = tl (if out ++ ts = [] then 0 else 2) (out ++ ts)
   | none => e = .ret ∧ T'.getD 2 undef = .slice none 0 0 ∧ T'.getD 3 undef = .int .i64 61 := by
 intro m
 induction m with
 | zero =>
  intro i rest out T S r hL hT h5 h7 h33 h34 hi hm ho hl
  have hTe := zL.eta hT
  rw [h5, h7, h33, h34] at hTe
  have hr : zF Try.prog O false zL.jI T S = zF Try.prog O false zL.jI T S := rfl
  have d1 : ¬ i < n := by omega
  conv at hr =>
   rhs
   rw [hTe]
   simp only [zL.jI, zL.code, zL.rs, zSs, reduceIte, Nat.reduceEqDiff, Int.reduceEq, Int.reduceLT, Int.reduceLE, d1]
  refine ⟨_, _, _, hL.symm.trans (wo hr (by simp)), ?_⟩
  rw [Wl]
  exact ⟨rfl, rfl, rfl, by rw [List.append_nil]; rfl⟩
 | succ m ih =>
  intro i rest out T S r hL hT h5 h7 h33 h34 hi hm ho hl
  have hTe := zL.eta hT
  rw [h5, h7, h33, h34] at hTe
  have hr : zF Try.prog O false zL.jI T S = zF Try.prog O false zL.jI T S := rfl
  have d1 : i < n := by omega
  have c1 := fun S => wO.v (k := 1) (l := rest) Okl.read (by decide) hl S
  unfold agp at c1
  rw [Wl]
  rcases QD rest with h | ⟨a, b, q, h, hlr⟩
  ·
   rw [h] at c1
   rw [h]
   obtain ⟨S2, p1, p2, p3, p4⟩ := QU S ⟨0, 0⟩
   conv at hr =>
    rhs
    rw [hTe]
    simp only [zL.jI, zL.code, zL.rs, zSs, reduceIte, Nat.reduceEqDiff, Int.reduceEq, Int.reduceLT, Int.reduceLE, d1, c1, Ja, p1]
   exact ⟨_, _, _, hL.symm.trans (wo hr (by simp)), rfl, rfl, rfl⟩
  ·
   rw [h] at c1
   rw [h]
   obtain ⟨S2, p1, p2, p3, p4⟩ := QU S ⟨a, b⟩
   by_cases hok : yV ⟨a, b⟩ = true
   ·
    have wi : IntKind.i64.wrap (i + 1) = i + 1 := wrap_i64 (by omega) (by omega)
    have ap : ∀ S, wY Try.prog 26 26 (tl (if out = [] then 0 else 2) out) (tl 2 [⟨a, b⟩]) S = some (tl 2 (out ++ [⟨a, b⟩]), S) := fun S => aee ⟨by split <;> omega, fun h => by split at h <;> first | assumption | omega⟩ (by split <;> omega) (by omega)
    have c2 : ∀ S, jR Try.prog 26 1 [(0, .agg [Value.int .i64 a, .int .i64 b].toArray)] S = some (tl 2 [⟨a, b⟩], S) := fun S => ahp ⟨a, b⟩ S
    have c3 : jf Try.prog false 25 (.pointer (some ⟨S.next, 0, none⟩)) S2 = some (.agg [Value.int .i64 a, .int .i64 b].toArray, S2) := Ju p2
    conv at hr =>
     rhs
     rw [hTe]
     simp only [zL.jI, zL.code, zL.rs, zSs, reduceIte, Nat.reduceEqDiff, Int.reduceEq, Int.reduceLT, Int.reduceLE, d1, c1, Ja, p1, hok, c3, c2, ap, wi]
    obtain ⟨e, T', S', j1, j2⟩ := ih (i + 1) q (out ++ [⟨a, b⟩]) ((yg hr).symm.trans hL) rfl rfl (by rw [show (if out ++ [TxV.mk a b] = [] then 0 else 2) = 2 from if_neg (by simp)]; rfl) rfl rfl (by omega) (by omega) (by simp; omega) (by omega)
    refine ⟨e, T', S', j1, ?_⟩
    dsimp only
    rw [if_pos hok]
    cases hq : Wl m q with
    | none => rw [hq] at j2; exact j2
    | some tr =>
     obtain ⟨ts, r'⟩ := tr
     rw [hq] at j2
     dsimp only at j2 ⊢
     rw [List.append_assoc] at j2
     exact j2
   ·
    dsimp only
    rw [if_neg hok]
    rw [Bool.not_eq_true] at hok
    conv at hr =>
     rhs
     rw [hTe]
     simp only [zL.jI, zL.code, zL.rs, zSs, reduceIte, Nat.reduceEqDiff, Int.reduceEq, Int.reduceLT, Int.reduceLE, d1, c1, Ja, p1, hok]
    exact ⟨_, _, _, hL.symm.trans (wo hr (by simp)), rfl, rfl, rfl⟩
theorem zL.v {k : Nat} {l : List UInt8} (hk : Okl k l) (k2 : k ≠ 2) (hl : l.length ≤ 140737488355328) (S : zk) : jc Try.prog O zL.id [by_ k l] S = some (Xc 0 l, S) := by
 obtain ⟨T, hTe⟩ : ∃ T, T = (by_ k l :: undef :: undef :: undef :: undef :: undef :: undef :: undef :: undef :: undef :: undef :: undef :: undef :: undef :: undef :: undef :: undef :: undef :: undef :: undef :: undef :: undef :: undef :: undef :: undef :: undef :: undef :: undef :: undef :: undef :: undef :: undef :: undef :: undef :: undef :: undef :: undef :: undef :: undef :: undef :: undef :: undef :: undef :: undef :: undef :: undef :: undef :: undef :: undef :: undef :: undef :: undef :: undef :: undef :: undef :: undef :: undef :: undef :: undef :: []) := ⟨_, rfl⟩
 have hr : zF Try.prog O false zL.code T zk.empty = zF Try.prog O false zL.code T zk.empty := rfl
 have c1 := fun S => zG.v (many := 1) hk k2 hl S
 have r1 : vC 0 (if k = 0 then 0 else 2) 1 l = _ := kX (m := 1) (by decide) (by decide)
 rw [r1] at c1
 have cl : [by_ k l].all (jH 16) = true := all1 (yZ (k := k) hk.le)
 unfold Xc
 rcases ahQ l with h | ⟨n, rest, h, hlr⟩
 ·
  rw [h] at c1
  rw [Xp h]
  conv at hr =>
   rhs
   rw [hTe]
   simp only [zL.code, zL.rs, zSs, reduceIte, Nat.reduceEqDiff, Int.reduceEq, Int.reduceLT, Int.reduceLE, if_neg k2, c1]
  rw [hTe] at hr
  exact zL.runs hr (.inr rfl) rfl rfl cl rfl
 ·
  rw [h] at c1
  have e0 := ajU 1 (by decide) n (by decide)
  by_cases h0 : n < 0
  ·
   have hno : vG l = none := by
    cases hx : vG l with
    | none => rfl
    | some t => have := (JV h t).mp hx; omega
   rw [hno]
   conv at hr =>
    rhs
    rw [hTe]
    simp only [zL.code, zL.rs, zSs, reduceIte, Nat.reduceEqDiff, Int.reduceEq, Int.reduceLT, Int.reduceLE, if_neg k2, c1, e0, yX, h0]
   rw [hTe] at hr
   exact zL.runs hr (.inr rfl) rfl rfl cl rfl
  ·
   by_cases h3 : 3 < n
   ·
    have hno : vG l = none := by
     cases hx : vG l with
     | none => rfl
     | some t => have := (JV h t).mp hx; omega
    rw [hno]
    conv at hr =>
     rhs
     rw [hTe]
     simp only [zL.code, zL.rs, zSs, reduceIte, Nat.reduceEqDiff, Int.reduceEq, Int.reduceLT, Int.reduceLE, if_neg k2, c1, e0, yX, h0, h3]
    rw [hTe] at hr
    exact zL.runs hr (.inr rfl) rfl rfl cl rfl
   ·
    conv at hr =>
     rhs
     rw [hTe]
     simp only [zL.code, zL.rs, zSs, reduceIte, Nat.reduceEqDiff, Int.reduceEq, Int.reduceLT, Int.reduceLE, if_neg k2, c1, e0, yX, h0, h3]
    generalize hL : qm (zF Try.prog O false zL.jI) _ _ = r at hr
    obtain ⟨e, T', S', rfl, g⟩ := zL.round (n := n) (by omega) n.toNat 0 rest [] hL rfl rfl rfl rfl rfl (by omega) (by omega) (by simp) (by omega)
    cases hts : Wl n.toNat rest with
    | none =>
     rw [hts] at g
     obtain ⟨rfl, g2, g3⟩ := g
     have hno : vG l = none := by
      cases hx : vG l with
      | none => rfl
      | some t => have := (JV h t).mp hx; rw [hts] at this; simp at this
     rw [hno]
     conv at hr =>
      rhs
      simp only [zSs, reduceIte, Nat.reduceEqDiff, Int.reduceEq, Int.reduceLT, Int.reduceLE]
     rw [hTe] at hr
     have hrun := zL.runs (S := S) hr (.inr rfl) (by rw [g2]; rfl) (by rw [g3]; rfl) cl (by rw [g2, g3]; rfl)
     rw [g2, g3] at hrun
     exact hrun
    | some tr =>
     obtain ⟨ts, r'⟩ := tr
     rw [hts] at g
     obtain ⟨rfl, g2, g3, g4⟩ := g
     rw [List.nil_append] at g4
     have hTe' := zL.eta g2
     rw [g3, g4] at hTe'
     by_cases hr0 : r' = []
     ·
      subst hr0
      have hts3 : ts.length ≤ 3 := by have := (KG _ _ _ _).mp hts; omega
      have c3 := fun S => jD.v (adJ (by decide) ts).dem (Wx (if ts = [] then 0 else 2)) (by omega) S
      by_cases hu : unl ts = true
      ·
       have hyes : vG l = some ts := (JV h ts).mpr ⟨by omega, by omega, hts, hu⟩
       rw [hyes]
       conv at hr =>
        rhs
        rw [hTe']
        simp only [zL.code, zL.rs, zSs, reduceIte, Nat.reduceEqDiff, Int.reduceEq, Int.reduceLT, Int.reduceLE, vZ Okl.read, goInt, List.length_nil, Int.natCast_zero, Int.lt_irrefl, abr, c3, hu]
       rw [hTe] at hr
       exact zL.runs hr (.inr rfl) (by simp only [List.getD_cons_succ, List.getD_cons_zero, jX, jT, jF, jG, jU]) rfl cl (yC (all2 (ZH (adJ (by decide) ts).le fun _ _ => rfl) rfl))
      ·
       have hno : vG l = none := by
        cases hx : vG l with
        | none => rfl
        | some t => have := (JV h t).mp hx; rw [hts] at this; simp at this; rw [this.2.2.1] at hu; exact absurd this.2.2.2 hu
       rw [hno]
       rw [Bool.not_eq_true] at hu
       conv at hr =>
        rhs
        rw [hTe']
        simp only [zL.code, zL.rs, zSs, reduceIte, Nat.reduceEqDiff, Int.reduceEq, Int.reduceLT, Int.reduceLE, vZ Okl.read, goInt, List.length_nil, Int.natCast_zero, Int.lt_irrefl, abr, c3, hu]
       rw [hTe] at hr
       exact zL.runs hr (.inr rfl) rfl rfl cl rfl
     ·
      have hp : (0 : Int) < (r'.length : Int) := by have := List.length_pos_iff.mpr hr0; omega
      have hno : vG l = none := by
       cases hx : vG l with
       | none => rfl
       | some t => have := (JV h t).mp hx; rw [hts] at this; simp at this; exact absurd this.2.2.1.2 hr0
      rw [hno]
      conv at hr =>
       rhs
       rw [hTe']
       simp only [zL.code, zL.rs, zSs, reduceIte, Nat.reduceEqDiff, Int.reduceEq, Int.reduceLT, Int.reduceLE, vZ Okl.read, goInt, decide_eq_true hp]
      rw [hTe] at hr
      exact zL.runs hr (.inr rfl) rfl rfl cl rfl
end Go.Proofs.Ytbgcphbbchndkaa
namespace Go.Proofs.Ytbgcphbbchndkaa
open Go.Abs
theorem ahV : ∀ (m : Nat) (l : List Int), l.length = 2 * m → ∃ ts : List TxV, l = flat ts ∧ ts.length = m := by
 intro m
 induction m with
 | zero => intro l h; exact ⟨[], List.length_eq_zero_iff.mp (by omega), rfl⟩
 | succ m ih =>
  intro l h
  match l, h with
  | a :: b :: l, h =>
   obtain ⟨ts, h1, h2⟩ := ih l (by simp at h; omega)
   exact ⟨⟨a, b⟩ :: ts, by rw [h1]; rfl, by simp [h2]⟩
theorem ah0 {n0 : Int} {pre suf : List TxV} {t : TxV} {l : List Int} (hl : l = n0 :: flat (pre ++ t :: suf)) : l[1 + 2 * pre.length]? = some t.id ∧ l[2 + 2 * pre.length]? = some t.fee := by
 have e : l = (n0 :: flat pre) ++ (t.id :: t.fee :: flat suf) := by rw [hl, Wq]; rfl
 have hlen : (n0 :: flat pre).length = 1 + 2 * pre.length := by rw [List.length_cons, Z9]; omega
 constructor
 ·
  rw [e, List.getElem?_append_right (by omega), hlen, Nat.sub_self]; rfl
 ·
  rw [e, List.getElem?_append_right (by omega), hlen, show 2 + 2 * pre.length - (1 + 2 * pre.length) = 1 by omega]; rfl
theorem xA {k : Nat} {l : List Int} {i : Int} {x : Int} {m : Nat} (h : Okl k l) (hi : i = (m : Int)) (hx : l[m]? = some x) (S : zk) : jo Try.prog 57 (iz k l) (.int .i64 i) S = some (EP [.int .i64 x], S) := by
 obtain ⟨h1, h2⟩ := List.getElem?_eq_some_iff.mp hx
 subst hi
 rw [acd h (by omega) (by omega)]
 simp [← h2]
theorem zi.inner {ns : List Int} {n0 : Int} {ts : List TxV} (hns : ns = n0 :: flat ts) (hts : ts.length ≤ 3) : ∀ (suf pre : List TxV) {T : List Value} {S : zk} {r : St}, qm (zF Try.prog O false zi.jI) T S = r → T.length = 69 →
  T.getD 4 undef = .int .i64 ts.length → T.getD 5 undef = iz 2 ns → T.getD 8 undef = tl 2 pre → T.getD 9 undef = .int .i64 pre.length → ts = pre ++ suf →
  ∃ T', r = some (.exit 2, T', S) ∧ T'.length = 69 ∧ T'.getD 8 undef = tl 2 ts ∧ T'.getD 4 undef = .int .i64 ts.length ∧ T'.getD 0 undef = T.getD 0 undef := by
 intro suf
 induction suf with
 | nil =>
  intro pre T S r hL hT h4 h5 h8 h9 hpre
  have hTe := zi.eta hT
  rw [h4, h5, h8, h9] at hTe
  have hr : zF Try.prog O false zi.jI T S = zF Try.prog O false zi.jI T S := rfl
  have d1 : ¬ (pre.length : Int) < (ts.length : Int) := by rw [hpre]; simp
  conv at hr =>
   rhs
   rw [hTe]
   simp only [zi.jI, zi.code, zi.rs, zSs, reduceIte, Nat.reduceEqDiff, Int.reduceEq, Int.reduceLT, Int.reduceLE, d1]
  rw [List.append_nil] at hpre
  exact ⟨_, hL.symm.trans (wo hr (by simp)), rfl, by rw [hpre]; rfl, rfl, rfl⟩
 | cons t suf ih =>
  intro pre T S r hL hT h4 h5 h8 h9 hpre
  have hTe := zi.eta hT
  rw [h4, h5, h8, h9] at hTe
  have hr : zF Try.prog O false zi.jI T S = zF Try.prog O false zi.jI T S := rfl
  have d1 : (pre.length : Int) < (ts.length : Int) := by rw [hpre]; simp; omega
  obtain ⟨f1, f2⟩ := ah0 (by rw [hns, hpre] : ns = n0 :: flat (pre ++ t :: suf))
  have w1 : IntKind.i64.wrap (2 * (pre.length : Int)) = 2 * (pre.length : Int) := wrap_i64 (by omega) (by omega)
  have w2 : IntKind.i64.wrap (1 + 2 * (pre.length : Int)) = 1 + 2 * (pre.length : Int) := wrap_i64 (by omega) (by omega)
  have w3 : IntKind.i64.wrap (2 + 2 * (pre.length : Int)) = 2 + 2 * (pre.length : Int) := wrap_i64 (by omega) (by omega)
  have wi : IntKind.i64.wrap ((pre.length : Int) + 1) = ((pre ++ [t]).length : Int) := by rw [wrap_i64 (by omega) (by omega)]; simp
  have i1 := fun S => xA (k := 1) (i := 1 + 2 * (pre.length : Int)) Okl.read (by omega) f1 S
  have i2 := fun S => xA (k := 1) (i := 2 + 2 * (pre.length : Int)) Okl.read (by omega) f2 S
  have ap : ∀ S, wY Try.prog 26 26 (tl 2 pre) (tl 2 [t]) S = some (tl 2 (pre ++ [t]), S) := fun S => aee Okl.own (by decide) (by omega)
  have c2 : ∀ S, jR Try.prog 26 1 [(0, .agg [Value.int .i64 t.id, .int .i64 t.fee].toArray)] S = some (tl 2 [t], S) := fun S => ahp t S
  conv at hr =>
   rhs
   rw [hTe]
   simp only [zi.jI, zi.code, zi.rs, zSs, reduceIte, Nat.reduceEqDiff, Int.reduceEq, Int.reduceLT, Int.reduceLE, d1, w1, w2, w3, i1, i2, yX, Zj yu yu, c2, ap, wi]
  obtain ⟨T', j1, j2, j3, j4, j5⟩ := ih (pre ++ [t]) ((yg hr).symm.trans hL) rfl rfl rfl rfl rfl (by simp [hpre])
  exact ⟨T', j1, j2, j3, j4, j5⟩
theorem zi.round {k : Nat} {l : List UInt8} (hk : Okl k l) (k2 : k ≠ 2) (hl : l.length ≤ 140737488355328) : ∀ (m : Nat) (n : Nat) {T : List Value} {S : zk} {r : St}, qm (zF Try.prog O false zi.xJ) T S = r → T.length = 69 →
  T.getD 0 undef = by_ k l → T.getD 4 undef = .int .i64 n → n + m = 4 → (∀ ts, vG l = some ts → n ≤ ts.length) →
  ∃ e T', r = some (e, T', S) ∧ match vG l with
   | some ts => e = .ret ∧ T'.getD 2 undef = tl 2 ts ∧ T'.getD 3 undef = .int .i64 0
   | none => e = .exit 0 ∧ T'.length = 69 := by
 intro m
 induction m with
 | zero =>
  intro n T S r hL hT h0 h4 hn hno
  have hTe := zi.eta hT
  rw [h0, h4] at hTe
  have hr : zF Try.prog O false zi.xJ T S = zF Try.prog O false zi.xJ T S := rfl
  have d1 : ¬ (n : Int) ≤ 3 := by omega
  conv at hr =>
   rhs
   rw [hTe]
   simp only [zi.xJ, zi.code, zi.rs, zSs, reduceIte, Nat.reduceEqDiff, Int.reduceEq, Int.reduceLT, Int.reduceLE, d1]
  refine ⟨_, _, hL.symm.trans (wo hr (by simp)), ?_⟩
  have hx : vG l = none := by
   cases hx : vG l with
   | none => rfl
   | some ts => have h1 := hno ts hx; have h2 := (kR.mp ((kT l ts).mp hx).1).2; omega
  rw [hx]
  exact ⟨rfl, rfl⟩
 | succ m ih =>
  intro n T S r hL hT h0 h4 hn hno
  have hTe := zi.eta hT
  rw [h0, h4] at hTe
  have hr : zF Try.prog O false zi.xJ T S = zF Try.prog O false zi.xJ T S := rfl
  have d1 : (n : Int) ≤ 3 := by omega
  have w1 : IntKind.i64.wrap (2 * (n : Int)) = 2 * (n : Int) := wrap_i64 (by omega) (by omega)
  have w2 : IntKind.i64.wrap (1 + 2 * (n : Int)) = ((1 + 2 * n : Nat) : Int) := by rw [wrap_i64 (by omega) (by omega)]; omega
  have wi : IntKind.i64.wrap ((n : Int) + 1) = ((n + 1 : Nat) : Int) := by rw [wrap_i64 (by omega) (by omega)]; omega
  have c1 := fun S => zq.v (many := ((1 + 2 * n : Nat) : Int)) hk k2 hl S
  have r1 : vC 2 2 ((1 + 2 * n : Nat) : Int) l = _ := kX (by omega) (by omega)
  rw [r1] at c1
  have key : ∀ ts, vG l = some ts → ts.length = n → yM (1 + 2 * n) l = some ((ts.length : Int) :: flat ts, []) := by
   intro ts hx hlen
   obtain ⟨g1, g2⟩ := (kT l ts).mp hx
   obtain ⟨h5, h6⟩ := kR.mp g1
   refine (yB _ _ _ _).mpr ⟨by simp [Z9]; omega, by rw [g2, List.append_nil]; rfl, ?_⟩
   intro x hx
   rcases List.mem_cons.1 hx with rfl | hx
   ·
    unfold Few; omega
   ·
    exact aeK h5.2 x hx
  cases hns : yM (1 + 2 * n) l with
  | none =>
   rw [hns] at c1
   conv at hr =>
    rhs
    rw [hTe]
    simp only [zi.xJ, zi.code, zi.rs, zSs, reduceIte, Nat.reduceEqDiff, Int.reduceEq, Int.reduceLT, Int.reduceLE, d1, w1, w2, if_neg k2, c1, wi]
   refine ih (n + 1) ((yg hr).symm.trans hL) rfl rfl rfl (by omega) ?_
   intro ts hx
   have h1 := hno ts hx
   by_cases h2 : ts.length = n
   ·
    rw [key ts hx h2] at hns; cases hns
   ·
    omega
  | some nr =>
   obtain ⟨ns, rest⟩ := nr
   rw [hns] at c1
   by_cases hr0 : rest = []
   ·
    subst hr0
    obtain ⟨f1, f2, f3⟩ := (yB _ _ _ _).mp hns
    obtain ⟨n0, nl, rfl⟩ : ∃ n0 nl, ns = n0 :: nl := by
     cases ns with
     | nil => simp at f1; omega
     | cons a b => exact ⟨a, b, rfl⟩
    obtain ⟨ts, t1, t2⟩ := ahV n nl (by simp at f1; omega)
    subst t1
    conv at hr =>
     rhs
     rw [hTe]
     simp only [zi.xJ, zi.code, zi.rs, zSs, reduceIte, Nat.reduceEqDiff, Int.reduceEq, Int.reduceLT, Int.reduceLE, d1, w1, w2, if_neg k2, c1, vZ Okl.read, goInt, List.length_nil, Int.natCast_zero, Int.lt_irrefl, XF]
    generalize hL2 : qm (zF Try.prog O false zi.jI) _ _ = r2 at hr
    obtain ⟨T', rfl, g1, g2, g3, g4⟩ := zi.inner (n0 := n0) (ts := ts) rfl (by omega) ts [] hL2 rfl (by rw [t2]; rfl) rfl rfl rfl rfl
    have hTe' := zi.eta g1
    rw [g2, g3, g4, t2] at hTe'
    simp only [List.getD_cons_zero] at hTe'
    have c3 := fun S => zo.v (k := 1) (l := ts) Okl.read (by decide) (by omega) S
    unfold ahr at c3
    have s1 : ∀ S, Ji Try.prog 23 9 (by_ k l) S = some (.string ⟨l.toArray⟩, S) := fun S => abn hk
    have s2 : ∀ S, Ji Try.prog 23 9 (by_ 1 (Vx ts)) S = some (.string ⟨(Vx ts).toArray⟩, S) := fun S => abn Okl.read
    by_cases hok : Zi ts = true
    ·
     rw [if_pos hok] at c3
     by_cases hb : Vx ts = l
     ·
      conv at hr =>
       rhs
       rw [hTe']
       simp only [zi.code, zi.rs, zSs, reduceIte, Nat.reduceEqDiff, Int.reduceEq, Int.reduceLT, Int.reduceLE, if_neg k2, c3, s1, s2, ahd, decide_eq_true hb]
      refine ⟨_, _, hL.symm.trans (wo hr (by simp)), ?_⟩
      rw [(kT l ts).mpr ⟨hok, hb.symm⟩]
      exact ⟨rfl, rfl, rfl⟩
     ·
      conv at hr =>
       rhs
       rw [hTe']
       simp only [zi.code, zi.rs, zSs, reduceIte, Nat.reduceEqDiff, Int.reduceEq, Int.reduceLT, Int.reduceLE, if_neg k2, c3, s1, s2, ahd, decide_eq_false hb, wi]
      refine ih (n + 1) ((yg hr).symm.trans hL) rfl rfl rfl (by omega) ?_
      intro us hx
      have h1 := hno us hx
      by_cases h2 : us.length = n
      ·
       have := key us hx h2
       rw [hns] at this
       simp at this
       have e := Xo this.2
       subst e
       exact absurd ((kT _ _).mp hx).2.symm hb
      ·
       omega
    ·
     rw [if_neg hok] at c3
     conv at hr =>
      rhs
      rw [hTe']
      simp only [zi.code, zi.rs, zSs, reduceIte, Nat.reduceEqDiff, Int.reduceEq, Int.reduceLT, Int.reduceLE, c3, wi]
     refine ih (n + 1) ((yg hr).symm.trans hL) rfl rfl rfl (by omega) ?_
     intro us hx
     have h1 := hno us hx
     by_cases h2 : us.length = n
     ·
      have := key us hx h2
      rw [hns] at this
      simp at this
      have e := Xo this.2
      subst e
      exact absurd ((kT _ _).mp hx).1 hok
     ·
      omega
   ·
    have hp : (0 : Int) < (rest.length : Int) := by have := List.length_pos_iff.mpr hr0; omega
    conv at hr =>
     rhs
     rw [hTe]
     simp only [zi.xJ, zi.code, zi.rs, zSs, reduceIte, Nat.reduceEqDiff, Int.reduceEq, Int.reduceLT, Int.reduceLE, d1, w1, w2, if_neg k2, c1, vZ Okl.read, goInt, decide_eq_true hp, wi]
    refine ih (n + 1) ((yg hr).symm.trans hL) rfl rfl rfl (by omega) ?_
    intro ts hx
    have h1 := hno ts hx
    by_cases h2 : ts.length = n
    ·
     rw [key ts hx h2] at hns; simp at hns; exact absurd hns.2 hr0
    ·
     omega
theorem zi.v {k : Nat} {l : List UInt8} (hk : Okl k l) (k2 : k ≠ 2) (hl : l.length ≤ 140737488355328) (S : zk) : jc Try.prog O zi.id [by_ k l] S = some (Xc 2 l, S) := by
 obtain ⟨T, hTe⟩ : ∃ T, T = (by_ k l :: undef :: undef :: undef :: undef :: undef :: undef :: undef :: undef :: undef :: undef :: undef :: undef :: undef :: undef :: undef :: undef :: undef :: undef :: undef :: undef :: undef :: undef :: undef :: undef :: undef :: undef :: undef :: undef :: undef :: undef :: undef :: undef :: undef :: undef :: undef :: undef :: undef :: undef :: undef :: undef :: undef :: undef :: undef :: undef :: undef :: undef :: undef :: undef :: undef :: undef :: undef :: undef :: undef :: undef :: undef :: undef :: undef :: undef :: undef :: undef :: undef :: undef :: undef :: undef :: undef :: undef :: undef :: undef :: []) := ⟨_, rfl⟩
 have hr : zF Try.prog O false zi.code T S = zF Try.prog O false zi.code T S := rfl
 conv at hr =>
  rhs
  rw [hTe]
  simp only [zi.code, zi.rs, zSs, reduceIte, Nat.reduceEqDiff, Int.reduceEq, Int.reduceLT, Int.reduceLE]
 generalize hL : qm (zF Try.prog O false zi.xJ) _ _ = r at hr
 obtain ⟨e, T', rfl, g⟩ := zi.round hk k2 hl 4 0 hL rfl rfl rfl rfl (fun ts h => Nat.zero_le _)
 unfold Xc
 cases hx : vG l with
 | none =>
  rw [hx] at g
  obtain ⟨rfl, g2⟩ := g
  have hTe' := zi.eta g2
  conv at hr =>
   rhs
   rw [hTe']
   simp only [zi.code, zi.rs, zSs, reduceIte, Nat.reduceEqDiff, Int.reduceEq, Int.reduceLT, Int.reduceLE]
  rw [hTe] at hr
  exact zi.runs hr (.inr rfl) rfl rfl
 | some ts =>
  rw [hx] at g
  obtain ⟨rfl, g2, g3⟩ := g
  conv at hr =>
   rhs
   simp only [zSs, reduceIte, Nat.reduceEqDiff, Int.reduceEq, Int.reduceLT, Int.reduceLE]
  rw [hTe] at hr
  have hrun := zi.runs (S := S) hr (.inr rfl) (by rw [g2]; exact jX) (by rw [g3]; rfl)
  rw [g2, g3] at hrun
  dsimp only
  rw [ite_self]
  exact hrun
end Go.Proofs.Ytbgcphbbchndkaa
namespace Go.Proofs.Ytbgcphbbchndkaa
open Go.Abs
theorem abu {l : List TxV} (h : Zi l = true) : (Vx l).length ≤ 100 := by
 obtain ⟨h1, h2⟩ := kR.mp h
 have h3 := WI h1.2
 have h4 := ZI (l := [(l.length : Int)]) (by simp; omega)
 rw [vN, List.length_append]
 simp at h4
 omega
theorem KI (l : List UInt8) : ∃ t e, acS l = .tuple #[tv t, .int .i64 e] ∧ ((e = 0 ∧ ae1 l = some t) ∨ (e = 61 ∧ ae1 l = none ∧ t = ⟨0, 0⟩)) := by
 unfold acS
 cases h : ae1 l with
 | none => exact ⟨⟨0, 0⟩, 61, rfl, .inr ⟨rfl, rfl, rfl⟩⟩
 | some t => exact ⟨t, 0, rfl, .inl ⟨rfl, rfl⟩⟩
theorem Qy {j : Nat} (hj : j ≤ 2) (l : List UInt8) : ∃ k t e, Okl k t ∧ List.length t ≤ 3 ∧ Xc j l = .tuple #[tl k t, .int .i64 e] ∧ ((e = 0 ∧ vG l = some t) ∨ (e = 61 ∧ vG l = none ∧ t = [])) := by
 unfold Xc
 cases h : vG l with
 | none => exact ⟨0, [], 61, Okl.none, by simp, rfl, .inr ⟨rfl, rfl, rfl⟩⟩
 | some t => exact ⟨_, t, 0, adJ hj t, (kR.mp ((kT l t).mp h).1).2, rfl, .inl ⟨rfl, rfl⟩⟩
end Go.Proofs.Ytbgcphbbchndkaa
namespace Go.Proofs.Ytbgcphbbchndkaa
open Go.Abs
structure vF where
 slot : Int
 miner : Int
 variant : Int
 parent : Int
 k : Nat
 txs : List TxV
def fBk (b : vF) : List Value := [.int .i64 b.slot, .int .i64 b.miner, .int .i64 b.variant, .int .i64 b.parent, tl b.k b.txs]
abbrev bv (b : vF) : Value := .agg [Value.int .i64 b.slot, .int .i64 b.miner, .int .i64 b.variant, .int .i64 b.parent, tl b.k b.txs].toArray
structure vF.Ok (b : vF) : Prop where
 okl : Okl b.k b.txs
 ne : b.k ≠ 2
 len : b.txs.length * 16 ≤ 140737488351232
 par : b.parent < 9223372036854775808
def headB (b : vF) : Bool := btw b.slot 1 4095 && btw b.miner 0 6 && btw b.variant 0 255 && (decide (b.parent = 0) || (kM b.parent && decide (b.parent / 65536 < b.slot)))
def jZ (b : vF) : Bool := headB b && Zi b.txs
theorem Z8 {b : vF} : headB b = true ↔ (1 ≤ b.slot ∧ b.slot ≤ 4095) ∧ (0 ≤ b.miner ∧ b.miner ≤ 6) ∧ (0 ≤ b.variant ∧ b.variant ≤ 255) ∧ (b.parent = 0 ∨ (kM b.parent = true ∧ b.parent / 65536 < b.slot)) := by
 simp [headB, Qp, and_assoc]
theorem yK {b : vF} {d : Nat} (h : b.k ≤ 2) : jH (d + 6) (bv b) = true := by
 have h1 : jH (d + 5) (tl b.k b.txs) = true := ZH (d := d + 1) h fun _ _ => rfl
 refine VY ?_
 simp only [List.all_cons, List.all_nil, h1, Bool.and_true]
 rfl
abbrev ajr (b : vF) : zk := zk.empty.push (.cells (fBk b) (.own []) 0)
theorem J6 (b : vF) : J5 (bv b) zk.empty = some (.pointer (some ⟨0, 0, none⟩), ajr b) := rfl
theorem qN (b : vF) : (ajr b).get 0 = some (.cells (fBk b) (.own []) 0) := rfl
theorem aaw {S : zk} {q : Nat} {b : vF} (h : S.get q = some (.cells (fBk b) (.own []) 0)) : jf Try.prog false 3 (.pointer (some ⟨q, 0 + 0, none⟩)) S = some (.int .i64 b.slot, S) := qC (t := 3) (o := 0 + 0) h ZL rfl
theorem aa1 {S : zk} {q : Nat} {b : vF} (h : S.get q = some (.cells (fBk b) (.own []) 0)) : jf Try.prog false 3 (.pointer (some ⟨q, 0 + 1, none⟩)) S = some (.int .i64 b.miner, S) := qC (t := 3) (o := 0 + 1) h ZL rfl
theorem aaR {S : zk} {q : Nat} {b : vF} (h : S.get q = some (.cells (fBk b) (.own []) 0)) : jf Try.prog false 3 (.pointer (some ⟨q, 0 + 2, none⟩)) S = some (.int .i64 b.variant, S) := qC (t := 3) (o := 0 + 2) h ZL rfl
theorem aaG {S : zk} {q : Nat} {b : vF} (h : S.get q = some (.cells (fBk b) (.own []) 0)) : jf Try.prog false 3 (.pointer (some ⟨q, 0 + 3, none⟩)) S = some (.int .i64 b.parent, S) := qC (t := 3) (o := 0 + 3) h ZL rfl
theorem abd {S : zk} {q : Nat} {b : vF} (h : S.get q = some (.cells (fBk b) (.own []) 0)) (hk : b.k ≠ 2) : jf Try.prog false 26 (.pointer (some ⟨q, 0 + 4, none⟩)) S = some (tl b.k b.txs, S) := by
 rw [abE (o := 0 + 4) (v := tl b.k b.txs) h ac4 rfl (fun l h => by unfold tl vs sv at h; split at h <;> cases h), aeI, if_neg hk]
theorem adh {S : zk} {q : Nat} {b : vF} (h : S.get q = some (.cells (fBk b) (.own []) 0)) (hk : b.k ≠ 2) : jf Try.prog false 28 (.pointer (some ⟨q, 0, none⟩)) S = some (bv b, S) := by
 rw [Vq h, vg, vg, vg, vg, aar, if_neg hk]
theorem jv.v {b : vF} (hb : b.Ok) (S : zk) : jc Try.prog O jv.id [bv b] S = some (.bool (jZ b), S) := by
 obtain ⟨T, hTe⟩ : ∃ T, T = (bv b :: undef :: undef :: undef :: undef :: undef :: undef :: undef :: undef :: undef :: undef :: undef :: undef :: undef :: undef :: undef :: undef :: undef :: undef :: undef :: undef :: undef :: undef :: undef :: undef :: undef :: undef :: undef :: undef :: undef :: undef :: undef :: undef :: undef :: undef :: undef :: undef :: undef :: undef :: undef :: undef :: undef :: undef :: undef :: undef :: undef :: []) := ⟨_, rfl⟩
 have hr : zF Try.prog O false jv.code T zk.empty = zF Try.prog O false jv.code T zk.empty := rfl
 have l0 := aaw (qN b)
 have l1 := aa1 (qN b)
 have l2 := aaR (qN b)
 have l3 := aaG (qN b)
 have l4 := abd (qN b) hb.ne
 have c1 := fun S => jQ.v hb.okl hb.ne (by have := hb.len; omega) S
 unfold ahr at c1
 cases h1 : btw b.slot 1 4095
 ·
  have e : jZ b = false := by simp [jZ, headB, h1]
  rw [e]
  conv at hr =>
   rhs
   rw [hTe]
   simp only [jv.code, jv.rs, zSs, reduceIte, Nat.reduceEqDiff, Int.reduceEq, Int.reduceLT, Int.reduceLE, J6, jO, jK, jL, jJ, jM, l0, l1, l2, l3, l4, if_neg hb.ne, jP.v, h1]
  rw [hTe] at hr
  exact jv.runs hr (.inr rfl) (all1 (yK hb.okl.le)) rfl
 ·
  cases h2 : btw b.miner 0 6
  ·
   have e : jZ b = false := by simp [jZ, headB, h1, h2]
   rw [e]
   conv at hr =>
    rhs
    rw [hTe]
    simp only [jv.code, jv.rs, zSs, reduceIte, Nat.reduceEqDiff, Int.reduceEq, Int.reduceLT, Int.reduceLE, J6, jO, jK, jL, jJ, jM, l0, l1, l2, l3, l4, if_neg hb.ne, jP.v, h1, h2]
   rw [hTe] at hr
   exact jv.runs hr (.inr rfl) (all1 (yK hb.okl.le)) rfl
  ·
   cases h3 : btw b.variant 0 255
   ·
    have e : jZ b = false := by simp [jZ, headB, h1, h2, h3]
    rw [e]
    conv at hr =>
     rhs
     rw [hTe]
     simp only [jv.code, jv.rs, zSs, reduceIte, Nat.reduceEqDiff, Int.reduceEq, Int.reduceLT, Int.reduceLE, J6, jO, jK, jL, jJ, jM, l0, l1, l2, l3, l4, if_neg hb.ne, jP.v, h1, h2, h3]
    rw [hTe] at hr
    exact jv.runs hr (.inr rfl) (all1 (yK hb.okl.le)) rfl
   ·
    by_cases h4 : b.parent = 0
    ·
     by_cases h7 : Zi b.txs = true
     ·
      rw [if_pos h7] at c1
      have e : jZ b = true := by simp [jZ, headB, h1, h2, h3, h4, h7]
      rw [e]
      conv at hr =>
       rhs
       rw [hTe]
       simp only [jv.code, jv.rs, zSs, reduceIte, Nat.reduceEqDiff, Int.reduceEq, Int.reduceLT, Int.reduceLE, J6, jO, jK, jL, jJ, jM, l0, l1, l2, l3, l4, if_neg hb.ne, jP.v, h1, h2, h3, decide_eq_true h4, c1]
      rw [hTe] at hr
      exact jv.runs hr (.inr rfl) (all1 (yK hb.okl.le)) rfl
     ·
      rw [if_neg h7] at c1
      have e : jZ b = false := by simp [jZ, h7]
      rw [e]
      conv at hr =>
       rhs
       rw [hTe]
       simp only [jv.code, jv.rs, zSs, reduceIte, Nat.reduceEqDiff, Int.reduceEq, Int.reduceLT, Int.reduceLE, J6, jO, jK, jL, jJ, jM, l0, l1, l2, l3, l4, if_neg hb.ne, jP.v, h1, h2, h3, decide_eq_true h4, c1]
      rw [hTe] at hr
      exact jv.runs hr (.inr rfl) (all1 (yK hb.okl.le)) rfl
    ·
     cases h5 : kM b.parent
     ·
      have e : jZ b = false := by simp [jZ, headB, h1, h2, h3, h4, h5]
      rw [e]
      conv at hr =>
       rhs
       rw [hTe]
       simp only [jv.code, jv.rs, zSs, reduceIte, Nat.reduceEqDiff, Int.reduceEq, Int.reduceLT, Int.reduceLE, J6, jO, jK, jL, jJ, jM, l0, l1, l2, l3, l4, if_neg hb.ne, jP.v, h1, h2, h3, decide_eq_false h4, wF.v, h5]
      rw [hTe] at hr
      exact jv.runs hr (.inr rfl) (all1 (yK hb.okl.le)) rfl
     ·
      have hn := xE.mp h5
      have q1 : IntKind.i64.wrap (b.parent.tdiv 65536) = b.parent / 65536 := by rw [Ya (by omega), wrap_i64 (by omega) (by omega)]
      by_cases h6 : b.parent / 65536 < b.slot
      ·
       have h6' : ¬ b.slot ≤ b.parent / 65536 := by omega
       by_cases h7 : Zi b.txs = true
       ·
        rw [if_pos h7] at c1
        have e : jZ b = true := by simp [jZ, headB, h1, h2, h3, h4, h5, h6, h7]
        rw [e]
        conv at hr =>
         rhs
         rw [hTe]
         simp only [jv.code, jv.rs, zSs, reduceIte, Nat.reduceEqDiff, Int.reduceEq, Int.reduceLT, Int.reduceLE, J6, jO, jK, jL, jJ, jM, l0, l1, l2, l3, l4, if_neg hb.ne, jP.v, h1, h2, h3, decide_eq_false h4, wF.v, h5, xg _ _ _ YJ, q1, decide_eq_false h6', c1]
        rw [hTe] at hr
        exact jv.runs hr (.inr rfl) (all1 (yK hb.okl.le)) rfl
       ·
        rw [if_neg h7] at c1
        have e : jZ b = false := by simp [jZ, h7]
        rw [e]
        conv at hr =>
         rhs
         rw [hTe]
         simp only [jv.code, jv.rs, zSs, reduceIte, Nat.reduceEqDiff, Int.reduceEq, Int.reduceLT, Int.reduceLE, J6, jO, jK, jL, jJ, jM, l0, l1, l2, l3, l4, if_neg hb.ne, jP.v, h1, h2, h3, decide_eq_false h4, wF.v, h5, xg _ _ _ YJ, q1, decide_eq_false h6', c1]
        rw [hTe] at hr
        exact jv.runs hr (.inr rfl) (all1 (yK hb.okl.le)) rfl
      ·
       have h6' : b.slot ≤ b.parent / 65536 := by omega
       have e : jZ b = false := by simp [jZ, headB, h1, h2, h3, h4, h5, h6]
       rw [e]
       conv at hr =>
        rhs
        rw [hTe]
        simp only [jv.code, jv.rs, zSs, reduceIte, Nat.reduceEqDiff, Int.reduceEq, Int.reduceLT, Int.reduceLE, J6, jO, jK, jL, jJ, jM, l0, l1, l2, l3, l4, if_neg hb.ne, jP.v, h1, h2, h3, decide_eq_false h4, wF.v, h5, xg _ _ _ YJ, q1, decide_eq_true h6']
       rw [hTe] at hr
       exact jv.runs hr (.inr rfl) (all1 (yK hb.okl.le)) rfl
theorem zA.v {b : vF} (hb : b.Ok) (S : zk) : jc Try.prog O zA.id [bv b] S = some (.bool (jZ b), S) := by
 obtain ⟨T, hTe⟩ : ∃ T, T = (bv b :: undef :: undef :: undef :: undef :: undef :: undef :: undef :: undef :: undef :: undef :: undef :: undef :: undef :: undef :: undef :: undef :: undef :: undef :: undef :: undef :: undef :: undef :: undef :: undef :: undef :: undef :: undef :: undef :: undef :: undef :: undef :: undef :: undef :: undef :: undef :: undef :: undef :: undef :: undef :: undef :: undef :: undef :: undef :: undef :: undef :: undef :: undef :: undef :: undef :: undef :: undef :: undef :: undef :: undef :: undef :: undef :: undef :: undef :: undef :: undef :: undef :: undef :: []) := ⟨_, rfl⟩
 have hr : zF Try.prog O false zA.code T zk.empty = zF Try.prog O false zA.code T zk.empty := rfl
 have l0 := aaw (qN b)
 have l1 := aa1 (qN b)
 have l2 := aaR (qN b)
 have l3 := aaG (qN b)
 have l4 := abd (qN b) hb.ne
 have c1 := fun S => zo.v hb.okl hb.ne (by have := hb.len; omega) S
 unfold ahr at c1
 by_cases h1 : b.slot < 1
 ·
  have e : jZ b = false := by
   cases h : jZ b with
    | false => rfl
    | true => simp only [jZ, Bool.and_eq_true, Z8] at h; omega
  rw [e]
  conv at hr =>
   rhs
   rw [hTe]
   simp only [zA.code, zA.rs, zSs, reduceIte, Nat.reduceEqDiff, Int.reduceEq, Int.reduceLT, Int.reduceLE, J6, jO, jK, jL, jJ, jM, l0, l1, l2, l3, l4, if_neg hb.ne, decide_eq_true h1]
  rw [hTe] at hr
  exact zA.runs hr (.inr rfl) (all1 (yK hb.okl.le)) rfl
 ·
  by_cases h2 : 4095 < b.slot
  ·
   have e : jZ b = false := by
    cases h : jZ b with
     | false => rfl
     | true => simp only [jZ, Bool.and_eq_true, Z8] at h; omega
   rw [e]
   conv at hr =>
    rhs
    rw [hTe]
    simp only [zA.code, zA.rs, zSs, reduceIte, Nat.reduceEqDiff, Int.reduceEq, Int.reduceLT, Int.reduceLE, J6, jO, jK, jL, jJ, jM, l0, l1, l2, l3, l4, if_neg hb.ne, decide_eq_false h1, decide_eq_true h2]
   rw [hTe] at hr
   exact zA.runs hr (.inr rfl) (all1 (yK hb.okl.le)) rfl
  ·
   by_cases h3 : b.miner < 0
   ·
    have e : jZ b = false := by
     cases h : jZ b with
      | false => rfl
      | true => simp only [jZ, Bool.and_eq_true, Z8] at h; omega
    rw [e]
    conv at hr =>
     rhs
     rw [hTe]
     simp only [zA.code, zA.rs, zSs, reduceIte, Nat.reduceEqDiff, Int.reduceEq, Int.reduceLT, Int.reduceLE, J6, jO, jK, jL, jJ, jM, l0, l1, l2, l3, l4, if_neg hb.ne, decide_eq_false h1, decide_eq_false h2, decide_eq_true h3]
    rw [hTe] at hr
    exact zA.runs hr (.inr rfl) (all1 (yK hb.okl.le)) rfl
   ·
    by_cases h4 : 6 < b.miner
    ·
     have e : jZ b = false := by
      cases h : jZ b with
       | false => rfl
       | true => simp only [jZ, Bool.and_eq_true, Z8] at h; omega
     rw [e]
     conv at hr =>
      rhs
      rw [hTe]
      simp only [zA.code, zA.rs, zSs, reduceIte, Nat.reduceEqDiff, Int.reduceEq, Int.reduceLT, Int.reduceLE, J6, jO, jK, jL, jJ, jM, l0, l1, l2, l3, l4, if_neg hb.ne, decide_eq_false h1, decide_eq_false h2, decide_eq_false h3, decide_eq_true h4]
     rw [hTe] at hr
     exact zA.runs hr (.inr rfl) (all1 (yK hb.okl.le)) rfl
    ·
     by_cases h5 : b.variant < 0
     ·
      have e : jZ b = false := by
       cases h : jZ b with
        | false => rfl
        | true => simp only [jZ, Bool.and_eq_true, Z8] at h; omega
      rw [e]
      conv at hr =>
       rhs
       rw [hTe]
       simp only [zA.code, zA.rs, zSs, reduceIte, Nat.reduceEqDiff, Int.reduceEq, Int.reduceLT, Int.reduceLE, J6, jO, jK, jL, jJ, jM, l0, l1, l2, l3, l4, if_neg hb.ne, decide_eq_false h1, decide_eq_false h2, decide_eq_false h3, decide_eq_false h4, decide_eq_true h5]
      rw [hTe] at hr
      exact zA.runs hr (.inr rfl) (all1 (yK hb.okl.le)) rfl
     ·
      by_cases h6 : 255 < b.variant
      ·
       have e : jZ b = false := by
        cases h : jZ b with
         | false => rfl
         | true => simp only [jZ, Bool.and_eq_true, Z8] at h; omega
       rw [e]
       conv at hr =>
        rhs
        rw [hTe]
        simp only [zA.code, zA.rs, zSs, reduceIte, Nat.reduceEqDiff, Int.reduceEq, Int.reduceLT, Int.reduceLE, J6, jO, jK, jL, jJ, jM, l0, l1, l2, l3, l4, if_neg hb.ne, decide_eq_false h1, decide_eq_false h2, decide_eq_false h3, decide_eq_false h4, decide_eq_false h5, decide_eq_true h6]
       rw [hTe] at hr
       exact zA.runs hr (.inr rfl) (all1 (yK hb.okl.le)) rfl
      ·
       by_cases h7 : Zi b.txs = true
       ·
        rw [if_pos h7] at c1
        have hh : headB b = (decide (b.parent = 0) || (kM b.parent && decide (b.parent / 65536 < b.slot))) := by
         have a1 := Qp.mpr (show 1 ≤ b.slot ∧ b.slot ≤ 4095 by omega)
         have a2 := Qp.mpr (show 0 ≤ b.miner ∧ b.miner ≤ 6 by omega)
         have a3 := Qp.mpr (show 0 ≤ b.variant ∧ b.variant ≤ 255 by omega)
         simp [headB, a1, a2, a3]
        by_cases h8 : b.parent = 0
        ·
         have e : jZ b = true := by simp [jZ, hh, h8, h7]
         rw [e]
         conv at hr =>
          rhs
          rw [hTe]
          simp only [zA.code, zA.rs, zSs, reduceIte, Nat.reduceEqDiff, Int.reduceEq, Int.reduceLT, Int.reduceLE, J6, jO, jK, jL, jJ, jM, l0, l1, l2, l3, l4, if_neg hb.ne, decide_eq_false h1, decide_eq_false h2, decide_eq_false h3, decide_eq_false h4, decide_eq_false h5, decide_eq_false h6, c1, decide_eq_true h8]
         rw [hTe] at hr
         exact zA.runs hr (.inr rfl) (all1 (yK hb.okl.le)) rfl
        ·
         have c2 := fun S => jd.v b.parent hb.par S
         unfold aai at c2
         by_cases h9 : b.parent < 0
         ·
          rw [if_pos h9] at c2
          have hn : kM b.parent = false := by
           cases h : kM b.parent with
           | false => rfl
           | true => have := xE.mp h; omega
          have e : jZ b = false := by simp [jZ, hh, h8, hn]
          rw [e]
          conv at hr =>
           rhs
           rw [hTe]
           simp only [zA.code, zA.rs, zSs, reduceIte, Nat.reduceEqDiff, Int.reduceEq, Int.reduceLT, Int.reduceLE, J6, jO, jK, jL, jJ, jM, l0, l1, l2, l3, l4, if_neg hb.ne, decide_eq_false h1, decide_eq_false h2, decide_eq_false h3, decide_eq_false h4, decide_eq_false h5, decide_eq_false h6, c1, decide_eq_false h8, c2]
          rw [hTe] at hr
          exact zA.runs hr (.inr rfl) (all1 (yK hb.okl.le)) rfl
         ·
          rw [if_neg h9] at c2
          cases hn : kM b.parent
          ·
           rw [hn] at c2
           have e : jZ b = false := by simp [jZ, hh, h8, hn]
           rw [e]
           conv at hr =>
            rhs
            rw [hTe]
            simp only [zA.code, zA.rs, zSs, reduceIte, Nat.reduceEqDiff, Int.reduceEq, Int.reduceLT, Int.reduceLE, J6, jO, jK, jL, jJ, jM, l0, l1, l2, l3, l4, if_neg hb.ne, decide_eq_false h1, decide_eq_false h2, decide_eq_false h3, decide_eq_false h4, decide_eq_false h5, decide_eq_false h6, c1, decide_eq_false h8, c2]
           rw [hTe] at hr
           exact zA.runs hr (.inr rfl) (all1 (yK hb.okl.le)) rfl
          ·
           rw [hn] at c2
           have e : jZ b = decide (b.parent / 65536 < b.slot) := by simp [jZ, hh, h8, hn, h7]
           rw [e]
           conv at hr =>
            rhs
            rw [hTe]
            simp only [zA.code, zA.rs, zSs, reduceIte, Nat.reduceEqDiff, Int.reduceEq, Int.reduceLT, Int.reduceLE, J6, jO, jK, jL, jJ, jM, l0, l1, l2, l3, l4, if_neg hb.ne, decide_eq_false h1, decide_eq_false h2, decide_eq_false h3, decide_eq_false h4, decide_eq_false h5, decide_eq_false h6, c1, decide_eq_false h8, c2]
           rw [hTe] at hr
           exact zA.runs hr (.inr rfl) (all1 (yK hb.okl.le)) rfl
       ·
        rw [if_neg h7] at c1
        have e : jZ b = false := by simp [jZ, h7]
        rw [e]
        conv at hr =>
         rhs
         rw [hTe]
         simp only [zA.code, zA.rs, zSs, reduceIte, Nat.reduceEqDiff, Int.reduceEq, Int.reduceLT, Int.reduceLE, J6, jO, jK, jL, jJ, jM, l0, l1, l2, l3, l4, if_neg hb.ne, decide_eq_false h1, decide_eq_false h2, decide_eq_false h3, decide_eq_false h4, decide_eq_false h5, decide_eq_false h6, c1]
        rw [hTe] at hr
        exact zA.runs hr (.inr rfl) (all1 (yK hb.okl.le)) rfl
end Go.Proofs.Ytbgcphbbchndkaa
namespace Go.Proofs.Ytbgcphbbchndkaa
open Go.Abs
def ZB (a b : vF) : Bool := decide (a.slot = b.slot) && (decide (a.miner = b.miner) && (decide (a.variant = b.variant) && (decide (a.parent = b.parent) && decide (a.txs = b.txs))))
abbrev aik (a b : vF) : zk := (ajr a).push (.cells (fBk b) (.own []) 0)
theorem QT (a b : vF) : J5 (bv b) (ajr a) = some (.pointer (some ⟨1, 0, none⟩), aik a b) := by kernel_rfl
theorem ZK (a b : vF) : (aik a b).get 0 = some (.cells (fBk a) (.own []) 0) := by kernel_rfl
theorem ZO (a b : vF) : (aik a b).get 1 = some (.cells (fBk b) (.own []) 0) := by kernel_rfl
theorem wG.v {a b : vF} (ha : a.Ok) (hb : b.Ok) (S : zk) : jc Try.prog O wG.id [bv a, bv b] S = some (.bool (ZB a b), S) := by
 obtain ⟨T, hTe⟩ : ∃ T, T = (bv a :: bv b :: undef :: undef :: undef :: undef :: undef :: undef :: undef :: undef :: undef :: undef :: undef :: undef :: undef :: undef :: undef :: undef :: undef :: undef :: undef :: undef :: undef :: undef :: undef :: undef :: undef :: undef :: undef :: undef :: undef :: undef :: undef :: undef :: undef :: undef :: undef :: undef :: []) := ⟨_, rfl⟩
 have hr : zF Try.prog O false wG.code T zk.empty = zF Try.prog O false wG.code T zk.empty := rfl
 have l0 := aaw (ZK a b)
 have m0 := aaw (ZO a b)
 have l1 := aa1 (ZK a b)
 have m1 := aa1 (ZO a b)
 have l2 := aaR (ZK a b)
 have m2 := aaR (ZO a b)
 have l3 := aaG (ZK a b)
 have m3 := aaG (ZO a b)
 have l4 := abd (ZK a b) ha.ne
 have m4 := abd (ZO a b) hb.ne
 have c1 := fun S => slices_Equal.v ha.okl hb.okl ha.ne hb.ne (by have := ha.len; omega) S
 have cc : [bv a, bv b].all (jH 16) = true := all2 (yK ha.okl.le) (yK hb.okl.le)
 unfold ZB
 by_cases h1 : a.slot = b.slot
 ·
  have e1 := decide_eq_true h1
  by_cases h2 : a.miner = b.miner
  ·
   have e2 := decide_eq_true h2
   by_cases h3 : a.variant = b.variant
   ·
    have e3 := decide_eq_true h3
    by_cases h4 : a.parent = b.parent
    ·
     have e4 := decide_eq_true h4
     conv at hr =>
      rhs
      rw [hTe]
      simp only [wG.code, wG.rs, zSs, reduceIte, Nat.reduceEqDiff, Int.reduceEq, Int.reduceLT, Int.reduceLE, J6, QT, jO, jK, jL, jJ, jM, l0, l1, l2, l3, l4, m0, m1, m2, m3, m4, if_neg ha.ne, if_neg hb.ne, e1, e2, e3, e4, c1]
     rw [hTe] at hr
     rw [e1, Bool.true_and, e2, Bool.true_and, e3, Bool.true_and, e4, Bool.true_and]
     exact wG.runs hr (.inr rfl) cc rfl
    ·
     have e4 := decide_eq_false h4
     conv at hr =>
      rhs
      rw [hTe]
      simp only [wG.code, wG.rs, zSs, reduceIte, Nat.reduceEqDiff, Int.reduceEq, Int.reduceLT, Int.reduceLE, J6, QT, jO, jK, jL, jJ, jM, l0, l1, l2, l3, l4, m0, m1, m2, m3, m4, if_neg ha.ne, if_neg hb.ne, e1, e2, e3, e4]
     rw [hTe] at hr
     rw [e1, Bool.true_and, e2, Bool.true_and, e3, Bool.true_and, e4, Bool.false_and]
     exact wG.runs hr (.inr rfl) cc rfl
   ·
    have e3 := decide_eq_false h3
    conv at hr =>
     rhs
     rw [hTe]
     simp only [wG.code, wG.rs, zSs, reduceIte, Nat.reduceEqDiff, Int.reduceEq, Int.reduceLT, Int.reduceLE, J6, QT, jO, jK, jL, jJ, jM, l0, l1, l2, l3, l4, m0, m1, m2, m3, m4, if_neg ha.ne, if_neg hb.ne, e1, e2, e3]
    rw [hTe] at hr
    rw [e1, Bool.true_and, e2, Bool.true_and, e3, Bool.false_and]
    exact wG.runs hr (.inr rfl) cc rfl
  ·
   have e2 := decide_eq_false h2
   conv at hr =>
    rhs
    rw [hTe]
    simp only [wG.code, wG.rs, zSs, reduceIte, Nat.reduceEqDiff, Int.reduceEq, Int.reduceLT, Int.reduceLE, J6, QT, jO, jK, jL, jJ, jM, l0, l1, l2, l3, l4, m0, m1, m2, m3, m4, if_neg ha.ne, if_neg hb.ne, e1, e2]
   rw [hTe] at hr
   rw [e1, Bool.true_and, e2, Bool.false_and]
   exact wG.runs hr (.inr rfl) cc rfl
 ·
  have e1 := decide_eq_false h1
  conv at hr =>
   rhs
   rw [hTe]
   simp only [wG.code, wG.rs, zSs, reduceIte, Nat.reduceEqDiff, Int.reduceEq, Int.reduceLT, Int.reduceLE, J6, QT, jO, jK, jL, jJ, jM, l0, l1, l2, l3, l4, m0, m1, m2, m3, m4, if_neg ha.ne, if_neg hb.ne, e1]
  rw [hTe] at hr
  rw [e1, Bool.false_and]
  exact wG.runs hr (.inr rfl) cc rfl
theorem jm.v {a b : vF} (ha : a.Ok) (hb : b.Ok) (S : zk) : jc Try.prog O jm.id [bv a, bv b] S = some (.bool (ZB a b), S) := by
 obtain ⟨T, hTe⟩ : ∃ T, T = (bv a :: bv b :: undef :: undef :: undef :: undef :: undef :: undef :: undef :: undef :: undef :: undef :: undef :: undef :: undef :: undef :: undef :: undef :: undef :: undef :: undef :: undef :: undef :: undef :: undef :: undef :: undef :: undef :: undef :: undef :: undef :: undef :: undef :: undef :: undef :: undef :: undef :: undef :: []) := ⟨_, rfl⟩
 have hr : zF Try.prog O false jm.code T zk.empty = zF Try.prog O false jm.code T zk.empty := rfl
 have l0 := aaw (ZK a b)
 have m0 := aaw (ZO a b)
 have l1 := aa1 (ZK a b)
 have m1 := aa1 (ZO a b)
 have l2 := aaR (ZK a b)
 have m2 := aaR (ZO a b)
 have l3 := aaG (ZK a b)
 have m3 := aaG (ZO a b)
 have l4 := abd (ZK a b) ha.ne
 have m4 := abd (ZO a b) hb.ne
 have c1 := fun S => zC.v ha.okl hb.okl ha.ne hb.ne (by have := ha.len; omega) S
 have cc : [bv a, bv b].all (jH 16) = true := all2 (yK ha.okl.le) (yK hb.okl.le)
 unfold ZB
 by_cases h1 : a.slot = b.slot
 ·
  have e1 := decide_eq_true h1
  by_cases h2 : a.miner = b.miner
  ·
   have e2 := decide_eq_true h2
   by_cases h3 : a.variant = b.variant
   ·
    have e3 := decide_eq_true h3
    by_cases h4 : a.parent = b.parent
    ·
     have e4 := decide_eq_true h4
     conv at hr =>
      rhs
      rw [hTe]
      simp only [jm.code, jm.rs, zSs, reduceIte, Nat.reduceEqDiff, Int.reduceEq, Int.reduceLT, Int.reduceLE, J6, QT, jO, jK, jL, jJ, jM, l0, l1, l2, l3, l4, m0, m1, m2, m3, m4, if_neg ha.ne, if_neg hb.ne, e1, e2, e3, e4, c1]
     rw [hTe] at hr
     rw [e1, Bool.true_and, e2, Bool.true_and, e3, Bool.true_and, e4, Bool.true_and]
     exact jm.runs hr (.inr rfl) cc rfl
    ·
     have e4 := decide_eq_false h4
     conv at hr =>
      rhs
      rw [hTe]
      simp only [jm.code, jm.rs, zSs, reduceIte, Nat.reduceEqDiff, Int.reduceEq, Int.reduceLT, Int.reduceLE, J6, QT, jO, jK, jL, jJ, jM, l0, l1, l2, l3, l4, m0, m1, m2, m3, m4, if_neg ha.ne, if_neg hb.ne, e1, e2, e3, e4]
     rw [hTe] at hr
     rw [e1, Bool.true_and, e2, Bool.true_and, e3, Bool.true_and, e4, Bool.false_and]
     exact jm.runs hr (.inr rfl) cc rfl
   ·
    have e3 := decide_eq_false h3
    conv at hr =>
     rhs
     rw [hTe]
     simp only [jm.code, jm.rs, zSs, reduceIte, Nat.reduceEqDiff, Int.reduceEq, Int.reduceLT, Int.reduceLE, J6, QT, jO, jK, jL, jJ, jM, l0, l1, l2, l3, l4, m0, m1, m2, m3, m4, if_neg ha.ne, if_neg hb.ne, e1, e2, e3]
    rw [hTe] at hr
    rw [e1, Bool.true_and, e2, Bool.true_and, e3, Bool.false_and]
    exact jm.runs hr (.inr rfl) cc rfl
  ·
   have e2 := decide_eq_false h2
   conv at hr =>
    rhs
    rw [hTe]
    simp only [jm.code, jm.rs, zSs, reduceIte, Nat.reduceEqDiff, Int.reduceEq, Int.reduceLT, Int.reduceLE, J6, QT, jO, jK, jL, jJ, jM, l0, l1, l2, l3, l4, m0, m1, m2, m3, m4, if_neg ha.ne, if_neg hb.ne, e1, e2]
   rw [hTe] at hr
   rw [e1, Bool.true_and, e2, Bool.false_and]
   exact jm.runs hr (.inr rfl) cc rfl
 ·
  have e1 := decide_eq_false h1
  conv at hr =>
   rhs
   rw [hTe]
   simp only [jm.code, jm.rs, zSs, reduceIte, Nat.reduceEqDiff, Int.reduceEq, Int.reduceLT, Int.reduceLE, J6, QT, jO, jK, jL, jJ, jM, l0, l1, l2, l3, l4, m0, m1, m2, m3, m4, if_neg ha.ne, if_neg hb.ne, e1]
  rw [hTe] at hr
  rw [e1, Bool.false_and]
  exact jm.runs hr (.inr rfl) cc rfl
def aaq (b : vF) : List UInt8 := encs [b.slot, b.miner, b.variant, b.parent] ++ Vx b.txs
def aiw (b : vF) : Value := if jZ b then .tuple #[by_ 2 (aaq b), .int .i64 0] else .tuple #[.slice none 0 0, .int .i64 71]
theorem WU {b : vF} (h : headB b = true) : ∀ n ∈ [b.slot, b.miner, b.variant, b.parent], 0 ≤ n ∧ n ≤ 268435455 := by
 obtain ⟨h1, h2, h3, h4⟩ := Z8.mp h
 have h5 : 0 ≤ b.parent ∧ b.parent ≤ 268435455 := by
  rcases h4 with h4 | ⟨h4, _⟩
  ·
   omega
  ·
   have := xE.mp h4; omega
 intro n hn
 simp only [List.mem_cons, List.not_mem_nil, or_false] at hn
 rcases hn with rfl | rfl | rfl | rfl <;> omega
theorem bs4 (a b c d : Int) (S : zk) : jR Try.prog 57 4 [(0, .int .i64 a), (1, .int .i64 b), (2, .int .i64 c), (3, .int .i64 d)] S = some (iz 2 [a, b, c, d], S) := by kernel_rfl
theorem abQ {b : vF} (h : headB b = true) : (encs [b.slot, b.miner, b.variant, b.parent]).length ≤ 40 := by
 have h1 := WU h
 have := ZI (l := [b.slot, b.miner, b.variant, b.parent]) (fun n hn => by have := h1 n hn; omega)
 exact this
theorem jh.v {b : vF} (hb : b.Ok) (S : zk) : jc Try.prog O jh.id [bv b] S = some (aiw b, S) := by
 obtain ⟨T, hTe⟩ : ∃ T, T = (bv b :: undef :: undef :: undef :: undef :: undef :: undef :: undef :: undef :: undef :: undef :: undef :: undef :: undef :: undef :: undef :: undef :: undef :: undef :: undef :: undef :: undef :: undef :: undef :: undef :: undef :: undef :: undef :: undef :: undef :: undef :: undef :: undef :: []) := ⟨_, rfl⟩
 have hr : zF Try.prog O false jh.code T zk.empty = zF Try.prog O false jh.code T zk.empty := rfl
 have l0 := aaw (qN b)
 have l1 := aa1 (qN b)
 have l2 := aaR (qN b)
 have l3 := aaG (qN b)
 have l4 := abd (qN b) hb.ne
 have lb := adh (qN b) hb.ne
 have c1 := fun S => zA.v hb S
 unfold aiw
 cases hR : jZ b
 ·
  rw [hR] at c1
  conv at hr =>
   rhs
   rw [hTe]
   simp only [jh.code, jh.rs, zSs, reduceIte, Nat.reduceEqDiff, Int.reduceEq, Int.reduceLT, Int.reduceLE, J6, lb, c1]
  rw [hTe] at hr
  exact jh.runs hr (.inr rfl) rfl rfl (all1 (yK hb.okl.le)) rfl
 ·
  rw [hR] at c1
  have hh : headB b = true ∧ Zi b.txs = true := by simpa [jZ] using hR
  have few := WU hh.1
  have c2 := fun S => zB.v (l := [b.slot, b.miner, b.variant, b.parent]) Okl.read (by decide) (fun n hn => by have := few n hn; omega) S
  have n2 := JF (k := 2) (l := [b.slot, b.miner, b.variant, b.parent]) (by simp) (fun n hn => by have := few n hn; omega) (by simp)
  have c3 := fun S => zo.v hb.okl hb.ne (by have := hb.len; omega) S
  have t3 : ahr b.txs = .tuple #[by_ 2 (Vx b.txs), .int .i64 0] := if_pos hh.2
  have ap : ∀ S, wY Try.prog 23 23 (by_ 2 (encs [b.slot, b.miner, b.variant, b.parent])) (by_ 1 (Vx b.txs)) S = some (by_ 2 (aaq b), S) := fun S => by
   rw [kW Okl.own (by decide) Okl.read (by have := abQ hh.1; have := abu hh.2; omega)]; rfl
  conv at hr =>
   rhs
   rw [hTe]
   simp only [jh.code, jh.rs, zSs, reduceIte, Nat.reduceEqDiff, Int.reduceEq, Int.reduceLT, Int.reduceLE, J6, lb, c1, jO, jK, jL, jJ, jM, l0, l1, l2, l3, l4, if_neg hb.ne, bs4, c2, n2, c3, t3, ap]
  rw [hTe] at hr
  exact jh.runs hr (.inr rfl) (by simp only [List.getD_cons_succ, List.getD_cons_zero, jX, jT, jF, jG, jU]) rfl (all1 (yK hb.okl.le)) (yC (all2 (yZ (k := 2) (Nat.le_refl 2)) rfl))
end Go.Proofs.Ytbgcphbbchndkaa
namespace Go.Proofs.Ytbgcphbbchndkaa
open Go.Abs
theorem JB {α : Type} {f : α → List Value} {e k : Nat} {l : List α} {d : Nat} : okq d (vs f e k l) = true := by unfold vs sv; cases d <;> split <;> rfl
theorem Kr {R : Type} {a b c d : Int} {k : Nat} {l : List TxV} (r : Option R) (p : WA r) : okK (.agg [Value.int .i64 a, .int .i64 b, .int .i64 c, .int .i64 d, tl k l].toArray) r p = r := qZ (by
 show ([Value.int .i64 a, .int .i64 b, .int .i64 c, .int .i64 d, tl k l].toArray.toList.all (okq 2)) = true
 simp only [List.toList_toArray, List.all_cons, List.all_nil, JB, Bool.and_true]
 rfl) r p
end Go.Proofs.Ytbgcphbbchndkaa
namespace Go.Proofs.Ytbgcphbbchndkaa
open Go.Abs
abbrev bk0 : vF := ⟨0, 0, 0, 0, 0, []⟩
theorem aah (S : zk) : yF Try.prog 28 S = some (.pointer (some ⟨S.next, 0, none⟩), S.push (.cells (fBk bk0) (.own []) 0)) := by kernel_rfl
theorem adp (b : vF) : (fBk b).all (·.oneCell') = true := by
 simp only [fBk, List.all_cons, List.all_nil, adx, ahu, Bool.and_true]
theorem ajk (S : zk) (b : vF) : ∃ S2, wH Try.prog 28 (.pointer (some ⟨S.next, 0, none⟩)) (bv b) (S.push (.cells (fBk bk0) (.own []) 0)) = some (undef, S2) ∧ S2.get S.next = some (.cells (fBk b) (.own []) 0) ∧ Ext S S2 ∧ S.next < S2.next :=
 Qd S (by rw [qX, List.toList_toArray]; rfl) Zq rfl (adp b)
theorem VD {S S0 : zk} {q : Nat} {u : vF} (b : vF) (hg : S.get q = some (.cells (fBk u) (.own []) 0)) (hE : Ext S0 S) (hq : S0.next ≤ q) : ∃ S2, wH Try.prog 28 (.pointer (some ⟨q, 0, none⟩)) (bv b) S = some (undef, S2) ∧ S2.get q = some (.cells (fBk b) (.own []) 0) ∧ Ext S0 S2 ∧ S2.next = S.next ∧ ∀ k, k ≠ q → S2.get k = S.get k :=
 Vo hg Zq rfl (adp b) (by simp [fBk]) hE hq
theorem aby {x y : vF} {r s : List UInt8} (hx : jZ x = true) (hy : jZ y = true) (h : aaq x ++ r = aaq y ++ s) : (x.slot = y.slot ∧ x.miner = y.miner ∧ x.variant = y.variant ∧ x.parent = y.parent ∧ x.txs = y.txs) ∧ r = s := by
 have h1 : headB x = true ∧ Zi x.txs = true := by simpa [jZ] using hx
 have h2 : headB y = true ∧ Zi y.txs = true := by simpa [jZ] using hy
 have f1 := WU h1.1
 have f2 := WU h2.1
 unfold aaq at h
 rw [List.append_assoc, List.append_assoc] at h
 obtain ⟨e1, e2⟩ := JH (a := [x.slot, x.miner, x.variant, x.parent]) (c := [y.slot, y.miner, y.variant, y.parent]) rfl (fun n hn => by have := f1 n hn; unfold Few; omega) (fun n hn => by have := f2 n hn; unfold Few; omega) h
 obtain ⟨e3, e4⟩ := abN h1.2 h2.2 e2
 simp only [List.cons.injEq, and_true] at e1
 exact ⟨⟨e1.1, e1.2.1, e1.2.2.1, e1.2.2.2, e3⟩, e4⟩
noncomputable def afx (l : List UInt8) : Option vF := rd (fun b => jZ b = true ∧ b.k = 0) aaq l
theorem ajv {x y : vF} (h : x.slot = y.slot ∧ x.miner = y.miner ∧ x.variant = y.variant ∧ x.parent = y.parent ∧ x.txs = y.txs) (hk : x.k = y.k) : x = y := by
 cases x; cases y
 simp at h hk
 obtain ⟨rfl, rfl, rfl, rfl, rfl⟩ := h
 rw [hk]
theorem JO (l : List UInt8) (b : vF) : afx l = some b ↔ (jZ b = true ∧ b.k = 0) ∧ l = aaq b :=
 ae6 (fun x y hx hy h => ajv (aby (r := []) (s := []) hx.1 hy.1 (by rw [List.append_nil, List.append_nil]; exact h)).1 (hx.2.trans hy.2.symm)) l b
theorem Ql {l : List UInt8} (h : ∀ b : vF, b.k = 0 → jZ b = true → l ≠ aaq b) : afx l = none := by
 cases hr : afx l with
 | none => rfl
 | some b => obtain ⟨⟨h1, h2⟩, h3⟩ := (JO l b).mp hr; exact absurd h3 (h b h2 h1)
theorem aeb (l : List UInt8) : yM 4 l = none ∨ ∃ a b c d r, yM 4 l = some ([a, b, c, d], r) ∧ r.length ≤ l.length := by
 cases h : yM 4 l with
 | none => exact .inl rfl
 | some ar =>
  obtain ⟨a, r⟩ := ar
  obtain ⟨h1, h2⟩ := JY h
  match a, h1 with
  | [x, y, z, w], _ => exact .inr ⟨x, y, z, w, r, rfl, h2⟩
theorem aaC {l r : List UInt8} {b : vF} (hb : jZ b = true) (h : l = aaq b ++ r) : yM 4 l = some ([b.slot, b.miner, b.variant, b.parent], Vx b.txs ++ r) := by
 have h1 : headB b = true ∧ Zi b.txs = true := by simpa [jZ] using hb
 have f1 := WU h1.1
 exact (yB _ _ _ _).mpr ⟨rfl, by rw [h, aaq, List.append_assoc], fun n hn => by have := f1 n hn; unfold Few; omega⟩
theorem KW {l : List UInt8} (h : yM 4 l = none) : afx l = none := Ql fun b _ hb hl => by
 have := aaC (l := l) (r := []) hb (by rw [List.append_nil]; exact hl)
 rw [h] at this; cases this
theorem KA {l r : List UInt8} {a b c d : Int} (h : yM 4 l = some ([a, b, c, d], r)) (h2 : vG r = none) : afx l = none := Ql fun x _ hb hl => by
 have := aaC (l := l) (r := []) hb (by rw [List.append_nil]; exact hl)
 rw [h] at this
 simp only [Option.some.injEq, Prod.mk.injEq, List.append_nil] at this
 have h1 : headB x = true ∧ Zi x.txs = true := by simpa [jZ] using hb
 rw [(kT r x.txs).mpr ⟨h1.2, this.2⟩] at h2
 cases h2
theorem X8 {l r : List UInt8} {a b c d : Int} {ts : List TxV} (h : yM 4 l = some ([a, b, c, d], r)) (h2 : vG r = some ts) : afx l = if jZ ⟨a, b, c, d, 0, ts⟩ = true then some ⟨a, b, c, d, 0, ts⟩ else none := by
 obtain ⟨_, g2, _⟩ := (yB _ _ _ _).mp h
 obtain ⟨t1, t2⟩ := (kT r ts).mp h2
 split
 ·
  rename_i hR
  exact (JO _ _).mpr ⟨⟨hR, rfl⟩, by rw [g2, t2]; rfl⟩
 ·
  rename_i hR
  refine Ql fun x _ hb hl => hR ?_
  have := aaC (l := l) (r := []) hb (by rw [List.append_nil]; exact hl)
  rw [h] at this
  simp only [Option.some.injEq, Prod.mk.injEq, List.append_nil, List.cons.injEq, and_true] at this
  have h1 : headB x = true ∧ Zi x.txs = true := by simpa [jZ] using hb
  have h3 := (kT r x.txs).mpr ⟨h1.2, this.2⟩
  rw [h2] at h3
  injection h3 with h3
  obtain ⟨⟨i1, i2, i3, i4⟩, _⟩ := this
  rw [i1, i2, i3, i4, h3]
  exact hb
theorem XH (a b c d : Int) (k j : Nat) (t : List TxV) : jZ ⟨a, b, c, d, k, t⟩ = jZ ⟨a, b, c, d, j, t⟩ := rfl
def afr (l : List UInt8) (b : vF) (e : Int) : Prop := b.Ok ∧ b.txs.length ≤ 3 ∧ ((e = 0 ∧ afx l = some ⟨b.slot, b.miner, b.variant, b.parent, 0, b.txs⟩ ∧ jZ b = true) ∨ (e = 71 ∧ afx l = none ∧ b = bk0))
theorem ok0 : bk0.Ok := ⟨Okl.none, by decide, by simp, by decide⟩
theorem jE.v {k : Nat} {l : List UInt8} (hk : Okl k l) (k2 : k ≠ 2) (hl : l.length ≤ 140737488355328) : ∃ b e, afr l b e ∧ ∀ S, jc Try.prog O jE.id [by_ k l] S = some (.tuple #[bv b, .int .i64 e], S) := by
 have a1 := aah zk.empty
 have g1 : (zk.empty.push (.cells (fBk bk0) (.own []) 0)).get 0 = some (.cells (fBk bk0) (.own []) 0) := by kernel_rfl
 have n1 : (zk.empty.push (.cells (fBk bk0) (.own []) 0)).next = 1 := by kernel_rfl
 rw [show zk.empty.next = 0 from rfl] at a1
 have hE1 : Ext zk.empty (zk.empty.push (.cells (fBk bk0) (.own []) 0)) := Ext.push _ _
 have cl : [by_ k l].all (jH 16) = true := all1 (yZ (k := k) hk.le)
 obtain ⟨T, hTe⟩ : ∃ T, T = (by_ k l :: undef :: undef :: undef :: undef :: undef :: undef :: undef :: undef :: undef :: undef :: undef :: undef :: undef :: undef :: undef :: undef :: undef :: undef :: undef :: undef :: undef :: undef :: undef :: undef :: undef :: undef :: undef :: undef :: undef :: undef :: undef :: undef :: undef :: undef :: undef :: undef :: undef :: undef :: undef :: undef :: undef :: undef :: undef :: undef :: undef :: []) := ⟨_, rfl⟩
 have hr : zF Try.prog O false jE.code T zk.empty = zF Try.prog O false jE.code T zk.empty := rfl
 have c1 := fun S => zG.v (many := 4) hk k2 hl S
 have r1 : ∀ k0 k1, vC k0 k1 4 l = _ := fun k0 k1 => kX (m := 4) (by decide) (by decide)
 rw [r1] at c1
 have z0 : ∀ S, yJ Try.prog 28 [] S = some (bv bk0, S) := fun S => Jy S
 generalize zk.empty.push (.cells (fBk bk0) (.own []) 0) = S1 at a1 g1 n1 hE1
 rcases aeb l with h | ⟨a, b, c, d, r, h, hlr⟩
 ·
  rw [h] at c1
  obtain ⟨S3, q1, q2, q3, q4, q5⟩ := VD bk0 g1 hE1 (Nat.zero_le _)
  refine ⟨bk0, 71, ⟨ok0, by simp, .inr ⟨rfl, KW h, rfl⟩⟩, fun S => ?_⟩
  conv at hr =>
   rhs
   rw [hTe]
   simp only [jE.code, jE.rs, zSs, reduceIte, Nat.reduceEqDiff, Int.reduceEq, Int.reduceLT, Int.reduceLE, if_neg k2, a1, c1, z0, q1]
  rw [hTe] at hr
  exact jE.runs hr (.inr rfl) (adh q2 (by decide)) rfl rfl cl rfl
 ·
  rw [h] at c1
  have i0 := fun S => xA (k := 1) (i := 0) (m := 0) (l := [a, b, c, d]) Okl.read rfl rfl S
  have i1 := fun S => xA (k := 1) (i := 1) (m := 1) (l := [a, b, c, d]) Okl.read rfl rfl S
  have i2 := fun S => xA (k := 1) (i := 2) (m := 2) (l := [a, b, c, d]) Okl.read rfl rfl S
  have i3 := fun S => xA (k := 1) (i := 3) (m := 3) (l := [a, b, c, d]) Okl.read rfl rfl S
  have few := ((yB _ _ _ _).mp h).2.2
  have fd : d ≤ 4611686018427387904 := (few d (by simp)).2
  obtain ⟨j, t, e, o1, o2, o3, o4⟩ := Qy (j := 0) (by decide) r
  have c2 := fun S => zL.v (k := 1) (l := r) Okl.read (by decide) (by omega) S
  rw [o3] at c2
  have hok : vF.Ok ⟨a, b, c, d, if j = 2 then 1 else j, t⟩ := ⟨o1.dem, Wx j, by show t.length * 16 ≤ _; omega, by show d < _; omega⟩
  obtain ⟨S2, p1, p2, p3, p4⟩ := ajk S1 ⟨a, b, c, d, if j = 2 then 1 else j, t⟩
  have g2 : S2.get 0 = some (.cells (fBk bk0) (.own []) 0) := by rw [p3.get 0 (by omega), g1]
  have bd := fun S => vI (y0 := .int .i64 a) (y1 := .int .i64 b) (y2 := .int .i64 c) (y3 := .int .i64 d) (y4 := tl (if j = 2 then 1 else j) t) yu yu yu yu ab2 S
  have c3 : ∀ S, jc Try.prog O 39 [.agg [Value.int .i64 a, .int .i64 b, .int .i64 c, .int .i64 d, tl (if j = 2 then 1 else j) t].toArray] S = some (.bool (jZ ⟨a, b, c, d, if j = 2 then 1 else j, t⟩), S) := fun S => jv.v hok S
  have lb : jf Try.prog false 28 (.pointer (some ⟨S1.next, 0, none⟩)) S2 = some (.agg [Value.int .i64 a, .int .i64 b, .int .i64 c, .int .i64 d, tl (if j = 2 then 1 else j) t].toArray, S2) := adh p2 (Wx j)
  rcases o4 with ⟨rfl, hx⟩ | ⟨rfl, hx, rfl⟩
  ·
   cases hR : jZ ⟨a, b, c, d, if j = 2 then 1 else j, t⟩
   ·
    rw [hR] at c3
    obtain ⟨S3, q1, q2, q3, q4, q5⟩ := VD bk0 g2 (Ext.trans hE1 p3) (Nat.zero_le _)
    refine ⟨bk0, 71, ⟨ok0, by simp, .inr ⟨rfl, ?_, rfl⟩⟩, fun S => ?_⟩
    ·
     rw [X8 h hx, if_neg (by rw [XH a b c d 0 (if j = 2 then 1 else j) t, hR]; decide)]
    conv at hr =>
     rhs
     rw [hTe]
     simp only [jE.code, jE.rs, zSs, reduceIte, Nat.reduceEqDiff, Int.reduceEq, Int.reduceLT, Int.reduceLE, if_neg k2, a1, c1, c2, i0, i1, i2, i3, yX, abr, bd, Kr, aah, p1, lb, c3, z0, q1]
    rw [hTe] at hr
    exact jE.runs hr (.inr rfl) (adh q2 (by decide)) rfl rfl cl rfl
   ·
    rw [hR] at c3
    obtain ⟨S3, q1, q2, q3, q4, q5⟩ := VD ⟨a, b, c, d, if j = 2 then 1 else j, t⟩ g2 (Ext.trans hE1 p3) (Nat.zero_le _)
    refine ⟨⟨a, b, c, d, if j = 2 then 1 else j, t⟩, 0, ⟨hok, o2, .inl ⟨rfl, ?_, hR⟩⟩, fun S => ?_⟩
    ·
     rw [X8 h hx, if_pos (by rw [XH a b c d 0 (if j = 2 then 1 else j) t, hR])]
    conv at hr =>
     rhs
     rw [hTe]
     simp only [jE.code, jE.rs, zSs, reduceIte, Nat.reduceEqDiff, Int.reduceEq, Int.reduceLT, Int.reduceLE, if_neg k2, a1, c1, c2, i0, i1, i2, i3, yX, abr, bd, Kr, aah, p1, lb, c3, q1]
    rw [hTe] at hr
    exact jE.runs hr (.inr rfl) (adh q2 (Wx j)) rfl rfl cl (yC (all2 (yK (b := ⟨a, b, c, d, if j = 2 then 1 else j, t⟩) hok.okl.le) rfl))
  ·
   obtain ⟨S3, q1, q2, q3, q4, q5⟩ := VD bk0 g2 (Ext.trans hE1 p3) (Nat.zero_le _)
   refine ⟨bk0, 71, ⟨ok0, by simp, .inr ⟨rfl, KA h hx, rfl⟩⟩, fun S => ?_⟩
   conv at hr =>
    rhs
    rw [hTe]
    simp only [jE.code, jE.rs, zSs, reduceIte, Nat.reduceEqDiff, Int.reduceEq, Int.reduceLT, Int.reduceLE, if_neg k2, a1, c1, c2, i0, i1, i2, i3, yX, abr, bd, Kr, aah, p1, z0, q1]
   rw [hTe] at hr
   exact jE.runs hr (.inr rfl) (adh q2 (by decide)) rfl rfl cl rfl
theorem zJ.v {k : Nat} {l : List UInt8} (hk : Okl k l) (k2 : k ≠ 2) (hl : l.length ≤ 140737488355328) : ∃ b e, afr l b e ∧ ∀ S, jc Try.prog O zJ.id [by_ k l] S = some (.tuple #[bv b, .int .i64 e], S) := by
 have a1 := aah zk.empty
 have g1 : (zk.empty.push (.cells (fBk bk0) (.own []) 0)).get 0 = some (.cells (fBk bk0) (.own []) 0) := by kernel_rfl
 have n1 : (zk.empty.push (.cells (fBk bk0) (.own []) 0)).next = 1 := by kernel_rfl
 rw [show zk.empty.next = 0 from rfl] at a1
 have hE1 : Ext zk.empty (zk.empty.push (.cells (fBk bk0) (.own []) 0)) := Ext.push _ _
 have cl : [by_ k l].all (jH 16) = true := all1 (yZ (k := k) hk.le)
 obtain ⟨T, hTe⟩ : ∃ T, T = (by_ k l :: undef :: undef :: undef :: undef :: undef :: undef :: undef :: undef :: undef :: undef :: undef :: undef :: undef :: undef :: undef :: undef :: undef :: undef :: undef :: undef :: undef :: undef :: undef :: undef :: undef :: undef :: undef :: undef :: undef :: undef :: undef :: undef :: undef :: undef :: undef :: undef :: undef :: undef :: undef :: undef :: undef :: undef :: undef :: undef :: undef :: undef :: []) := ⟨_, rfl⟩
 have hr : zF Try.prog O false zJ.code T zk.empty = zF Try.prog O false zJ.code T zk.empty := rfl
 have c1 := fun S => zq.v (many := 4) hk k2 hl S
 have r1 : ∀ k0 k1, vC k0 k1 4 l = _ := fun k0 k1 => kX (m := 4) (by decide) (by decide)
 rw [r1] at c1
 have z0 : ∀ S, yJ Try.prog 28 [] S = some (bv bk0, S) := fun S => Jy S
 generalize zk.empty.push (.cells (fBk bk0) (.own []) 0) = S1 at a1 g1 n1 hE1
 rcases aeb l with h | ⟨a, b, c, d, r, h, hlr⟩
 ·
  rw [h] at c1
  obtain ⟨S3, q1, q2, q3, q4, q5⟩ := VD bk0 g1 hE1 (Nat.zero_le _)
  refine ⟨bk0, 71, ⟨ok0, by simp, .inr ⟨rfl, KW h, rfl⟩⟩, fun S => ?_⟩
  conv at hr =>
   rhs
   rw [hTe]
   simp only [zJ.code, zJ.rs, zSs, reduceIte, Nat.reduceEqDiff, Int.reduceEq, Int.reduceLT, Int.reduceLE, if_neg k2, a1, c1, z0, q1]
  rw [hTe] at hr
  exact zJ.runs hr (.inr rfl) (adh q2 (by decide)) rfl rfl cl rfl
 ·
  rw [h] at c1
  have i0 := fun S => xA (k := 1) (i := 0) (m := 0) (l := [a, b, c, d]) Okl.read rfl rfl S
  have i1 := fun S => xA (k := 1) (i := 1) (m := 1) (l := [a, b, c, d]) Okl.read rfl rfl S
  have i2 := fun S => xA (k := 1) (i := 2) (m := 2) (l := [a, b, c, d]) Okl.read rfl rfl S
  have i3 := fun S => xA (k := 1) (i := 3) (m := 3) (l := [a, b, c, d]) Okl.read rfl rfl S
  have few := ((yB _ _ _ _).mp h).2.2
  have fd : d ≤ 4611686018427387904 := (few d (by simp)).2
  obtain ⟨j, t, e, o1, o2, o3, o4⟩ := Qy (j := 2) (by decide) r
  have c2 := fun S => zi.v (k := 1) (l := r) Okl.read (by decide) (by omega) S
  rw [o3] at c2
  have hok : vF.Ok ⟨a, b, c, d, if j = 2 then 1 else j, t⟩ := ⟨o1.dem, Wx j, by show t.length * 16 ≤ _; omega, by show d < _; omega⟩
  obtain ⟨S2, p1, p2, p3, p4⟩ := ajk S1 ⟨a, b, c, d, if j = 2 then 1 else j, t⟩
  have g2 : S2.get 0 = some (.cells (fBk bk0) (.own []) 0) := by rw [p3.get 0 (by omega), g1]
  have bd := fun S => vI (y0 := .int .i64 a) (y1 := .int .i64 b) (y2 := .int .i64 c) (y3 := .int .i64 d) (y4 := tl (if j = 2 then 1 else j) t) yu yu yu yu ab2 S
  have c3 : ∀ S, jc Try.prog O 47 [.agg [Value.int .i64 a, .int .i64 b, .int .i64 c, .int .i64 d, tl (if j = 2 then 1 else j) t].toArray] S = some (.bool (jZ ⟨a, b, c, d, if j = 2 then 1 else j, t⟩), S) := fun S => zA.v hok S
  have lb : jf Try.prog false 28 (.pointer (some ⟨S1.next, 0, none⟩)) S2 = some (.agg [Value.int .i64 a, .int .i64 b, .int .i64 c, .int .i64 d, tl (if j = 2 then 1 else j) t].toArray, S2) := adh p2 (Wx j)
  rcases o4 with ⟨rfl, hx⟩ | ⟨rfl, hx, rfl⟩
  ·
   cases hR : jZ ⟨a, b, c, d, if j = 2 then 1 else j, t⟩
   ·
    rw [hR] at c3
    obtain ⟨S3, q1, q2, q3, q4, q5⟩ := VD bk0 g2 (Ext.trans hE1 p3) (Nat.zero_le _)
    refine ⟨bk0, 71, ⟨ok0, by simp, .inr ⟨rfl, ?_, rfl⟩⟩, fun S => ?_⟩
    ·
     rw [X8 h hx, if_neg (by rw [XH a b c d 0 (if j = 2 then 1 else j) t, hR]; decide)]
    conv at hr =>
     rhs
     rw [hTe]
     simp only [zJ.code, zJ.rs, zSs, reduceIte, Nat.reduceEqDiff, Int.reduceEq, Int.reduceLT, Int.reduceLE, if_neg k2, a1, c1, c2, i0, i1, i2, i3, yX, abr, bd, Kr, aah, p1, lb, c3, z0, q1]
    rw [hTe] at hr
    exact zJ.runs hr (.inr rfl) (adh q2 (by decide)) rfl rfl cl rfl
   ·
    rw [hR] at c3
    obtain ⟨S3, q1, q2, q3, q4, q5⟩ := VD ⟨a, b, c, d, if j = 2 then 1 else j, t⟩ g2 (Ext.trans hE1 p3) (Nat.zero_le _)
    refine ⟨⟨a, b, c, d, if j = 2 then 1 else j, t⟩, 0, ⟨hok, o2, .inl ⟨rfl, ?_, hR⟩⟩, fun S => ?_⟩
    ·
     rw [X8 h hx, if_pos (by rw [XH a b c d 0 (if j = 2 then 1 else j) t, hR])]
    conv at hr =>
     rhs
     rw [hTe]
     simp only [zJ.code, zJ.rs, zSs, reduceIte, Nat.reduceEqDiff, Int.reduceEq, Int.reduceLT, Int.reduceLE, if_neg k2, a1, c1, c2, i0, i1, i2, i3, yX, abr, bd, Kr, aah, p1, lb, c3, q1]
    rw [hTe] at hr
    exact zJ.runs hr (.inr rfl) (adh q2 (Wx j)) rfl rfl cl (yC (all2 (yK (b := ⟨a, b, c, d, if j = 2 then 1 else j, t⟩) hok.okl.le) rfl))
  ·
   obtain ⟨S3, q1, q2, q3, q4, q5⟩ := VD bk0 g2 (Ext.trans hE1 p3) (Nat.zero_le _)
   refine ⟨bk0, 71, ⟨ok0, by simp, .inr ⟨rfl, KA h hx, rfl⟩⟩, fun S => ?_⟩
   conv at hr =>
    rhs
    rw [hTe]
    simp only [zJ.code, zJ.rs, zSs, reduceIte, Nat.reduceEqDiff, Int.reduceEq, Int.reduceLT, Int.reduceLE, if_neg k2, a1, c1, c2, i0, i1, i2, i3, yX, abr, bd, Kr, aah, p1, z0, q1]
   rw [hTe] at hr
   exact zJ.runs hr (.inr rfl) (adh q2 (by decide)) rfl rfl cl rfl
end Go.Proofs.Ytbgcphbbchndkaa
namespace Go.Proofs.Ytbgcphbbchndkaa
open Go.Abs
structure wP where
 kind : Int
 frm : Int
 index : Int
 view : Int
 value : Int
 prep : Int
 tx : TxV
 b : vF
def fM (m : wP) : List Value := [.int .i64 m.kind, .int .i64 m.frm, .int .i64 m.index, .int .i64 m.view, .int .i64 m.value, .int .i64 m.prep, .int .i64 m.tx.id, .int .i64 m.tx.fee, .int .i64 m.b.slot, .int .i64 m.b.miner, .int .i64 m.b.variant, .int .i64 m.b.parent, tl m.b.k m.b.txs]
abbrev mv (m : wP) : Value := .agg [Value.int .i64 m.kind, .int .i64 m.frm, .int .i64 m.index, .int .i64 m.view, .int .i64 m.value, .int .i64 m.prep, .int .i64 m.tx.id, .int .i64 m.tx.fee, .int .i64 m.b.slot, .int .i64 m.b.miner, .int .i64 m.b.variant, .int .i64 m.b.parent, tl m.b.k m.b.txs].toArray
def Big (n : Int) : Prop := -9223372036854775808 ≤ n ∧ n < 9223372036854775808
structure wP.Ok (m : wP) : Prop where
 b : m.b.Ok
 tx : m.tx.Ok
 kind : Big m.kind
 frm : Big m.frm
 index : Big m.index
 view : Big m.view
 value : Big m.value
 prep : Big m.prep
abbrev m0 : wP := ⟨0, 0, 0, 0, 0, 0, ⟨0, 0⟩, bk0⟩
theorem mk_eq {x y : wP} (h1 : x.kind = y.kind) (h2 : x.frm = y.frm) (h3 : x.index = y.index) (h4 : x.view = y.view) (h5 : x.value = y.value) (h6 : x.prep = y.prep) (h7 : x.tx = y.tx) (h8 : x.b = y.b) : x = y := by
 cases x; cases y; simp_all
theorem wX {m : wP} {d : Nat} (h : m.b.k ≤ 2) : jH (d + 6) (mv m) = true := by
 have h1 : jH (d + 5) (tl m.b.k m.b.txs) = true := ZH (d := d + 1) h fun _ _ => rfl
 refine VY ?_
 simp only [List.all_cons, List.all_nil, h1, Bool.and_true]
 rfl
theorem ai9 (m : wP) : (fM m).all (·.oneCell') = true := by
 simp only [fM, List.all_cons, List.all_nil, adx, ahu, Bool.and_true]
section
variable {S : zk} {q e : Nat} {m : wP} {own : Own}
theorem wz (h : S.get q = some (.cells (fM m) own e)) : jf Try.prog false 3 (.pointer (some ⟨q, 0 + 0, none⟩)) S = some (.int .i64 m.kind, S) := qC (t := 3) (o := 0 + 0) h ZL rfl
theorem wQ (h : S.get q = some (.cells (fM m) own e)) : jf Try.prog false 3 (.pointer (some ⟨q, 0 + 1, none⟩)) S = some (.int .i64 m.frm, S) := qC (t := 3) (o := 0 + 1) h ZL rfl
theorem wU (h : S.get q = some (.cells (fM m) own e)) : jf Try.prog false 3 (.pointer (some ⟨q, 0 + 2, none⟩)) S = some (.int .i64 m.index, S) := qC (t := 3) (o := 0 + 2) h ZL rfl
theorem yc (h : S.get q = some (.cells (fM m) own e)) : jf Try.prog false 3 (.pointer (some ⟨q, 0 + 3, none⟩)) S = some (.int .i64 m.view, S) := qC (t := 3) (o := 0 + 3) h ZL rfl
theorem wL (h : S.get q = some (.cells (fM m) own e)) : jf Try.prog false 3 (.pointer (some ⟨q, 0 + 4, none⟩)) S = some (.int .i64 m.value, S) := qC (t := 3) (o := 0 + 4) h ZL rfl
theorem yA (h : S.get q = some (.cells (fM m) own e)) : jf Try.prog false 3 (.pointer (some ⟨q, 0 + 5, none⟩)) S = some (.int .i64 m.prep, S) := qC (t := 3) (o := 0 + 5) h ZL rfl
theorem yG (h : S.get q = some (.cells (fM m) own e)) : jf Try.prog false 25 (.pointer (some ⟨q, 0 + 6, none⟩)) S = some (tv m.tx, S) := (Ye (o := 0 + 6) h Xv Zf (by simp [fM])).trans (by simp [fM, vg])
theorem yL (h : S.get q = some (.cells (fM m) own e)) (hk : m.b.k ≠ 2) : jf Try.prog false 28 (.pointer (some ⟨q, 0 + 8, none⟩)) S = some (bv m.b, S) := by
 rw [Ye (o := 0 + 8) h Y5 Zq (by simp [fM])]
 simp [fM, vg, aar, hk]
theorem kD (h : S.get q = some (.cells (fM m) own e)) (hk : m.b.k ≠ 2) : jf Try.prog false 30 (.pointer (some ⟨q, 0, none⟩)) S = some (mv m, S) := by
 rw [acR h]
 simp only [vg, aar, if_neg hk]
end
abbrev WJ (m : wP) : zk := zk.empty.push (.cells (fM m) (.own []) 0)
theorem kY (m : wP) : J5 (mv m) zk.empty = some (.pointer (some ⟨0, 0, none⟩), WJ m) := rfl
theorem kN (m : wP) : (WJ m).get 0 = some (.cells (fM m) (.own []) 0) := rfl
abbrev Yr (a b : wP) : zk := (WJ a).push (.cells (fM b) (.own []) 0)
theorem JZ (a b : wP) : J5 (mv b) (WJ a) = some (.pointer (some ⟨1, 0, none⟩), Yr a b) := by kernel_rfl
theorem XT (a b : wP) : (Yr a b).get 0 = some (.cells (fM a) (.own []) 0) := by kernel_rfl
theorem Vb (a b : wP) : (Yr a b).get 1 = some (.cells (fM b) (.own []) 0) := by kernel_rfl
theorem KJ (S : zk) : yF Try.prog 30 S = some (.pointer (some ⟨S.next, 0, none⟩), S.push (.cells (fM m0) (.own []) 0)) := by kernel_rfl
def kE (a b : wP) : Bool := decide (a.kind = b.kind) && (decide (a.frm = b.frm) && (decide (a.index = b.index) && (decide (a.view = b.view) && (decide (a.value = b.value) && (decide (a.prep = b.prep) && (decide (a.tx = b.tx) && ZB a.b b.b))))))
theorem wI.v {a b : wP} (ha : a.Ok) (hb : b.Ok) (S : zk) : jc Try.prog O wI.id [mv a, mv b] S = some (.bool (kE a b), S) := by
 obtain ⟨T, hTe⟩ : ∃ T, T = (mv a :: mv b :: undef :: undef :: undef :: undef :: undef :: undef :: undef :: undef :: undef :: undef :: undef :: undef :: undef :: undef :: undef :: undef :: undef :: undef :: undef :: undef :: undef :: undef :: undef :: undef :: undef :: undef :: undef :: undef :: undef :: undef :: undef :: undef :: undef :: undef :: undef :: undef :: undef :: undef :: undef :: undef :: undef :: undef :: undef :: undef :: undef :: undef :: undef :: undef :: undef :: undef :: undef :: undef :: undef :: undef :: undef :: undef :: undef :: undef :: undef :: []) := ⟨_, rfl⟩
 have hr : zF Try.prog O false wI.code T zk.empty = zF Try.prog O false wI.code T zk.empty := rfl
 have g0 := XT a b
 have g1 := Vb a b
 have c1 := fun S => wG.v ha.b hb.b S
 have e1 := fun S => (adl a.tx b.tx S).1
 have hc : [mv a, mv b].all (jH 16) = true := all2 (wX ha.b.okl.le) (wX hb.b.okl.le)
 unfold kE
 by_cases h1 : a.kind = b.kind
 ·
  by_cases h2 : a.frm = b.frm
  ·
   by_cases h3 : a.index = b.index
   ·
    by_cases h4 : a.view = b.view
    ·
     by_cases h5 : a.value = b.value
     ·
      by_cases h6 : a.prep = b.prep
      ·
       by_cases h7 : a.tx = b.tx
       ·
        rw [decide_eq_true h1, decide_eq_true h2, decide_eq_true h3, decide_eq_true h4, decide_eq_true h5, decide_eq_true h6, decide_eq_true h7]
        simp only [Bool.true_and]
        conv at hr =>
         rhs
         rw [hTe]
         simp only [wI.code, wI.rs, zSs, reduceIte, Nat.reduceEqDiff, Int.reduceEq, Int.reduceLT, Int.reduceLE, kY, JZ, zD, zN, zT, zV, zK, zZ, zX, zY, wz g0, wz g1, wQ g0, wQ g1, wU g0, wU g1, yc g0, yc g1, wL g0, wL g1, yA g0, yA g1, yG g0, yG g1, yL g0 ha.b.ne, yL g1 hb.b.ne, decide_eq_true h1, decide_eq_true h2, decide_eq_true h3, decide_eq_true h4, decide_eq_true h5, decide_eq_true h6, decide_eq_true h7, e1, c1]
        rw [hTe] at hr
        exact wI.runs hr (.inr rfl) hc rfl
       ·
        rw [decide_eq_false h7]
        simp only [Bool.false_and, Bool.and_false]
        conv at hr =>
         rhs
         rw [hTe]
         simp only [wI.code, wI.rs, zSs, reduceIte, Nat.reduceEqDiff, Int.reduceEq, Int.reduceLT, Int.reduceLE, kY, JZ, zD, zN, zT, zV, zK, zZ, zX, wz g0, wz g1, wQ g0, wQ g1, wU g0, wU g1, yc g0, yc g1, wL g0, wL g1, yA g0, yA g1, yG g0, yG g1, decide_eq_true h1, decide_eq_true h2, decide_eq_true h3, decide_eq_true h4, decide_eq_true h5, decide_eq_true h6, decide_eq_false h7, e1]
        rw [hTe] at hr
        exact wI.runs hr (.inr rfl) hc rfl
      ·
       rw [decide_eq_false h6]
       simp only [Bool.false_and, Bool.and_false]
       conv at hr =>
        rhs
        rw [hTe]
        simp only [wI.code, wI.rs, zSs, reduceIte, Nat.reduceEqDiff, Int.reduceEq, Int.reduceLT, Int.reduceLE, kY, JZ, zD, zN, zT, zV, zK, zZ, wz g0, wz g1, wQ g0, wQ g1, wU g0, wU g1, yc g0, yc g1, wL g0, wL g1, yA g0, yA g1, decide_eq_true h1, decide_eq_true h2, decide_eq_true h3, decide_eq_true h4, decide_eq_true h5, decide_eq_false h6]
       rw [hTe] at hr
       exact wI.runs hr (.inr rfl) hc rfl
     ·
      rw [decide_eq_false h5]
      simp only [Bool.false_and, Bool.and_false]
      conv at hr =>
       rhs
       rw [hTe]
       simp only [wI.code, wI.rs, zSs, reduceIte, Nat.reduceEqDiff, Int.reduceEq, Int.reduceLT, Int.reduceLE, kY, JZ, zD, zN, zT, zV, zK, wz g0, wz g1, wQ g0, wQ g1, wU g0, wU g1, yc g0, yc g1, wL g0, wL g1, decide_eq_true h1, decide_eq_true h2, decide_eq_true h3, decide_eq_true h4, decide_eq_false h5]
      rw [hTe] at hr
      exact wI.runs hr (.inr rfl) hc rfl
    ·
     rw [decide_eq_false h4]
     simp only [Bool.false_and, Bool.and_false]
     conv at hr =>
      rhs
      rw [hTe]
      simp only [wI.code, wI.rs, zSs, reduceIte, Nat.reduceEqDiff, Int.reduceEq, Int.reduceLT, Int.reduceLE, kY, JZ, zD, zN, zT, zV, wz g0, wz g1, wQ g0, wQ g1, wU g0, wU g1, yc g0, yc g1, decide_eq_true h1, decide_eq_true h2, decide_eq_true h3, decide_eq_false h4]
     rw [hTe] at hr
     exact wI.runs hr (.inr rfl) hc rfl
   ·
    rw [decide_eq_false h3]
    simp only [Bool.false_and, Bool.and_false]
    conv at hr =>
     rhs
     rw [hTe]
     simp only [wI.code, wI.rs, zSs, reduceIte, Nat.reduceEqDiff, Int.reduceEq, Int.reduceLT, Int.reduceLE, kY, JZ, zD, zN, zT, wz g0, wz g1, wQ g0, wQ g1, wU g0, wU g1, decide_eq_true h1, decide_eq_true h2, decide_eq_false h3]
    rw [hTe] at hr
    exact wI.runs hr (.inr rfl) hc rfl
  ·
   rw [decide_eq_false h2]
   simp only [Bool.false_and, Bool.and_false]
   conv at hr =>
    rhs
    rw [hTe]
    simp only [wI.code, wI.rs, zSs, reduceIte, Nat.reduceEqDiff, Int.reduceEq, Int.reduceLT, Int.reduceLE, kY, JZ, zD, zN, wz g0, wz g1, wQ g0, wQ g1, decide_eq_true h1, decide_eq_false h2]
   rw [hTe] at hr
   exact wI.runs hr (.inr rfl) hc rfl
 ·
  rw [decide_eq_false h1]
  simp only [Bool.false_and]
  conv at hr =>
   rhs
   rw [hTe]
   simp only [wI.code, wI.rs, zSs, reduceIte, Nat.reduceEqDiff, Int.reduceEq, Int.reduceLT, Int.reduceLE, kY, JZ, zD, wz g0, wz g1, decide_eq_false h1]
  rw [hTe] at hr
  exact wI.runs hr (.inr rfl) hc rfl
theorem zW.v {a b : wP} (ha : a.Ok) (hb : b.Ok) (S : zk) : jc Try.prog O zW.id [mv a, mv b] S = some (.bool (kE a b), S) := by
 obtain ⟨T, hTe⟩ : ∃ T, T = (mv a :: mv b :: undef :: undef :: undef :: undef :: undef :: undef :: undef :: undef :: undef :: undef :: undef :: undef :: undef :: undef :: undef :: undef :: undef :: undef :: undef :: undef :: undef :: undef :: undef :: undef :: undef :: undef :: undef :: undef :: undef :: undef :: undef :: undef :: undef :: undef :: undef :: undef :: undef :: undef :: undef :: undef :: undef :: undef :: undef :: undef :: undef :: undef :: undef :: undef :: undef :: undef :: undef :: undef :: undef :: undef :: undef :: []) := ⟨_, rfl⟩
 have hr : zF Try.prog O false zW.code T zk.empty = zF Try.prog O false zW.code T zk.empty := rfl
 have g0 := XT a b
 have g1 := Vb a b
 have c1 := fun S => jm.v ha.b hb.b S
 have e1 := fun S => (adl a.tx b.tx S).1
 have hc : [mv a, mv b].all (jH 16) = true := all2 (wX ha.b.okl.le) (wX hb.b.okl.le)
 by_cases h1 : a.kind = b.kind
 rotate_left
 ·
  rw [show kE a b = false from by simp [kE, h1]]
  conv at hr =>
   rhs
   rw [hTe]
   simp only [zW.code, zW.rs, zSs, reduceIte, Nat.reduceEqDiff, Int.reduceEq, Int.reduceLT, Int.reduceLE, kY, JZ, zD, wz g0, wz g1, decide_eq_false h1]
  rw [hTe] at hr
  exact zW.runs hr (.inr rfl) hc rfl
 by_cases h2 : a.frm = b.frm
 rotate_left
 ·
  rw [show kE a b = false from by simp [kE, h1, h2]]
  conv at hr =>
   rhs
   rw [hTe]
   simp only [zW.code, zW.rs, zSs, reduceIte, Nat.reduceEqDiff, Int.reduceEq, Int.reduceLT, Int.reduceLE, kY, JZ, zD, wz g0, wz g1, decide_eq_true h1, zN, wQ g0, wQ g1, decide_eq_false h2]
  rw [hTe] at hr
  exact zW.runs hr (.inr rfl) hc rfl
 by_cases h3 : a.index = b.index
 rotate_left
 ·
  rw [show kE a b = false from by simp [kE, h1, h2, h3]]
  conv at hr =>
   rhs
   rw [hTe]
   simp only [zW.code, zW.rs, zSs, reduceIte, Nat.reduceEqDiff, Int.reduceEq, Int.reduceLT, Int.reduceLE, kY, JZ, zD, wz g0, wz g1, decide_eq_true h1, zN, wQ g0, wQ g1, decide_eq_true h2, zT, wU g0, wU g1, decide_eq_false h3]
  rw [hTe] at hr
  exact zW.runs hr (.inr rfl) hc rfl
 by_cases h4 : a.view = b.view
 rotate_left
 ·
  rw [show kE a b = false from by simp [kE, h1, h2, h3, h4]]
  conv at hr =>
   rhs
   rw [hTe]
   simp only [zW.code, zW.rs, zSs, reduceIte, Nat.reduceEqDiff, Int.reduceEq, Int.reduceLT, Int.reduceLE, kY, JZ, zD, wz g0, wz g1, decide_eq_true h1, zN, wQ g0, wQ g1, decide_eq_true h2, zT, wU g0, wU g1, decide_eq_true h3, zV, yc g0, yc g1, decide_eq_false h4]
  rw [hTe] at hr
  exact zW.runs hr (.inr rfl) hc rfl
 by_cases h5 : a.value = b.value
 rotate_left
 ·
  rw [show kE a b = false from by simp [kE, h1, h2, h3, h4, h5]]
  conv at hr =>
   rhs
   rw [hTe]
   simp only [zW.code, zW.rs, zSs, reduceIte, Nat.reduceEqDiff, Int.reduceEq, Int.reduceLT, Int.reduceLE, kY, JZ, zD, wz g0, wz g1, decide_eq_true h1, zN, wQ g0, wQ g1, decide_eq_true h2, zT, wU g0, wU g1, decide_eq_true h3, zV, yc g0, yc g1, decide_eq_true h4, zK, wL g0, wL g1, decide_eq_false h5]
  rw [hTe] at hr
  exact zW.runs hr (.inr rfl) hc rfl
 by_cases h6 : a.prep = b.prep
 rotate_left
 ·
  rw [show kE a b = false from by simp [kE, h1, h2, h3, h4, h5, h6]]
  conv at hr =>
   rhs
   rw [hTe]
   simp only [zW.code, zW.rs, zSs, reduceIte, Nat.reduceEqDiff, Int.reduceEq, Int.reduceLT, Int.reduceLE, kY, JZ, zD, wz g0, wz g1, decide_eq_true h1, zN, wQ g0, wQ g1, decide_eq_true h2, zT, wU g0, wU g1, decide_eq_true h3, zV, yc g0, yc g1, decide_eq_true h4, zK, wL g0, wL g1, decide_eq_true h5, zZ, yA g0, yA g1, decide_eq_false h6]
  rw [hTe] at hr
  exact zW.runs hr (.inr rfl) hc rfl
 by_cases h7 : a.tx = b.tx
 rotate_left
 ·
  rw [show kE a b = false from by simp [kE, h7]]
  conv at hr =>
   rhs
   rw [hTe]
   simp only [zW.code, zW.rs, zSs, reduceIte, Nat.reduceEqDiff, Int.reduceEq, Int.reduceLT, Int.reduceLE, kY, JZ, zD, wz g0, wz g1, decide_eq_true h1, zN, wQ g0, wQ g1, decide_eq_true h2, zT, wU g0, wU g1, decide_eq_true h3, zV, yc g0, yc g1, decide_eq_true h4, zK, wL g0, wL g1, decide_eq_true h5, zZ, yA g0, yA g1, decide_eq_true h6, zX, zY, yG g0, yG g1, e1, decide_eq_false h7]
  rw [hTe] at hr
  exact zW.runs hr (.inr rfl) hc rfl
 rw [show kE a b = ZB a.b b.b from by simp [kE, h1, h2, h3, h4, h5, h6, h7]]
 conv at hr =>
  rhs
  rw [hTe]
  simp only [zW.code, zW.rs, zSs, reduceIte, Nat.reduceEqDiff, Int.reduceEq, Int.reduceLT, Int.reduceLE, kY, JZ, zD, wz g0, wz g1, decide_eq_true h1, zN, wQ g0, wQ g1, decide_eq_true h2, zT, wU g0, wU g1, decide_eq_true h3, zV, yc g0, yc g1, decide_eq_true h4, zK, wL g0, wL g1, decide_eq_true h5, zZ, yA g0, yA g1, decide_eq_true h6, zX, zY, yG g0, yG g1, yL g0 ha.b.ne, yL g1 hb.b.ne, e1, decide_eq_true h7, c1]
 rw [hTe] at hr
 exact zW.runs hr (.inr rfl) hc rfl
end Go.Proofs.Ytbgcphbbchndkaa
namespace Go.Proofs.Ytbgcphbbchndkaa
open Go.Abs
def WX (m : wP) : Bool := decide (m.kind = 4) || decide (m.kind = 5)
def qG (m : wP) : Bool := decide (m.value = 0) || decide (0 < Yl m.value) || (WX m && decide (m.value = -1))
theorem jV.v {m : wP} (hm : m.Ok) (S : zk) : jc Try.prog O jV.id [mv m] S = some (.bool (qG m), S) := by
 obtain ⟨T, hTe⟩ : ∃ T, T = (mv m :: undef :: undef :: undef :: undef :: undef :: undef :: undef :: undef :: undef :: undef :: undef :: undef :: undef :: undef :: undef :: undef :: undef :: undef :: undef :: undef :: undef :: undef :: undef :: undef :: undef :: undef :: undef :: undef :: []) := ⟨_, rfl⟩
 have hr : zF Try.prog O false jV.code T zk.empty = zF Try.prog O false jV.code T zk.empty := rfl
 have g0 := kN m
 have c1 := fun S => wM.v m.value S
 have hc : [mv m].all (jH 16) = true := all1 (wX hm.b.okl.le)
 by_cases k4 : m.kind = 4
 ·
  have hvote : WX m = true := by simp [WX, k4]
  by_cases v0 : m.value = 0
  ·
   rw [show qG m = true from by simp [qG, v0]]
   conv at hr =>
    rhs
    rw [hTe]
    simp only [jV.code, jV.rs, zSs, reduceIte, Nat.reduceEqDiff, Int.reduceEq, Int.reduceLT, Int.reduceLE, kY, zD, zK, wz g0, wL g0, decide_eq_true k4, decide_eq_true v0]
   rw [hTe] at hr
   exact jV.runs hr (.inr rfl) hc rfl
  by_cases v1 : 0 < Yl m.value
  ·
   rw [show qG m = true from by simp [qG, v1]]
   conv at hr =>
    rhs
    rw [hTe]
    simp only [jV.code, jV.rs, zSs, reduceIte, Nat.reduceEqDiff, Int.reduceEq, Int.reduceLT, Int.reduceLE, kY, zD, zK, wz g0, wL g0, decide_eq_true k4, decide_eq_false v0, c1, decide_eq_true v1]
   rw [hTe] at hr
   exact jV.runs hr (.inr rfl) hc rfl
  by_cases v2 : m.value = -1
  ·
   rw [show qG m = true from by simp [qG, v2, hvote]]
   conv at hr =>
    rhs
    rw [hTe]
    simp only [jV.code, jV.rs, zSs, reduceIte, Nat.reduceEqDiff, Int.reduceEq, Int.reduceLT, Int.reduceLE, kY, zD, zK, wz g0, wL g0, decide_eq_true k4, decide_eq_false v0, c1, decide_eq_false v1, decide_eq_true v2]
   rw [hTe] at hr
   exact jV.runs hr (.inr rfl) hc rfl
  rw [show qG m = false from by simp [qG, v0, v1, v2]]
  conv at hr =>
   rhs
   rw [hTe]
   simp only [jV.code, jV.rs, zSs, reduceIte, Nat.reduceEqDiff, Int.reduceEq, Int.reduceLT, Int.reduceLE, kY, zD, zK, wz g0, wL g0, decide_eq_true k4, decide_eq_false v0, c1, decide_eq_false v1, decide_eq_false v2]
  rw [hTe] at hr
  exact jV.runs hr (.inr rfl) hc rfl
 by_cases k5 : m.kind = 5
 ·
  have hvote : WX m = true := by simp [WX, k5]
  by_cases v0 : m.value = 0
  ·
   rw [show qG m = true from by simp [qG, v0]]
   conv at hr =>
    rhs
    rw [hTe]
    simp only [jV.code, jV.rs, zSs, reduceIte, Nat.reduceEqDiff, Int.reduceEq, Int.reduceLT, Int.reduceLE, kY, zD, zK, wz g0, wL g0, decide_eq_false k4, decide_eq_true k5, decide_eq_true v0]
   rw [hTe] at hr
   exact jV.runs hr (.inr rfl) hc rfl
  by_cases v1 : 0 < Yl m.value
  ·
   rw [show qG m = true from by simp [qG, v1]]
   conv at hr =>
    rhs
    rw [hTe]
    simp only [jV.code, jV.rs, zSs, reduceIte, Nat.reduceEqDiff, Int.reduceEq, Int.reduceLT, Int.reduceLE, kY, zD, zK, wz g0, wL g0, decide_eq_false k4, decide_eq_true k5, decide_eq_false v0, c1, decide_eq_true v1]
   rw [hTe] at hr
   exact jV.runs hr (.inr rfl) hc rfl
  by_cases v2 : m.value = -1
  ·
   rw [show qG m = true from by simp [qG, v2, hvote]]
   conv at hr =>
    rhs
    rw [hTe]
    simp only [jV.code, jV.rs, zSs, reduceIte, Nat.reduceEqDiff, Int.reduceEq, Int.reduceLT, Int.reduceLE, kY, zD, zK, wz g0, wL g0, decide_eq_false k4, decide_eq_true k5, decide_eq_false v0, c1, decide_eq_false v1, decide_eq_true v2]
   rw [hTe] at hr
   exact jV.runs hr (.inr rfl) hc rfl
  rw [show qG m = false from by simp [qG, v0, v1, v2]]
  conv at hr =>
   rhs
   rw [hTe]
   simp only [jV.code, jV.rs, zSs, reduceIte, Nat.reduceEqDiff, Int.reduceEq, Int.reduceLT, Int.reduceLE, kY, zD, zK, wz g0, wL g0, decide_eq_false k4, decide_eq_true k5, decide_eq_false v0, c1, decide_eq_false v1, decide_eq_false v2]
  rw [hTe] at hr
  exact jV.runs hr (.inr rfl) hc rfl
 have hvote : WX m = false := by simp [WX, k4, k5]
 by_cases v0 : m.value = 0
 ·
  rw [show qG m = true from by simp [qG, v0]]
  conv at hr =>
   rhs
   rw [hTe]
   simp only [jV.code, jV.rs, zSs, reduceIte, Nat.reduceEqDiff, Int.reduceEq, Int.reduceLT, Int.reduceLE, kY, zD, zK, wz g0, wL g0, decide_eq_false k4, decide_eq_false k5, decide_eq_true v0]
  rw [hTe] at hr
  exact jV.runs hr (.inr rfl) hc rfl
 by_cases v1 : 0 < Yl m.value
 ·
  rw [show qG m = true from by simp [qG, v1]]
  conv at hr =>
   rhs
   rw [hTe]
   simp only [jV.code, jV.rs, zSs, reduceIte, Nat.reduceEqDiff, Int.reduceEq, Int.reduceLT, Int.reduceLE, kY, zD, zK, wz g0, wL g0, decide_eq_false k4, decide_eq_false k5, decide_eq_false v0, c1, decide_eq_true v1]
  rw [hTe] at hr
  exact jV.runs hr (.inr rfl) hc rfl
 rw [show qG m = false from by simp [qG, v0, v1, hvote]]
 conv at hr =>
  rhs
  rw [hTe]
  simp only [jV.code, jV.rs, zSs, reduceIte, Nat.reduceEqDiff, Int.reduceEq, Int.reduceLT, Int.reduceLE, kY, zD, zK, wz g0, wL g0, decide_eq_false k4, decide_eq_false k5, decide_eq_false v0, c1, decide_eq_false v1]
 rw [hTe] at hr
 exact jV.runs hr (.inr rfl) hc rfl
def yI (m : wP) : wP :=
 if m.kind = 0 then ⟨m.kind, m.frm, 0, 0, 0, 0, m.tx, bk0⟩
 else if m.kind = 1 then ⟨m.kind, m.frm, 0, 0, 0, 0, ⟨0, 0⟩, m.b⟩
 else if m.kind = 2 then ⟨m.kind, m.frm, 0, 0, m.value, 0, ⟨0, 0⟩, bk0⟩
 else if m.kind = 3 then ⟨m.kind, m.frm, m.index, m.view, m.value, m.prep, ⟨0, 0⟩, bk0⟩
 else if m.kind = 4 then ⟨m.kind, m.frm, m.index, m.view, m.value, 0, ⟨0, 0⟩, bk0⟩
 else if m.kind = 5 then ⟨m.kind, m.frm, m.index, m.view, m.value, 0, ⟨0, 0⟩, bk0⟩
 else ⟨m.kind, m.frm, m.index, 0, m.value, 0, ⟨0, 0⟩, bk0⟩
abbrev qF (S : zk) (q : Nat) (x : wP) : zk := (S.kills []).set q (.cells (fM x) (.own []) 0)
theorem wC (S : zk) (q : Nat) (x : wP) : (qF S q x).get q = some (.cells (fM x) (.own []) 0) := by rw [zk.yU, if_pos rfl]
theorem wW {S : zk} {q k : Nat} {x : wP} (h : k ≠ q) : (qF S q x).get k = S.get k := by rw [zk.yU, if_neg h]; rfl
theorem JI {S : zk} {q k o : Nat} {x y : wP} (h : S.get k = some (.cells (fM y) (.own []) 0)) (hk : k ≠ q) : qB (.pointer (some ⟨k, o, none⟩)) S (qF S q x) = true := by
 have hl : (qF S q x).log = q :: S.log := rfl
 simp only [qB, h, hl, List.length_cons, Nat.add_sub_cancel_left, List.take_succ_cons, List.take_zero]
 simp [hk]
section
variable {S : zk} {q : Nat} {x : wP}
theorem Yn (h : S.get q = some (.cells (fM x) (.own []) 0)) (y : wP) : wH Try.prog 30 (.pointer (some ⟨q, 0, none⟩)) (mv y) S = some (undef, qF S q y) := by
 rw [xZ (x := mv y) (n := 13) h QH (by rw [qX]; rfl) (by rw [qX, List.toList_toArray]; exact ai9 y) (by simp [fM]), qX, List.toList_toArray]; rfl
theorem agd (h : S.get q = some (.cells (fM x) (.own []) 0)) (v : Int) : wH Try.prog 3 (.pointer (some ⟨q, 0 + 2, none⟩)) (.int .i64 v) S = some (undef, qF S q { x with index := v }) := by
 rw [xZ (n := 1) h acw rfl rfl (by simp [fM])]; rfl
theorem aip (h : S.get q = some (.cells (fM x) (.own []) 0)) (v : Int) : wH Try.prog 3 (.pointer (some ⟨q, 0 + 3, none⟩)) (.int .i64 v) S = some (undef, qF S q { x with view := v }) := by
 rw [xZ (n := 1) h acw rfl rfl (by simp [fM])]; rfl
theorem aec (h : S.get q = some (.cells (fM x) (.own []) 0)) (v : Int) : wH Try.prog 3 (.pointer (some ⟨q, 0 + 4, none⟩)) (.int .i64 v) S = some (undef, qF S q { x with value := v }) := by
 rw [xZ (n := 1) h acw rfl rfl (by simp [fM])]; rfl
theorem ajA (h : S.get q = some (.cells (fM x) (.own []) 0)) (v : Int) : wH Try.prog 3 (.pointer (some ⟨q, 0 + 5, none⟩)) (.int .i64 v) S = some (undef, qF S q { x with prep := v }) := by
 rw [xZ (n := 1) h acw rfl rfl (by simp [fM])]; rfl
theorem ahZ (h : S.get q = some (.cells (fM x) (.own []) 0)) (t : TxV) : wH Try.prog 25 (.pointer (some ⟨q, 0 + 6, none⟩)) (tv t) S = some (undef, qF S q { x with tx := t }) := by
 rw [xZ (n := 2) h Zf rfl rfl (by simp [fM])]; rfl
theorem ahU (h : S.get q = some (.cells (fM x) (.own []) 0)) (b : vF) : wH Try.prog 28 (.pointer (some ⟨q, 0 + 8, none⟩)) (bv b) S = some (undef, qF S q { x with b := b }) := by
 rw [xZ (x := bv b) (n := 5) h Zq (by rw [qX]; rfl) (by rw [qX, List.toList_toArray]; exact adp b) (by simp [fM]), qX, List.toList_toArray]; rfl
end
theorem je.v0 {m : wP} (hm : m.Ok) (hk : m.kind = 0) (S : zk) : jc Try.prog O je.id [mv m] S = some (mv (yI m), S) := by
 obtain ⟨T, hTe⟩ : ∃ T, T = (mv m :: undef :: undef :: undef :: undef :: undef :: undef :: undef :: undef :: undef :: undef :: undef :: undef :: undef :: undef :: undef :: undef :: undef :: undef :: undef :: undef :: undef :: undef :: undef :: undef :: undef :: undef :: undef :: undef :: undef :: undef :: undef :: undef :: undef :: undef :: undef :: undef :: undef :: undef :: undef :: undef :: undef :: undef :: undef :: undef :: undef :: []) := ⟨_, rfl⟩
 have hr : zF Try.prog O false je.code T zk.empty = zF Try.prog O false je.code T zk.empty := rfl
 obtain ⟨A1, hA1⟩ : ∃ A, A = (WJ m).push (.cells (fM m0) (.own []) 0) := ⟨_, rfl⟩
 have a1 : yF Try.prog 30 (WJ m) = some (.pointer (some ⟨1, 0, none⟩), A1) := by rw [hA1]; exact KJ _
 have p0 : A1.get 0 = some (.cells (fM m) (.own []) 0) := by rw [hA1]; kernel_rfl
 obtain ⟨A2, hA2⟩ : ∃ A, A = A1.push (.cells (fM m0) (.own []) 0) := ⟨_, rfl⟩
 have a2 : yF Try.prog 30 A1 = some (.pointer (some ⟨2, 0, none⟩), A2) := by rw [hA2, hA1]; exact KJ _
 have q0 : A2.get 0 = some (.cells (fM m) (.own []) 0) := by rw [hA2, hA1]; kernel_rfl
 have q1 : A2.get 1 = some (.cells (fM m0) (.own []) 0) := by rw [hA2, hA1]; kernel_rfl
 have q2 : A2.get 2 = some (.cells (fM m0) (.own []) 0) := by rw [hA2, hA1]; kernel_rfl
 have s0 : wH Try.prog 30 (.pointer (some ⟨2, 0, none⟩)) (.agg [Value.int .i64 m.kind, .int .i64 m.frm, .int .i64 0, .int .i64 0, .int .i64 0, .int .i64 0, .int .i64 0, .int .i64 0, .int .i64 0, .int .i64 0, .int .i64 0, .int .i64 0, .slice none 0 0].toArray) A2 = some (undef, qF A2 2 (⟨m.kind, m.frm, 0, 0, 0, 0, ⟨0, 0⟩, bk0⟩ : wP)) := Yn q2 (⟨m.kind, m.frm, 0, 0, 0, 0, ⟨0, 0⟩, bk0⟩ : wP)
 have b0 : (qF A2 2 (⟨m.kind, m.frm, 0, 0, 0, 0, ⟨0, 0⟩, bk0⟩ : wP)).get 0 = some (.cells (fM m) (.own []) 0) := (wW (by decide)).trans q0
 have b1 : (qF A2 2 (⟨m.kind, m.frm, 0, 0, 0, 0, ⟨0, 0⟩, bk0⟩ : wP)).get 1 = some (.cells (fM m0) (.own []) 0) := (wW (by decide)).trans q1
 have b2 := wC A2 2 (⟨m.kind, m.frm, 0, 0, 0, 0, ⟨0, 0⟩, bk0⟩ : wP)
 generalize hB0 : qF A2 2 (⟨m.kind, m.frm, 0, 0, 0, 0, ⟨0, 0⟩, bk0⟩ : wP) = B0 at s0 b0 b1 b2
 have s1 := ahZ b2 m.tx
 have c1_0 : (qF B0 2 (⟨m.kind, m.frm, 0, 0, 0, 0, m.tx, bk0⟩ : wP)).get 0 = some (.cells (fM m) (.own []) 0) := (wW (by decide)).trans b0
 have c1_1 : (qF B0 2 (⟨m.kind, m.frm, 0, 0, 0, 0, m.tx, bk0⟩ : wP)).get 1 = some (.cells (fM m0) (.own []) 0) := (wW (by decide)).trans b1
 have c1_2 := wC B0 2 (⟨m.kind, m.frm, 0, 0, 0, 0, m.tx, bk0⟩ : wP)
 dsimp only at s1
 generalize hB1 : qF B0 2 (⟨m.kind, m.frm, 0, 0, 0, 0, m.tx, bk0⟩ : wP) = B1 at s1  c1_0 c1_1 c1_2
 have eb : (⟨m.kind, m.frm, 0, 0, 0, 0, m.tx, bk0⟩ : wP) = yI m := by simp [yI, hk]
 rw [eb] at c1_2
 have hbk : (yI m).b.k ≠ 2 := by simp [yI, hk]
 have ld := kD c1_2 hbk
 have sl := Yn c1_1 (yI m)
 have fin := kD (wC B1 1 (yI m)) hbk
 have hcb : (yI m).b.k ≤ 2 := by simp [yI, hk]
 conv at hr =>
  rhs
  rw [hTe]
  simp only [je.code, je.rs, zSs, reduceIte, Nat.reduceEqDiff, Int.reduceEq, Int.reduceLT, Int.reduceLE, kY, a1, a2, zD, zN, wz p0, wQ p0, qV (y0 := .int .i64 m.kind) (y1 := .int .i64 m.frm) rfl rfl, s0, wz b0, zX, s1, yG b0, decide_eq_true hk, ZY, ld, sl]
 rw [hTe] at hr
 exact je.runs hr (.inr rfl) fin (all1 (wX hm.b.okl.le)) (wX hcb)
theorem je.v1 {m : wP} (hm : m.Ok) (hk : m.kind = 1) (S : zk) : jc Try.prog O je.id [mv m] S = some (mv (yI m), S) := by
 obtain ⟨T, hTe⟩ : ∃ T, T = (mv m :: undef :: undef :: undef :: undef :: undef :: undef :: undef :: undef :: undef :: undef :: undef :: undef :: undef :: undef :: undef :: undef :: undef :: undef :: undef :: undef :: undef :: undef :: undef :: undef :: undef :: undef :: undef :: undef :: undef :: undef :: undef :: undef :: undef :: undef :: undef :: undef :: undef :: undef :: undef :: undef :: undef :: undef :: undef :: undef :: undef :: []) := ⟨_, rfl⟩
 have hr : zF Try.prog O false je.code T zk.empty = zF Try.prog O false je.code T zk.empty := rfl
 obtain ⟨A1, hA1⟩ : ∃ A, A = (WJ m).push (.cells (fM m0) (.own []) 0) := ⟨_, rfl⟩
 have a1 : yF Try.prog 30 (WJ m) = some (.pointer (some ⟨1, 0, none⟩), A1) := by rw [hA1]; exact KJ _
 have p0 : A1.get 0 = some (.cells (fM m) (.own []) 0) := by rw [hA1]; kernel_rfl
 obtain ⟨A2, hA2⟩ : ∃ A, A = A1.push (.cells (fM m0) (.own []) 0) := ⟨_, rfl⟩
 have a2 : yF Try.prog 30 A1 = some (.pointer (some ⟨2, 0, none⟩), A2) := by rw [hA2, hA1]; exact KJ _
 have q0 : A2.get 0 = some (.cells (fM m) (.own []) 0) := by rw [hA2, hA1]; kernel_rfl
 have q1 : A2.get 1 = some (.cells (fM m0) (.own []) 0) := by rw [hA2, hA1]; kernel_rfl
 have q2 : A2.get 2 = some (.cells (fM m0) (.own []) 0) := by rw [hA2, hA1]; kernel_rfl
 have s0 : wH Try.prog 30 (.pointer (some ⟨2, 0, none⟩)) (.agg [Value.int .i64 m.kind, .int .i64 m.frm, .int .i64 0, .int .i64 0, .int .i64 0, .int .i64 0, .int .i64 0, .int .i64 0, .int .i64 0, .int .i64 0, .int .i64 0, .int .i64 0, .slice none 0 0].toArray) A2 = some (undef, qF A2 2 (⟨m.kind, m.frm, 0, 0, 0, 0, ⟨0, 0⟩, bk0⟩ : wP)) := Yn q2 (⟨m.kind, m.frm, 0, 0, 0, 0, ⟨0, 0⟩, bk0⟩ : wP)
 have b0 : (qF A2 2 (⟨m.kind, m.frm, 0, 0, 0, 0, ⟨0, 0⟩, bk0⟩ : wP)).get 0 = some (.cells (fM m) (.own []) 0) := (wW (by decide)).trans q0
 have b1 : (qF A2 2 (⟨m.kind, m.frm, 0, 0, 0, 0, ⟨0, 0⟩, bk0⟩ : wP)).get 1 = some (.cells (fM m0) (.own []) 0) := (wW (by decide)).trans q1
 have b2 := wC A2 2 (⟨m.kind, m.frm, 0, 0, 0, 0, ⟨0, 0⟩, bk0⟩ : wP)
 generalize hB0 : qF A2 2 (⟨m.kind, m.frm, 0, 0, 0, 0, ⟨0, 0⟩, bk0⟩ : wP) = B0 at s0 b0 b1 b2
 have s1 := ahU b2 m.b
 have c1_0 : (qF B0 2 (⟨m.kind, m.frm, 0, 0, 0, 0, ⟨0, 0⟩, m.b⟩ : wP)).get 0 = some (.cells (fM m) (.own []) 0) := (wW (by decide)).trans b0
 have c1_1 : (qF B0 2 (⟨m.kind, m.frm, 0, 0, 0, 0, ⟨0, 0⟩, m.b⟩ : wP)).get 1 = some (.cells (fM m0) (.own []) 0) := (wW (by decide)).trans b1
 have c1_2 := wC B0 2 (⟨m.kind, m.frm, 0, 0, 0, 0, ⟨0, 0⟩, m.b⟩ : wP)
 dsimp only at s1
 generalize hB1 : qF B0 2 (⟨m.kind, m.frm, 0, 0, 0, 0, ⟨0, 0⟩, m.b⟩ : wP) = B1 at s1  c1_0 c1_1 c1_2
 have eb : (⟨m.kind, m.frm, 0, 0, 0, 0, ⟨0, 0⟩, m.b⟩ : wP) = yI m := by simp [yI, hk]
 rw [eb] at c1_2
 have hbk : (yI m).b.k ≠ 2 := by simp [yI, hk, hm.b.ne]
 have ld := kD c1_2 hbk
 have sl := Yn c1_1 (yI m)
 have fin := kD (wC B1 1 (yI m)) hbk
 have hcb : (yI m).b.k ≤ 2 := by simp [yI, hk, hm.b.okl.le]
 conv at hr =>
  rhs
  rw [hTe]
  simp only [je.code, je.rs, zSs, reduceIte, Nat.reduceEqDiff, Int.reduceEq, Int.reduceLT, Int.reduceLE, kY, a1, a2, zD, zN, wz p0, wQ p0, qV (y0 := .int .i64 m.kind) (y1 := .int .i64 m.frm) rfl rfl, s0, wz b0, zY, s1, yL b0 hm.b.ne, decide_eq_false (show ¬ m.kind = 0 by omega), decide_eq_true hk, ZY, ld, sl]
 rw [hTe] at hr
 exact je.runs hr (.inr rfl) fin (all1 (wX hm.b.okl.le)) (wX hcb)
theorem je.v2 {m : wP} (hm : m.Ok) (hk : m.kind = 2) (S : zk) : jc Try.prog O je.id [mv m] S = some (mv (yI m), S) := by
 obtain ⟨T, hTe⟩ : ∃ T, T = (mv m :: undef :: undef :: undef :: undef :: undef :: undef :: undef :: undef :: undef :: undef :: undef :: undef :: undef :: undef :: undef :: undef :: undef :: undef :: undef :: undef :: undef :: undef :: undef :: undef :: undef :: undef :: undef :: undef :: undef :: undef :: undef :: undef :: undef :: undef :: undef :: undef :: undef :: undef :: undef :: undef :: undef :: undef :: undef :: undef :: undef :: []) := ⟨_, rfl⟩
 have hr : zF Try.prog O false je.code T zk.empty = zF Try.prog O false je.code T zk.empty := rfl
 obtain ⟨A1, hA1⟩ : ∃ A, A = (WJ m).push (.cells (fM m0) (.own []) 0) := ⟨_, rfl⟩
 have a1 : yF Try.prog 30 (WJ m) = some (.pointer (some ⟨1, 0, none⟩), A1) := by rw [hA1]; exact KJ _
 have p0 : A1.get 0 = some (.cells (fM m) (.own []) 0) := by rw [hA1]; kernel_rfl
 obtain ⟨A2, hA2⟩ : ∃ A, A = A1.push (.cells (fM m0) (.own []) 0) := ⟨_, rfl⟩
 have a2 : yF Try.prog 30 A1 = some (.pointer (some ⟨2, 0, none⟩), A2) := by rw [hA2, hA1]; exact KJ _
 have q0 : A2.get 0 = some (.cells (fM m) (.own []) 0) := by rw [hA2, hA1]; kernel_rfl
 have q1 : A2.get 1 = some (.cells (fM m0) (.own []) 0) := by rw [hA2, hA1]; kernel_rfl
 have q2 : A2.get 2 = some (.cells (fM m0) (.own []) 0) := by rw [hA2, hA1]; kernel_rfl
 have s0 : wH Try.prog 30 (.pointer (some ⟨2, 0, none⟩)) (.agg [Value.int .i64 m.kind, .int .i64 m.frm, .int .i64 0, .int .i64 0, .int .i64 0, .int .i64 0, .int .i64 0, .int .i64 0, .int .i64 0, .int .i64 0, .int .i64 0, .int .i64 0, .slice none 0 0].toArray) A2 = some (undef, qF A2 2 (⟨m.kind, m.frm, 0, 0, 0, 0, ⟨0, 0⟩, bk0⟩ : wP)) := Yn q2 (⟨m.kind, m.frm, 0, 0, 0, 0, ⟨0, 0⟩, bk0⟩ : wP)
 have b0 : (qF A2 2 (⟨m.kind, m.frm, 0, 0, 0, 0, ⟨0, 0⟩, bk0⟩ : wP)).get 0 = some (.cells (fM m) (.own []) 0) := (wW (by decide)).trans q0
 have b1 : (qF A2 2 (⟨m.kind, m.frm, 0, 0, 0, 0, ⟨0, 0⟩, bk0⟩ : wP)).get 1 = some (.cells (fM m0) (.own []) 0) := (wW (by decide)).trans q1
 have b2 := wC A2 2 (⟨m.kind, m.frm, 0, 0, 0, 0, ⟨0, 0⟩, bk0⟩ : wP)
 generalize hB0 : qF A2 2 (⟨m.kind, m.frm, 0, 0, 0, 0, ⟨0, 0⟩, bk0⟩ : wP) = B0 at s0 b0 b1 b2
 have s1 := aec b2 m.value
 have c1_0 : (qF B0 2 (⟨m.kind, m.frm, 0, 0, m.value, 0, ⟨0, 0⟩, bk0⟩ : wP)).get 0 = some (.cells (fM m) (.own []) 0) := (wW (by decide)).trans b0
 have c1_1 : (qF B0 2 (⟨m.kind, m.frm, 0, 0, m.value, 0, ⟨0, 0⟩, bk0⟩ : wP)).get 1 = some (.cells (fM m0) (.own []) 0) := (wW (by decide)).trans b1
 have c1_2 := wC B0 2 (⟨m.kind, m.frm, 0, 0, m.value, 0, ⟨0, 0⟩, bk0⟩ : wP)
 dsimp only at s1
 generalize hB1 : qF B0 2 (⟨m.kind, m.frm, 0, 0, m.value, 0, ⟨0, 0⟩, bk0⟩ : wP) = B1 at s1  c1_0 c1_1 c1_2
 have eb : (⟨m.kind, m.frm, 0, 0, m.value, 0, ⟨0, 0⟩, bk0⟩ : wP) = yI m := by simp [yI, hk]
 rw [eb] at c1_2
 have hbk : (yI m).b.k ≠ 2 := by simp [yI, hk]
 have ld := kD c1_2 hbk
 have sl := Yn c1_1 (yI m)
 have fin := kD (wC B1 1 (yI m)) hbk
 have hcb : (yI m).b.k ≤ 2 := by simp [yI, hk]
 conv at hr =>
  rhs
  rw [hTe]
  simp only [je.code, je.rs, zSs, reduceIte, Nat.reduceEqDiff, Int.reduceEq, Int.reduceLT, Int.reduceLE, kY, a1, a2, zD, zN, wz p0, wQ p0, qV (y0 := .int .i64 m.kind) (y1 := .int .i64 m.frm) rfl rfl, s0, wz b0, zK, s1, wL b0, decide_eq_false (show ¬ m.kind = 0 by omega), decide_eq_false (show ¬ m.kind = 1 by omega), decide_eq_true hk, ZY, ld, sl]
 rw [hTe] at hr
 exact je.runs hr (.inr rfl) fin (all1 (wX hm.b.okl.le)) (wX hcb)
theorem je.v3 {m : wP} (hm : m.Ok) (hk : m.kind = 3) (S : zk) : jc Try.prog O je.id [mv m] S = some (mv (yI m), S) := by
 obtain ⟨T, hTe⟩ : ∃ T, T = (mv m :: undef :: undef :: undef :: undef :: undef :: undef :: undef :: undef :: undef :: undef :: undef :: undef :: undef :: undef :: undef :: undef :: undef :: undef :: undef :: undef :: undef :: undef :: undef :: undef :: undef :: undef :: undef :: undef :: undef :: undef :: undef :: undef :: undef :: undef :: undef :: undef :: undef :: undef :: undef :: undef :: undef :: undef :: undef :: undef :: undef :: []) := ⟨_, rfl⟩
 have hr : zF Try.prog O false je.code T zk.empty = zF Try.prog O false je.code T zk.empty := rfl
 obtain ⟨A1, hA1⟩ : ∃ A, A = (WJ m).push (.cells (fM m0) (.own []) 0) := ⟨_, rfl⟩
 have a1 : yF Try.prog 30 (WJ m) = some (.pointer (some ⟨1, 0, none⟩), A1) := by rw [hA1]; exact KJ _
 have p0 : A1.get 0 = some (.cells (fM m) (.own []) 0) := by rw [hA1]; kernel_rfl
 obtain ⟨A2, hA2⟩ : ∃ A, A = A1.push (.cells (fM m0) (.own []) 0) := ⟨_, rfl⟩
 have a2 : yF Try.prog 30 A1 = some (.pointer (some ⟨2, 0, none⟩), A2) := by rw [hA2, hA1]; exact KJ _
 have q0 : A2.get 0 = some (.cells (fM m) (.own []) 0) := by rw [hA2, hA1]; kernel_rfl
 have q1 : A2.get 1 = some (.cells (fM m0) (.own []) 0) := by rw [hA2, hA1]; kernel_rfl
 have q2 : A2.get 2 = some (.cells (fM m0) (.own []) 0) := by rw [hA2, hA1]; kernel_rfl
 have s0 : wH Try.prog 30 (.pointer (some ⟨2, 0, none⟩)) (.agg [Value.int .i64 m.kind, .int .i64 m.frm, .int .i64 0, .int .i64 0, .int .i64 0, .int .i64 0, .int .i64 0, .int .i64 0, .int .i64 0, .int .i64 0, .int .i64 0, .int .i64 0, .slice none 0 0].toArray) A2 = some (undef, qF A2 2 (⟨m.kind, m.frm, 0, 0, 0, 0, ⟨0, 0⟩, bk0⟩ : wP)) := Yn q2 (⟨m.kind, m.frm, 0, 0, 0, 0, ⟨0, 0⟩, bk0⟩ : wP)
 have b0 : (qF A2 2 (⟨m.kind, m.frm, 0, 0, 0, 0, ⟨0, 0⟩, bk0⟩ : wP)).get 0 = some (.cells (fM m) (.own []) 0) := (wW (by decide)).trans q0
 have b1 : (qF A2 2 (⟨m.kind, m.frm, 0, 0, 0, 0, ⟨0, 0⟩, bk0⟩ : wP)).get 1 = some (.cells (fM m0) (.own []) 0) := (wW (by decide)).trans q1
 have b2 := wC A2 2 (⟨m.kind, m.frm, 0, 0, 0, 0, ⟨0, 0⟩, bk0⟩ : wP)
 generalize hB0 : qF A2 2 (⟨m.kind, m.frm, 0, 0, 0, 0, ⟨0, 0⟩, bk0⟩ : wP) = B0 at s0 b0 b1 b2
 have s1 := ajA b2 m.prep
 have c1_0 : (qF B0 2 (⟨m.kind, m.frm, 0, 0, 0, m.prep, ⟨0, 0⟩, bk0⟩ : wP)).get 0 = some (.cells (fM m) (.own []) 0) := (wW (by decide)).trans b0
 have c1_1 : (qF B0 2 (⟨m.kind, m.frm, 0, 0, 0, m.prep, ⟨0, 0⟩, bk0⟩ : wP)).get 1 = some (.cells (fM m0) (.own []) 0) := (wW (by decide)).trans b1
 have c1_2 := wC B0 2 (⟨m.kind, m.frm, 0, 0, 0, m.prep, ⟨0, 0⟩, bk0⟩ : wP)
 dsimp only at s1
 generalize hB1 : qF B0 2 (⟨m.kind, m.frm, 0, 0, 0, m.prep, ⟨0, 0⟩, bk0⟩ : wP) = B1 at s1  c1_0 c1_1 c1_2
 have s2 := aip c1_2 m.view
 have c2_0 : (qF B1 2 (⟨m.kind, m.frm, 0, m.view, 0, m.prep, ⟨0, 0⟩, bk0⟩ : wP)).get 0 = some (.cells (fM m) (.own []) 0) := (wW (by decide)).trans c1_0
 have c2_1 : (qF B1 2 (⟨m.kind, m.frm, 0, m.view, 0, m.prep, ⟨0, 0⟩, bk0⟩ : wP)).get 1 = some (.cells (fM m0) (.own []) 0) := (wW (by decide)).trans c1_1
 have c2_2 := wC B1 2 (⟨m.kind, m.frm, 0, m.view, 0, m.prep, ⟨0, 0⟩, bk0⟩ : wP)
 dsimp only at s2
 generalize hB2 : qF B1 2 (⟨m.kind, m.frm, 0, m.view, 0, m.prep, ⟨0, 0⟩, bk0⟩ : wP) = B2 at s2  c2_0 c2_1 c2_2
 have s3 := agd c2_2 m.index
 have sq := JI (o := 0 + 4) (x := (⟨m.kind, m.frm, m.index, m.view, 0, m.prep, ⟨0, 0⟩, bk0⟩ : wP)) c2_0 (show (0 : Nat) ≠ 2 by decide)
 have c3_0 : (qF B2 2 (⟨m.kind, m.frm, m.index, m.view, 0, m.prep, ⟨0, 0⟩, bk0⟩ : wP)).get 0 = some (.cells (fM m) (.own []) 0) := (wW (by decide)).trans c2_0
 have c3_1 : (qF B2 2 (⟨m.kind, m.frm, m.index, m.view, 0, m.prep, ⟨0, 0⟩, bk0⟩ : wP)).get 1 = some (.cells (fM m0) (.own []) 0) := (wW (by decide)).trans c2_1
 have c3_2 := wC B2 2 (⟨m.kind, m.frm, m.index, m.view, 0, m.prep, ⟨0, 0⟩, bk0⟩ : wP)
 dsimp only at s3
 generalize hB3 : qF B2 2 (⟨m.kind, m.frm, m.index, m.view, 0, m.prep, ⟨0, 0⟩, bk0⟩ : wP) = B3 at s3 sq c3_0 c3_1 c3_2
 have s4 := aec c3_2 m.value
 have c4_0 : (qF B3 2 (⟨m.kind, m.frm, m.index, m.view, m.value, m.prep, ⟨0, 0⟩, bk0⟩ : wP)).get 0 = some (.cells (fM m) (.own []) 0) := (wW (by decide)).trans c3_0
 have c4_1 : (qF B3 2 (⟨m.kind, m.frm, m.index, m.view, m.value, m.prep, ⟨0, 0⟩, bk0⟩ : wP)).get 1 = some (.cells (fM m0) (.own []) 0) := (wW (by decide)).trans c3_1
 have c4_2 := wC B3 2 (⟨m.kind, m.frm, m.index, m.view, m.value, m.prep, ⟨0, 0⟩, bk0⟩ : wP)
 dsimp only at s4
 generalize hB4 : qF B3 2 (⟨m.kind, m.frm, m.index, m.view, m.value, m.prep, ⟨0, 0⟩, bk0⟩ : wP) = B4 at s4  c4_0 c4_1 c4_2
 have eb : (⟨m.kind, m.frm, m.index, m.view, m.value, m.prep, ⟨0, 0⟩, bk0⟩ : wP) = yI m := by simp [yI, hk]
 rw [eb] at c4_2
 have hbk : (yI m).b.k ≠ 2 := by simp [yI, hk]
 have ld := kD c4_2 hbk
 have sl := Yn c4_1 (yI m)
 have fin := kD (wC B4 1 (yI m)) hbk
 have hcb : (yI m).b.k ≤ 2 := by simp [yI, hk]
 conv at hr =>
  rhs
  rw [hTe]
  simp only [je.code, je.rs, zSs, reduceIte, Nat.reduceEqDiff, Int.reduceEq, Int.reduceLT, Int.reduceLE, kY, a1, a2, zD, zN, wz p0, wQ p0, qV (y0 := .int .i64 m.kind) (y1 := .int .i64 m.frm) rfl rfl, s0, wz b0, zZ, s1, yA b0, zV, s2, yc b0, yc c1_0, zT, s3, sq, wU c1_0, wU c2_0, wL c2_0, zK, zK, s4, wL c2_0, wL c3_0, decide_eq_false (show ¬ m.kind = 0 by omega), decide_eq_false (show ¬ m.kind = 1 by omega), decide_eq_false (show ¬ m.kind = 2 by omega), decide_eq_true hk, ZY, ld, sl]
 rw [hTe] at hr
 exact je.runs hr (.inr rfl) fin (all1 (wX hm.b.okl.le)) (wX hcb)
theorem je.v4 {m : wP} (hm : m.Ok) (hk : m.kind = 4) (S : zk) : jc Try.prog O je.id [mv m] S = some (mv (yI m), S) := by
 obtain ⟨T, hTe⟩ : ∃ T, T = (mv m :: undef :: undef :: undef :: undef :: undef :: undef :: undef :: undef :: undef :: undef :: undef :: undef :: undef :: undef :: undef :: undef :: undef :: undef :: undef :: undef :: undef :: undef :: undef :: undef :: undef :: undef :: undef :: undef :: undef :: undef :: undef :: undef :: undef :: undef :: undef :: undef :: undef :: undef :: undef :: undef :: undef :: undef :: undef :: undef :: undef :: []) := ⟨_, rfl⟩
 have hr : zF Try.prog O false je.code T zk.empty = zF Try.prog O false je.code T zk.empty := rfl
 obtain ⟨A1, hA1⟩ : ∃ A, A = (WJ m).push (.cells (fM m0) (.own []) 0) := ⟨_, rfl⟩
 have a1 : yF Try.prog 30 (WJ m) = some (.pointer (some ⟨1, 0, none⟩), A1) := by rw [hA1]; exact KJ _
 have p0 : A1.get 0 = some (.cells (fM m) (.own []) 0) := by rw [hA1]; kernel_rfl
 obtain ⟨A2, hA2⟩ : ∃ A, A = A1.push (.cells (fM m0) (.own []) 0) := ⟨_, rfl⟩
 have a2 : yF Try.prog 30 A1 = some (.pointer (some ⟨2, 0, none⟩), A2) := by rw [hA2, hA1]; exact KJ _
 have q0 : A2.get 0 = some (.cells (fM m) (.own []) 0) := by rw [hA2, hA1]; kernel_rfl
 have q1 : A2.get 1 = some (.cells (fM m0) (.own []) 0) := by rw [hA2, hA1]; kernel_rfl
 have q2 : A2.get 2 = some (.cells (fM m0) (.own []) 0) := by rw [hA2, hA1]; kernel_rfl
 have s0 : wH Try.prog 30 (.pointer (some ⟨2, 0, none⟩)) (.agg [Value.int .i64 m.kind, .int .i64 m.frm, .int .i64 0, .int .i64 0, .int .i64 0, .int .i64 0, .int .i64 0, .int .i64 0, .int .i64 0, .int .i64 0, .int .i64 0, .int .i64 0, .slice none 0 0].toArray) A2 = some (undef, qF A2 2 (⟨m.kind, m.frm, 0, 0, 0, 0, ⟨0, 0⟩, bk0⟩ : wP)) := Yn q2 (⟨m.kind, m.frm, 0, 0, 0, 0, ⟨0, 0⟩, bk0⟩ : wP)
 have b0 : (qF A2 2 (⟨m.kind, m.frm, 0, 0, 0, 0, ⟨0, 0⟩, bk0⟩ : wP)).get 0 = some (.cells (fM m) (.own []) 0) := (wW (by decide)).trans q0
 have b1 : (qF A2 2 (⟨m.kind, m.frm, 0, 0, 0, 0, ⟨0, 0⟩, bk0⟩ : wP)).get 1 = some (.cells (fM m0) (.own []) 0) := (wW (by decide)).trans q1
 have b2 := wC A2 2 (⟨m.kind, m.frm, 0, 0, 0, 0, ⟨0, 0⟩, bk0⟩ : wP)
 generalize hB0 : qF A2 2 (⟨m.kind, m.frm, 0, 0, 0, 0, ⟨0, 0⟩, bk0⟩ : wP) = B0 at s0 b0 b1 b2
 have s1 := aip b2 m.view
 have c1_0 : (qF B0 2 (⟨m.kind, m.frm, 0, m.view, 0, 0, ⟨0, 0⟩, bk0⟩ : wP)).get 0 = some (.cells (fM m) (.own []) 0) := (wW (by decide)).trans b0
 have c1_1 : (qF B0 2 (⟨m.kind, m.frm, 0, m.view, 0, 0, ⟨0, 0⟩, bk0⟩ : wP)).get 1 = some (.cells (fM m0) (.own []) 0) := (wW (by decide)).trans b1
 have c1_2 := wC B0 2 (⟨m.kind, m.frm, 0, m.view, 0, 0, ⟨0, 0⟩, bk0⟩ : wP)
 dsimp only at s1
 generalize hB1 : qF B0 2 (⟨m.kind, m.frm, 0, m.view, 0, 0, ⟨0, 0⟩, bk0⟩ : wP) = B1 at s1  c1_0 c1_1 c1_2
 have s2 := agd c1_2 m.index
 have sq := JI (o := 0 + 4) (x := (⟨m.kind, m.frm, m.index, m.view, 0, 0, ⟨0, 0⟩, bk0⟩ : wP)) c1_0 (show (0 : Nat) ≠ 2 by decide)
 have c2_0 : (qF B1 2 (⟨m.kind, m.frm, m.index, m.view, 0, 0, ⟨0, 0⟩, bk0⟩ : wP)).get 0 = some (.cells (fM m) (.own []) 0) := (wW (by decide)).trans c1_0
 have c2_1 : (qF B1 2 (⟨m.kind, m.frm, m.index, m.view, 0, 0, ⟨0, 0⟩, bk0⟩ : wP)).get 1 = some (.cells (fM m0) (.own []) 0) := (wW (by decide)).trans c1_1
 have c2_2 := wC B1 2 (⟨m.kind, m.frm, m.index, m.view, 0, 0, ⟨0, 0⟩, bk0⟩ : wP)
 dsimp only at s2
 generalize hB2 : qF B1 2 (⟨m.kind, m.frm, m.index, m.view, 0, 0, ⟨0, 0⟩, bk0⟩ : wP) = B2 at s2 sq c2_0 c2_1 c2_2
 have s3 := aec c2_2 m.value
 have c3_0 : (qF B2 2 (⟨m.kind, m.frm, m.index, m.view, m.value, 0, ⟨0, 0⟩, bk0⟩ : wP)).get 0 = some (.cells (fM m) (.own []) 0) := (wW (by decide)).trans c2_0
 have c3_1 : (qF B2 2 (⟨m.kind, m.frm, m.index, m.view, m.value, 0, ⟨0, 0⟩, bk0⟩ : wP)).get 1 = some (.cells (fM m0) (.own []) 0) := (wW (by decide)).trans c2_1
 have c3_2 := wC B2 2 (⟨m.kind, m.frm, m.index, m.view, m.value, 0, ⟨0, 0⟩, bk0⟩ : wP)
 dsimp only at s3
 generalize hB3 : qF B2 2 (⟨m.kind, m.frm, m.index, m.view, m.value, 0, ⟨0, 0⟩, bk0⟩ : wP) = B3 at s3  c3_0 c3_1 c3_2
 have eb : (⟨m.kind, m.frm, m.index, m.view, m.value, 0, ⟨0, 0⟩, bk0⟩ : wP) = yI m := by simp [yI, hk]
 rw [eb] at c3_2
 have hbk : (yI m).b.k ≠ 2 := by simp [yI, hk]
 have ld := kD c3_2 hbk
 have sl := Yn c3_1 (yI m)
 have fin := kD (wC B3 1 (yI m)) hbk
 have hcb : (yI m).b.k ≤ 2 := by simp [yI, hk]
 conv at hr =>
  rhs
  rw [hTe]
  simp only [je.code, je.rs, zSs, reduceIte, Nat.reduceEqDiff, Int.reduceEq, Int.reduceLT, Int.reduceLE, kY, a1, a2, zD, zN, wz p0, wQ p0, qV (y0 := .int .i64 m.kind) (y1 := .int .i64 m.frm) rfl rfl, s0, wz b0, zV, s1, yc b0, zT, s2, sq, wU b0, wU c1_0, wL c1_0, zK, zK, s3, wL c1_0, wL c2_0, decide_eq_false (show ¬ m.kind = 0 by omega), decide_eq_false (show ¬ m.kind = 1 by omega), decide_eq_false (show ¬ m.kind = 2 by omega), decide_eq_false (show ¬ m.kind = 3 by omega), decide_eq_true hk, decide_eq_false (show ¬ m.kind = 5 by omega), decide_eq_false (show ¬ m.kind = 6 by omega), ZY, ld, sl]
 rw [hTe] at hr
 exact je.runs hr (.inr rfl) fin (all1 (wX hm.b.okl.le)) (wX hcb)
theorem je.v5 {m : wP} (hm : m.Ok) (hk : m.kind = 5) (S : zk) : jc Try.prog O je.id [mv m] S = some (mv (yI m), S) := by
 obtain ⟨T, hTe⟩ : ∃ T, T = (mv m :: undef :: undef :: undef :: undef :: undef :: undef :: undef :: undef :: undef :: undef :: undef :: undef :: undef :: undef :: undef :: undef :: undef :: undef :: undef :: undef :: undef :: undef :: undef :: undef :: undef :: undef :: undef :: undef :: undef :: undef :: undef :: undef :: undef :: undef :: undef :: undef :: undef :: undef :: undef :: undef :: undef :: undef :: undef :: undef :: undef :: []) := ⟨_, rfl⟩
 have hr : zF Try.prog O false je.code T zk.empty = zF Try.prog O false je.code T zk.empty := rfl
 obtain ⟨A1, hA1⟩ : ∃ A, A = (WJ m).push (.cells (fM m0) (.own []) 0) := ⟨_, rfl⟩
 have a1 : yF Try.prog 30 (WJ m) = some (.pointer (some ⟨1, 0, none⟩), A1) := by rw [hA1]; exact KJ _
 have p0 : A1.get 0 = some (.cells (fM m) (.own []) 0) := by rw [hA1]; kernel_rfl
 obtain ⟨A2, hA2⟩ : ∃ A, A = A1.push (.cells (fM m0) (.own []) 0) := ⟨_, rfl⟩
 have a2 : yF Try.prog 30 A1 = some (.pointer (some ⟨2, 0, none⟩), A2) := by rw [hA2, hA1]; exact KJ _
 have q0 : A2.get 0 = some (.cells (fM m) (.own []) 0) := by rw [hA2, hA1]; kernel_rfl
 have q1 : A2.get 1 = some (.cells (fM m0) (.own []) 0) := by rw [hA2, hA1]; kernel_rfl
 have q2 : A2.get 2 = some (.cells (fM m0) (.own []) 0) := by rw [hA2, hA1]; kernel_rfl
 have s0 : wH Try.prog 30 (.pointer (some ⟨2, 0, none⟩)) (.agg [Value.int .i64 m.kind, .int .i64 m.frm, .int .i64 0, .int .i64 0, .int .i64 0, .int .i64 0, .int .i64 0, .int .i64 0, .int .i64 0, .int .i64 0, .int .i64 0, .int .i64 0, .slice none 0 0].toArray) A2 = some (undef, qF A2 2 (⟨m.kind, m.frm, 0, 0, 0, 0, ⟨0, 0⟩, bk0⟩ : wP)) := Yn q2 (⟨m.kind, m.frm, 0, 0, 0, 0, ⟨0, 0⟩, bk0⟩ : wP)
 have b0 : (qF A2 2 (⟨m.kind, m.frm, 0, 0, 0, 0, ⟨0, 0⟩, bk0⟩ : wP)).get 0 = some (.cells (fM m) (.own []) 0) := (wW (by decide)).trans q0
 have b1 : (qF A2 2 (⟨m.kind, m.frm, 0, 0, 0, 0, ⟨0, 0⟩, bk0⟩ : wP)).get 1 = some (.cells (fM m0) (.own []) 0) := (wW (by decide)).trans q1
 have b2 := wC A2 2 (⟨m.kind, m.frm, 0, 0, 0, 0, ⟨0, 0⟩, bk0⟩ : wP)
 generalize hB0 : qF A2 2 (⟨m.kind, m.frm, 0, 0, 0, 0, ⟨0, 0⟩, bk0⟩ : wP) = B0 at s0 b0 b1 b2
 have s1 := aip b2 m.view
 have c1_0 : (qF B0 2 (⟨m.kind, m.frm, 0, m.view, 0, 0, ⟨0, 0⟩, bk0⟩ : wP)).get 0 = some (.cells (fM m) (.own []) 0) := (wW (by decide)).trans b0
 have c1_1 : (qF B0 2 (⟨m.kind, m.frm, 0, m.view, 0, 0, ⟨0, 0⟩, bk0⟩ : wP)).get 1 = some (.cells (fM m0) (.own []) 0) := (wW (by decide)).trans b1
 have c1_2 := wC B0 2 (⟨m.kind, m.frm, 0, m.view, 0, 0, ⟨0, 0⟩, bk0⟩ : wP)
 dsimp only at s1
 generalize hB1 : qF B0 2 (⟨m.kind, m.frm, 0, m.view, 0, 0, ⟨0, 0⟩, bk0⟩ : wP) = B1 at s1  c1_0 c1_1 c1_2
 have s2 := agd c1_2 m.index
 have sq := JI (o := 0 + 4) (x := (⟨m.kind, m.frm, m.index, m.view, 0, 0, ⟨0, 0⟩, bk0⟩ : wP)) c1_0 (show (0 : Nat) ≠ 2 by decide)
 have c2_0 : (qF B1 2 (⟨m.kind, m.frm, m.index, m.view, 0, 0, ⟨0, 0⟩, bk0⟩ : wP)).get 0 = some (.cells (fM m) (.own []) 0) := (wW (by decide)).trans c1_0
 have c2_1 : (qF B1 2 (⟨m.kind, m.frm, m.index, m.view, 0, 0, ⟨0, 0⟩, bk0⟩ : wP)).get 1 = some (.cells (fM m0) (.own []) 0) := (wW (by decide)).trans c1_1
 have c2_2 := wC B1 2 (⟨m.kind, m.frm, m.index, m.view, 0, 0, ⟨0, 0⟩, bk0⟩ : wP)
 dsimp only at s2
 generalize hB2 : qF B1 2 (⟨m.kind, m.frm, m.index, m.view, 0, 0, ⟨0, 0⟩, bk0⟩ : wP) = B2 at s2 sq c2_0 c2_1 c2_2
 have s3 := aec c2_2 m.value
 have c3_0 : (qF B2 2 (⟨m.kind, m.frm, m.index, m.view, m.value, 0, ⟨0, 0⟩, bk0⟩ : wP)).get 0 = some (.cells (fM m) (.own []) 0) := (wW (by decide)).trans c2_0
 have c3_1 : (qF B2 2 (⟨m.kind, m.frm, m.index, m.view, m.value, 0, ⟨0, 0⟩, bk0⟩ : wP)).get 1 = some (.cells (fM m0) (.own []) 0) := (wW (by decide)).trans c2_1
 have c3_2 := wC B2 2 (⟨m.kind, m.frm, m.index, m.view, m.value, 0, ⟨0, 0⟩, bk0⟩ : wP)
 dsimp only at s3
 generalize hB3 : qF B2 2 (⟨m.kind, m.frm, m.index, m.view, m.value, 0, ⟨0, 0⟩, bk0⟩ : wP) = B3 at s3  c3_0 c3_1 c3_2
 have eb : (⟨m.kind, m.frm, m.index, m.view, m.value, 0, ⟨0, 0⟩, bk0⟩ : wP) = yI m := by simp [yI, hk]
 rw [eb] at c3_2
 have hbk : (yI m).b.k ≠ 2 := by simp [yI, hk]
 have ld := kD c3_2 hbk
 have sl := Yn c3_1 (yI m)
 have fin := kD (wC B3 1 (yI m)) hbk
 have hcb : (yI m).b.k ≤ 2 := by simp [yI, hk]
 conv at hr =>
  rhs
  rw [hTe]
  simp only [je.code, je.rs, zSs, reduceIte, Nat.reduceEqDiff, Int.reduceEq, Int.reduceLT, Int.reduceLE, kY, a1, a2, zD, zN, wz p0, wQ p0, qV (y0 := .int .i64 m.kind) (y1 := .int .i64 m.frm) rfl rfl, s0, wz b0, zV, s1, yc b0, zT, s2, sq, wU b0, wU c1_0, wL c1_0, zK, zK, s3, wL c1_0, wL c2_0, decide_eq_false (show ¬ m.kind = 0 by omega), decide_eq_false (show ¬ m.kind = 1 by omega), decide_eq_false (show ¬ m.kind = 2 by omega), decide_eq_false (show ¬ m.kind = 3 by omega), decide_eq_false (show ¬ m.kind = 4 by omega), decide_eq_true hk, ZY, ld, sl]
 rw [hTe] at hr
 exact je.runs hr (.inr rfl) fin (all1 (wX hm.b.okl.le)) (wX hcb)
theorem je.v6 {m : wP} (hm : m.Ok) (hk : m.kind = 6) (S : zk) : jc Try.prog O je.id [mv m] S = some (mv (yI m), S) := by
 obtain ⟨T, hTe⟩ : ∃ T, T = (mv m :: undef :: undef :: undef :: undef :: undef :: undef :: undef :: undef :: undef :: undef :: undef :: undef :: undef :: undef :: undef :: undef :: undef :: undef :: undef :: undef :: undef :: undef :: undef :: undef :: undef :: undef :: undef :: undef :: undef :: undef :: undef :: undef :: undef :: undef :: undef :: undef :: undef :: undef :: undef :: undef :: undef :: undef :: undef :: undef :: undef :: []) := ⟨_, rfl⟩
 have hr : zF Try.prog O false je.code T zk.empty = zF Try.prog O false je.code T zk.empty := rfl
 obtain ⟨A1, hA1⟩ : ∃ A, A = (WJ m).push (.cells (fM m0) (.own []) 0) := ⟨_, rfl⟩
 have a1 : yF Try.prog 30 (WJ m) = some (.pointer (some ⟨1, 0, none⟩), A1) := by rw [hA1]; exact KJ _
 have p0 : A1.get 0 = some (.cells (fM m) (.own []) 0) := by rw [hA1]; kernel_rfl
 obtain ⟨A2, hA2⟩ : ∃ A, A = A1.push (.cells (fM m0) (.own []) 0) := ⟨_, rfl⟩
 have a2 : yF Try.prog 30 A1 = some (.pointer (some ⟨2, 0, none⟩), A2) := by rw [hA2, hA1]; exact KJ _
 have q0 : A2.get 0 = some (.cells (fM m) (.own []) 0) := by rw [hA2, hA1]; kernel_rfl
 have q1 : A2.get 1 = some (.cells (fM m0) (.own []) 0) := by rw [hA2, hA1]; kernel_rfl
 have q2 : A2.get 2 = some (.cells (fM m0) (.own []) 0) := by rw [hA2, hA1]; kernel_rfl
 have s0 : wH Try.prog 30 (.pointer (some ⟨2, 0, none⟩)) (.agg [Value.int .i64 m.kind, .int .i64 m.frm, .int .i64 0, .int .i64 0, .int .i64 0, .int .i64 0, .int .i64 0, .int .i64 0, .int .i64 0, .int .i64 0, .int .i64 0, .int .i64 0, .slice none 0 0].toArray) A2 = some (undef, qF A2 2 (⟨m.kind, m.frm, 0, 0, 0, 0, ⟨0, 0⟩, bk0⟩ : wP)) := Yn q2 (⟨m.kind, m.frm, 0, 0, 0, 0, ⟨0, 0⟩, bk0⟩ : wP)
 have b0 : (qF A2 2 (⟨m.kind, m.frm, 0, 0, 0, 0, ⟨0, 0⟩, bk0⟩ : wP)).get 0 = some (.cells (fM m) (.own []) 0) := (wW (by decide)).trans q0
 have b1 : (qF A2 2 (⟨m.kind, m.frm, 0, 0, 0, 0, ⟨0, 0⟩, bk0⟩ : wP)).get 1 = some (.cells (fM m0) (.own []) 0) := (wW (by decide)).trans q1
 have b2 := wC A2 2 (⟨m.kind, m.frm, 0, 0, 0, 0, ⟨0, 0⟩, bk0⟩ : wP)
 generalize hB0 : qF A2 2 (⟨m.kind, m.frm, 0, 0, 0, 0, ⟨0, 0⟩, bk0⟩ : wP) = B0 at s0 b0 b1 b2
 have s1 := agd b2 m.index
 have sq := JI (o := 0 + 4) (x := (⟨m.kind, m.frm, m.index, 0, 0, 0, ⟨0, 0⟩, bk0⟩ : wP)) b0 (show (0 : Nat) ≠ 2 by decide)
 have c1_0 : (qF B0 2 (⟨m.kind, m.frm, m.index, 0, 0, 0, ⟨0, 0⟩, bk0⟩ : wP)).get 0 = some (.cells (fM m) (.own []) 0) := (wW (by decide)).trans b0
 have c1_1 : (qF B0 2 (⟨m.kind, m.frm, m.index, 0, 0, 0, ⟨0, 0⟩, bk0⟩ : wP)).get 1 = some (.cells (fM m0) (.own []) 0) := (wW (by decide)).trans b1
 have c1_2 := wC B0 2 (⟨m.kind, m.frm, m.index, 0, 0, 0, ⟨0, 0⟩, bk0⟩ : wP)
 dsimp only at s1
 generalize hB1 : qF B0 2 (⟨m.kind, m.frm, m.index, 0, 0, 0, ⟨0, 0⟩, bk0⟩ : wP) = B1 at s1 sq c1_0 c1_1 c1_2
 have s2 := aec c1_2 m.value
 have c2_0 : (qF B1 2 (⟨m.kind, m.frm, m.index, 0, m.value, 0, ⟨0, 0⟩, bk0⟩ : wP)).get 0 = some (.cells (fM m) (.own []) 0) := (wW (by decide)).trans c1_0
 have c2_1 : (qF B1 2 (⟨m.kind, m.frm, m.index, 0, m.value, 0, ⟨0, 0⟩, bk0⟩ : wP)).get 1 = some (.cells (fM m0) (.own []) 0) := (wW (by decide)).trans c1_1
 have c2_2 := wC B1 2 (⟨m.kind, m.frm, m.index, 0, m.value, 0, ⟨0, 0⟩, bk0⟩ : wP)
 dsimp only at s2
 generalize hB2 : qF B1 2 (⟨m.kind, m.frm, m.index, 0, m.value, 0, ⟨0, 0⟩, bk0⟩ : wP) = B2 at s2  c2_0 c2_1 c2_2
 have eb : (⟨m.kind, m.frm, m.index, 0, m.value, 0, ⟨0, 0⟩, bk0⟩ : wP) = yI m := by simp [yI, hk]
 rw [eb] at c2_2
 have hbk : (yI m).b.k ≠ 2 := by simp [yI, hk]
 have ld := kD c2_2 hbk
 have sl := Yn c2_1 (yI m)
 have fin := kD (wC B2 1 (yI m)) hbk
 have hcb : (yI m).b.k ≤ 2 := by simp [yI, hk]
 conv at hr =>
  rhs
  rw [hTe]
  simp only [je.code, je.rs, zSs, reduceIte, Nat.reduceEqDiff, Int.reduceEq, Int.reduceLT, Int.reduceLE, kY, a1, a2, zD, zN, wz p0, wQ p0, qV (y0 := .int .i64 m.kind) (y1 := .int .i64 m.frm) rfl rfl, s0, wz b0, zT, s1, sq, wU b0, wL b0, zK, zK, s2, wL b0, wL c1_0, decide_eq_false (show ¬ m.kind = 0 by omega), decide_eq_false (show ¬ m.kind = 1 by omega), decide_eq_false (show ¬ m.kind = 2 by omega), decide_eq_false (show ¬ m.kind = 3 by omega), decide_eq_false (show ¬ m.kind = 4 by omega), decide_eq_false (show ¬ m.kind = 5 by omega), decide_eq_true hk, ZY, ld, sl]
 rw [hTe] at hr
 exact je.runs hr (.inr rfl) fin (all1 (wX hm.b.okl.le)) (wX hcb)
theorem je.v {m : wP} (hm : m.Ok) (h0 : 0 ≤ m.kind) (h6 : m.kind ≤ 6) (S : zk) : jc Try.prog O je.id [mv m] S = some (mv (yI m), S) := by
 have : m.kind = 0 ∨ m.kind = 1 ∨ m.kind = 2 ∨ m.kind = 3 ∨ m.kind = 4 ∨ m.kind = 5 ∨ m.kind = 6 := by omega
 rcases this with h | h | h | h | h | h | h
 ·
  exact je.v0 hm h S
 ·
  exact je.v1 hm h S
 ·
  exact je.v2 hm h S
 ·
  exact je.v3 hm h S
 ·
  exact je.v4 hm h S
 ·
  exact je.v5 hm h S
 ·
  exact je.v6 hm h S
end Go.Proofs.Ytbgcphbbchndkaa
namespace Go.Abs
open Go.RowKit
def gv (x b : Bool) (v : Value) : Value := if x = b then v else undef
theorem ahm (x b : Bool) (v : Value) : dem (gv x b v) = gv x b (dem v) := by
 unfold gv; split
 ·
  rfl
 ·
  exact QJ
theorem QI {R : Type} {K : Value → zk → Option R} {p : WA K} {m : M Value} {S : zk} (x b : Bool) : gdK (.bool x) b m S K p = if x = b then zI (m S) K p else K undef S := by
 cases x <;> cases b <;> rfl
section
variable {R : Type} {K : Value → zk → Option R} {p : WA K} {S : zk} {x b c y z : Bool} {m m' : M Value} {P : Program} {O : Ora} {t : TypeId} {v w u : Value}
theorem qp (h : x = b → m S = m' S) : gdK (.bool x) b m S K p = gdK (.bool x) b m' S K p := by
 rw [QI, QI]
 split
 ·
  rename_i hx; rw [h hx]
 ·
  rfl
theorem zn (h : m S = some (v, S)) : gdK (.bool x) b m S K p = K (gv x b v) S := by
 rw [QI]
 unfold gv
 split
 ·
  rw [h]; rfl
 ·
  rfl
theorem JC (h : m S = some (v, S)) (hq : okq 3 v = true) : afF (.bool x) b m S K p = K (gv x b v) S := by
 unfold gv
 cases x <;> cases b <;> first | rfl | (simp only [aaM, aaP, h, Qm, qZ hq, if_true])
theorem JD (h : x = b) : gv x b v = v := if_pos h
theorem adw {fx : Bool} : gdK (.bool x) b (jf P fx t (gv x b v)) S K p = gdK (.bool x) b (jf P fx t v) S K p := qp fun h => by rw [JD h]
theorem YH {f : Nat} : gdK (.bool x) b (zy P t (gv x b v) f) S K p = gdK (.bool x) b (zy P t v f) S K p := qp fun h => by rw [JD h]
theorem Qj : gdK (.bool x) b (Js (gv x b v)) S K p = gdK (.bool x) b (Js v) S K p := qp fun h => by rw [JD h]
theorem aho : gdK (.bool x) b (Zz P t (gv x b v)) S K p = gdK (.bool x) b (Zz P t v) S K p := qp fun h => by rw [JD h]
theorem WO : gdK (.bool x) b (jo P t (gv x b v) w) S K p = gdK (.bool x) b (jo P t v w) S K p := qp fun h => by rw [JD h]
theorem WY : gdK (.bool x) b (jo P t v (gv x b w)) S K p = gdK (.bool x) b (jo P t v w) S K p := qp fun h => by rw [JD h]
theorem aiT {op : UnOp} : gdK (.bool x) b (aUn P op (gv x b v)) S K p = gdK (.bool x) b (aUn P op v) S K p := qp fun h => by rw [JD h]
theorem adH {hp dr : Bool} {t2 : TypeId} : gdK (.bool x) b (qI P hp dr t t2 (gv x b v)) S K p = gdK (.bool x) b (qI P hp dr t t2 v) S K p := qp fun h => by rw [JD h]
theorem aeg {op : BinOp} : gdK (.bool x) b (wu P op t (gv x b v) w) S K p = gdK (.bool x) b (wu P op t v w) S K p := qp fun h => by rw [JD h]
theorem afh {op : BinOp} : gdK (.bool x) b (wu P op t v (gv x b w)) S K p = gdK (.bool x) b (wu P op t v w) S K p := qp fun h => by rw [JD h]
theorem ab1 {g : FuncId} {l : List Value} : gdK (.bool x) b (jc P O g (gv x b v :: l)) S K p = gdK (.bool x) b (jc P O g (v :: l)) S K p := qp fun h => by rw [JD h]
theorem abU {g : FuncId} {l : List Value} : gdK (.bool x) b (jc P O g (u :: gv x b v :: l)) S K p = gdK (.bool x) b (jc P O g (u :: v :: l)) S K p := qp fun h => by rw [JD h]
theorem aam {g : FuncId} {l : List Value} : gdK (.bool x) b (af9 (jc P O) g (gv x b v :: l)) S K p = gdK (.bool x) b (af9 (jc P O) g (v :: l)) S K p := qp fun h => by rw [JD h]
theorem VI {g : FuncId} {l : List Value} : gdK (.bool x) b (af9 (jc P O) g (u :: gv x b v :: l)) S K p = gdK (.bool x) b (af9 (jc P O) g (u :: v :: l)) S K p := qp fun h => by rw [JD h]
theorem ahg : gdK (.bool x) b (ret v) S K p = K (gv x b v) S := zn rfl
theorem ai7 : gv x b (gv x b v) = gv x b v := by unfold gv; split <;> rfl
theorem abp : gdK (gv x c (.bool y)) b m S K p = gdK (.bool ((x == c) && (y == b))) true m S K p := by
 unfold gv
 cases x <;> cases c <;> cases y <;> cases b <;> rfl
theorem adv {fx : Bool} : gdK (.bool ((x == c) && (y == b))) true (jf P fx t (gv x c v)) S K p = gdK (.bool ((x == c) && (y == b))) true (jf P fx t v) S K p := qp fun h => by rw [JD (by simp at h; exact h.1)]
theorem aeE {op : BinOp} : gdK (.bool ((x == c) && (y == b))) true (wu P op t (gv x c v) w) S K p = gdK (.bool ((x == c) && (y == b))) true (wu P op t v w) S K p := qp fun h => by rw [JD (by simp at h; exact h.1)]
theorem aey {op : BinOp} : gdK (.bool ((x == c) && (y == b))) true (wu P op t v (gv x c w)) S K p = gdK (.bool ((x == c) && (y == b))) true (wu P op t v w) S K p := qp fun h => by rw [JD (by simp at h; exact h.1)]
theorem ahh : gdK (.bool x) c (wJ (gv x c (.bool y)) (.bool true) (gv ((x == c) && (y == false)) true (.bool z))) S K p = K (gv x c (.bool (y || z))) S := by
 unfold gv
 cases x <;> cases c <;> cases y <;> cases z <;> rfl
theorem adK : gdK (.bool x) c (wJ (gv x c (.bool y)) (gv ((x == c) && (y == true)) true (.bool z)) (.bool false)) S K p = K (gv x c (.bool (y && z))) S := by
 unfold gv
 cases x <;> cases c <;> cases y <;> cases z <;> rfl
theorem ajf : (if x = true then Value.bool true else gv x false (.bool y)) = .bool (x || y) := by cases x <;> rfl
theorem ahs : (if x = true then gv x true (.bool y) else Value.bool false) = .bool (x && y) := by cases x <;> rfl
theorem aiY : gv true true v = v := rfl
theorem aiV : gv false false v = v := rfl
theorem aja : gv true false v = undef := rfl
theorem aiZ : gv false true v = undef := rfl
theorem agT {k : IntKind} {a d : Int} : gdK (.bool x) b (wu P .lss t (.int k a) (.int k d)) S K p = K (gv x b (.bool (decide (a < d)))) S := zn (X0 k a d)
theorem agY {k : IntKind} {a d : Int} : gdK (.bool x) b (wu P .leq t (.int k a) (.int k d)) S K p = K (gv x b (.bool (decide (a ≤ d)))) S := zn (Xy k a d)
theorem ag3 {k : IntKind} {a d : Int} : gdK (.bool x) b (wu P .gtr t (.int k a) (.int k d)) S K p = K (gv x b (.bool (decide (d < a)))) S := zn (XM k a d)
theorem ahf {k : IntKind} {a d : Int} : gdK (.bool x) b (wu P .geq t (.int k a) (.int k d)) S K p = K (gv x b (.bool (decide (d ≤ a)))) S := zn (X6 k a d)
theorem ag5 {k : IntKind} {a d : Int} : gdK (.bool x) b (wu P .eql t (.int k a) (.int k d)) S K p = K (gv x b (.bool (decide (a = d)))) S := zn (X7 k a d)
theorem aha {k : IntKind} {a d : Int} : gdK (.bool x) b (wu P .neq t (.int k a) (.int k d)) S K p = K (gv x b (.bool (!decide (a = d)))) S := zn (XO k a d)
theorem ag4 {k : IntKind} {a d : Int} : gdK (.bool x) b (wu P .add t (.int k a) (.int k d)) S K p = K (gv x b (.int k (k.wrap (a + d)))) S := zn (XV k a d)
theorem agX {k : IntKind} {a d : Int} : gdK (.bool x) b (wu P .sub t (.int k a) (.int k d)) S K p = K (gv x b (.int k (k.wrap (a - d)))) S := zn (XE k a d)
theorem ahe : gdK (.bool x) b (aUn P .not (.bool y)) S K p = K (gv x b (.bool (!y))) S := zn (by cases y <;> rfl)
end
theorem gvw : type_of% (And.intro @ahm (And.intro @adw (And.intro @YH (And.intro @Qj (And.intro @aho (And.intro @WO (And.intro @WY (And.intro @aiT (And.intro @adH (And.intro @aeg (And.intro @afh (And.intro @ab1 (And.intro @abU (And.intro @aam (And.intro @VI (And.intro @ahg (And.intro @ai7 (And.intro @abp (And.intro @adv (And.intro @aeE (And.intro @aey (And.intro @ahh (And.intro @adK (And.intro @ajf (And.intro @ahs (And.intro @aiY (And.intro @aiV (And.intro @aja (And.intro @aiZ (And.intro @agT (And.intro @agY (And.intro @ag3 (And.intro @ahf (And.intro @ag5 (And.intro @aha (And.intro @ag4 (And.intro @agX @ahe))))))))))))))))))))))))))))))))))))) :=
 And.intro @ahm (And.intro @adw (And.intro @YH (And.intro @Qj (And.intro @aho (And.intro @WO (And.intro @WY (And.intro @aiT (And.intro @adH (And.intro @aeg (And.intro @afh (And.intro @ab1 (And.intro @abU (And.intro @aam (And.intro @VI (And.intro @ahg (And.intro @ai7 (And.intro @abp (And.intro @adv (And.intro @aeE (And.intro @aey (And.intro @ahh (And.intro @adK (And.intro @ajf (And.intro @ahs (And.intro @aiY (And.intro @aiV (And.intro @aja (And.intro @aiZ (And.intro @agT (And.intro @agY (And.intro @ag3 (And.intro @ahf (And.intro @ag5 (And.intro @aha (And.intro @ag4 (And.intro @agX @ahe))))))))))))))))))))))))))))))))))))
end Go.Abs
namespace Go.Proofs.Ytbgcphbbchndkaa
open Go.Abs
def nameB (n : Int) : Bool := decide (n = 0) || kM n
theorem aeP {n : Int} (h : n < 0) : kM n = false := by
 rw [Bool.eq_false_iff]; intro h2; have := xE.1 h2; omega
theorem afS (n : Int) : decide (0 < Yl n) = kM n := by
 rw [Bool.eq_iff_iff, decide_eq_true_eq]
 unfold Yl
 constructor
 ·
  intro h; split at h
  ·
   assumption
  ·
   omega
 ·
  intro h
  have := xE.1 h
  rw [if_pos h]; omega
theorem jy.v {n : Int} (hn : n < 9223372036854775808) (S : zk) : jc Try.prog O jy.id [.int .i64 n] S = some (.bool (nameB n), S) := by
 obtain ⟨T, hTe⟩ : ∃ T, T = (.int .i64 n :: undef :: undef :: undef :: undef :: undef :: undef :: undef :: undef :: undef :: undef :: undef :: undef :: undef :: undef :: undef :: undef :: undef :: undef :: []) := ⟨_, rfl⟩
 have hr : zF Try.prog O false jy.code T S = zF Try.prog O false jy.code T S := rfl
 have c1 := fun S => jd.v n hn S
 obtain ⟨a, b, c, e⟩ : ∃ a b c, aai n = .tuple #[.int .i64 a, .int .i64 b, .int .i64 c, .bool (kM n)] := by
  unfold aai
  by_cases h : n < 0
  ·
   exact ⟨0, 0, 0, by rw [if_pos h, aeP h]⟩
  ·
   exact ⟨_, _, _, by rw [if_neg h]⟩
 rw [e] at c1
 unfold nameB
 conv at hr =>
  rhs
  rw [hTe]
  simp only [jy.code, jy.rs, zSs, reduceIte, Nat.reduceEqDiff, Int.reduceEq, Int.reduceLT, Int.reduceLE, c1, gvw]
 rw [hTe] at hr
 exact jy.runs hr (.inr rfl)
theorem jA.v {b : vF} (hb : b.Ok) (S : zk) : jc Try.prog O jA.id [bv b] S = some (.bool (ZB b bk0), S) := by
 obtain ⟨T, hTe⟩ : ∃ T, T = (bv b :: undef :: undef :: undef :: undef :: undef :: []) := ⟨_, rfl⟩
 have hr : zF Try.prog O false jA.code T zk.empty = zF Try.prog O false jA.code T zk.empty := rfl
 have c1 : ∀ S, jc Try.prog O 31 [bv b, .agg [Value.int .i64 0, .int .i64 0, .int .i64 0, .int .i64 0, .slice none 0 0].toArray] S = some (.bool (ZB b bk0), S) := fun S => jm.v hb ok0 S
 conv at hr =>
  rhs
  rw [hTe]
  simp only [jA.code, jA.rs, zSs, reduceIte, Nat.reduceEqDiff, Int.reduceEq, Int.reduceLT, Int.reduceLE, J6, adh (qN b) hb.ne, Jy, c1]
 rw [hTe] at hr
 exact jA.runs hr (.inr rfl) (all1 (yK hb.okl.le)) rfl
def vw (m : wP) : Bool := ((!decide (m.kind = 0) && !decide (m.tx = ⟨0, 0⟩)) || (!decide (m.kind = 1) && !ZB m.b bk0)) || (!decide (m.kind = 3) && !decide (m.prep = 0))
def Vh (m : wP) : Bool := decide (0 ≤ m.index) && decide (m.index ≤ 1000)
def vwB (m : wP) : Bool := decide (0 ≤ m.view) && decide (m.view ≤ 1000)
def vK (m : wP) : Bool :=
 if m.kind = 0 then ((decide (m.index = 0) && decide (m.view = 0)) && decide (m.value = 0)) && yV m.tx
 else if m.kind = 1 then ((decide (m.index = 0) && decide (m.view = 0)) && decide (m.value = 0)) && jZ m.b
 else if m.kind = 2 then (decide (m.index = 0) && decide (m.view = 0)) && nameB m.value
 else if m.kind = 3 then ((((Vh m) && (vwB m)) && nameB m.value) && decide (-1 ≤ m.prep)) && decide (m.prep < m.view)
 else if m.kind = 4 ∨ m.kind = 5 then ((Vh m) && (vwB m)) && (decide (m.value = -1) || nameB m.value)
 else if m.kind = 6 then ((Vh m) && decide (m.view = 0)) && nameB m.value
 else false
def xO (m : wP) : Bool := if decide (m.frm < 0) || decide (6 < m.frm) then false else if vw m then false else vK m
theorem JA (t u : TxV) (S : zk) : wu Try.prog .neq 25 (tv t) (tv u) S = some (.bool (!decide (t = u)), S) := (adl t u S).2
theorem zh.v0 {m : wP} (hm : m.Ok) (hk : m.kind = 0) (S : zk) : jc Try.prog O zh.id [mv m] S = some (.bool (xO m), S) := by
 obtain ⟨T, hTe⟩ : ∃ T, T = (mv m :: undef :: undef :: undef :: undef :: undef :: undef :: undef :: undef :: undef :: undef :: undef :: undef :: undef :: undef :: undef :: undef :: undef :: undef :: undef :: undef :: undef :: undef :: undef :: undef :: undef :: undef :: undef :: undef :: undef :: undef :: undef :: undef :: undef :: undef :: undef :: undef :: undef :: undef :: undef :: undef :: undef :: undef :: undef :: undef :: undef :: undef :: undef :: undef :: undef :: undef :: undef :: undef :: undef :: undef :: undef :: undef :: undef :: undef :: undef :: undef :: undef :: undef :: undef :: undef :: undef :: undef :: undef :: undef :: undef :: undef :: undef :: undef :: undef :: undef :: undef :: undef :: undef :: undef :: undef :: undef :: undef :: undef :: undef :: undef :: undef :: undef :: undef :: undef :: undef :: undef :: undef :: undef :: undef :: undef :: undef :: undef :: undef :: undef :: undef :: undef :: undef :: undef :: undef :: undef :: undef :: undef :: undef :: undef :: undef :: undef :: undef :: undef :: undef :: undef :: undef :: undef :: undef :: undef :: undef :: undef :: undef :: undef :: undef :: undef :: undef :: undef :: undef :: undef :: undef :: undef :: undef :: undef :: undef :: undef :: undef :: undef :: undef :: undef :: undef :: undef :: undef :: undef :: undef :: undef :: undef :: undef :: undef :: undef :: undef :: undef :: undef :: undef :: undef :: undef :: undef :: undef :: undef :: undef :: undef :: undef :: undef :: undef :: undef :: undef :: undef :: undef :: undef :: undef :: []) := ⟨_, rfl⟩
 have hr : zF Try.prog O false zh.code T zk.empty = zF Try.prog O false zh.code T zk.empty := rfl
 have g0 := kN m
 have c1 := fun S => jA.v hm.b S
 have c2 := fun S => jy.v hm.value.2 S
 have c3 := fun S => jl.v m.tx S
 have c4 := fun S => zA.v hm.b S
 have hc : [mv m].all (jH 16) = true := all1 (wX hm.b.okl.le)
 have eT : ∀ S, wu Try.prog .neq 25 (tv m.tx) (.agg [Value.int .i64 0, .int .i64 0].toArray) S = some (.bool (!decide (m.tx = ⟨0, 0⟩)), S) := fun S => JA m.tx ⟨0, 0⟩ S
 have k0 : decide (m.kind = 0) = true := decide_eq_true hk
 have k1 : decide (m.kind = 1) = false := decide_eq_false (by omega)
 have k2 : decide (m.kind = 2) = false := decide_eq_false (by omega)
 have k3 : decide (m.kind = 3) = false := decide_eq_false (by omega)
 have k4 : decide (m.kind = 4) = false := decide_eq_false (by omega)
 have k5 : decide (m.kind = 5) = false := decide_eq_false (by omega)
 have k6 : decide (m.kind = 6) = false := decide_eq_false (by omega)
 have ek : vK m = (((decide (m.index = 0) && decide (m.view = 0)) && decide (m.value = 0)) && yV m.tx) := by simp only [vK, hk, Vh, vwB, Int.reduceEq, if_true, if_false, reduceIte, or_true, true_or, or_false, or_self]
 unfold xO
 rw [ek]
 obtain ⟨c, hc0⟩ : ∃ b, (decide (m.frm < 0) || decide (6 < m.frm)) = b := ⟨_, rfl⟩
 obtain ⟨d, hd⟩ : ∃ b, vw m = b := ⟨_, rfl⟩
 have hd2 := hd
 unfold vw at hd2
 simp only [k0, k1, k2, k3, k4, k5, k6, Bool.not_true, Bool.not_false, Bool.true_and, Bool.false_and, Bool.or_false, Bool.false_or] at hd2
 rw [hc0, hd]
 cases c
 ·
  cases d
  ·
   simp only [Bool.false_eq_true, if_false]
   conv at hr =>
    rhs
    rw [hTe]
    simp only [zh.code, zh.rs, zSs, reduceIte, Nat.reduceEqDiff, Int.reduceEq, Int.reduceLT, Int.reduceLE, kY, zD, zN, zT, zV, zK, zZ, zX, zY, wz g0, wQ g0, wU g0, yc g0, wL g0, yA g0, yG g0, yL g0 hm.b.ne, jS, eT, c1, c2, c3, c4, zn (zD _ _ _), zn (zN _ _ _), zn (zT _ _ _), zn (zV _ _ _), zn (zK _ _ _), zn (zZ _ _ _), zn (zX _ _ _), zn (zY _ _ _), zn (wz g0), zn (wQ g0), zn (wU g0), zn (yc g0), zn (wL g0), zn (yA g0), zn (yG g0), zn (yL g0 hm.b.ne), zn (jS _), zn (eT _), zn (c1 _), zn (c2 _), zn (c3 _), zn (c4 _), gvw, k0, k1, k2, k3, k4, k5, k6, hc0, hd2, Bool.not_true, Bool.not_false, Bool.true_and, Bool.false_and, Bool.or_false, Bool.false_or]
   rw [hTe] at hr
   exact zh.runs hr (.inr rfl) hc rfl
  ·
   simp only [Bool.false_eq_true, if_false, if_true]
   conv at hr =>
    rhs
    rw [hTe]
    simp only [zh.code, zh.rs, zSs, reduceIte, Nat.reduceEqDiff, Int.reduceEq, Int.reduceLT, Int.reduceLE, kY, zD, zN, zT, zV, zK, zZ, zX, zY, wz g0, wQ g0, wU g0, yc g0, wL g0, yA g0, yG g0, yL g0 hm.b.ne, jS, eT, c1, c2, c3, c4, zn (zD _ _ _), zn (zN _ _ _), zn (zT _ _ _), zn (zV _ _ _), zn (zK _ _ _), zn (zZ _ _ _), zn (zX _ _ _), zn (zY _ _ _), zn (wz g0), zn (wQ g0), zn (wU g0), zn (yc g0), zn (wL g0), zn (yA g0), zn (yG g0), zn (yL g0 hm.b.ne), zn (jS _), zn (eT _), zn (c1 _), zn (c2 _), zn (c3 _), zn (c4 _), gvw, k0, k1, k2, k3, k4, k5, k6, hc0, hd2, Bool.not_true, Bool.not_false, Bool.true_and, Bool.false_and, Bool.or_false, Bool.false_or]
   rw [hTe] at hr
   exact zh.runs hr (.inr rfl) hc rfl
 ·
  simp only [if_true]
  conv at hr =>
   rhs
   rw [hTe]
   simp only [zh.code, zh.rs, zSs, reduceIte, Nat.reduceEqDiff, Int.reduceEq, Int.reduceLT, Int.reduceLE, kY, zD, zN, zT, zV, zK, zZ, zX, zY, wz g0, wQ g0, wU g0, yc g0, wL g0, yA g0, yG g0, yL g0 hm.b.ne, jS, eT, c1, c2, c3, c4, zn (zD _ _ _), zn (zN _ _ _), zn (zT _ _ _), zn (zV _ _ _), zn (zK _ _ _), zn (zZ _ _ _), zn (zX _ _ _), zn (zY _ _ _), zn (wz g0), zn (wQ g0), zn (wU g0), zn (yc g0), zn (wL g0), zn (yA g0), zn (yG g0), zn (yL g0 hm.b.ne), zn (jS _), zn (eT _), zn (c1 _), zn (c2 _), zn (c3 _), zn (c4 _), gvw, k0, k1, k2, k3, k4, k5, k6, hc0]
  rw [hTe] at hr
  exact zh.runs hr (.inr rfl) hc rfl
theorem zh.v1 {m : wP} (hm : m.Ok) (hk : m.kind = 1) (S : zk) : jc Try.prog O zh.id [mv m] S = some (.bool (xO m), S) := by
 obtain ⟨T, hTe⟩ : ∃ T, T = (mv m :: undef :: undef :: undef :: undef :: undef :: undef :: undef :: undef :: undef :: undef :: undef :: undef :: undef :: undef :: undef :: undef :: undef :: undef :: undef :: undef :: undef :: undef :: undef :: undef :: undef :: undef :: undef :: undef :: undef :: undef :: undef :: undef :: undef :: undef :: undef :: undef :: undef :: undef :: undef :: undef :: undef :: undef :: undef :: undef :: undef :: undef :: undef :: undef :: undef :: undef :: undef :: undef :: undef :: undef :: undef :: undef :: undef :: undef :: undef :: undef :: undef :: undef :: undef :: undef :: undef :: undef :: undef :: undef :: undef :: undef :: undef :: undef :: undef :: undef :: undef :: undef :: undef :: undef :: undef :: undef :: undef :: undef :: undef :: undef :: undef :: undef :: undef :: undef :: undef :: undef :: undef :: undef :: undef :: undef :: undef :: undef :: undef :: undef :: undef :: undef :: undef :: undef :: undef :: undef :: undef :: undef :: undef :: undef :: undef :: undef :: undef :: undef :: undef :: undef :: undef :: undef :: undef :: undef :: undef :: undef :: undef :: undef :: undef :: undef :: undef :: undef :: undef :: undef :: undef :: undef :: undef :: undef :: undef :: undef :: undef :: undef :: undef :: undef :: undef :: undef :: undef :: undef :: undef :: undef :: undef :: undef :: undef :: undef :: undef :: undef :: undef :: undef :: undef :: undef :: undef :: undef :: undef :: undef :: undef :: undef :: undef :: undef :: undef :: undef :: undef :: undef :: undef :: undef :: []) := ⟨_, rfl⟩
 have hr : zF Try.prog O false zh.code T zk.empty = zF Try.prog O false zh.code T zk.empty := rfl
 have g0 := kN m
 have c1 := fun S => jA.v hm.b S
 have c2 := fun S => jy.v hm.value.2 S
 have c3 := fun S => jl.v m.tx S
 have c4 := fun S => zA.v hm.b S
 have hc : [mv m].all (jH 16) = true := all1 (wX hm.b.okl.le)
 have eT : ∀ S, wu Try.prog .neq 25 (tv m.tx) (.agg [Value.int .i64 0, .int .i64 0].toArray) S = some (.bool (!decide (m.tx = ⟨0, 0⟩)), S) := fun S => JA m.tx ⟨0, 0⟩ S
 have k0 : decide (m.kind = 0) = false := decide_eq_false (by omega)
 have k1 : decide (m.kind = 1) = true := decide_eq_true hk
 have k2 : decide (m.kind = 2) = false := decide_eq_false (by omega)
 have k3 : decide (m.kind = 3) = false := decide_eq_false (by omega)
 have k4 : decide (m.kind = 4) = false := decide_eq_false (by omega)
 have k5 : decide (m.kind = 5) = false := decide_eq_false (by omega)
 have k6 : decide (m.kind = 6) = false := decide_eq_false (by omega)
 have ek : vK m = (((decide (m.index = 0) && decide (m.view = 0)) && decide (m.value = 0)) && jZ m.b) := by simp only [vK, hk, Vh, vwB, Int.reduceEq, if_true, if_false, reduceIte, or_true, true_or, or_false, or_self]
 unfold xO
 rw [ek]
 obtain ⟨c, hc0⟩ : ∃ b, (decide (m.frm < 0) || decide (6 < m.frm)) = b := ⟨_, rfl⟩
 obtain ⟨d, hd⟩ : ∃ b, vw m = b := ⟨_, rfl⟩
 have hd2 := hd
 unfold vw at hd2
 simp only [k0, k1, k2, k3, k4, k5, k6, Bool.not_true, Bool.not_false, Bool.true_and, Bool.false_and, Bool.or_false, Bool.false_or] at hd2
 rw [hc0, hd]
 cases c
 ·
  cases d
  ·
   simp only [Bool.false_eq_true, if_false]
   conv at hr =>
    rhs
    rw [hTe]
    simp only [zh.code, zh.rs, zSs, reduceIte, Nat.reduceEqDiff, Int.reduceEq, Int.reduceLT, Int.reduceLE, kY, zD, zN, zT, zV, zK, zZ, zX, zY, wz g0, wQ g0, wU g0, yc g0, wL g0, yA g0, yG g0, yL g0 hm.b.ne, jS, eT, c1, c2, c3, c4, zn (zD _ _ _), zn (zN _ _ _), zn (zT _ _ _), zn (zV _ _ _), zn (zK _ _ _), zn (zZ _ _ _), zn (zX _ _ _), zn (zY _ _ _), zn (wz g0), zn (wQ g0), zn (wU g0), zn (yc g0), zn (wL g0), zn (yA g0), zn (yG g0), zn (yL g0 hm.b.ne), zn (jS _), zn (eT _), zn (c1 _), zn (c2 _), zn (c3 _), zn (c4 _), gvw, k0, k1, k2, k3, k4, k5, k6, hc0, hd2, Bool.not_true, Bool.not_false, Bool.true_and, Bool.false_and, Bool.or_false, Bool.false_or]
   rw [hTe] at hr
   exact zh.runs hr (.inr rfl) hc rfl
  ·
   simp only [Bool.false_eq_true, if_false, if_true]
   conv at hr =>
    rhs
    rw [hTe]
    simp only [zh.code, zh.rs, zSs, reduceIte, Nat.reduceEqDiff, Int.reduceEq, Int.reduceLT, Int.reduceLE, kY, zD, zN, zT, zV, zK, zZ, zX, zY, wz g0, wQ g0, wU g0, yc g0, wL g0, yA g0, yG g0, yL g0 hm.b.ne, jS, eT, c1, c2, c3, c4, zn (zD _ _ _), zn (zN _ _ _), zn (zT _ _ _), zn (zV _ _ _), zn (zK _ _ _), zn (zZ _ _ _), zn (zX _ _ _), zn (zY _ _ _), zn (wz g0), zn (wQ g0), zn (wU g0), zn (yc g0), zn (wL g0), zn (yA g0), zn (yG g0), zn (yL g0 hm.b.ne), zn (jS _), zn (eT _), zn (c1 _), zn (c2 _), zn (c3 _), zn (c4 _), gvw, k0, k1, k2, k3, k4, k5, k6, hc0, hd2, Bool.not_true, Bool.not_false, Bool.true_and, Bool.false_and, Bool.or_false, Bool.false_or]
   rw [hTe] at hr
   exact zh.runs hr (.inr rfl) hc rfl
 ·
  simp only [if_true]
  conv at hr =>
   rhs
   rw [hTe]
   simp only [zh.code, zh.rs, zSs, reduceIte, Nat.reduceEqDiff, Int.reduceEq, Int.reduceLT, Int.reduceLE, kY, zD, zN, zT, zV, zK, zZ, zX, zY, wz g0, wQ g0, wU g0, yc g0, wL g0, yA g0, yG g0, yL g0 hm.b.ne, jS, eT, c1, c2, c3, c4, zn (zD _ _ _), zn (zN _ _ _), zn (zT _ _ _), zn (zV _ _ _), zn (zK _ _ _), zn (zZ _ _ _), zn (zX _ _ _), zn (zY _ _ _), zn (wz g0), zn (wQ g0), zn (wU g0), zn (yc g0), zn (wL g0), zn (yA g0), zn (yG g0), zn (yL g0 hm.b.ne), zn (jS _), zn (eT _), zn (c1 _), zn (c2 _), zn (c3 _), zn (c4 _), gvw, k0, k1, k2, k3, k4, k5, k6, hc0]
  rw [hTe] at hr
  exact zh.runs hr (.inr rfl) hc rfl
theorem zh.v2 {m : wP} (hm : m.Ok) (hk : m.kind = 2) (S : zk) : jc Try.prog O zh.id [mv m] S = some (.bool (xO m), S) := by
 obtain ⟨T, hTe⟩ : ∃ T, T = (mv m :: undef :: undef :: undef :: undef :: undef :: undef :: undef :: undef :: undef :: undef :: undef :: undef :: undef :: undef :: undef :: undef :: undef :: undef :: undef :: undef :: undef :: undef :: undef :: undef :: undef :: undef :: undef :: undef :: undef :: undef :: undef :: undef :: undef :: undef :: undef :: undef :: undef :: undef :: undef :: undef :: undef :: undef :: undef :: undef :: undef :: undef :: undef :: undef :: undef :: undef :: undef :: undef :: undef :: undef :: undef :: undef :: undef :: undef :: undef :: undef :: undef :: undef :: undef :: undef :: undef :: undef :: undef :: undef :: undef :: undef :: undef :: undef :: undef :: undef :: undef :: undef :: undef :: undef :: undef :: undef :: undef :: undef :: undef :: undef :: undef :: undef :: undef :: undef :: undef :: undef :: undef :: undef :: undef :: undef :: undef :: undef :: undef :: undef :: undef :: undef :: undef :: undef :: undef :: undef :: undef :: undef :: undef :: undef :: undef :: undef :: undef :: undef :: undef :: undef :: undef :: undef :: undef :: undef :: undef :: undef :: undef :: undef :: undef :: undef :: undef :: undef :: undef :: undef :: undef :: undef :: undef :: undef :: undef :: undef :: undef :: undef :: undef :: undef :: undef :: undef :: undef :: undef :: undef :: undef :: undef :: undef :: undef :: undef :: undef :: undef :: undef :: undef :: undef :: undef :: undef :: undef :: undef :: undef :: undef :: undef :: undef :: undef :: undef :: undef :: undef :: undef :: undef :: undef :: []) := ⟨_, rfl⟩
 have hr : zF Try.prog O false zh.code T zk.empty = zF Try.prog O false zh.code T zk.empty := rfl
 have g0 := kN m
 have c1 := fun S => jA.v hm.b S
 have c2 := fun S => jy.v hm.value.2 S
 have c3 := fun S => jl.v m.tx S
 have c4 := fun S => zA.v hm.b S
 have hc : [mv m].all (jH 16) = true := all1 (wX hm.b.okl.le)
 have eT : ∀ S, wu Try.prog .neq 25 (tv m.tx) (.agg [Value.int .i64 0, .int .i64 0].toArray) S = some (.bool (!decide (m.tx = ⟨0, 0⟩)), S) := fun S => JA m.tx ⟨0, 0⟩ S
 have k0 : decide (m.kind = 0) = false := decide_eq_false (by omega)
 have k1 : decide (m.kind = 1) = false := decide_eq_false (by omega)
 have k2 : decide (m.kind = 2) = true := decide_eq_true hk
 have k3 : decide (m.kind = 3) = false := decide_eq_false (by omega)
 have k4 : decide (m.kind = 4) = false := decide_eq_false (by omega)
 have k5 : decide (m.kind = 5) = false := decide_eq_false (by omega)
 have k6 : decide (m.kind = 6) = false := decide_eq_false (by omega)
 have ek : vK m = ((decide (m.index = 0) && decide (m.view = 0)) && nameB m.value) := by simp only [vK, hk, Vh, vwB, Int.reduceEq, if_true, if_false, reduceIte, or_true, true_or, or_false, or_self]
 unfold xO
 rw [ek]
 obtain ⟨c, hc0⟩ : ∃ b, (decide (m.frm < 0) || decide (6 < m.frm)) = b := ⟨_, rfl⟩
 obtain ⟨d, hd⟩ : ∃ b, vw m = b := ⟨_, rfl⟩
 have hd2 := hd
 unfold vw at hd2
 simp only [k0, k1, k2, k3, k4, k5, k6, Bool.not_true, Bool.not_false, Bool.true_and, Bool.false_and, Bool.or_false, Bool.false_or] at hd2
 rw [hc0, hd]
 cases c
 ·
  cases d
  ·
   simp only [Bool.false_eq_true, if_false]
   conv at hr =>
    rhs
    rw [hTe]
    simp only [zh.code, zh.rs, zSs, reduceIte, Nat.reduceEqDiff, Int.reduceEq, Int.reduceLT, Int.reduceLE, kY, zD, zN, zT, zV, zK, zZ, zX, zY, wz g0, wQ g0, wU g0, yc g0, wL g0, yA g0, yG g0, yL g0 hm.b.ne, jS, eT, c1, c2, c3, c4, zn (zD _ _ _), zn (zN _ _ _), zn (zT _ _ _), zn (zV _ _ _), zn (zK _ _ _), zn (zZ _ _ _), zn (zX _ _ _), zn (zY _ _ _), zn (wz g0), zn (wQ g0), zn (wU g0), zn (yc g0), zn (wL g0), zn (yA g0), zn (yG g0), zn (yL g0 hm.b.ne), zn (jS _), zn (eT _), zn (c1 _), zn (c2 _), zn (c3 _), zn (c4 _), gvw, k0, k1, k2, k3, k4, k5, k6, hc0, hd2, Bool.not_true, Bool.not_false, Bool.true_and, Bool.false_and, Bool.or_false, Bool.false_or]
   rw [hTe] at hr
   exact zh.runs hr (.inr rfl) hc rfl
  ·
   simp only [Bool.false_eq_true, if_false, if_true]
   conv at hr =>
    rhs
    rw [hTe]
    simp only [zh.code, zh.rs, zSs, reduceIte, Nat.reduceEqDiff, Int.reduceEq, Int.reduceLT, Int.reduceLE, kY, zD, zN, zT, zV, zK, zZ, zX, zY, wz g0, wQ g0, wU g0, yc g0, wL g0, yA g0, yG g0, yL g0 hm.b.ne, jS, eT, c1, c2, c3, c4, zn (zD _ _ _), zn (zN _ _ _), zn (zT _ _ _), zn (zV _ _ _), zn (zK _ _ _), zn (zZ _ _ _), zn (zX _ _ _), zn (zY _ _ _), zn (wz g0), zn (wQ g0), zn (wU g0), zn (yc g0), zn (wL g0), zn (yA g0), zn (yG g0), zn (yL g0 hm.b.ne), zn (jS _), zn (eT _), zn (c1 _), zn (c2 _), zn (c3 _), zn (c4 _), gvw, k0, k1, k2, k3, k4, k5, k6, hc0, hd2, Bool.not_true, Bool.not_false, Bool.true_and, Bool.false_and, Bool.or_false, Bool.false_or]
   rw [hTe] at hr
   exact zh.runs hr (.inr rfl) hc rfl
 ·
  simp only [if_true]
  conv at hr =>
   rhs
   rw [hTe]
   simp only [zh.code, zh.rs, zSs, reduceIte, Nat.reduceEqDiff, Int.reduceEq, Int.reduceLT, Int.reduceLE, kY, zD, zN, zT, zV, zK, zZ, zX, zY, wz g0, wQ g0, wU g0, yc g0, wL g0, yA g0, yG g0, yL g0 hm.b.ne, jS, eT, c1, c2, c3, c4, zn (zD _ _ _), zn (zN _ _ _), zn (zT _ _ _), zn (zV _ _ _), zn (zK _ _ _), zn (zZ _ _ _), zn (zX _ _ _), zn (zY _ _ _), zn (wz g0), zn (wQ g0), zn (wU g0), zn (yc g0), zn (wL g0), zn (yA g0), zn (yG g0), zn (yL g0 hm.b.ne), zn (jS _), zn (eT _), zn (c1 _), zn (c2 _), zn (c3 _), zn (c4 _), gvw, k0, k1, k2, k3, k4, k5, k6, hc0]
  rw [hTe] at hr
  exact zh.runs hr (.inr rfl) hc rfl
theorem zh.v3 {m : wP} (hm : m.Ok) (hk : m.kind = 3) (S : zk) : jc Try.prog O zh.id [mv m] S = some (.bool (xO m), S) := by
 obtain ⟨T, hTe⟩ : ∃ T, T = (mv m :: undef :: undef :: undef :: undef :: undef :: undef :: undef :: undef :: undef :: undef :: undef :: undef :: undef :: undef :: undef :: undef :: undef :: undef :: undef :: undef :: undef :: undef :: undef :: undef :: undef :: undef :: undef :: undef :: undef :: undef :: undef :: undef :: undef :: undef :: undef :: undef :: undef :: undef :: undef :: undef :: undef :: undef :: undef :: undef :: undef :: undef :: undef :: undef :: undef :: undef :: undef :: undef :: undef :: undef :: undef :: undef :: undef :: undef :: undef :: undef :: undef :: undef :: undef :: undef :: undef :: undef :: undef :: undef :: undef :: undef :: undef :: undef :: undef :: undef :: undef :: undef :: undef :: undef :: undef :: undef :: undef :: undef :: undef :: undef :: undef :: undef :: undef :: undef :: undef :: undef :: undef :: undef :: undef :: undef :: undef :: undef :: undef :: undef :: undef :: undef :: undef :: undef :: undef :: undef :: undef :: undef :: undef :: undef :: undef :: undef :: undef :: undef :: undef :: undef :: undef :: undef :: undef :: undef :: undef :: undef :: undef :: undef :: undef :: undef :: undef :: undef :: undef :: undef :: undef :: undef :: undef :: undef :: undef :: undef :: undef :: undef :: undef :: undef :: undef :: undef :: undef :: undef :: undef :: undef :: undef :: undef :: undef :: undef :: undef :: undef :: undef :: undef :: undef :: undef :: undef :: undef :: undef :: undef :: undef :: undef :: undef :: undef :: undef :: undef :: undef :: undef :: undef :: undef :: []) := ⟨_, rfl⟩
 have hr : zF Try.prog O false zh.code T zk.empty = zF Try.prog O false zh.code T zk.empty := rfl
 have g0 := kN m
 have c1 := fun S => jA.v hm.b S
 have c2 := fun S => jy.v hm.value.2 S
 have c3 := fun S => jl.v m.tx S
 have c4 := fun S => zA.v hm.b S
 have hc : [mv m].all (jH 16) = true := all1 (wX hm.b.okl.le)
 have eT : ∀ S, wu Try.prog .neq 25 (tv m.tx) (.agg [Value.int .i64 0, .int .i64 0].toArray) S = some (.bool (!decide (m.tx = ⟨0, 0⟩)), S) := fun S => JA m.tx ⟨0, 0⟩ S
 have k0 : decide (m.kind = 0) = false := decide_eq_false (by omega)
 have k1 : decide (m.kind = 1) = false := decide_eq_false (by omega)
 have k2 : decide (m.kind = 2) = false := decide_eq_false (by omega)
 have k3 : decide (m.kind = 3) = true := decide_eq_true hk
 have k4 : decide (m.kind = 4) = false := decide_eq_false (by omega)
 have k5 : decide (m.kind = 5) = false := decide_eq_false (by omega)
 have k6 : decide (m.kind = 6) = false := decide_eq_false (by omega)
 have ek : vK m = (((((decide (0 ≤ m.index) && decide (m.index ≤ 1000)) && (decide (0 ≤ m.view) && decide (m.view ≤ 1000))) && nameB m.value) && decide (-1 ≤ m.prep)) && decide (m.prep < m.view)) := by simp only [vK, hk, Vh, vwB, Int.reduceEq, if_true, if_false, reduceIte, or_true, true_or, or_false, or_self]
 unfold xO
 rw [ek]
 obtain ⟨c, hc0⟩ : ∃ b, (decide (m.frm < 0) || decide (6 < m.frm)) = b := ⟨_, rfl⟩
 obtain ⟨d, hd⟩ : ∃ b, vw m = b := ⟨_, rfl⟩
 have hd2 := hd
 unfold vw at hd2
 simp only [k0, k1, k2, k3, k4, k5, k6, Bool.not_true, Bool.not_false, Bool.true_and, Bool.false_and, Bool.or_false, Bool.false_or] at hd2
 rw [hc0, hd]
 cases c
 ·
  cases d
  ·
   simp only [Bool.false_eq_true, if_false]
   conv at hr =>
    rhs
    rw [hTe]
    simp only [zh.code, zh.rs, zSs, reduceIte, Nat.reduceEqDiff, Int.reduceEq, Int.reduceLT, Int.reduceLE, kY, zD, zN, zT, zV, zK, zZ, zX, zY, wz g0, wQ g0, wU g0, yc g0, wL g0, yA g0, yG g0, yL g0 hm.b.ne, jS, eT, c1, c2, c3, c4, zn (zD _ _ _), zn (zN _ _ _), zn (zT _ _ _), zn (zV _ _ _), zn (zK _ _ _), zn (zZ _ _ _), zn (zX _ _ _), zn (zY _ _ _), zn (wz g0), zn (wQ g0), zn (wU g0), zn (yc g0), zn (wL g0), zn (yA g0), zn (yG g0), zn (yL g0 hm.b.ne), zn (jS _), zn (eT _), zn (c1 _), zn (c2 _), zn (c3 _), zn (c4 _), gvw, k0, k1, k2, k3, k4, k5, k6, hc0, hd2, Bool.not_true, Bool.not_false, Bool.true_and, Bool.false_and, Bool.or_false, Bool.false_or]
   rw [hTe] at hr
   exact zh.runs hr (.inr rfl) hc rfl
  ·
   simp only [Bool.false_eq_true, if_false, if_true]
   conv at hr =>
    rhs
    rw [hTe]
    simp only [zh.code, zh.rs, zSs, reduceIte, Nat.reduceEqDiff, Int.reduceEq, Int.reduceLT, Int.reduceLE, kY, zD, zN, zT, zV, zK, zZ, zX, zY, wz g0, wQ g0, wU g0, yc g0, wL g0, yA g0, yG g0, yL g0 hm.b.ne, jS, eT, c1, c2, c3, c4, zn (zD _ _ _), zn (zN _ _ _), zn (zT _ _ _), zn (zV _ _ _), zn (zK _ _ _), zn (zZ _ _ _), zn (zX _ _ _), zn (zY _ _ _), zn (wz g0), zn (wQ g0), zn (wU g0), zn (yc g0), zn (wL g0), zn (yA g0), zn (yG g0), zn (yL g0 hm.b.ne), zn (jS _), zn (eT _), zn (c1 _), zn (c2 _), zn (c3 _), zn (c4 _), gvw, k0, k1, k2, k3, k4, k5, k6, hc0, hd2, Bool.not_true, Bool.not_false, Bool.true_and, Bool.false_and, Bool.or_false, Bool.false_or]
   rw [hTe] at hr
   exact zh.runs hr (.inr rfl) hc rfl
 ·
  simp only [if_true]
  conv at hr =>
   rhs
   rw [hTe]
   simp only [zh.code, zh.rs, zSs, reduceIte, Nat.reduceEqDiff, Int.reduceEq, Int.reduceLT, Int.reduceLE, kY, zD, zN, zT, zV, zK, zZ, zX, zY, wz g0, wQ g0, wU g0, yc g0, wL g0, yA g0, yG g0, yL g0 hm.b.ne, jS, eT, c1, c2, c3, c4, zn (zD _ _ _), zn (zN _ _ _), zn (zT _ _ _), zn (zV _ _ _), zn (zK _ _ _), zn (zZ _ _ _), zn (zX _ _ _), zn (zY _ _ _), zn (wz g0), zn (wQ g0), zn (wU g0), zn (yc g0), zn (wL g0), zn (yA g0), zn (yG g0), zn (yL g0 hm.b.ne), zn (jS _), zn (eT _), zn (c1 _), zn (c2 _), zn (c3 _), zn (c4 _), gvw, k0, k1, k2, k3, k4, k5, k6, hc0]
  rw [hTe] at hr
  exact zh.runs hr (.inr rfl) hc rfl
theorem zh.v4 {m : wP} (hm : m.Ok) (hk : m.kind = 4) (S : zk) : jc Try.prog O zh.id [mv m] S = some (.bool (xO m), S) := by
 obtain ⟨T, hTe⟩ : ∃ T, T = (mv m :: undef :: undef :: undef :: undef :: undef :: undef :: undef :: undef :: undef :: undef :: undef :: undef :: undef :: undef :: undef :: undef :: undef :: undef :: undef :: undef :: undef :: undef :: undef :: undef :: undef :: undef :: undef :: undef :: undef :: undef :: undef :: undef :: undef :: undef :: undef :: undef :: undef :: undef :: undef :: undef :: undef :: undef :: undef :: undef :: undef :: undef :: undef :: undef :: undef :: undef :: undef :: undef :: undef :: undef :: undef :: undef :: undef :: undef :: undef :: undef :: undef :: undef :: undef :: undef :: undef :: undef :: undef :: undef :: undef :: undef :: undef :: undef :: undef :: undef :: undef :: undef :: undef :: undef :: undef :: undef :: undef :: undef :: undef :: undef :: undef :: undef :: undef :: undef :: undef :: undef :: undef :: undef :: undef :: undef :: undef :: undef :: undef :: undef :: undef :: undef :: undef :: undef :: undef :: undef :: undef :: undef :: undef :: undef :: undef :: undef :: undef :: undef :: undef :: undef :: undef :: undef :: undef :: undef :: undef :: undef :: undef :: undef :: undef :: undef :: undef :: undef :: undef :: undef :: undef :: undef :: undef :: undef :: undef :: undef :: undef :: undef :: undef :: undef :: undef :: undef :: undef :: undef :: undef :: undef :: undef :: undef :: undef :: undef :: undef :: undef :: undef :: undef :: undef :: undef :: undef :: undef :: undef :: undef :: undef :: undef :: undef :: undef :: undef :: undef :: undef :: undef :: undef :: undef :: []) := ⟨_, rfl⟩
 have hr : zF Try.prog O false zh.code T zk.empty = zF Try.prog O false zh.code T zk.empty := rfl
 have g0 := kN m
 have c1 := fun S => jA.v hm.b S
 have c2 := fun S => jy.v hm.value.2 S
 have c3 := fun S => jl.v m.tx S
 have c4 := fun S => zA.v hm.b S
 have hc : [mv m].all (jH 16) = true := all1 (wX hm.b.okl.le)
 have eT : ∀ S, wu Try.prog .neq 25 (tv m.tx) (.agg [Value.int .i64 0, .int .i64 0].toArray) S = some (.bool (!decide (m.tx = ⟨0, 0⟩)), S) := fun S => JA m.tx ⟨0, 0⟩ S
 have k0 : decide (m.kind = 0) = false := decide_eq_false (by omega)
 have k1 : decide (m.kind = 1) = false := decide_eq_false (by omega)
 have k2 : decide (m.kind = 2) = false := decide_eq_false (by omega)
 have k3 : decide (m.kind = 3) = false := decide_eq_false (by omega)
 have k4 : decide (m.kind = 4) = true := decide_eq_true hk
 have k5 : decide (m.kind = 5) = false := decide_eq_false (by omega)
 have k6 : decide (m.kind = 6) = false := decide_eq_false (by omega)
 have ek : vK m = (((decide (0 ≤ m.index) && decide (m.index ≤ 1000)) && (decide (0 ≤ m.view) && decide (m.view ≤ 1000))) && (decide (m.value = -1) || nameB m.value)) := by simp only [vK, hk, Vh, vwB, Int.reduceEq, if_true, if_false, reduceIte, or_true, true_or, or_false, or_self]
 unfold xO
 rw [ek]
 obtain ⟨c, hc0⟩ : ∃ b, (decide (m.frm < 0) || decide (6 < m.frm)) = b := ⟨_, rfl⟩
 obtain ⟨d, hd⟩ : ∃ b, vw m = b := ⟨_, rfl⟩
 have hd2 := hd
 unfold vw at hd2
 simp only [k0, k1, k2, k3, k4, k5, k6, Bool.not_true, Bool.not_false, Bool.true_and, Bool.false_and, Bool.or_false, Bool.false_or] at hd2
 rw [hc0, hd]
 cases c
 ·
  cases d
  ·
   simp only [Bool.false_eq_true, if_false]
   conv at hr =>
    rhs
    rw [hTe]
    simp only [zh.code, zh.rs, zSs, reduceIte, Nat.reduceEqDiff, Int.reduceEq, Int.reduceLT, Int.reduceLE, kY, zD, zN, zT, zV, zK, zZ, zX, zY, wz g0, wQ g0, wU g0, yc g0, wL g0, yA g0, yG g0, yL g0 hm.b.ne, jS, eT, c1, c2, c3, c4, zn (zD _ _ _), zn (zN _ _ _), zn (zT _ _ _), zn (zV _ _ _), zn (zK _ _ _), zn (zZ _ _ _), zn (zX _ _ _), zn (zY _ _ _), zn (wz g0), zn (wQ g0), zn (wU g0), zn (yc g0), zn (wL g0), zn (yA g0), zn (yG g0), zn (yL g0 hm.b.ne), zn (jS _), zn (eT _), zn (c1 _), zn (c2 _), zn (c3 _), zn (c4 _), gvw, k0, k1, k2, k3, k4, k5, k6, hc0, hd2, Bool.not_true, Bool.not_false, Bool.true_and, Bool.false_and, Bool.or_false, Bool.false_or]
   rw [hTe] at hr
   exact zh.runs hr (.inr rfl) hc rfl
  ·
   simp only [Bool.false_eq_true, if_false, if_true]
   conv at hr =>
    rhs
    rw [hTe]
    simp only [zh.code, zh.rs, zSs, reduceIte, Nat.reduceEqDiff, Int.reduceEq, Int.reduceLT, Int.reduceLE, kY, zD, zN, zT, zV, zK, zZ, zX, zY, wz g0, wQ g0, wU g0, yc g0, wL g0, yA g0, yG g0, yL g0 hm.b.ne, jS, eT, c1, c2, c3, c4, zn (zD _ _ _), zn (zN _ _ _), zn (zT _ _ _), zn (zV _ _ _), zn (zK _ _ _), zn (zZ _ _ _), zn (zX _ _ _), zn (zY _ _ _), zn (wz g0), zn (wQ g0), zn (wU g0), zn (yc g0), zn (wL g0), zn (yA g0), zn (yG g0), zn (yL g0 hm.b.ne), zn (jS _), zn (eT _), zn (c1 _), zn (c2 _), zn (c3 _), zn (c4 _), gvw, k0, k1, k2, k3, k4, k5, k6, hc0, hd2, Bool.not_true, Bool.not_false, Bool.true_and, Bool.false_and, Bool.or_false, Bool.false_or]
   rw [hTe] at hr
   exact zh.runs hr (.inr rfl) hc rfl
 ·
  simp only [if_true]
  conv at hr =>
   rhs
   rw [hTe]
   simp only [zh.code, zh.rs, zSs, reduceIte, Nat.reduceEqDiff, Int.reduceEq, Int.reduceLT, Int.reduceLE, kY, zD, zN, zT, zV, zK, zZ, zX, zY, wz g0, wQ g0, wU g0, yc g0, wL g0, yA g0, yG g0, yL g0 hm.b.ne, jS, eT, c1, c2, c3, c4, zn (zD _ _ _), zn (zN _ _ _), zn (zT _ _ _), zn (zV _ _ _), zn (zK _ _ _), zn (zZ _ _ _), zn (zX _ _ _), zn (zY _ _ _), zn (wz g0), zn (wQ g0), zn (wU g0), zn (yc g0), zn (wL g0), zn (yA g0), zn (yG g0), zn (yL g0 hm.b.ne), zn (jS _), zn (eT _), zn (c1 _), zn (c2 _), zn (c3 _), zn (c4 _), gvw, k0, k1, k2, k3, k4, k5, k6, hc0]
  rw [hTe] at hr
  exact zh.runs hr (.inr rfl) hc rfl
theorem zh.v5 {m : wP} (hm : m.Ok) (hk : m.kind = 5) (S : zk) : jc Try.prog O zh.id [mv m] S = some (.bool (xO m), S) := by
 obtain ⟨T, hTe⟩ : ∃ T, T = (mv m :: undef :: undef :: undef :: undef :: undef :: undef :: undef :: undef :: undef :: undef :: undef :: undef :: undef :: undef :: undef :: undef :: undef :: undef :: undef :: undef :: undef :: undef :: undef :: undef :: undef :: undef :: undef :: undef :: undef :: undef :: undef :: undef :: undef :: undef :: undef :: undef :: undef :: undef :: undef :: undef :: undef :: undef :: undef :: undef :: undef :: undef :: undef :: undef :: undef :: undef :: undef :: undef :: undef :: undef :: undef :: undef :: undef :: undef :: undef :: undef :: undef :: undef :: undef :: undef :: undef :: undef :: undef :: undef :: undef :: undef :: undef :: undef :: undef :: undef :: undef :: undef :: undef :: undef :: undef :: undef :: undef :: undef :: undef :: undef :: undef :: undef :: undef :: undef :: undef :: undef :: undef :: undef :: undef :: undef :: undef :: undef :: undef :: undef :: undef :: undef :: undef :: undef :: undef :: undef :: undef :: undef :: undef :: undef :: undef :: undef :: undef :: undef :: undef :: undef :: undef :: undef :: undef :: undef :: undef :: undef :: undef :: undef :: undef :: undef :: undef :: undef :: undef :: undef :: undef :: undef :: undef :: undef :: undef :: undef :: undef :: undef :: undef :: undef :: undef :: undef :: undef :: undef :: undef :: undef :: undef :: undef :: undef :: undef :: undef :: undef :: undef :: undef :: undef :: undef :: undef :: undef :: undef :: undef :: undef :: undef :: undef :: undef :: undef :: undef :: undef :: undef :: undef :: undef :: []) := ⟨_, rfl⟩
 have hr : zF Try.prog O false zh.code T zk.empty = zF Try.prog O false zh.code T zk.empty := rfl
 have g0 := kN m
 have c1 := fun S => jA.v hm.b S
 have c2 := fun S => jy.v hm.value.2 S
 have c3 := fun S => jl.v m.tx S
 have c4 := fun S => zA.v hm.b S
 have hc : [mv m].all (jH 16) = true := all1 (wX hm.b.okl.le)
 have eT : ∀ S, wu Try.prog .neq 25 (tv m.tx) (.agg [Value.int .i64 0, .int .i64 0].toArray) S = some (.bool (!decide (m.tx = ⟨0, 0⟩)), S) := fun S => JA m.tx ⟨0, 0⟩ S
 have k0 : decide (m.kind = 0) = false := decide_eq_false (by omega)
 have k1 : decide (m.kind = 1) = false := decide_eq_false (by omega)
 have k2 : decide (m.kind = 2) = false := decide_eq_false (by omega)
 have k3 : decide (m.kind = 3) = false := decide_eq_false (by omega)
 have k4 : decide (m.kind = 4) = false := decide_eq_false (by omega)
 have k5 : decide (m.kind = 5) = true := decide_eq_true hk
 have k6 : decide (m.kind = 6) = false := decide_eq_false (by omega)
 have ek : vK m = (((decide (0 ≤ m.index) && decide (m.index ≤ 1000)) && (decide (0 ≤ m.view) && decide (m.view ≤ 1000))) && (decide (m.value = -1) || nameB m.value)) := by simp only [vK, hk, Vh, vwB, Int.reduceEq, if_true, if_false, reduceIte, or_true, true_or, or_false, or_self]
 unfold xO
 rw [ek]
 obtain ⟨c, hc0⟩ : ∃ b, (decide (m.frm < 0) || decide (6 < m.frm)) = b := ⟨_, rfl⟩
 obtain ⟨d, hd⟩ : ∃ b, vw m = b := ⟨_, rfl⟩
 have hd2 := hd
 unfold vw at hd2
 simp only [k0, k1, k2, k3, k4, k5, k6, Bool.not_true, Bool.not_false, Bool.true_and, Bool.false_and, Bool.or_false, Bool.false_or] at hd2
 rw [hc0, hd]
 cases c
 ·
  cases d
  ·
   simp only [Bool.false_eq_true, if_false]
   conv at hr =>
    rhs
    rw [hTe]
    simp only [zh.code, zh.rs, zSs, reduceIte, Nat.reduceEqDiff, Int.reduceEq, Int.reduceLT, Int.reduceLE, kY, zD, zN, zT, zV, zK, zZ, zX, zY, wz g0, wQ g0, wU g0, yc g0, wL g0, yA g0, yG g0, yL g0 hm.b.ne, jS, eT, c1, c2, c3, c4, zn (zD _ _ _), zn (zN _ _ _), zn (zT _ _ _), zn (zV _ _ _), zn (zK _ _ _), zn (zZ _ _ _), zn (zX _ _ _), zn (zY _ _ _), zn (wz g0), zn (wQ g0), zn (wU g0), zn (yc g0), zn (wL g0), zn (yA g0), zn (yG g0), zn (yL g0 hm.b.ne), zn (jS _), zn (eT _), zn (c1 _), zn (c2 _), zn (c3 _), zn (c4 _), gvw, k0, k1, k2, k3, k4, k5, k6, hc0, hd2, Bool.not_true, Bool.not_false, Bool.true_and, Bool.false_and, Bool.or_false, Bool.false_or]
   rw [hTe] at hr
   exact zh.runs hr (.inr rfl) hc rfl
  ·
   simp only [Bool.false_eq_true, if_false, if_true]
   conv at hr =>
    rhs
    rw [hTe]
    simp only [zh.code, zh.rs, zSs, reduceIte, Nat.reduceEqDiff, Int.reduceEq, Int.reduceLT, Int.reduceLE, kY, zD, zN, zT, zV, zK, zZ, zX, zY, wz g0, wQ g0, wU g0, yc g0, wL g0, yA g0, yG g0, yL g0 hm.b.ne, jS, eT, c1, c2, c3, c4, zn (zD _ _ _), zn (zN _ _ _), zn (zT _ _ _), zn (zV _ _ _), zn (zK _ _ _), zn (zZ _ _ _), zn (zX _ _ _), zn (zY _ _ _), zn (wz g0), zn (wQ g0), zn (wU g0), zn (yc g0), zn (wL g0), zn (yA g0), zn (yG g0), zn (yL g0 hm.b.ne), zn (jS _), zn (eT _), zn (c1 _), zn (c2 _), zn (c3 _), zn (c4 _), gvw, k0, k1, k2, k3, k4, k5, k6, hc0, hd2, Bool.not_true, Bool.not_false, Bool.true_and, Bool.false_and, Bool.or_false, Bool.false_or]
   rw [hTe] at hr
   exact zh.runs hr (.inr rfl) hc rfl
 ·
  simp only [if_true]
  conv at hr =>
   rhs
   rw [hTe]
   simp only [zh.code, zh.rs, zSs, reduceIte, Nat.reduceEqDiff, Int.reduceEq, Int.reduceLT, Int.reduceLE, kY, zD, zN, zT, zV, zK, zZ, zX, zY, wz g0, wQ g0, wU g0, yc g0, wL g0, yA g0, yG g0, yL g0 hm.b.ne, jS, eT, c1, c2, c3, c4, zn (zD _ _ _), zn (zN _ _ _), zn (zT _ _ _), zn (zV _ _ _), zn (zK _ _ _), zn (zZ _ _ _), zn (zX _ _ _), zn (zY _ _ _), zn (wz g0), zn (wQ g0), zn (wU g0), zn (yc g0), zn (wL g0), zn (yA g0), zn (yG g0), zn (yL g0 hm.b.ne), zn (jS _), zn (eT _), zn (c1 _), zn (c2 _), zn (c3 _), zn (c4 _), gvw, k0, k1, k2, k3, k4, k5, k6, hc0]
  rw [hTe] at hr
  exact zh.runs hr (.inr rfl) hc rfl
theorem zh.v6 {m : wP} (hm : m.Ok) (hk : m.kind = 6) (S : zk) : jc Try.prog O zh.id [mv m] S = some (.bool (xO m), S) := by
 obtain ⟨T, hTe⟩ : ∃ T, T = (mv m :: undef :: undef :: undef :: undef :: undef :: undef :: undef :: undef :: undef :: undef :: undef :: undef :: undef :: undef :: undef :: undef :: undef :: undef :: undef :: undef :: undef :: undef :: undef :: undef :: undef :: undef :: undef :: undef :: undef :: undef :: undef :: undef :: undef :: undef :: undef :: undef :: undef :: undef :: undef :: undef :: undef :: undef :: undef :: undef :: undef :: undef :: undef :: undef :: undef :: undef :: undef :: undef :: undef :: undef :: undef :: undef :: undef :: undef :: undef :: undef :: undef :: undef :: undef :: undef :: undef :: undef :: undef :: undef :: undef :: undef :: undef :: undef :: undef :: undef :: undef :: undef :: undef :: undef :: undef :: undef :: undef :: undef :: undef :: undef :: undef :: undef :: undef :: undef :: undef :: undef :: undef :: undef :: undef :: undef :: undef :: undef :: undef :: undef :: undef :: undef :: undef :: undef :: undef :: undef :: undef :: undef :: undef :: undef :: undef :: undef :: undef :: undef :: undef :: undef :: undef :: undef :: undef :: undef :: undef :: undef :: undef :: undef :: undef :: undef :: undef :: undef :: undef :: undef :: undef :: undef :: undef :: undef :: undef :: undef :: undef :: undef :: undef :: undef :: undef :: undef :: undef :: undef :: undef :: undef :: undef :: undef :: undef :: undef :: undef :: undef :: undef :: undef :: undef :: undef :: undef :: undef :: undef :: undef :: undef :: undef :: undef :: undef :: undef :: undef :: undef :: undef :: undef :: undef :: []) := ⟨_, rfl⟩
 have hr : zF Try.prog O false zh.code T zk.empty = zF Try.prog O false zh.code T zk.empty := rfl
 have g0 := kN m
 have c1 := fun S => jA.v hm.b S
 have c2 := fun S => jy.v hm.value.2 S
 have c3 := fun S => jl.v m.tx S
 have c4 := fun S => zA.v hm.b S
 have hc : [mv m].all (jH 16) = true := all1 (wX hm.b.okl.le)
 have eT : ∀ S, wu Try.prog .neq 25 (tv m.tx) (.agg [Value.int .i64 0, .int .i64 0].toArray) S = some (.bool (!decide (m.tx = ⟨0, 0⟩)), S) := fun S => JA m.tx ⟨0, 0⟩ S
 have k0 : decide (m.kind = 0) = false := decide_eq_false (by omega)
 have k1 : decide (m.kind = 1) = false := decide_eq_false (by omega)
 have k2 : decide (m.kind = 2) = false := decide_eq_false (by omega)
 have k3 : decide (m.kind = 3) = false := decide_eq_false (by omega)
 have k4 : decide (m.kind = 4) = false := decide_eq_false (by omega)
 have k5 : decide (m.kind = 5) = false := decide_eq_false (by omega)
 have k6 : decide (m.kind = 6) = true := decide_eq_true hk
 have ek : vK m = (((decide (0 ≤ m.index) && decide (m.index ≤ 1000)) && decide (m.view = 0)) && nameB m.value) := by simp only [vK, hk, Vh, vwB, Int.reduceEq, if_true, if_false, reduceIte, or_true, true_or, or_false, or_self]
 unfold xO
 rw [ek]
 obtain ⟨c, hc0⟩ : ∃ b, (decide (m.frm < 0) || decide (6 < m.frm)) = b := ⟨_, rfl⟩
 obtain ⟨d, hd⟩ : ∃ b, vw m = b := ⟨_, rfl⟩
 have hd2 := hd
 unfold vw at hd2
 simp only [k0, k1, k2, k3, k4, k5, k6, Bool.not_true, Bool.not_false, Bool.true_and, Bool.false_and, Bool.or_false, Bool.false_or] at hd2
 rw [hc0, hd]
 cases c
 ·
  cases d
  ·
   simp only [Bool.false_eq_true, if_false]
   conv at hr =>
    rhs
    rw [hTe]
    simp only [zh.code, zh.rs, zSs, reduceIte, Nat.reduceEqDiff, Int.reduceEq, Int.reduceLT, Int.reduceLE, kY, zD, zN, zT, zV, zK, zZ, zX, zY, wz g0, wQ g0, wU g0, yc g0, wL g0, yA g0, yG g0, yL g0 hm.b.ne, jS, eT, c1, c2, c3, c4, zn (zD _ _ _), zn (zN _ _ _), zn (zT _ _ _), zn (zV _ _ _), zn (zK _ _ _), zn (zZ _ _ _), zn (zX _ _ _), zn (zY _ _ _), zn (wz g0), zn (wQ g0), zn (wU g0), zn (yc g0), zn (wL g0), zn (yA g0), zn (yG g0), zn (yL g0 hm.b.ne), zn (jS _), zn (eT _), zn (c1 _), zn (c2 _), zn (c3 _), zn (c4 _), gvw, k0, k1, k2, k3, k4, k5, k6, hc0, hd2, Bool.not_true, Bool.not_false, Bool.true_and, Bool.false_and, Bool.or_false, Bool.false_or]
   rw [hTe] at hr
   exact zh.runs hr (.inr rfl) hc rfl
  ·
   simp only [Bool.false_eq_true, if_false, if_true]
   conv at hr =>
    rhs
    rw [hTe]
    simp only [zh.code, zh.rs, zSs, reduceIte, Nat.reduceEqDiff, Int.reduceEq, Int.reduceLT, Int.reduceLE, kY, zD, zN, zT, zV, zK, zZ, zX, zY, wz g0, wQ g0, wU g0, yc g0, wL g0, yA g0, yG g0, yL g0 hm.b.ne, jS, eT, c1, c2, c3, c4, zn (zD _ _ _), zn (zN _ _ _), zn (zT _ _ _), zn (zV _ _ _), zn (zK _ _ _), zn (zZ _ _ _), zn (zX _ _ _), zn (zY _ _ _), zn (wz g0), zn (wQ g0), zn (wU g0), zn (yc g0), zn (wL g0), zn (yA g0), zn (yG g0), zn (yL g0 hm.b.ne), zn (jS _), zn (eT _), zn (c1 _), zn (c2 _), zn (c3 _), zn (c4 _), gvw, k0, k1, k2, k3, k4, k5, k6, hc0, hd2, Bool.not_true, Bool.not_false, Bool.true_and, Bool.false_and, Bool.or_false, Bool.false_or]
   rw [hTe] at hr
   exact zh.runs hr (.inr rfl) hc rfl
 ·
  simp only [if_true]
  conv at hr =>
   rhs
   rw [hTe]
   simp only [zh.code, zh.rs, zSs, reduceIte, Nat.reduceEqDiff, Int.reduceEq, Int.reduceLT, Int.reduceLE, kY, zD, zN, zT, zV, zK, zZ, zX, zY, wz g0, wQ g0, wU g0, yc g0, wL g0, yA g0, yG g0, yL g0 hm.b.ne, jS, eT, c1, c2, c3, c4, zn (zD _ _ _), zn (zN _ _ _), zn (zT _ _ _), zn (zV _ _ _), zn (zK _ _ _), zn (zZ _ _ _), zn (zX _ _ _), zn (zY _ _ _), zn (wz g0), zn (wQ g0), zn (wU g0), zn (yc g0), zn (wL g0), zn (yA g0), zn (yG g0), zn (yL g0 hm.b.ne), zn (jS _), zn (eT _), zn (c1 _), zn (c2 _), zn (c3 _), zn (c4 _), gvw, k0, k1, k2, k3, k4, k5, k6, hc0]
  rw [hTe] at hr
  exact zh.runs hr (.inr rfl) hc rfl
theorem zh.v7 {m : wP} (hm : m.Ok) (hk : m.kind < 0 ∨ 6 < m.kind) (S : zk) : jc Try.prog O zh.id [mv m] S = some (.bool (xO m), S) := by
 obtain ⟨T, hTe⟩ : ∃ T, T = (mv m :: undef :: undef :: undef :: undef :: undef :: undef :: undef :: undef :: undef :: undef :: undef :: undef :: undef :: undef :: undef :: undef :: undef :: undef :: undef :: undef :: undef :: undef :: undef :: undef :: undef :: undef :: undef :: undef :: undef :: undef :: undef :: undef :: undef :: undef :: undef :: undef :: undef :: undef :: undef :: undef :: undef :: undef :: undef :: undef :: undef :: undef :: undef :: undef :: undef :: undef :: undef :: undef :: undef :: undef :: undef :: undef :: undef :: undef :: undef :: undef :: undef :: undef :: undef :: undef :: undef :: undef :: undef :: undef :: undef :: undef :: undef :: undef :: undef :: undef :: undef :: undef :: undef :: undef :: undef :: undef :: undef :: undef :: undef :: undef :: undef :: undef :: undef :: undef :: undef :: undef :: undef :: undef :: undef :: undef :: undef :: undef :: undef :: undef :: undef :: undef :: undef :: undef :: undef :: undef :: undef :: undef :: undef :: undef :: undef :: undef :: undef :: undef :: undef :: undef :: undef :: undef :: undef :: undef :: undef :: undef :: undef :: undef :: undef :: undef :: undef :: undef :: undef :: undef :: undef :: undef :: undef :: undef :: undef :: undef :: undef :: undef :: undef :: undef :: undef :: undef :: undef :: undef :: undef :: undef :: undef :: undef :: undef :: undef :: undef :: undef :: undef :: undef :: undef :: undef :: undef :: undef :: undef :: undef :: undef :: undef :: undef :: undef :: undef :: undef :: undef :: undef :: undef :: undef :: []) := ⟨_, rfl⟩
 have hr : zF Try.prog O false zh.code T zk.empty = zF Try.prog O false zh.code T zk.empty := rfl
 have g0 := kN m
 have c1 := fun S => jA.v hm.b S
 have c2 := fun S => jy.v hm.value.2 S
 have c3 := fun S => jl.v m.tx S
 have c4 := fun S => zA.v hm.b S
 have hc : [mv m].all (jH 16) = true := all1 (wX hm.b.okl.le)
 have eT : ∀ S, wu Try.prog .neq 25 (tv m.tx) (.agg [Value.int .i64 0, .int .i64 0].toArray) S = some (.bool (!decide (m.tx = ⟨0, 0⟩)), S) := fun S => JA m.tx ⟨0, 0⟩ S
 have k0 : decide (m.kind = 0) = false := decide_eq_false (by omega)
 have k1 : decide (m.kind = 1) = false := decide_eq_false (by omega)
 have k2 : decide (m.kind = 2) = false := decide_eq_false (by omega)
 have k3 : decide (m.kind = 3) = false := decide_eq_false (by omega)
 have k4 : decide (m.kind = 4) = false := decide_eq_false (by omega)
 have k5 : decide (m.kind = 5) = false := decide_eq_false (by omega)
 have k6 : decide (m.kind = 6) = false := decide_eq_false (by omega)
 have ek : vK m = false := by simp only [vK, if_neg (show ¬ m.kind = 0 by omega), if_neg (show ¬ m.kind = 1 by omega), if_neg (show ¬ m.kind = 2 by omega), if_neg (show ¬ m.kind = 3 by omega), if_neg (show ¬ (m.kind = 4 ∨ m.kind = 5) by omega), if_neg (show ¬ m.kind = 6 by omega)]
 unfold xO
 rw [ek]
 obtain ⟨c, hc0⟩ : ∃ b, (decide (m.frm < 0) || decide (6 < m.frm)) = b := ⟨_, rfl⟩
 obtain ⟨d, hd⟩ : ∃ b, vw m = b := ⟨_, rfl⟩
 have hd2 := hd
 unfold vw at hd2
 simp only [k0, k1, k2, k3, k4, k5, k6, Bool.not_true, Bool.not_false, Bool.true_and, Bool.false_and, Bool.or_false, Bool.false_or] at hd2
 rw [hc0, hd]
 cases c
 ·
  cases d
  ·
   simp only [Bool.false_eq_true, if_false]
   conv at hr =>
    rhs
    rw [hTe]
    simp only [zh.code, zh.rs, zSs, reduceIte, Nat.reduceEqDiff, Int.reduceEq, Int.reduceLT, Int.reduceLE, kY, zD, zN, zT, zV, zK, zZ, zX, zY, wz g0, wQ g0, wU g0, yc g0, wL g0, yA g0, yG g0, yL g0 hm.b.ne, jS, eT, c1, c2, c3, c4, zn (zD _ _ _), zn (zN _ _ _), zn (zT _ _ _), zn (zV _ _ _), zn (zK _ _ _), zn (zZ _ _ _), zn (zX _ _ _), zn (zY _ _ _), zn (wz g0), zn (wQ g0), zn (wU g0), zn (yc g0), zn (wL g0), zn (yA g0), zn (yG g0), zn (yL g0 hm.b.ne), zn (jS _), zn (eT _), zn (c1 _), zn (c2 _), zn (c3 _), zn (c4 _), gvw, k0, k1, k2, k3, k4, k5, k6, hc0, hd2, Bool.not_true, Bool.not_false, Bool.true_and, Bool.false_and, Bool.or_false, Bool.false_or]
   rw [hTe] at hr
   exact zh.runs hr (.inr rfl) hc rfl
  ·
   simp only [Bool.false_eq_true, if_false, if_true]
   conv at hr =>
    rhs
    rw [hTe]
    simp only [zh.code, zh.rs, zSs, reduceIte, Nat.reduceEqDiff, Int.reduceEq, Int.reduceLT, Int.reduceLE, kY, zD, zN, zT, zV, zK, zZ, zX, zY, wz g0, wQ g0, wU g0, yc g0, wL g0, yA g0, yG g0, yL g0 hm.b.ne, jS, eT, c1, c2, c3, c4, zn (zD _ _ _), zn (zN _ _ _), zn (zT _ _ _), zn (zV _ _ _), zn (zK _ _ _), zn (zZ _ _ _), zn (zX _ _ _), zn (zY _ _ _), zn (wz g0), zn (wQ g0), zn (wU g0), zn (yc g0), zn (wL g0), zn (yA g0), zn (yG g0), zn (yL g0 hm.b.ne), zn (jS _), zn (eT _), zn (c1 _), zn (c2 _), zn (c3 _), zn (c4 _), gvw, k0, k1, k2, k3, k4, k5, k6, hc0, hd2, Bool.not_true, Bool.not_false, Bool.true_and, Bool.false_and, Bool.or_false, Bool.false_or]
   rw [hTe] at hr
   exact zh.runs hr (.inr rfl) hc rfl
 ·
  simp only [if_true]
  conv at hr =>
   rhs
   rw [hTe]
   simp only [zh.code, zh.rs, zSs, reduceIte, Nat.reduceEqDiff, Int.reduceEq, Int.reduceLT, Int.reduceLE, kY, zD, zN, zT, zV, zK, zZ, zX, zY, wz g0, wQ g0, wU g0, yc g0, wL g0, yA g0, yG g0, yL g0 hm.b.ne, jS, eT, c1, c2, c3, c4, zn (zD _ _ _), zn (zN _ _ _), zn (zT _ _ _), zn (zV _ _ _), zn (zK _ _ _), zn (zZ _ _ _), zn (zX _ _ _), zn (zY _ _ _), zn (wz g0), zn (wQ g0), zn (wU g0), zn (yc g0), zn (wL g0), zn (yA g0), zn (yG g0), zn (yL g0 hm.b.ne), zn (jS _), zn (eT _), zn (c1 _), zn (c2 _), zn (c3 _), zn (c4 _), gvw, k0, k1, k2, k3, k4, k5, k6, hc0]
  rw [hTe] at hr
  exact zh.runs hr (.inr rfl) hc rfl
theorem zh.v {m : wP} (hm : m.Ok) (S : zk) : jc Try.prog O zh.id [mv m] S = some (.bool (xO m), S) := by
 have : m.kind = 0 ∨ m.kind = 1 ∨ m.kind = 2 ∨ m.kind = 3 ∨ m.kind = 4 ∨ m.kind = 5 ∨ m.kind = 6 ∨ (m.kind < 0 ∨ 6 < m.kind) := by omega
 rcases this with h | h | h | h | h | h | h | h
 ·
  exact zh.v0 hm h S
 ·
  exact zh.v1 hm h S
 ·
  exact zh.v2 hm h S
 ·
  exact zh.v3 hm h S
 ·
  exact zh.v4 hm h S
 ·
  exact zh.v5 hm h S
 ·
  exact zh.v6 hm h S
 ·
  exact zh.v7 hm h S
theorem ZV (m : wP) : okq 3 (mv m) = true := by
 have h := JB (f := fT) (e := 2) (k := m.b.k) (l := m.b.txs) (d := 2)
 simp only [okq, List.toList_toArray, List.all_cons, List.all_nil, h, Bool.and_true]
def y9 (m : wP) : Bool :=
 if m.kind < 0 ∨ 6 < m.kind then false
 else if (decide (m.frm < 0) || decide (7 ≤ m.frm)) || !kE m (yI m) then false
 else if m.kind = 0 then yV m.tx
 else if m.kind = 1 then jZ m.b
 else if m.kind = 3 ∧ (decide (m.prep < -1) || decide (m.view ≤ m.prep)) = true then false
 else (((decide (0 ≤ m.index) && decide (m.index ≤ 1000)) && decide (0 ≤ m.view)) && decide (m.view ≤ 1000)) && qG m
theorem aii {m : wP} (hm : m.Ok) : (yI m).Ok := by
 have z : Big 0 := ⟨by omega, by omega⟩
 have zt : TxV.Ok ⟨0, 0⟩ := ⟨z, z⟩
 unfold yI
 split
 ·
  exact ⟨ok0, hm.tx, hm.kind, hm.frm, z, z, z, z⟩
 split
 ·
  exact ⟨hm.b, zt, hm.kind, hm.frm, z, z, z, z⟩
 split
 ·
  exact ⟨ok0, zt, hm.kind, hm.frm, z, z, hm.value, z⟩
 split
 ·
  exact ⟨ok0, zt, hm.kind, hm.frm, hm.index, hm.view, hm.value, hm.prep⟩
 split
 ·
  exact ⟨ok0, zt, hm.kind, hm.frm, hm.index, hm.view, hm.value, z⟩
 split
 ·
  exact ⟨ok0, zt, hm.kind, hm.frm, hm.index, hm.view, hm.value, z⟩
 ·
  exact ⟨ok0, zt, hm.kind, hm.frm, hm.index, z, hm.value, z⟩
theorem jq.v {m : wP} (hm : m.Ok) (S : zk) : jc Try.prog O jq.id [mv m] S = some (.bool (y9 m), S) := by
 obtain ⟨T, hTe⟩ : ∃ T, T = (mv m :: undef :: undef :: undef :: undef :: undef :: undef :: undef :: undef :: undef :: undef :: undef :: undef :: undef :: undef :: undef :: undef :: undef :: undef :: undef :: undef :: undef :: undef :: undef :: undef :: undef :: undef :: undef :: undef :: undef :: undef :: undef :: undef :: undef :: undef :: undef :: undef :: undef :: undef :: undef :: undef :: undef :: undef :: undef :: undef :: undef :: undef :: undef :: undef :: undef :: undef :: undef :: undef :: undef :: undef :: undef :: undef :: undef :: undef :: undef :: undef :: undef :: undef :: undef :: undef :: undef :: undef :: undef :: undef :: undef :: undef :: undef :: undef :: undef :: []) := ⟨_, rfl⟩
 have hr : zF Try.prog O false jq.code T zk.empty = zF Try.prog O false jq.code T zk.empty := rfl
 have g0 := kN m
 have c3 := fun S => yY.v m.tx S
 have c4 := fun S => jv.v hm.b S
 have c5 := fun S => jV.v hm S
 have hc : [mv m].all (jH 16) = true := all1 (wX hm.b.okl.le)
 unfold y9
 by_cases k0 : m.kind < 0
 ·
  rw [if_pos (.inl k0)]
  have e0 := decide_eq_true k0
  conv at hr =>
   rhs
   rw [hTe]
   simp only [jq.code, jq.rs, zSs, reduceIte, Nat.reduceEqDiff, Int.reduceEq, Int.reduceLT, Int.reduceLE, kY, zD, zN, zT, zV, zK, zZ, zX, zY, wz g0, wQ g0, wU g0, yc g0, wL g0, yA g0, yG g0, yL g0 hm.b.ne, kD g0 hm.b.ne, zn (zD _ _ _), zn (zN _ _ _), zn (zT _ _ _), zn (zV _ _ _), zn (zK _ _ _), zn (zZ _ _ _), zn (zX _ _ _), zn (zY _ _ _), zn (wz g0), zn (wQ g0), zn (wU g0), zn (yc g0), zn (wL g0), zn (yA g0), zn (yG g0), zn (yL g0 hm.b.ne), zn (kD g0 hm.b.ne), JC (kD g0 hm.b.ne) (ZV m), y7 g0, gvw, e0]
  rw [hTe] at hr
  exact jq.runs hr (.inr rfl) hc rfl
 by_cases k6 : 6 < m.kind
 ·
  rw [if_pos (.inr k6)]
  have e0 := decide_eq_false k0
  have e6 := decide_eq_true k6
  conv at hr =>
   rhs
   rw [hTe]
   simp only [jq.code, jq.rs, zSs, reduceIte, Nat.reduceEqDiff, Int.reduceEq, Int.reduceLT, Int.reduceLE, kY, zD, zN, zT, zV, zK, zZ, zX, zY, wz g0, wQ g0, wU g0, yc g0, wL g0, yA g0, yG g0, yL g0 hm.b.ne, kD g0 hm.b.ne, zn (zD _ _ _), zn (zN _ _ _), zn (zT _ _ _), zn (zV _ _ _), zn (zK _ _ _), zn (zZ _ _ _), zn (zX _ _ _), zn (zY _ _ _), zn (wz g0), zn (wQ g0), zn (wU g0), zn (yc g0), zn (wL g0), zn (yA g0), zn (yG g0), zn (yL g0 hm.b.ne), zn (kD g0 hm.b.ne), JC (kD g0 hm.b.ne) (ZV m), y7 g0, gvw, e0, e6]
  rw [hTe] at hr
  exact jq.runs hr (.inr rfl) hc rfl
 rw [if_neg (by omega)]
 have e0 := decide_eq_false k0
 have e6 := decide_eq_false k6
 have c1 := fun S => je.v hm (by omega) (by omega) S
 have c2 := fun S => wI.v hm (aii hm) S
 obtain ⟨c, hc0⟩ : ∃ b, ((decide (m.frm < 0) || decide (7 ≤ m.frm)) || !kE m (yI m)) = b := ⟨_, rfl⟩
 rw [hc0]
 cases c
 ·
  rw [if_neg (by decide)]
  by_cases z0 : m.kind = 0
  ·
   rw [if_pos z0]
   conv at hr =>
    rhs
    rw [hTe]
    simp only [jq.code, jq.rs, zSs, reduceIte, Nat.reduceEqDiff, Int.reduceEq, Int.reduceLT, Int.reduceLE, kY, zD, zN, zT, zV, zK, zZ, zX, zY, wz g0, wQ g0, wU g0, yc g0, wL g0, yA g0, yG g0, yL g0 hm.b.ne, kD g0 hm.b.ne, zn (zD _ _ _), zn (zN _ _ _), zn (zT _ _ _), zn (zV _ _ _), zn (zK _ _ _), zn (zZ _ _ _), zn (zX _ _ _), zn (zY _ _ _), zn (wz g0), zn (wQ g0), zn (wU g0), zn (yc g0), zn (wL g0), zn (yA g0), zn (yG g0), zn (yL g0 hm.b.ne), zn (kD g0 hm.b.ne), JC (kD g0 hm.b.ne) (ZV m), y7 g0, gvw, e0, e6, c1, c2, zn (c1 _), zn (c2 _), hc0, decide_eq_true z0, c3]
   rw [hTe] at hr
   exact jq.runs hr (.inr rfl) hc rfl
  rw [if_neg z0]
  by_cases z1 : m.kind = 1
  ·
   rw [if_pos z1]
   conv at hr =>
    rhs
    rw [hTe]
    simp only [jq.code, jq.rs, zSs, reduceIte, Nat.reduceEqDiff, Int.reduceEq, Int.reduceLT, Int.reduceLE, kY, zD, zN, zT, zV, zK, zZ, zX, zY, wz g0, wQ g0, wU g0, yc g0, wL g0, yA g0, yG g0, yL g0 hm.b.ne, kD g0 hm.b.ne, zn (zD _ _ _), zn (zN _ _ _), zn (zT _ _ _), zn (zV _ _ _), zn (zK _ _ _), zn (zZ _ _ _), zn (zX _ _ _), zn (zY _ _ _), zn (wz g0), zn (wQ g0), zn (wU g0), zn (yc g0), zn (wL g0), zn (yA g0), zn (yG g0), zn (yL g0 hm.b.ne), zn (kD g0 hm.b.ne), JC (kD g0 hm.b.ne) (ZV m), y7 g0, gvw, e0, e6, c1, c2, zn (c1 _), zn (c2 _), hc0, decide_eq_false z0, decide_eq_true z1, c4]
   rw [hTe] at hr
   exact jq.runs hr (.inr rfl) hc rfl
  rw [if_neg z1]
  by_cases z3 : m.kind = 3
  ·
   obtain ⟨d, hd0⟩ : ∃ b, (decide (m.prep < -1) || decide (m.view ≤ m.prep)) = b := ⟨_, rfl⟩
   rw [hd0]
   cases d
   ·
    rw [if_neg (by simp)]
    conv at hr =>
     rhs
     rw [hTe]
     simp only [jq.code, jq.rs, zSs, reduceIte, Nat.reduceEqDiff, Int.reduceEq, Int.reduceLT, Int.reduceLE, kY, zD, zN, zT, zV, zK, zZ, zX, zY, wz g0, wQ g0, wU g0, yc g0, wL g0, yA g0, yG g0, yL g0 hm.b.ne, kD g0 hm.b.ne, zn (zD _ _ _), zn (zN _ _ _), zn (zT _ _ _), zn (zV _ _ _), zn (zK _ _ _), zn (zZ _ _ _), zn (zX _ _ _), zn (zY _ _ _), zn (wz g0), zn (wQ g0), zn (wU g0), zn (yc g0), zn (wL g0), zn (yA g0), zn (yG g0), zn (yL g0 hm.b.ne), zn (kD g0 hm.b.ne), JC (kD g0 hm.b.ne) (ZV m), y7 g0, gvw, e0, e6, c1, c2, zn (c1 _), zn (c2 _), hc0, decide_eq_false z0, decide_eq_false z1, decide_eq_true z3, hd0, c5, zn (c5 _)]
    rw [hTe] at hr
    exact jq.runs hr (.inr rfl) hc rfl
   ·
    rw [if_pos ⟨z3, rfl⟩]
    conv at hr =>
     rhs
     rw [hTe]
     simp only [jq.code, jq.rs, zSs, reduceIte, Nat.reduceEqDiff, Int.reduceEq, Int.reduceLT, Int.reduceLE, kY, zD, zN, zT, zV, zK, zZ, zX, zY, wz g0, wQ g0, wU g0, yc g0, wL g0, yA g0, yG g0, yL g0 hm.b.ne, kD g0 hm.b.ne, zn (zD _ _ _), zn (zN _ _ _), zn (zT _ _ _), zn (zV _ _ _), zn (zK _ _ _), zn (zZ _ _ _), zn (zX _ _ _), zn (zY _ _ _), zn (wz g0), zn (wQ g0), zn (wU g0), zn (yc g0), zn (wL g0), zn (yA g0), zn (yG g0), zn (yL g0 hm.b.ne), zn (kD g0 hm.b.ne), JC (kD g0 hm.b.ne) (ZV m), y7 g0, gvw, e0, e6, c1, c2, zn (c1 _), zn (c2 _), hc0, decide_eq_false z0, decide_eq_false z1, decide_eq_true z3, hd0]
    rw [hTe] at hr
    exact jq.runs hr (.inr rfl) hc rfl
  rw [if_neg (fun h => z3 h.1)]
  conv at hr =>
   rhs
   rw [hTe]
   simp only [jq.code, jq.rs, zSs, reduceIte, Nat.reduceEqDiff, Int.reduceEq, Int.reduceLT, Int.reduceLE, kY, zD, zN, zT, zV, zK, zZ, zX, zY, wz g0, wQ g0, wU g0, yc g0, wL g0, yA g0, yG g0, yL g0 hm.b.ne, kD g0 hm.b.ne, zn (zD _ _ _), zn (zN _ _ _), zn (zT _ _ _), zn (zV _ _ _), zn (zK _ _ _), zn (zZ _ _ _), zn (zX _ _ _), zn (zY _ _ _), zn (wz g0), zn (wQ g0), zn (wU g0), zn (yc g0), zn (wL g0), zn (yA g0), zn (yG g0), zn (yL g0 hm.b.ne), zn (kD g0 hm.b.ne), JC (kD g0 hm.b.ne) (ZV m), y7 g0, gvw, e0, e6, c1, c2, zn (c1 _), zn (c2 _), hc0, decide_eq_false z0, decide_eq_false z1, decide_eq_false z3, c5, zn (c5 _)]
  rw [hTe] at hr
  exact jq.runs hr (.inr rfl) hc rfl
 ·
  rw [if_pos rfl]
  conv at hr =>
   rhs
   rw [hTe]
   simp only [jq.code, jq.rs, zSs, reduceIte, Nat.reduceEqDiff, Int.reduceEq, Int.reduceLT, Int.reduceLE, kY, zD, zN, zT, zV, zK, zZ, zX, zY, wz g0, wQ g0, wU g0, yc g0, wL g0, yA g0, yG g0, yL g0 hm.b.ne, kD g0 hm.b.ne, zn (zD _ _ _), zn (zN _ _ _), zn (zT _ _ _), zn (zV _ _ _), zn (zK _ _ _), zn (zZ _ _ _), zn (zX _ _ _), zn (zY _ _ _), zn (wz g0), zn (wQ g0), zn (wU g0), zn (yc g0), zn (wL g0), zn (yA g0), zn (yG g0), zn (yL g0 hm.b.ne), zn (kD g0 hm.b.ne), JC (kD g0 hm.b.ne) (ZV m), y7 g0, gvw, e0, e6, c1, c2, zn (c1 _), zn (c2 _), hc0]
  rw [hTe] at hr
  exact jq.runs hr (.inr rfl) hc rfl
theorem xP (b : vF) : ZB b b = true := by simp [ZB]
theorem right_eq (m : wP) : y9 m = xO m := by
 unfold y9 xO vw
 by_cases hk : m.kind < 0 ∨ 6 < m.kind
 ·
  rw [if_pos hk]
  have : vK m = false := by simp only [vK, if_neg (show ¬ m.kind = 0 by omega), if_neg (show ¬ m.kind = 1 by omega), if_neg (show ¬ m.kind = 2 by omega), if_neg (show ¬ m.kind = 3 by omega), if_neg (show ¬ (m.kind = 4 ∨ m.kind = 5) by omega), if_neg (show ¬ m.kind = 6 by omega)]
  rw [this]
  simp
 rw [if_neg hk]
 by_cases f0 : m.frm < 0
 ·
  simp [f0]
 by_cases f7 : 6 < m.frm
 ·
  simp [f0, f7, show 7 ≤ m.frm by omega]
 have f8 : ¬ 7 ≤ m.frm := by omega
 have hv : decide (0 < Yl m.value) = kM m.value := afS m.value
 have : m.kind = 0 ∨ m.kind = 1 ∨ m.kind = 2 ∨ m.kind = 3 ∨ m.kind = 4 ∨ m.kind = 5 ∨ m.kind = 6 := by omega
 rcases this with h | h | h | h | h | h | h
 ·
  simp only [kE, yI, vK, h, decide_true, decide_false, Bool.true_and, Bool.false_and, Bool.not_true, Bool.not_false, Int.reduceEq, Int.reduceLT, if_true, if_false, reduceIte, Vh, vwB, qG, WX, nameB, hv, f0, f7, f8, or_true, true_or, or_false, false_or, or_self, Bool.or_false, Bool.false_or, xP, false_and, true_and]
  grind
 ·
  simp only [kE, yI, vK, h, decide_true, decide_false, Bool.true_and, Bool.false_and, Bool.not_true, Bool.not_false, Int.reduceEq, Int.reduceLT, if_true, if_false, reduceIte, Vh, vwB, qG, WX, nameB, hv, f0, f7, f8, or_true, true_or, or_false, false_or, or_self, Bool.or_false, Bool.false_or, xP, false_and, true_and]
  grind
 ·
  simp only [kE, yI, vK, h, decide_true, decide_false, Bool.true_and, Bool.false_and, Bool.not_true, Bool.not_false, Int.reduceEq, Int.reduceLT, if_true, if_false, reduceIte, Vh, vwB, qG, WX, nameB, hv, f0, f7, f8, or_true, true_or, or_false, false_or, or_self, Bool.or_false, Bool.false_or, xP, false_and, true_and]
  grind
 ·
  simp only [kE, yI, vK, h, decide_true, decide_false, Bool.true_and, Bool.false_and, Bool.not_true, Bool.not_false, Int.reduceEq, Int.reduceLT, if_true, if_false, reduceIte, Vh, vwB, qG, WX, nameB, hv, f0, f7, f8, or_true, true_or, or_false, false_or, or_self, Bool.or_false, Bool.false_or, xP, false_and, true_and]
  grind
 ·
  simp only [kE, yI, vK, h, decide_true, decide_false, Bool.true_and, Bool.false_and, Bool.not_true, Bool.not_false, Int.reduceEq, Int.reduceLT, if_true, if_false, reduceIte, Vh, vwB, qG, WX, nameB, hv, f0, f7, f8, or_true, true_or, or_false, false_or, or_self, Bool.or_false, Bool.false_or, xP, false_and, true_and]
  grind
 ·
  simp only [kE, yI, vK, h, decide_true, decide_false, Bool.true_and, Bool.false_and, Bool.not_true, Bool.not_false, Int.reduceEq, Int.reduceLT, if_true, if_false, reduceIte, Vh, vwB, qG, WX, nameB, hv, f0, f7, f8, or_true, true_or, or_false, false_or, or_self, Bool.or_false, Bool.false_or, xP, false_and, true_and]
  grind
 ·
  simp only [kE, yI, vK, h, decide_true, decide_false, Bool.true_and, Bool.false_and, Bool.not_true, Bool.not_false, Int.reduceEq, Int.reduceLT, if_true, if_false, reduceIte, Vh, vwB, qG, WX, nameB, hv, f0, f7, f8, or_true, true_or, or_false, false_or, or_self, Bool.or_false, Bool.false_or, xP, false_and, true_and]
  grind
end Go.Proofs.Ytbgcphbbchndkaa
namespace Go.Proofs.Ytbgcphbbchndkaa
open Go.Abs
theorem acX {n : Int} (h : nameB n = true) : 0 ≤ n ∧ n ≤ 268435455 := by
 unfold nameB at h
 simp only [Bool.or_eq_true, decide_eq_true_eq] at h
 rcases h with h | h
 ·
  omega
 ·
  have := xE.1 h; omega
structure VP (m : wP) : Prop where
 kind : 0 ≤ m.kind ∧ m.kind ≤ 6
 frm : 0 ≤ m.frm ∧ m.frm ≤ 6
 index : 0 ≤ m.index ∧ m.index ≤ 1000
 view : 0 ≤ m.view ∧ m.view ≤ 1000
 value : -1 ≤ m.value ∧ m.value ≤ 268435455
 prep : -1 ≤ m.prep ∧ m.prep ≤ 1000
 tx : m.kind = 0 → yV m.tx = true
 blk : m.kind = 1 → jZ m.b = true
 notx : m.kind ≠ 0 → m.tx = ⟨0, 0⟩
 noblk : m.kind ≠ 1 → ZB m.b bk0 = true
 noprep : m.kind ≠ 3 → m.prep = 0
theorem Zd {m : wP} (h : y9 m = true) : VP m := by
 rw [right_eq] at h
 unfold xO at h
 split at h
 ·
  cases h
 rename_i hf
 split at h
 ·
  cases h
 rename_i ho
 simp only [Bool.or_eq_true, decide_eq_true_eq, not_or] at hf
 have ho : (m.kind ≠ 0 → m.tx = ⟨0, 0⟩) ∧ (m.kind ≠ 1 → ZB m.b bk0 = true) ∧ (m.kind ≠ 3 → m.prep = 0) := by
  unfold vw at ho
  simp only [Bool.or_eq_true, Bool.and_eq_true, Bool.not_eq_true', decide_eq_false_iff_not, not_or, not_and, Decidable.not_not, Bool.not_eq_false] at ho
  exact ⟨ho.1.1, ho.1.2, ho.2⟩
 unfold vK Vh vwB at h
 have nr := fun hn => acX (n := m.value) hn
 have k : m.kind = 0 ∨ m.kind = 1 ∨ m.kind = 2 ∨ m.kind = 3 ∨ m.kind = 4 ∨ m.kind = 5 ∨ m.kind = 6 := by
  by_cases a : m.kind = 0 ∨ m.kind = 1 ∨ m.kind = 2 ∨ m.kind = 3 ∨ m.kind = 4 ∨ m.kind = 5 ∨ m.kind = 6
  ·
   exact a
  ·
   simp only [if_neg (show ¬ m.kind = 0 by omega), if_neg (show ¬ m.kind = 1 by omega), if_neg (show ¬ m.kind = 2 by omega), if_neg (show ¬ m.kind = 3 by omega), if_neg (show ¬ (m.kind = 4 ∨ m.kind = 5) by omega), if_neg (show ¬ m.kind = 6 by omega)] at h
   cases h
 rcases k with k | k | k | k | k | k | k
 ·
  simp only [k, Int.reduceEq, if_true, if_false, reduceIte, or_true, true_or, or_false, or_self, Bool.and_eq_true, Bool.or_eq_true, decide_eq_true_eq] at h
  have hp := ho.2.2
  have hv : -1 ≤ m.value ∧ m.value ≤ 268435455 := by grind
  refine ⟨by omega, by omega, by omega, by omega, hv, by grind, fun e => by grind, fun e => by grind, ho.1, ho.2.1, ho.2.2⟩
 ·
  simp only [k, Int.reduceEq, if_true, if_false, reduceIte, or_true, true_or, or_false, or_self, Bool.and_eq_true, Bool.or_eq_true, decide_eq_true_eq] at h
  have hp := ho.2.2
  have hv : -1 ≤ m.value ∧ m.value ≤ 268435455 := by grind
  refine ⟨by omega, by omega, by omega, by omega, hv, by grind, fun e => by grind, fun e => by grind, ho.1, ho.2.1, ho.2.2⟩
 ·
  simp only [k, Int.reduceEq, if_true, if_false, reduceIte, or_true, true_or, or_false, or_self, Bool.and_eq_true, Bool.or_eq_true, decide_eq_true_eq] at h
  have hp := ho.2.2
  have hv : -1 ≤ m.value ∧ m.value ≤ 268435455 := by grind
  refine ⟨by omega, by omega, by omega, by omega, hv, by grind, fun e => by grind, fun e => by grind, ho.1, ho.2.1, ho.2.2⟩
 ·
  simp only [k, Int.reduceEq, if_true, if_false, reduceIte, or_true, true_or, or_false, or_self, Bool.and_eq_true, Bool.or_eq_true, decide_eq_true_eq] at h
  have hp := ho.2.2
  have hv : -1 ≤ m.value ∧ m.value ≤ 268435455 := by grind
  refine ⟨by omega, by omega, by omega, by omega, hv, by grind, fun e => by grind, fun e => by grind, ho.1, ho.2.1, ho.2.2⟩
 ·
  simp only [k, Int.reduceEq, if_true, if_false, reduceIte, or_true, true_or, or_false, or_self, Bool.and_eq_true, Bool.or_eq_true, decide_eq_true_eq] at h
  have hp := ho.2.2
  have hv : -1 ≤ m.value ∧ m.value ≤ 268435455 := by grind
  refine ⟨by omega, by omega, by omega, by omega, hv, by grind, fun e => by grind, fun e => by grind, ho.1, ho.2.1, ho.2.2⟩
 ·
  simp only [k, Int.reduceEq, if_true, if_false, reduceIte, or_true, true_or, or_false, or_self, Bool.and_eq_true, Bool.or_eq_true, decide_eq_true_eq] at h
  have hp := ho.2.2
  have hv : -1 ≤ m.value ∧ m.value ≤ 268435455 := by grind
  refine ⟨by omega, by omega, by omega, by omega, hv, by grind, fun e => by grind, fun e => by grind, ho.1, ho.2.1, ho.2.2⟩
 ·
  simp only [k, Int.reduceEq, if_true, if_false, reduceIte, or_true, true_or, or_false, or_self, Bool.and_eq_true, Bool.or_eq_true, decide_eq_true_eq] at h
  have hp := ho.2.2
  have hv : -1 ≤ m.value ∧ m.value ≤ 268435455 := by grind
  refine ⟨by omega, by omega, by omega, by omega, hv, by grind, fun e => by grind, fun e => by grind, ho.1, ho.2.1, ho.2.2⟩
def Zt (m : wP) : List UInt8 := if m.kind = 0 then txB m.tx else if m.kind = 1 then aaq m.b else []
def J7 (m : wP) : List Int := [m.kind, m.frm, m.index, m.view, m.value, m.prep]
def kG (m : wP) : List UInt8 := encs (J7 m) ++ Zt m
def mkM (m : wP) : Nat := (J3 (QX m.frm) (kG m)).toNat
def Vj (m : wP) : List UInt8 := enc (mkM m) ++ kG m
def ab9 (m : wP) : Value := if y9 m then .tuple #[by_ 2 (Vj m), .int .i64 0] else .tuple #[.slice none 0 0, .int .i64 121]
theorem abO (key : Int) (b : List UInt8) : 0 ≤ J3 key b ∧ J3 key b < 18446744073709551616 := abV _ _
theorem aeh (key : Int) (b : List UInt8) : ((J3 key b).toNat : Int) = J3 key b := Int.toNat_of_nonneg (abO key b).1
theorem aib (key : Int) (b : List UInt8) : (J3 key b).toNat < 2 ^ 64 := by have := abO key b; omega
theorem Qn {m : wP} (h : VP m) : ∀ n ∈ J7 m, -1 ≤ n ∧ n ≤ 268435455 := by
 intro n hn
 have h1 := h.kind; have h2 := h.frm; have h3 := h.index; have h4 := h.view; have h5 := h.value; have h6 := h.prep
 simp only [J7, List.mem_cons, List.not_mem_nil, or_false] at hn
 rcases hn with rfl | rfl | rfl | rfl | rfl | rfl <;> omega
theorem Xh {m : wP} (h : VP m) : (encs (J7 m)).length ≤ 60 := by
 have h1 := Qn h
 exact ZI (l := J7 m) (fun n hn => by have := h1 n hn; omega)
theorem abx {b : vF} (h : jZ b = true) : (aaq b).length ≤ 140 := by
 have hh : headB b = true ∧ Zi b.txs = true := by simpa [jZ] using h
 unfold aaq
 have := abQ hh.1; have := abu hh.2
 rw [List.length_append]; omega
theorem agN {m : wP} (h : VP m) : (Zt m).length ≤ 140 := by
 unfold Zt
 split
 ·
  rename_i h0; have := aaz (h.tx h0); omega
 split
 ·
  rename_i h1; exact abx (h.blk h1)
 ·
  simp
theorem abW {m : wP} (h : VP m) : (kG m).length ≤ 200 := by
 unfold kG; have := Xh h; have := agN h; rw [List.length_append]; omega
theorem bs6 (a b c d e f : Int) (S : zk) : jR Try.prog 57 6 [(0, .int .i64 a), (1, .int .i64 b), (2, .int .i64 c), (3, .int .i64 d), (4, .int .i64 e), (5, .int .i64 f)] S = some (iz 2 [a, b, c, d, e, f], S) := by kernel_rfl
theorem zH.v {m : wP} (hm : m.Ok) (S : zk) : jc Try.prog O zH.id [mv m] S = some (ab9 m, S) := by
 obtain ⟨T, hTe⟩ : ∃ T, T = (mv m :: undef :: undef :: undef :: undef :: undef :: undef :: undef :: undef :: undef :: undef :: undef :: undef :: undef :: undef :: undef :: undef :: undef :: undef :: undef :: undef :: undef :: undef :: undef :: undef :: undef :: undef :: undef :: undef :: undef :: undef :: undef :: undef :: undef :: undef :: undef :: undef :: undef :: undef :: undef :: undef :: undef :: undef :: undef :: undef :: undef :: undef :: undef :: undef :: undef :: undef :: undef :: undef :: undef :: undef :: undef :: undef :: undef :: undef :: undef :: undef :: undef :: []) := ⟨_, rfl⟩
 have hr : zF Try.prog O false zH.code T zk.empty = zF Try.prog O false zH.code T zk.empty := rfl
 have g0 := kN m
 have hc : [mv m].all (jH 16) = true := all1 (wX hm.b.okl.le)
 have c0 : ∀ S, jc Try.prog O 19 [mv m] S = some (.bool (y9 m), S) := fun S => by rw [right_eq]; exact zh.v hm S
 unfold ab9
 cases hR : y9 m
 ·
  rw [hR] at c0
  conv at hr =>
   rhs
   rw [hTe]
   simp only [zH.code, zH.rs, zSs, reduceIte, Nat.reduceEqDiff, Int.reduceEq, Int.reduceLT, Int.reduceLE, kY, zD, zN, zT, zV, zK, zZ, zX, zY, wz g0, wQ g0, wU g0, yc g0, wL g0, yA g0, yG g0, yL g0 hm.b.ne, kD g0 hm.b.ne, c0]
  rw [hTe] at hr
  exact zH.runs hr (.inr rfl) rfl rfl hc rfl
 ·
  rw [hR] at c0
  have hf := Zd hR
  have few := Qn hf
  have c2 : ∀ S, jc Try.prog O 42 [iz 1 [m.kind, m.frm, m.index, m.view, m.value, m.prep]] S = some (.tuple #[by_ 2 (encs (J7 m)), .int .i64 0], S) := fun S => by
   rw [zB.v (l := [m.kind, m.frm, m.index, m.view, m.value, m.prep]) Okl.read (by decide) (fun n hn => by have := few n hn; omega) S, JF (l := [m.kind, m.frm, m.index, m.view, m.value, m.prep]) (by simp) (fun n hn => (few n hn).1) (by simp)]; rfl
  have ck : ∀ S, jc Try.prog O 23 [.int .i64 m.frm] S = some (.int .u64 (QX m.frm), S) := fun S => yH.v hf.frm.1 hf.frm.2 S
  have cn : ∀ b S, jc Try.prog O 17 [.int .u64 (J3 (QX m.frm) b)] S = some (by_ 2 (enc (J3 (QX m.frm) b).toNat), S) := fun b S => by
   have := jg.v (J3 (QX m.frm) b).toNat (aib _ _) S
   rw [aeh] at this
   exact this
  have a0 : ∀ S, wY Try.prog 23 23 (by_ 2 (enc (mkM m))) (by_ 1 (kG m)) S = some (by_ 2 (Vj m), S) := fun S => by
   rw [kW Okl.own (by decide) Okl.read (by have := abW hf; have := Jo (aib (QX m.frm) (kG m)); unfold mkM; omega)]; rfl
  have em : enc (J3 (QX m.frm) (kG m)).toNat = enc (mkM m) := rfl
  have cof : ∀ S, jc Try.prog O 22 [.int .u64 (QX m.frm), by_ 1 (kG m)] S = some (.int .u64 (J3 (QX m.frm) (kG m)), S) := fun S => zQ.v Okl.read (by decide) (by have := abW hf; omega) S
  have hcv : jH 16 (.tuple #[by_ 2 (Vj m), .int .i64 0]) = true := yC (all2 (yZ (k := 2) (Nat.le_refl 2)) rfl)
  by_cases k0 : m.kind = 0
  ·
   have c3 : ∀ S, jc Try.prog O 43 [tv m.tx] S = some (.tuple #[by_ 2 (txB m.tx), .int .i64 0], S) := fun S => by
    rw [jr.v m.tx S, ahS, if_pos (hf.tx k0)]
   have a1 : ∀ S, wY Try.prog 23 23 (by_ 2 (encs (J7 m))) (by_ 1 (txB m.tx)) S = some (by_ 2 (kG m), S) := fun S => by
    rw [kW Okl.own (by decide) Okl.read (by have := Xh hf; have := aaz (hf.tx k0); omega)]
    rw [if_neg (by omega)]; simp only [kG, Zt, if_pos k0]
   conv at hr =>
    rhs
    rw [hTe]
    simp only [zH.code, zH.rs, zSs, reduceIte, Nat.reduceEqDiff, Int.reduceEq, Int.reduceLT, Int.reduceLE, kY, zD, zN, zT, zV, zK, zZ, zX, zY, wz g0, wQ g0, wU g0, yc g0, wL g0, yA g0, yG g0, yL g0 hm.b.ne, kD g0 hm.b.ne, c0, bs6, c2, decide_eq_true k0, decide_eq_false (show ¬ m.kind = 1 by omega), c3, a1, ck, YZ, cof, cn, em, a0]
   rw [hTe] at hr
   exact zH.runs hr (.inr rfl) (by simp only [List.getD_cons_succ, List.getD_cons_zero, jX, jT, jF, jG, jU]) rfl hc hcv
  by_cases k1 : m.kind = 1
  ·
   have c3 : ∀ S, jc Try.prog O 44 [bv m.b] S = some (.tuple #[by_ 2 (aaq m.b), .int .i64 0], S) := fun S => by
    rw [jh.v hm.b S, aiw, if_pos (hf.blk k1)]
   have a1 : ∀ S, wY Try.prog 23 23 (by_ 2 (encs (J7 m))) (by_ 1 (aaq m.b)) S = some (by_ 2 (kG m), S) := fun S => by
    rw [kW Okl.own (by decide) Okl.read (by have := Xh hf; have := abx (hf.blk k1); omega)]
    rw [if_neg (by omega)]; simp only [kG, Zt, if_neg k0, if_pos k1]
   conv at hr =>
    rhs
    rw [hTe]
    simp only [zH.code, zH.rs, zSs, reduceIte, Nat.reduceEqDiff, Int.reduceEq, Int.reduceLT, Int.reduceLE, kY, zD, zN, zT, zV, zK, zZ, zX, zY, wz g0, wQ g0, wU g0, yc g0, wL g0, yA g0, yG g0, yL g0 hm.b.ne, kD g0 hm.b.ne, c0, bs6, c2, decide_eq_false k0, decide_eq_true k1, c3, a1, ck, YZ, cof, cn, em, a0]
   rw [hTe] at hr
   exact zH.runs hr (.inr rfl) (by simp only [List.getD_cons_succ, List.getD_cons_zero, jX, jT, jF, jG, jU]) rfl hc hcv
  have eb : encs (J7 m) = kG m := by simp only [kG, Zt, if_neg k0, if_neg k1, List.append_nil]
  conv at hr =>
   rhs
   rw [hTe]
   simp only [zH.code, zH.rs, zSs, reduceIte, Nat.reduceEqDiff, Int.reduceEq, Int.reduceLT, Int.reduceLE, kY, zD, zN, zT, zV, zK, zZ, zX, zY, wz g0, wQ g0, wU g0, yc g0, wL g0, yA g0, yG g0, yL g0 hm.b.ne, kD g0 hm.b.ne, c0, bs6, c2, decide_eq_false k0, decide_eq_false k1, eb, ck, YZ, cof, cn, em, a0]
  rw [hTe] at hr
  exact zH.runs hr (.inr rfl) (by simp only [List.getD_cons_succ, List.getD_cons_zero, jX, jT, jF, jG, jU]) rfl hc hcv
end Go.Proofs.Ytbgcphbbchndkaa
namespace Go.Proofs.Ytbgcphbbchndkaa
open Go.Abs
theorem Zu {a b : vF} : ZB a b = true ↔ a.slot = b.slot ∧ a.miner = b.miner ∧ a.variant = b.variant ∧ a.parent = b.parent ∧ a.txs = b.txs := by
 simp [ZB]
theorem Xt {m : wP} {b : vF} (h : ZB m.b b = true) : y9 { m with b := b } = y9 m := by
 rw [right_eq, right_eq]
 obtain ⟨k, f, i, v, w, p, t, c⟩ := m
 obtain ⟨c1, c2, c3, c4, c5, c6⟩ := c
 obtain ⟨b1, b2, b3, b4, b5, b6⟩ := b
 obtain ⟨e1, e2, e3, e4, e5⟩ := Zu.1 h
 dsimp only at e1 e2 e3 e4 e5
 subst e1 e2 e3 e4 e5
 rfl
theorem ae4 (l : List UInt8) : yM 6 l = none ∨ ∃ a b c d e f r, yM 6 l = some ([a, b, c, d, e, f], r) ∧ r.length ≤ l.length := by
 cases h : yM 6 l with
 | none => exact .inl rfl
 | some ar =>
  obtain ⟨a, r⟩ := ar
  obtain ⟨h1, h2⟩ := JY h
  match a, h1 with
  | [x, y, z, w, u, v], _ => exact .inr ⟨x, y, z, w, u, v, r, rfl, h2⟩
theorem Jr {x : wP} (hx : y9 x = true) : yM 6 (kG x) = some (J7 x, Zt x) := by
 have f1 := Qn (Zd hx)
 exact (yB _ _ _ _).mpr ⟨rfl, rfl, fun n hn => by have := f1 n hn; unfold Few; omega⟩
theorem Jz {l r : List UInt8} {a b c d e f : Int} (h : yM 6 l = some ([a, b, c, d, e, f], r)) {x : wP} (hx : y9 x = true) (hl : l = kG x) :
  x.kind = a ∧ x.frm = b ∧ x.index = c ∧ x.view = d ∧ x.value = e ∧ x.prep = f ∧ Zt x = r := by
 have := Jr hx
 rw [← hl, h] at this
 simp only [Option.some.injEq, Prod.mk.injEq, J7, List.cons.injEq, and_true] at this
 obtain ⟨⟨h1, h2, h3, h4, h5, h6⟩, h7⟩ := this
 exact ⟨h1.symm, h2.symm, h3.symm, h4.symm, h5.symm, h6.symm, h7.symm⟩
def WH (l : List UInt8) (m : wP) (ok : Bool) : Prop := m.Ok ∧ m.b.txs.length ≤ 3 ∧ ((ok = true ∧ y9 m = true ∧ l = kG m) ∨ (ok = false ∧ ∀ x, y9 x = true → l ≠ kG x))
theorem Yy : m0.Ok := by
 have z : Big 0 := ⟨by omega, by omega⟩
 exact ⟨ok0, ⟨z, z⟩, z, z, z, z, z, z⟩
theorem yw {n : Int} (h : Few n) : Big n := by unfold Few at h; unfold Big; omega
theorem ab6 {t : TxV} (h : yV t = true) : t.Ok := by
 have := kJ.1 h
 exact ⟨⟨by omega, by omega⟩, ⟨by omega, by omega⟩⟩
section
variable {l r : List UInt8} {a b c d e f : Int}
theorem af7 {t : TxV} (h : yM 6 l = some ([a, b, c, d, e, f], r)) (ha : a = 0) (ht : ae1 r = some t) : WH l ⟨a, b, c, d, e, f, t, bk0⟩ (y9 ⟨a, b, c, d, e, f, t, bk0⟩) := by
 obtain ⟨_, g2, few⟩ := (yB _ _ _ _).mp h
 obtain ⟨t1, t2⟩ := (Z5 r t).1 ht
 refine ⟨⟨ok0, ab6 t1, yw (few _ (by simp)), yw (few _ (by simp)), yw (few _ (by simp)), yw (few _ (by simp)), yw (few _ (by simp)), yw (few _ (by simp))⟩, by simp, ?_⟩
 cases hR : y9 ⟨a, b, c, d, e, f, t, bk0⟩
 ·
  refine .inr ⟨rfl, fun x hx hl => ?_⟩
  obtain ⟨i1, i2, i3, i4, i5, i6, i7⟩ := Jz h hx hl
  have hf := Zd hx
  have k0 : x.kind = 0 := by omega
  have h3 := (Z5 r x.tx).2 ⟨hf.tx k0, by rw [← i7, Zt, if_pos k0]⟩
  rw [ht] at h3
  have := Xt (m := x) (b := bk0) (hf.noblk (by omega))
  rw [hx] at this
  have e : ({ x with b := bk0 } : wP) = ⟨a, b, c, d, e, f, t, bk0⟩ := mk_eq i1 i2 i3 i4 i5 i6 (by injection h3 with h3; exact h3.symm) rfl
  rw [e, hR] at this
  cases this
 ·
  refine .inl ⟨rfl, rfl, ?_⟩
  rw [g2, t2]
  simp only [kG, J7, Zt, if_pos ha]
theorem adT {t : TxV} (h : yM 6 l = some ([a, b, c, d, e, f], r)) (ha : a = 0) (ht : ae1 r = none) : WH l ⟨a, b, c, d, e, f, ⟨0, 0⟩, bk0⟩ false := by
 obtain ⟨_, g2, few⟩ := (yB _ _ _ _).mp h
 refine ⟨⟨ok0, Yy.tx, yw (few _ (by simp)), yw (few _ (by simp)), yw (few _ (by simp)), yw (few _ (by simp)), yw (few _ (by simp)), yw (few _ (by simp))⟩, by simp, .inr ⟨rfl, fun x hx hl => ?_⟩⟩
 obtain ⟨i1, i2, i3, i4, i5, i6, i7⟩ := Jz h hx hl
 have k0 : x.kind = 0 := by omega
 have h3 := (Z5 r x.tx).2 ⟨(Zd hx).tx k0, by rw [← i7, Zt, if_pos k0]⟩
 rw [ht] at h3
 cases h3
theorem agq {y : vF} (h : yM 6 l = some ([a, b, c, d, e, f], r)) (ha : a = 1) (hy : y.Ok) (hy3 : y.txs.length ≤ 3) (hb : afx r = some ⟨y.slot, y.miner, y.variant, y.parent, 0, y.txs⟩) : WH l ⟨a, b, c, d, e, f, ⟨0, 0⟩, y⟩ (y9 ⟨a, b, c, d, e, f, ⟨0, 0⟩, y⟩) := by
 obtain ⟨_, g2, few⟩ := (yB _ _ _ _).mp h
 obtain ⟨⟨t1, _⟩, t2⟩ := (JO r _).1 hb
 refine ⟨⟨hy, Yy.tx, yw (few _ (by simp)), yw (few _ (by simp)), yw (few _ (by simp)), yw (few _ (by simp)), yw (few _ (by simp)), yw (few _ (by simp))⟩, hy3, ?_⟩
 cases hR : y9 ⟨a, b, c, d, e, f, ⟨0, 0⟩, y⟩
 ·
  refine .inr ⟨rfl, fun x hx hl => ?_⟩
  obtain ⟨i1, i2, i3, i4, i5, i6, i7⟩ := Jz h hx hl
  have hf := Zd hx
  have k1 : x.kind = 1 := by omega
  have h3 := (JO r ⟨x.b.slot, x.b.miner, x.b.variant, x.b.parent, 0, x.b.txs⟩).2 ⟨⟨hf.blk k1, rfl⟩, by rw [← i7, Zt, if_neg (by omega), if_pos k1]; rfl⟩
  rw [hb] at h3
  simp only [Option.some.injEq, vF.mk.injEq, true_and] at h3
  have := Xt (m := x) (b := y) (Zu.2 ⟨h3.1.symm, h3.2.1.symm, h3.2.2.1.symm, h3.2.2.2.1.symm, h3.2.2.2.2.symm⟩)
  rw [hx] at this
  have e : ({ x with b := y } : wP) = ⟨a, b, c, d, e, f, ⟨0, 0⟩, y⟩ := mk_eq i1 i2 i3 i4 i5 i6 (hf.notx (by omega)) rfl
  rw [e, hR] at this
  cases this
 ·
  refine .inl ⟨rfl, rfl, ?_⟩
  rw [g2, t2]
  simp only [kG, J7, Zt, if_pos ha, if_neg (show ¬ a = 0 by omega)]
  rfl
theorem ad4 (h : yM 6 l = some ([a, b, c, d, e, f], r)) (ha : a = 1) (hb : afx r = none) : WH l ⟨a, b, c, d, e, f, ⟨0, 0⟩, bk0⟩ false := by
 obtain ⟨_, g2, few⟩ := (yB _ _ _ _).mp h
 refine ⟨⟨ok0, Yy.tx, yw (few _ (by simp)), yw (few _ (by simp)), yw (few _ (by simp)), yw (few _ (by simp)), yw (few _ (by simp)), yw (few _ (by simp))⟩, by simp, .inr ⟨rfl, fun x hx hl => ?_⟩⟩
 obtain ⟨i1, i2, i3, i4, i5, i6, i7⟩ := Jz h hx hl
 have k1 : x.kind = 1 := by omega
 have h3 := (JO r ⟨x.b.slot, x.b.miner, x.b.variant, x.b.parent, 0, x.b.txs⟩).2 ⟨⟨(Zd hx).blk k1, rfl⟩, by rw [← i7, Zt, if_neg (by omega), if_pos k1]; rfl⟩
 rw [hb] at h3
 cases h3
theorem agI (h : yM 6 l = some ([a, b, c, d, e, f], r)) (h0 : a ≠ 0) (h1 : a ≠ 1) : WH l ⟨a, b, c, d, e, f, ⟨0, 0⟩, bk0⟩ (decide ((r.length : Int) = 0) && y9 ⟨a, b, c, d, e, f, ⟨0, 0⟩, bk0⟩) := by
 obtain ⟨_, g2, few⟩ := (yB _ _ _ _).mp h
 refine ⟨⟨ok0, Yy.tx, yw (few _ (by simp)), yw (few _ (by simp)), yw (few _ (by simp)), yw (few _ (by simp)), yw (few _ (by simp)), yw (few _ (by simp))⟩, by simp, ?_⟩
 cases hR : (decide ((r.length : Int) = 0) && y9 ⟨a, b, c, d, e, f, ⟨0, 0⟩, bk0⟩)
 ·
  refine .inr ⟨rfl, fun x hx hl => ?_⟩
  obtain ⟨i1, i2, i3, i4, i5, i6, i7⟩ := Jz h hx hl
  have hf := Zd hx
  rw [Zt, if_neg (by omega), if_neg (by omega)] at i7
  have := Xt (m := x) (b := bk0) (hf.noblk (by omega))
  rw [hx] at this
  have e : ({ x with b := bk0 } : wP) = ⟨a, b, c, d, e, f, ⟨0, 0⟩, bk0⟩ := mk_eq i1 i2 i3 i4 i5 i6 (hf.notx (by omega)) rfl
  rw [e] at this
  rw [this, ← i7] at hR
  simp at hR
 ·
  rw [Bool.and_eq_true, decide_eq_true_eq] at hR
  refine .inl ⟨rfl, hR.2, ?_⟩
  have hr0 : r = [] := List.length_eq_zero_iff.1 (by omega)
  rw [g2, hr0]
  simp only [kG, J7, Zt, if_neg h0, if_neg h1]
theorem acf (h : yM 6 l = none) : WH l m0 false := ⟨Yy, by simp, .inr ⟨rfl, fun x hx hl => by
 have := Jr hx
 rw [← hl, h] at this
 cases this⟩⟩
end
theorem ji.v {k : Nat} {l : List UInt8} (hk : Okl k l) (k2 : k ≠ 2) (hl : l.length ≤ 140737488355328) : ∃ m ok, WH l m ok ∧ ∀ S, jc Try.prog O ji.id [by_ k l] S = some (.tuple #[mv m, .bool ok], S) := by
 have a1 : yF Try.prog 30 zk.empty = some (.pointer (some ⟨0, 0, none⟩), WJ m0) := KJ zk.empty
 have g1 := kN m0
 have ne0 : (0 : Nat) ≠ 2 := by decide
 have cl : [by_ k l].all (jH 16) = true := all1 (yZ (k := k) hk.le)
 obtain ⟨T, hTe⟩ : ∃ T, T = (by_ k l :: undef :: undef :: undef :: undef :: undef :: undef :: undef :: undef :: undef :: undef :: undef :: undef :: undef :: undef :: undef :: undef :: undef :: undef :: undef :: undef :: undef :: undef :: undef :: undef :: undef :: undef :: undef :: undef :: undef :: undef :: undef :: undef :: undef :: undef :: undef :: undef :: undef :: undef :: undef :: undef :: undef :: undef :: undef :: undef :: undef :: undef :: undef :: undef :: undef :: undef :: undef :: undef :: undef :: undef :: undef :: undef :: undef :: undef :: undef :: undef :: undef :: undef :: undef :: undef :: undef :: undef :: undef :: undef :: []) := ⟨_, rfl⟩
 have hr : zF Try.prog O false ji.code T zk.empty = zF Try.prog O false ji.code T zk.empty := rfl
 have c1 := fun S => zG.v (many := 6) hk k2 hl S
 have r1 : ∀ k0 k1, vC k0 k1 6 l = _ := fun k0 k1 => kX (m := 6) (by decide) (by decide)
 rw [r1] at c1
 rcases ae4 l with h | ⟨a, b, c, d, e, f, r, h, hlr⟩
 ·
  rw [h] at c1
  refine ⟨m0, false, acf h, fun S => ?_⟩
  have s1 := Yn g1 m0
  conv at hr =>
   rhs
   rw [hTe]
   simp only [ji.code, ji.rs, zSs, reduceIte, Nat.reduceEqDiff, Int.reduceEq, Int.reduceLT, Int.reduceLE, if_neg k2, a1, c1, kD g1 (by decide), s1]
  rw [hTe] at hr
  exact ji.runs hr (.inr rfl) (kD (wC _ 0 m0) (by decide)) rfl rfl cl rfl
 ·
  rw [h] at c1
  have i0 := fun S => xA (k := 1) (i := 0) (m := 0) (l := [a, b, c, d, e, f]) Okl.read rfl rfl S
  have i1 := fun S => xA (k := 1) (i := 1) (m := 1) (l := [a, b, c, d, e, f]) Okl.read rfl rfl S
  have i2 := fun S => xA (k := 1) (i := 2) (m := 2) (l := [a, b, c, d, e, f]) Okl.read rfl rfl S
  have i3 := fun S => xA (k := 1) (i := 3) (m := 3) (l := [a, b, c, d, e, f]) Okl.read rfl rfl S
  have i4 := fun S => xA (k := 1) (i := 4) (m := 4) (l := [a, b, c, d, e, f]) Okl.read rfl rfl S
  have i5 := fun S => xA (k := 1) (i := 5) (m := 5) (l := [a, b, c, d, e, f]) Okl.read rfl rfl S
  have bd := fun S => vJ (y0 := .int .i64 a) (y1 := .int .i64 b) (y2 := .int .i64 c) (y3 := .int .i64 d) (y4 := .int .i64 e) (y5 := .int .i64 f) yu yu yu yu yu yu S
  have s1 : wH Try.prog 30 (.pointer (some ⟨0, 0, none⟩)) (.agg [Value.int .i64 a, .int .i64 b, .int .i64 c, .int .i64 d, .int .i64 e, .int .i64 f, .int .i64 0, .int .i64 0, .int .i64 0, .int .i64 0, .int .i64 0, .int .i64 0, .slice none 0 0].toArray) (WJ m0) = some (undef, qF (WJ m0) 0 ⟨a, b, c, d, e, f, ⟨0, 0⟩, bk0⟩) := Yn g1 ⟨a, b, c, d, e, f, ⟨0, 0⟩, bk0⟩
  have g2 := wC (WJ m0) 0 ⟨a, b, c, d, e, f, ⟨0, 0⟩, bk0⟩
  generalize qF (WJ m0) 0 ⟨a, b, c, d, e, f, ⟨0, 0⟩, bk0⟩ = A2 at s1 g2
  by_cases k0 : a = 0
  ·
   obtain ⟨t, x, o1, o2⟩ := KI r
   have c2 := fun S => yE.v (k := 1) (l := r) Okl.read (by decide) (by omega) S
   rw [o1] at c2
   have s2 := ahZ g2 t
   have g3 := wC A2 0 ⟨a, b, c, d, e, f, t, bk0⟩
   dsimp only at s2
   generalize qF A2 0 ⟨a, b, c, d, e, f, t, bk0⟩ = A3 at s2 g3
   have s3 := Yn g3 ⟨a, b, c, d, e, f, t, bk0⟩
   have fin := kD (wC A3 0 ⟨a, b, c, d, e, f, t, bk0⟩) (by show (0 : Nat) ≠ 2; decide)
   rcases o2 with ⟨rfl, o2⟩ | ⟨rfl, o2, rfl⟩
   ·
    have hP := af7 h k0 o2
    have c3 := fun S => jq.v hP.1 S
    refine ⟨_, _, hP, fun S => ?_⟩
    conv at hr =>
     rhs
     rw [hTe]
     simp only [ji.code, ji.rs, zSs, reduceIte, Nat.reduceEqDiff, Int.reduceEq, Int.reduceLT, Int.reduceLE, if_neg k2, a1, c1, i0, i1, i2, i3, i4, i5, yX, bd, s1, zD, wz g2, decide_eq_true k0, c2, zX, s2, kD g3 ne0, qZ (ZV _), c3, y7 g3, s3]
    rw [hTe] at hr
    exact ji.runs hr (.inr rfl) fin rfl rfl cl (yC (all2 (wX hP.1.b.okl.le) rfl))
   ·
    have hP := adT (t := ⟨0, 0⟩) h k0 o2
    refine ⟨_, _, hP, fun S => ?_⟩
    conv at hr =>
     rhs
     rw [hTe]
     simp only [ji.code, ji.rs, zSs, reduceIte, Nat.reduceEqDiff, Int.reduceEq, Int.reduceLT, Int.reduceLE, if_neg k2, a1, c1, i0, i1, i2, i3, i4, i5, yX, bd, s1, zD, wz g2, decide_eq_true k0, c2, zX, s2, kD g3 ne0, qZ (ZV _), y7 g3, s3]
    rw [hTe] at hr
    exact ji.runs hr (.inr rfl) fin rfl rfl cl (yC (all2 (wX hP.1.b.okl.le) rfl))
  by_cases k1 : a = 1
  ·
   obtain ⟨y, x, ⟨hy, hy3, o2⟩, c2⟩ := jE.v (k := 1) (l := r) Okl.read (by decide) (by omega)
   have s2 := ahU g2 y
   have g3 := wC A2 0 ⟨a, b, c, d, e, f, ⟨0, 0⟩, y⟩
   dsimp only at s2
   generalize qF A2 0 ⟨a, b, c, d, e, f, ⟨0, 0⟩, y⟩ = A3 at s2 g3
   have s3 := Yn g3 ⟨a, b, c, d, e, f, ⟨0, 0⟩, y⟩
   have fin := kD (wC A3 0 ⟨a, b, c, d, e, f, ⟨0, 0⟩, y⟩) hy.ne
   rcases o2 with ⟨rfl, o2, _⟩ | ⟨rfl, o2, rfl⟩
   ·
    have hP := agq h k1 hy hy3 o2
    have c3 := fun S => jq.v hP.1 S
    refine ⟨_, _, hP, fun S => ?_⟩
    conv at hr =>
     rhs
     rw [hTe]
     simp only [ji.code, ji.rs, zSs, reduceIte, Nat.reduceEqDiff, Int.reduceEq, Int.reduceLT, Int.reduceLE, if_neg k2, a1, c1, i0, i1, i2, i3, i4, i5, yX, bd, s1, zD, wz g2, decide_eq_false k0, decide_eq_true k1, c2, zY, s2, kD g3 hy.ne, qZ (ZV _), c3, y7 g3, s3]
    rw [hTe] at hr
    exact ji.runs hr (.inr rfl) fin rfl rfl cl (yC (all2 (wX hP.1.b.okl.le) rfl))
   ·
    have hP := ad4 h k1 o2
    refine ⟨_, _, hP, fun S => ?_⟩
    conv at hr =>
     rhs
     rw [hTe]
     simp only [ji.code, ji.rs, zSs, reduceIte, Nat.reduceEqDiff, Int.reduceEq, Int.reduceLT, Int.reduceLE, if_neg k2, a1, c1, i0, i1, i2, i3, i4, i5, yX, bd, s1, zD, wz g2, decide_eq_false k0, decide_eq_true k1, c2, zY, s2, kD g3 ne0, qZ (ZV _), y7 g3, s3]
    rw [hTe] at hr
    exact ji.runs hr (.inr rfl) fin rfl rfl cl (yC (all2 (wX hP.1.b.okl.le) rfl))
  have hP := agI h k0 k1
  have c3 := fun S => jq.v hP.1 S
  have ln : ∀ S, Zz Try.prog 23 (by_ 1 r) S = some (.int .i64 r.length, S) := fun S => vZ Okl.read
  have s3 := Yn g2 ⟨a, b, c, d, e, f, ⟨0, 0⟩, bk0⟩
  have fin := kD (wC A2 0 ⟨a, b, c, d, e, f, ⟨0, 0⟩, bk0⟩) (by show (0 : Nat) ≠ 2; decide)
  refine ⟨_, _, hP, fun S => ?_⟩
  conv at hr =>
   rhs
   rw [hTe]
   simp only [ji.code, ji.rs, zSs, reduceIte, Nat.reduceEqDiff, Int.reduceEq, Int.reduceLT, Int.reduceLE, if_neg k2, a1, c1, i0, i1, i2, i3, i4, i5, yX, bd, s1, zD, wz g2, decide_eq_false k0, decide_eq_false k1, ln, kD g2 ne0, zn (kD g2 ne0), zn (c3 _), gvw, qZ (ZV _), y7 g2, s3]
  rw [hTe] at hr
  exact ji.runs hr (.inr rfl) fin rfl rfl cl (yC (all2 (wX hP.1.b.okl.le) rfl))
end Go.Proofs.Ytbgcphbbchndkaa
namespace Go.Proofs.Ytbgcphbbchndkaa
open Go.Abs
theorem Zp {x y : wP} : kE x y = true ↔ x.kind = y.kind ∧ x.frm = y.frm ∧ x.index = y.index ∧ x.view = y.view ∧ x.value = y.value ∧ x.prep = y.prep ∧ x.tx = y.tx ∧ ZB x.b y.b = true := by
 simp [kE]
theorem acP {a b : vF} (h : ZB a b = true) : ZB b a = true := by
 rw [Zu] at h ⊢; exact ⟨h.1.symm, h.2.1.symm, h.2.2.1.symm, h.2.2.2.1.symm, h.2.2.2.2.symm⟩
theorem aaX {a b c : vF} (h : ZB a b = true) (k : ZB b c = true) : ZB a c = true := by
 rw [Zu] at h k ⊢; exact ⟨h.1.trans k.1, h.2.1.trans k.2.1, h.2.2.1.trans k.2.2.1, h.2.2.2.1.trans k.2.2.2.1, h.2.2.2.2.trans k.2.2.2.2⟩
theorem adb (m : wP) : kE m m = true := Zp.2 ⟨rfl, rfl, rfl, rfl, rfl, rfl, rfl, xP _⟩
theorem like {x y : wP} (h : kE x y = true) : y9 y = y9 x ∧ kG y = kG x ∧ Vj y = Vj x := by
 obtain ⟨h1, h2, h3, h4, h5, h6, h7, h8⟩ := Zp.1 h
 have e : y = { x with b := y.b } := mk_eq h1.symm h2.symm h3.symm h4.symm h5.symm h6.symm h7.symm rfl
 have hb : kG y = kG x := by
  obtain ⟨s1, s2, s3, s4, s5⟩ := Zu.1 h8
  simp only [kG, J7, Zt, aaq, ← h1, ← h2, ← h3, ← h4, ← h5, ← h6, ← h7, ← s1, ← s2, ← s3, ← s4, ← s5]
 refine ⟨?_, hb, ?_⟩
 ·
  rw [e]; exact Xt h8
 ·
  simp only [Vj, mkM, hb, ← h2]
theorem abZ {x y : wP} (hx : y9 x = true) (hy : y9 y = true) (h : kG x = kG y) : kE x y = true := by
 have e := Jr hx
 rw [h, Jr hy] at e
 simp only [Option.some.injEq, Prod.mk.injEq, J7, List.cons.injEq, and_true] at e
 obtain ⟨⟨h1, h2, h3, h4, h5, h6⟩, h7⟩ := e
 have fx := Zd hx; have fy := Zd hy
 refine Zp.2 ⟨h1.symm, h2.symm, h3.symm, h4.symm, h5.symm, h6.symm, ?_, ?_⟩
 ·
  by_cases k : x.kind = 0
  ·
   have ky : y.kind = 0 := by omega
   rw [Zt, Zt, if_pos k, if_pos ky] at h7
   exact (ad9 (r := []) (s := []) (fx.tx k) (fy.tx ky) (by rw [List.append_nil, List.append_nil, h7])).1
  ·
   rw [fx.notx k, fy.notx (by omega)]
 ·
  by_cases k : x.kind = 1
  ·
   have ky : y.kind = 1 := by omega
   rw [Zt, Zt, if_neg (show ¬ y.kind = 0 by omega), if_neg (show ¬ x.kind = 0 by omega), if_pos ky, if_pos k] at h7
   exact Zu.2 (aby (r := []) (s := []) (fx.blk k) (fy.blk ky) (by rw [List.append_nil, List.append_nil, h7])).1
  ·
   exact aaX (fx.noblk k) (acP (fy.noblk (by omega)))
theorem abq (m : wP) : mkM m < 2 ^ 64 := aib _ _
theorem ags {x y : wP} (hx : y9 x = true) (hy : y9 y = true) (h : Vj x = Vj y) : kE x y = true :=
 abZ hx hy (aie (abq x) (abq y) h).2
def Ku (l : List UInt8) (m : wP) (e : Int) : Prop := m.Ok ∧ m.b.txs.length ≤ 3 ∧ ((e = 0 ∧ y9 m = true ∧ l = Vj m) ∨ (e = 121 ∧ m = m0 ∧ ∀ x, y9 x = true → l ≠ Vj x))
theorem QN {l : List UInt8} (h : scan 0 0 l = none) : Ku l m0 121 := ⟨Yy, by simp, .inr ⟨rfl, rfl, fun x hx hl => by
 have := WT (abq x) (kG x)
 rw [show enc (mkM x) ++ kG x = l from hl.symm, h] at this
 cases this⟩⟩
theorem YW {l r : List UInt8} {n : Nat} (h : scan 0 0 l = some (n, r)) {x : wP} (hl : l = Vj x) : n = mkM x ∧ r = kG x := by
 have := WT (abq x) (kG x)
 rw [show enc (mkM x) ++ kG x = l from hl.symm, h] at this
 simpa using this
theorem wE.v {k : Nat} {l : List UInt8} (hk : Okl k l) (k2 : k ≠ 2) (hl : l.length ≤ 140737488355328) : ∃ m e, Ku l m e ∧ ∀ S, jc Try.prog O wE.id [by_ k l] S = some (.tuple #[mv m, .int .i64 e], S) := by
 have a1 : yF Try.prog 30 zk.empty = some (.pointer (some ⟨0, 0, none⟩), WJ m0) := KJ zk.empty
 have g1 := kN m0
 have ne0 : (0 : Nat) ≠ 2 := by decide
 have cl : [by_ k l].all (jH 16) = true := all1 (yZ (k := k) hk.le)
 obtain ⟨T, hTe⟩ : ∃ T, T = (by_ k l :: undef :: undef :: undef :: undef :: undef :: undef :: undef :: undef :: undef :: undef :: undef :: undef :: undef :: undef :: undef :: undef :: undef :: undef :: undef :: undef :: undef :: undef :: undef :: undef :: undef :: undef :: undef :: undef :: undef :: undef :: undef :: undef :: undef :: undef :: undef :: []) := ⟨_, rfl⟩
 have hr : zF Try.prog O false wE.code T zk.empty = zF Try.prog O false wE.code T zk.empty := rfl
 have c1 := fun S => jk.v hk k2 hl S
 unfold QY at c1
 have z0 : ∀ S, yJ Try.prog 30 [] S = some (mv m0, S) := fun S => Kq S
 cases h : scan 0 0 l with
 | none =>
  rw [h] at c1
  have s1 := Yn g1 m0
  refine ⟨m0, 121, QN h, fun S => ?_⟩
  conv at hr =>
   rhs
   rw [hTe]
   simp only [wE.code, wE.rs, zSs, reduceIte, Nat.reduceEqDiff, Int.reduceEq, Int.reduceLT, Int.reduceLE, if_neg k2, a1, c1, z0, s1]
  rw [hTe] at hr
  exact wE.runs hr (.inr rfl) (kD (wC _ 0 m0) ne0) rfl rfl cl rfl
 | some nr =>
  obtain ⟨n, r⟩ := nr
  rw [h] at c1
  obtain ⟨hn, hlr⟩ := Qx l 0 0 (by decide) (by decide) n r h
  obtain ⟨m, ok, ⟨mo, m3, hP⟩, c2⟩ := ji.v (k := 1) (l := r) Okl.read (by decide) (by omega)
  have a2 : yF Try.prog 30 (WJ m0) = some (.pointer (some ⟨1, 0, none⟩), Yr m0 m0) := KJ (WJ m0)
  have s1 := Yn (Vb m0 m0) m
  have g2 := wC (Yr m0 m0) 1 m
  have g3 : (qF (Yr m0 m0) 1 m).get 0 = some (.cells (fM m0) (.own []) 0) := (wW (by decide)).trans (XT m0 m0)
  generalize qF (Yr m0 m0) 1 m = A2 at s1 g2 g3
  have s2 := Yn g3 m0
  have f2 := kD (wC A2 0 m0) ne0
  have s3 := Yn g3 m
  have f3 := kD (wC A2 0 m) mo.b.ne
  rcases hP with ⟨rfl, hR, hb⟩ | ⟨rfl, hP⟩
  ·
   have ck := fun S => qU.v m.frm S
   have ct := fun S => yT.v (k := 1) (l := r) Okl.read rfl (by omega) (key := QX m.frm) (mark := n) S
   have em : J3 (QX m.frm) r = (mkM m : Nat) := by rw [hb]; exact (aeh _ _).symm
   by_cases hq : J3 (QX m.frm) r = n
   ·
    refine ⟨m, 0, ⟨mo, m3, .inl ⟨rfl, hR, ?_⟩⟩, fun S => ?_⟩
    ·
     rw [(Vw h).1, Vj, ← hb]
     congr 2
     omega
    rw [decide_eq_true hq] at ct
    conv at hr =>
     rhs
     rw [hTe]
     simp only [wE.code, wE.rs, zSs, reduceIte, Nat.reduceEqDiff, Int.reduceEq, Int.reduceLT, Int.reduceLE, if_neg k2, a1, c1, c2, a2, s1, zN, wQ g2, ck, ct, kD g2 mo.b.ne, s3]
    rw [hTe] at hr
    exact wE.runs hr (.inr rfl) f3 rfl rfl cl (yC (all2 (wX mo.b.okl.le) rfl))
   ·
    refine ⟨m0, 121, ⟨Yy, by simp, .inr ⟨rfl, rfl, fun x hx hl => ?_⟩⟩, fun S => ?_⟩
    ·
     obtain ⟨i1, i2⟩ := YW h hl
     have hs := abZ hx hR (by rw [← i2, hb])
     refine hq ?_
     rw [em, i1]
     simp only [mkM, (like hs).2.1, (Zp.1 hs).2.1]
    rw [decide_eq_false hq] at ct
    conv at hr =>
     rhs
     rw [hTe]
     simp only [wE.code, wE.rs, zSs, reduceIte, Nat.reduceEqDiff, Int.reduceEq, Int.reduceLT, Int.reduceLE, if_neg k2, a1, c1, c2, a2, s1, zN, wQ g2, ck, ct, z0, s2]
    rw [hTe] at hr
    exact wE.runs hr (.inr rfl) f2 rfl rfl cl rfl
  ·
   refine ⟨m0, 121, ⟨Yy, by simp, .inr ⟨rfl, rfl, fun x hx hl => hP x hx (YW h hl).2⟩⟩, fun S => ?_⟩
   conv at hr =>
    rhs
    rw [hTe]
    simp only [wE.code, wE.rs, zSs, reduceIte, Nat.reduceEqDiff, Int.reduceEq, Int.reduceLT, Int.reduceLE, if_neg k2, a1, c1, c2, a2, s1, z0, s2]
   rw [hTe] at hr
   exact wE.runs hr (.inr rfl) f2 rfl rfl cl rfl
theorem XD {l r : List UInt8} {n : Nat} (h : scan 0 0 l = some (n, r)) {m : wP} (hm : m.Ok) (h3 : m.b.txs.length ≤ 3) (hP : ∀ x, y9 x = true → r = kG x → kE x m = true) :
  Ku l (if y9 m = true ∧ Vj m = l then m else m0) (if y9 m = true ∧ Vj m = l then 0 else 121) := by
 by_cases hq : y9 m = true ∧ Vj m = l
 ·
  rw [if_pos hq, if_pos hq]
  exact ⟨hm, h3, .inl ⟨rfl, hq.1, hq.2.symm⟩⟩
 ·
  rw [if_neg hq, if_neg hq]
  refine ⟨Yy, by simp, .inr ⟨rfl, rfl, fun x hx hl => hq ?_⟩⟩
  have hs := like (hP x hx (YW h hl).2)
  exact ⟨hs.1.trans hx, hs.2.2.trans hl.symm⟩
theorem zu.v {k : Nat} {l : List UInt8} (hk : Okl k l) (k2 : k ≠ 2) (hl : l.length ≤ 140737488355328) : ∃ m e, Ku l m e ∧ ∀ S, jc Try.prog O zu.id [by_ k l] S = some (.tuple #[mv m, .int .i64 e], S) := by
 have a1 : yF Try.prog 30 zk.empty = some (.pointer (some ⟨0, 0, none⟩), WJ m0) := KJ zk.empty
 have g1 := kN m0
 have ne0 : (0 : Nat) ≠ 2 := by decide
 have cl : [by_ k l].all (jH 16) = true := all1 (yZ (k := k) hk.le)
 obtain ⟨T, hTe⟩ : ∃ T, T = (by_ k l :: undef :: undef :: undef :: undef :: undef :: undef :: undef :: undef :: undef :: undef :: undef :: undef :: undef :: undef :: undef :: undef :: undef :: undef :: undef :: undef :: undef :: undef :: undef :: undef :: undef :: undef :: undef :: undef :: undef :: undef :: undef :: undef :: undef :: undef :: undef :: undef :: undef :: undef :: undef :: undef :: undef :: undef :: undef :: undef :: undef :: undef :: undef :: undef :: undef :: undef :: undef :: undef :: undef :: undef :: undef :: undef :: undef :: undef :: undef :: undef :: undef :: undef :: undef :: undef :: undef :: undef :: undef :: undef :: undef :: undef :: undef :: undef :: undef :: undef :: undef :: undef :: undef :: undef :: undef :: undef :: undef :: undef :: undef :: []) := ⟨_, rfl⟩
 have hr : zF Try.prog O false zu.code T zk.empty = zF Try.prog O false zu.code T zk.empty := rfl
 have c1 := fun S => zx.v hk k2 hl S
 unfold QY at c1
 have z0 : ∀ S, yJ Try.prog 30 [] S = some (mv m0, S) := fun S => Kq S
 cases h : scan 0 0 l with
 | none =>
  rw [h] at c1
  have s1 := Yn g1 m0
  refine ⟨m0, 121, QN h, fun S => ?_⟩
  conv at hr =>
   rhs
   rw [hTe]
   simp only [zu.code, zu.rs, zSs, reduceIte, Nat.reduceEqDiff, Int.reduceEq, Int.reduceLT, Int.reduceLE, if_neg k2, a1, c1, z0, s1]
  rw [hTe] at hr
  exact zu.runs hr (.inr rfl) (kD (wC _ 0 m0) ne0) rfl rfl cl rfl
 | some nr =>
  obtain ⟨n, r0⟩ := nr
  rw [h] at c1
  obtain ⟨hn, hlr⟩ := Qx l 0 0 (by decide) (by decide) n r0 h
  have c2 := fun S => zq.v (k := 1) (l := r0) (many := 6) Okl.read (by decide) (by omega) S
  have r1 : ∀ k0 k1, vC k0 k1 6 r0 = _ := fun k0 k1 => kX (m := 6) (by decide) (by decide)
  rw [r1] at c2
  rcases ae4 r0 with h6 | ⟨a, b, c, d, e, f, r, h6, hlr6⟩
  ·
   rw [h6] at c2
   have s1 := Yn g1 m0
   refine ⟨m0, 121, ⟨Yy, by simp, .inr ⟨rfl, rfl, fun x hx hl => ?_⟩⟩, fun S => ?_⟩
   ·
    have := Jr hx
    rw [← (YW h hl).2, h6] at this
    cases this
   conv at hr =>
    rhs
    rw [hTe]
    simp only [zu.code, zu.rs, zSs, reduceIte, Nat.reduceEqDiff, Int.reduceEq, Int.reduceLT, Int.reduceLE, if_neg k2, a1, c1, c2, z0, s1]
   rw [hTe] at hr
   exact zu.runs hr (.inr rfl) (kD (wC _ 0 m0) ne0) rfl rfl cl rfl
  ·
   rw [h6] at c2
   have few := ((yB _ _ _ _).mp h6).2.2
   have i0 := fun S => xA (k := 1) (i := 0) (m := 0) (l := [a, b, c, d, e, f]) Okl.read rfl rfl S
   have i1 := fun S => xA (k := 1) (i := 1) (m := 1) (l := [a, b, c, d, e, f]) Okl.read rfl rfl S
   have i2 := fun S => xA (k := 1) (i := 2) (m := 2) (l := [a, b, c, d, e, f]) Okl.read rfl rfl S
   have i3 := fun S => xA (k := 1) (i := 3) (m := 3) (l := [a, b, c, d, e, f]) Okl.read rfl rfl S
   have i4 := fun S => xA (k := 1) (i := 4) (m := 4) (l := [a, b, c, d, e, f]) Okl.read rfl rfl S
   have i5 := fun S => xA (k := 1) (i := 5) (m := 5) (l := [a, b, c, d, e, f]) Okl.read rfl rfl S
   have bd := fun S => vJ (y0 := .int .i64 a) (y1 := .int .i64 b) (y2 := .int .i64 c) (y3 := .int .i64 d) (y4 := .int .i64 e) (y5 := .int .i64 f) yu yu yu yu yu yu S
   have a2 : yF Try.prog 30 (WJ m0) = some (.pointer (some ⟨1, 0, none⟩), Yr m0 m0) := KJ (WJ m0)
   have s1 : wH Try.prog 30 (.pointer (some ⟨1, 0, none⟩)) (.agg [Value.int .i64 a, .int .i64 b, .int .i64 c, .int .i64 d, .int .i64 e, .int .i64 f, .int .i64 0, .int .i64 0, .int .i64 0, .int .i64 0, .int .i64 0, .int .i64 0, .slice none 0 0].toArray) (Yr m0 m0) = some (undef, qF (Yr m0 m0) 1 ⟨a, b, c, d, e, f, ⟨0, 0⟩, bk0⟩) := Yn (Vb m0 m0) ⟨a, b, c, d, e, f, ⟨0, 0⟩, bk0⟩
   have g2 := wC (Yr m0 m0) 1 ⟨a, b, c, d, e, f, ⟨0, 0⟩, bk0⟩
   have g3 : (qF (Yr m0 m0) 1 ⟨a, b, c, d, e, f, ⟨0, 0⟩, bk0⟩).get 0 = some (.cells (fM m0) (.own []) 0) := (wW (by decide)).trans (XT m0 m0)
   generalize qF (Yr m0 m0) 1 ⟨a, b, c, d, e, f, ⟨0, 0⟩, bk0⟩ = A2 at s1 g2 g3
   have okA : okq 3 (.agg [Value.int .i64 a, .int .i64 b, .int .i64 c, .int .i64 d, .int .i64 e, .int .i64 f, .int .i64 0, .int .i64 0, .int .i64 0, .int .i64 0, .int .i64 0, .int .i64 0, .slice none 0 0].toArray) = true := rfl
   have fin : ∀ (m : wP) (A : zk), A.get 1 = some (.cells (fM m) (.own []) 0) → A.get 0 = some (.cells (fM m0) (.own []) 0) → m.Ok → ∀ S,
     wH Try.prog 30 (.pointer (some ⟨0, 0, none⟩)) (mv m) A = some (undef, qF A 0 m) ∧ wH Try.prog 30 (.pointer (some ⟨0, 0, none⟩)) (mv m0) A = some (undef, qF A 0 m0) ∧ jc Try.prog O 18 [mv m] S = some (ab9 m, S) :=
    fun m A h1 h0 hm S => ⟨Yn h0 m, Yn h0 m0, zH.v hm S⟩
   have cs1 : ∀ S, Ji Try.prog 23 9 (by_ k l) S = some (.string ⟨l.toArray⟩, S) := fun S => abn hk
   have cs2 : ∀ (x : List UInt8) S, Ji Try.prog 23 9 (by_ 1 x) S = some (.string ⟨x.toArray⟩, S) := fun x S => abn Okl.read
   have tb : ∀ t : TxV, t.Ok → wP.Ok ⟨a, b, c, d, e, f, t, bk0⟩ := fun t ht => ⟨ok0, ht, yw (few _ (by simp)), yw (few _ (by simp)), yw (few _ (by simp)), yw (few _ (by simp)), yw (few _ (by simp)), yw (few _ (by simp))⟩
   by_cases k0 : a = 0
   ·
    obtain ⟨t, x, o1, o2⟩ := KI r
    have c3 := fun S => zM.v (k := 1) (l := r) Okl.read (by decide) (by omega) S
    rw [o1] at c3
    have s2 := ahZ g2 t
    have q1 := wC A2 1 ⟨a, b, c, d, e, f, t, bk0⟩
    have q0 : (qF A2 1 ⟨a, b, c, d, e, f, t, bk0⟩).get 0 = some (.cells (fM m0) (.own []) 0) := (wW (by decide)).trans g3
    dsimp only at s2
    generalize qF A2 1 ⟨a, b, c, d, e, f, t, bk0⟩ = A3 at s2 q1 q0
    have ht : t.Ok := by
     rcases o2 with ⟨_, o2⟩ | ⟨_, _, rfl⟩
     ·
      exact ab6 ((Z5 r t).1 o2).1
     ·
      exact Yy.tx
    have hm := tb t ht
    have hP : ∀ x, y9 x = true → r0 = kG x → kE x ⟨a, b, c, d, e, f, t, bk0⟩ = true := fun x hx hl => by
     obtain ⟨i1, i2, i3, i4, i5, i6, i7⟩ := Jz h6 hx hl
     have hf := Zd hx
     have k0 : x.kind = 0 := by omega
     have h3 := (Z5 r x.tx).2 ⟨hf.tx k0, by rw [← i7, Zt, if_pos k0]⟩
     refine Zp.2 ⟨i1, i2, i3, i4, i5, i6, ?_, hf.noblk (by omega)⟩
     rcases o2 with ⟨_, o2⟩ | ⟨_, o2, _⟩
     ·
      rw [o2] at h3; injection h3 with h3; exact h3.symm
     ·
      rw [o2] at h3; cases h3
    have hR := XD h hm (by simp) hP
    obtain ⟨w0, w1, _⟩ := fin _ A3 q1 q0 hm zk.empty
    have w2 := fun S => (fin _ A3 q1 q0 hm S).2.2
    have kk := decide_eq_true k0
    have kl : decide (a = 1) = false := decide_eq_false (by omega)
    have hcm := wX (d := 9) hm.b.okl.le
    refine ⟨_, _, hR, fun S => ?_⟩
    unfold ab9 at w2
    by_cases hb : y9 (⟨a, b, c, d, e, f, t, bk0⟩ : wP) = true
    ·
     simp only [if_pos hb] at w2
     by_cases hq : Vj (⟨a, b, c, d, e, f, t, bk0⟩ : wP) = l
     ·
      rw [if_pos ⟨hb, hq⟩, if_pos ⟨hb, hq⟩]
      have dq := decide_eq_true hq
      conv at hr =>
       rhs
       rw [hTe]
       simp only [zu.code, zu.rs, zSs, reduceIte, Nat.reduceEqDiff, Int.reduceEq, Int.reduceLT, Int.reduceLE, if_neg k2, a1, c1, c2, i0, i1, i2, i3, i4, i5, yX, qZ (JB (d := 3)), qZ okA, bd, a2, s1, kU, zD, wz g2, kk, c3, zX, s2, kl, wz q1, kD q1 ne0, w2, cs1, cs2, xq, dq, w0]
      rw [hTe] at hr
      exact zu.runs hr (.inr rfl) (kD (wC A3 0 (⟨a, b, c, d, e, f, t, bk0⟩ : wP)) ne0) rfl rfl cl (yC (all2 hcm rfl))
     ·
      rw [if_neg (fun h => hq h.2), if_neg (fun h => hq h.2)]
      have dq := decide_eq_false hq
      conv at hr =>
       rhs
       rw [hTe]
       simp only [zu.code, zu.rs, zSs, reduceIte, Nat.reduceEqDiff, Int.reduceEq, Int.reduceLT, Int.reduceLE, if_neg k2, a1, c1, c2, i0, i1, i2, i3, i4, i5, yX, qZ (JB (d := 3)), qZ okA, bd, a2, s1, kU, zD, wz g2, kk, c3, zX, s2, kl, wz q1, kD q1 ne0, w2, cs1, cs2, xq, dq, z0, w1]
      rw [hTe] at hr
      exact zu.runs hr (.inr rfl) (kD (wC A3 0 m0) ne0) rfl rfl cl rfl
    ·
     simp only [if_neg hb] at w2
     rw [if_neg (fun h => hb h.1), if_neg (fun h => hb h.1)]
     conv at hr =>
      rhs
      rw [hTe]
      simp only [zu.code, zu.rs, zSs, reduceIte, Nat.reduceEqDiff, Int.reduceEq, Int.reduceLT, Int.reduceLE, if_neg k2, a1, c1, c2, i0, i1, i2, i3, i4, i5, yX, qZ (JB (d := 3)), qZ okA, bd, a2, s1, kU, zD, wz g2, kk, c3, zX, s2, kl, wz q1, kD q1 ne0, w2, cs1, cs2, xq, z0, w1]
     rw [hTe] at hr
     exact zu.runs hr (.inr rfl) (kD (wC A3 0 m0) ne0) rfl rfl cl rfl
   by_cases k1 : a = 1
   ·
    obtain ⟨y, x, ⟨hy, hy3, o2⟩, c3⟩ := zJ.v (k := 1) (l := r) Okl.read (by decide) (by omega)
    have s2 := ahU g2 y
    have q1 := wC A2 1 ⟨a, b, c, d, e, f, ⟨0, 0⟩, y⟩
    have q0 : (qF A2 1 ⟨a, b, c, d, e, f, ⟨0, 0⟩, y⟩).get 0 = some (.cells (fM m0) (.own []) 0) := (wW (by decide)).trans g3
    dsimp only at s2
    generalize qF A2 1 ⟨a, b, c, d, e, f, ⟨0, 0⟩, y⟩ = A3 at s2 q1 q0
    have hm : wP.Ok ⟨a, b, c, d, e, f, ⟨0, 0⟩, y⟩ := ⟨hy, Yy.tx, yw (few _ (by simp)), yw (few _ (by simp)), yw (few _ (by simp)), yw (few _ (by simp)), yw (few _ (by simp)), yw (few _ (by simp))⟩
    have hP : ∀ x, y9 x = true → r0 = kG x → kE x ⟨a, b, c, d, e, f, ⟨0, 0⟩, y⟩ = true := fun x hx hl => by
     obtain ⟨i1, i2, i3, i4, i5, i6, i7⟩ := Jz h6 hx hl
     have hf := Zd hx
     have k1 : x.kind = 1 := by omega
     have h3 := (JO r ⟨x.b.slot, x.b.miner, x.b.variant, x.b.parent, 0, x.b.txs⟩).2 ⟨⟨hf.blk k1, rfl⟩, by rw [← i7, Zt, if_neg (by omega), if_pos k1]; rfl⟩
     refine Zp.2 ⟨i1, i2, i3, i4, i5, i6, hf.notx (by omega), ?_⟩
     rcases o2 with ⟨_, o2, _⟩ | ⟨_, o2, _⟩
     ·
      rw [o2] at h3
      simp only [Option.some.injEq, vF.mk.injEq, true_and] at h3
      exact Zu.2 ⟨h3.1.symm, h3.2.1.symm, h3.2.2.1.symm, h3.2.2.2.1.symm, h3.2.2.2.2.symm⟩
     ·
      rw [o2] at h3; cases h3
    have hR := XD h hm hy3 hP
    obtain ⟨w0, w1, _⟩ := fin _ A3 q1 q0 hm zk.empty
    have w2 := fun S => (fin _ A3 q1 q0 hm S).2.2
    have kk := decide_eq_true k1
    have kl : decide (a = 0) = false := decide_eq_false k0
    have hcm := wX (d := 9) hm.b.okl.le
    refine ⟨_, _, hR, fun S => ?_⟩
    unfold ab9 at w2
    by_cases hb : y9 (⟨a, b, c, d, e, f, ⟨0, 0⟩, y⟩ : wP) = true
    ·
     simp only [if_pos hb] at w2
     by_cases hq : Vj (⟨a, b, c, d, e, f, ⟨0, 0⟩, y⟩ : wP) = l
     ·
      rw [if_pos ⟨hb, hq⟩, if_pos ⟨hb, hq⟩]
      have dq := decide_eq_true hq
      conv at hr =>
       rhs
       rw [hTe]
       simp only [zu.code, zu.rs, zSs, reduceIte, Nat.reduceEqDiff, Int.reduceEq, Int.reduceLT, Int.reduceLE, if_neg k2, a1, c1, c2, i0, i1, i2, i3, i4, i5, yX, qZ (JB (d := 3)), qZ okA, bd, a2, s1, kU, zD, wz g2, kk, c3, zY, s2, kl, wz q1, kD q1 hy.ne, w2, cs1, cs2, xq, dq, w0]
      rw [hTe] at hr
      exact zu.runs hr (.inr rfl) (kD (wC A3 0 (⟨a, b, c, d, e, f, ⟨0, 0⟩, y⟩ : wP)) hy.ne) rfl rfl cl (yC (all2 hcm rfl))
     ·
      rw [if_neg (fun h => hq h.2), if_neg (fun h => hq h.2)]
      have dq := decide_eq_false hq
      conv at hr =>
       rhs
       rw [hTe]
       simp only [zu.code, zu.rs, zSs, reduceIte, Nat.reduceEqDiff, Int.reduceEq, Int.reduceLT, Int.reduceLE, if_neg k2, a1, c1, c2, i0, i1, i2, i3, i4, i5, yX, qZ (JB (d := 3)), qZ okA, bd, a2, s1, kU, zD, wz g2, kk, c3, zY, s2, kl, wz q1, kD q1 hy.ne, w2, cs1, cs2, xq, dq, z0, w1]
      rw [hTe] at hr
      exact zu.runs hr (.inr rfl) (kD (wC A3 0 m0) ne0) rfl rfl cl rfl
    ·
     simp only [if_neg hb] at w2
     rw [if_neg (fun h => hb h.1), if_neg (fun h => hb h.1)]
     conv at hr =>
      rhs
      rw [hTe]
      simp only [zu.code, zu.rs, zSs, reduceIte, Nat.reduceEqDiff, Int.reduceEq, Int.reduceLT, Int.reduceLE, if_neg k2, a1, c1, c2, i0, i1, i2, i3, i4, i5, yX, qZ (JB (d := 3)), qZ okA, bd, a2, s1, kU, zD, wz g2, kk, c3, zY, s2, kl, wz q1, kD q1 hy.ne, w2, cs1, cs2, xq, z0, w1]
     rw [hTe] at hr
     exact zu.runs hr (.inr rfl) (kD (wC A3 0 m0) ne0) rfl rfl cl rfl
   have hm := tb ⟨0, 0⟩ Yy.tx
   have hP : ∀ x, y9 x = true → r0 = kG x → kE x ⟨a, b, c, d, e, f, ⟨0, 0⟩, bk0⟩ = true := fun x hx hl => by
    obtain ⟨i1, i2, i3, i4, i5, i6, i7⟩ := Jz h6 hx hl
    have hf := Zd hx
    exact Zp.2 ⟨i1, i2, i3, i4, i5, i6, hf.notx (by omega), hf.noblk (by omega)⟩
   have hR := XD h hm (by simp) hP
   obtain ⟨w0, w1, _⟩ := fin _ A2 g2 g3 hm zk.empty
   have w2 := fun S => (fin _ A2 g2 g3 hm S).2.2
   have kk := decide_eq_false k0
   have kl := decide_eq_false k1
   have hcm := wX (d := 9) hm.b.okl.le
   refine ⟨_, _, hR, fun S => ?_⟩
   unfold ab9 at w2
   by_cases hb : y9 (⟨a, b, c, d, e, f, ⟨0, 0⟩, bk0⟩ : wP) = true
   ·
    simp only [if_pos hb] at w2
    by_cases hq : Vj (⟨a, b, c, d, e, f, ⟨0, 0⟩, bk0⟩ : wP) = l
    ·
     rw [if_pos ⟨hb, hq⟩, if_pos ⟨hb, hq⟩]
     have dq := decide_eq_true hq
     conv at hr =>
      rhs
      rw [hTe]
      simp only [zu.code, zu.rs, zSs, reduceIte, Nat.reduceEqDiff, Int.reduceEq, Int.reduceLT, Int.reduceLE, if_neg k2, a1, c1, c2, i0, i1, i2, i3, i4, i5, yX, qZ (JB (d := 3)), qZ okA, bd, a2, s1, kU, zD, wz g2, kk, kl, kD g2 ne0, w2, cs1, cs2, xq, dq, w0]
     rw [hTe] at hr
     exact zu.runs hr (.inr rfl) (kD (wC A2 0 (⟨a, b, c, d, e, f, ⟨0, 0⟩, bk0⟩ : wP)) ne0) rfl rfl cl (yC (all2 hcm rfl))
    ·
     rw [if_neg (fun h => hq h.2), if_neg (fun h => hq h.2)]
     have dq := decide_eq_false hq
     conv at hr =>
      rhs
      rw [hTe]
      simp only [zu.code, zu.rs, zSs, reduceIte, Nat.reduceEqDiff, Int.reduceEq, Int.reduceLT, Int.reduceLE, if_neg k2, a1, c1, c2, i0, i1, i2, i3, i4, i5, yX, qZ (JB (d := 3)), qZ okA, bd, a2, s1, kU, zD, wz g2, kk, kl, kD g2 ne0, w2, cs1, cs2, xq, dq, z0, w1]
     rw [hTe] at hr
     exact zu.runs hr (.inr rfl) (kD (wC A2 0 m0) ne0) rfl rfl cl rfl
   ·
    simp only [if_neg hb] at w2
    rw [if_neg (fun h => hb h.1), if_neg (fun h => hb h.1)]
    conv at hr =>
     rhs
     rw [hTe]
     simp only [zu.code, zu.rs, zSs, reduceIte, Nat.reduceEqDiff, Int.reduceEq, Int.reduceLT, Int.reduceLE, if_neg k2, a1, c1, c2, i0, i1, i2, i3, i4, i5, yX, qZ (JB (d := 3)), qZ okA, bd, a2, s1, kU, zD, wz g2, kk, kl, kD g2 ne0, w2, cs1, cs2, xq, z0, w1]
    rw [hTe] at hr
    exact zu.runs hr (.inr rfl) (kD (wC A2 0 m0) ne0) rfl rfl cl rfl
end Go.Proofs.Ytbgcphbbchndkaa
namespace Go.Proofs.Ytbgcphbbchndkaa
open Go.Abs
theorem adX (m : wP) (S : zk) : ∃ S2, wH Try.prog 30 (.pointer (some ⟨S.next, 0, none⟩)) (mv m) (S.push (.cells (fM m0) (.own []) 0)) = some (undef, S2) ∧ S2.get S.next = some (.cells (fM m) (.own []) 0) ∧ Ext S S2 ∧ S.next < S2.next :=
 Qd S (by rw [qX]; rfl) QH rfl (ai9 m)
theorem acT {l : List UInt8} {x y : wP} {e f : Int} (h : Ku l x e) (g : Ku l y f) : kE x y = true ∧ e = f := by
 obtain ⟨_, _, ⟨rfl, h1, h2⟩ | ⟨rfl, rfl, h2⟩⟩ := h <;> obtain ⟨_, _, ⟨rfl, g1, g2⟩ | ⟨rfl, rfl, g2⟩⟩ := g
 ·
  exact ⟨ags h1 g1 (h2.symm.trans g2), rfl⟩
 ·
  exact absurd h2 (g2 _ h1)
 ·
  exact absurd g2 (h2 _ g1)
 ·
  exact ⟨adb _, rfl⟩
end Go.Proofs.Ytbgcphbbchndkaa
namespace Go.Proofs.Ytbgcphbbchndkaa
open Go.Abs
theorem Jk.v (S : zk) : jc Try.prog O 9 [] S = some (.bool true, S) := ZE (n := 80) (by kernel_rfl)
end Go.Proofs.Ytbgcphbbchndkaa
namespace Go.Proofs.Ytbgcphbbchndkaa
open Go.Abs
namespace msgReads
def codes : List (Bool × Ty) := [(false, .slc 1 (.int .u8))]
theorem coded : KC Try.prog 9 [23] = some codes := by kernel_rfl
theorem run {k : Nat} {l : List UInt8} (hk : Okl k l) (k2 : k ≠ 2) (hl : l.length ≤ 140737488351232) (S : zk) : ∃ S', jc Try.prog O 4 [by_ k l] S = some (.bool true, S') := by
 obtain ⟨T, hTe⟩ : ∃ T, T = (by_ k l :: undef :: undef :: undef :: undef :: undef :: undef :: undef :: undef :: undef :: undef :: undef :: undef :: undef :: undef :: undef :: undef :: undef :: undef :: undef :: undef :: undef :: undef :: undef :: undef :: undef :: undef :: undef :: undef :: undef :: []) := ⟨_, rfl⟩
 have hr : zF Try.prog O false jB.code T S = zF Try.prog O false jB.code T S := rfl
 obtain ⟨x, e, q1, c1⟩ := wE.v (k := 1) (l := l) Okl.read (by decide) (by omega)
 obtain ⟨y, f, q2, c2⟩ := zu.v hk k2 (by omega)
 obtain ⟨sm, rfl⟩ := acT q1 q2
 have c3 := fun S => zW.v q1.1 q2.1 S
 rw [sm] at c3
 have cp := fun S => adV (S := S) hk (by omega)
 obtain ⟨S1, b1, b2, b3, b4⟩ := adX x S
 obtain ⟨S2, d1, d2, d3, d4⟩ := adX y S1
 have ga : S2.get S.next = some (.cells (fM x) (.own []) 0) := (d3.get _ b4).trans b2
 conv at hr =>
  rhs
  rw [hTe]
  simp only [jB.code, jB.rs, zSs, reduceIte, Nat.reduceEqDiff, Int.reduceEq, Int.reduceLT, Int.reduceLE, if_neg k2, bb0, cp, c1, KJ, b1, c2, d1, Jk.v, kD ga q1.1.b.ne, kD d2 q2.1.b.ne, c3]
 rw [hTe] at hr
 exact ⟨_, jB.runs hr (.inr rfl)⟩
theorem law (x : Args codes) (h : Args.Good codes x) : ∃ k, (ZU Try.prog k 4 (Args.place codes x zk.empty).1 (Args.place codes x zk.empty).2).map (·.1) = some (.bool true) := by
 obtain ⟨a, u⟩ := x
 obtain ⟨h1, _⟩ := h
 obtain ⟨k, l, p1, p2, p3, p4⟩ := af6 a h1
 obtain ⟨S', e⟩ := run p1 p2 p4 zk.empty
 refine aaU aiR (S' := S') ?_
 have e2 : Args.VW codes (a, u) = [by_ k l] := by
  show [J4 false ((Ty.slc 1 (.int .u8)).VW a)] = _
  rw [p3]; rfl
 rw [e2]
 exact e
end msgReads
end Go.Proofs.Ytbgcphbbchndkaa
namespace Go.Proofs.Ytbgcphbbchndkaa.msgReads
open Go.ChangeShapes Go.WideShapes Go.ChangeAt Go.RowKit Go.Abs
theorem own : ownKnob Try.prog.godebug = none := by kernel_rfl
theorem laidOut : laidOutB Try.prog = true := by kernel_rfl
theorem mixes : Try.prog.follows .mixedOrders = true := by kernel_rfl
set_option maxRecDepth 100000 in
theorem lifted (os : Os) (started : os.Started) (H : Type) (enc : TypeId × Value → H) :
  ReturnsInHanded {} Try.checked os 4 .any (Rows.msgReadsSpec.pre6 enc Try.prog Try.f4 Rows.msgReadsRow.domain false) (Rows.msgReadsSpec.post enc Try.prog Try.f4 false true false false) := by
 refine returnsInHanded_of_change_sized (C := Try.checked) own started (by kernel_rfl) Try.func4
  (ChangeSpec.witness6 (enc := enc) (C := Try.checked) false ⟨#[], #[.slice none 0 0], []⟩ 8 (by kernel_rfl) (by kernel_rfl) (by kernel_rfl) (by kernel_rfl)) ?_
 intro W base args ds gs before hval0 hW hcnd hsz0 _
 have hW' := hW
 obtain ⟨p, q, hA0, hV, rfl, hfz, hnd⟩ := hW
 obtain ⟨rfl, rfl⟩ := trodVars_none hV
 have hsz1 : (DataW.weightsEach Try.prog (Try.f4.params.toList ++ Rows.msgReadsSpec.plain.varTypes Try.prog) (ds ++ [])).all (· ≤ reachBytes) = true := hsz0
 have hval : ∀ (j : Nat) t v, Try.f4.params[j]? = some t → args[j]? = some v → Value.okWide Try.prog W .any base t v := hval0
 have hA1 : DataW.TrodAll enc Try.prog W 0 (fun _ => true) true Try.f4.params.toList args.toList ds p := hA0
 rw [Try.params4] at hA1 hsz1 hval
 have hA : DataW.TrodAll enc Try.prog W 0 (fun _ => true) true [23] args.toList ds p := hA1
 have hsz : (DataW.weightsEach Try.prog [23] ds).all (· ≤ reachBytes) = true := by rw [List.append_nil ds] at hsz1; exact hsz1
 clear hA0 hA1 hval0 hsz0 hsz1
 have r := hA
 obtain ⟨v0, vs0, d0, ds0, p0, q0, hargs0, rfl, hp0, h0, r0⟩ := trodAll_cons r
 obtain ⟨_, rfl, _⟩ := trodAll_nil r0
 refine (afp mixes coded law hA (fun j t v h1 h2 => hval j t v (by rw [List.getElem?_toArray]; exact h1) h2) hsz).mono fun e W' ⟨he, bel⟩ => ?_
 subst he
 exact ⟨_, rfl, _, _, _, [], _, [], hW', trodAll_mk1 (shut_bool (by kernel_rfl) _), agA laidOut bel _ _ _ _ (by kernel_rfl) hA, rfl, bel.frame _, fun h => by cases h⟩
theorem over : Rows.msgReadsRow.holds Try.pinned (OpenSpec.ofChange Rows.msgReadsSpec) :=
 OpenClaim.holds_of_wide 4 Try.f4 rfl rfl rfl rfl rfl rfl rfl ⟨rfl, rfl, rfl, rfl, rfl⟩ rfl rfl rfl rfl rfl (by kernel_rfl) Try.func4 (by kernel_rfl)
  (of_decide_eq_true (by kernel_rfl)) (by unfold Func.isWrapper; first | (rw [if_pos (by decide +kernel)]; kernel_rfl) | (rw [if_neg (by decide +kernel)]; exact ⟨rfl, rfl⟩))
  (fun os started H enc _ => lifted os started H enc)
theorem proved : Rows.MsgReadsSaid := over
end Go.Proofs.Ytbgcphbbchndkaa.msgReads
namespace Go.Proofs.Ytbgcphbbchndkaa
theorem msgReads_holds : Rows.MsgReadsSaid := msgReads.proved
#print axioms msgReads_holds
end Go.Proofs.Ytbgcphbbchndkaa
