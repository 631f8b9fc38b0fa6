/-
The law JournalBytes returns true for every input that holds together at most 1048576 values and letters (each counted as often as it is reached), and leaves it as it was. Condition: that bound, the second form's (UptoSaid); nothing else. Part 4 of 6 of the texts (put together by a program: own names are short, what isn't needed is left out).
-/
import Derived.Test.YtblpnklfimkfoaaZJournalBytes3
import Derived.KernelRfl
import Derived.Test.YtblpnklfimkfoaaChecked
set_option linter.unusedVariables false
set_option linter.unusedSimpArgs false
set_option maxRecDepth 100000
namespace Go.Abs
open Go.RowKit
def Zx (P : Program) (call : FuncId → List Value → M Value) : Prop := ∀ g args aargs S v S', call g args S = some (v, S') → ∀ μ H ω, GI μ S H → L0 μ H args aargs → Dom μ H ω → (∀ r s, ω r = some s → s = .ext) →
 ∃ a H' μ' ω', lim P g aargs H = some (a, H') ∧ GI μ' S' H' ∧ Later μ H μ' H' ∧ Kept ω H ω' H' ∧ Dom μ' H' ω' ∧ VV μ' H' ω' (some (.res none)) v a
section
variable {P : Program} {call : FuncId → List Value → M Value} {μ : Mu} {ω : Nat → Option wO} {S S' H : zi} {T A : List Value}
theorem adu (hc : Zx P call) {g : FuncId} {args aargs : List Value} {v : Value} (hG : GI μ S H) (hT : TI μ H ω T A) (h : call g args S = some (v, S')) (ha : L0 μ H args aargs) : Out μ ω H A T S' v (lim P g aargs H) := by
 obtain ⟨a, H', μ', ω', h1, h2, h3, h4, h5, h6⟩ := hc g args aargs S v S' h μ H (fun r => (ω r).map fun _ => .ext) hG ha (fun r s hs => by
  cases hr : ω r with
  | none => simp [hr] at hs
  | some s0 => exact hT.dom r s0 hr) (fun r s hs => by
  cases hr : ω r with
  | none => simp [hr] at hs
  | some s0 => simp [hr] at hs; exact hs.symm)
 have kept : ∀ r s, ω r = some s → ω' r = some .ext ∧ H'.get r = H.get r := fun r s hs => h4 r (by dsimp only; rw [hs]; rfl)
 refine ⟨a, H', μ', fun r => match ω' r with | some .ext => ω r | some (.slot _ _) => none | x => x, h1, h2, h3, fun r hr => ?_, fun r s hs => ?_, hT.len, fun i => ?_, ?_⟩
 ·
  obtain ⟨k1, k2⟩ := kept r _ hr
  exact ⟨by (try dsimp only); rw [k1]; exact hr, k2⟩
 ·
  dsimp only at hs
  cases hr : ω' r with
  | none => rw [hr] at hs; cases hs
  | some s0 =>
   have := h5 r s0 hr
   exact this
 ·
  refine (hT.slots i).later h3 (K := fun _ => True) (fun _ _ _ _ _ => trivial) (fun r s _ hr => ?_) (fun _ _ => trivial)
  obtain ⟨k1, k2⟩ := kept r s hr
  exact ⟨by (try dsimp only); rw [k1]; exact hr, k2⟩
 ·
  refine h6.later (Later.refl _ _) (K := fun s => ∃ j, s = .res j) (fun s i t ⟨j, hj⟩ ht => by subst hj; cases j <;> cases ht; exact ⟨_, rfl⟩) (fun r s ⟨j, hj⟩ hr => ?_) (fun s hs => by cases hs; exact ⟨_, rfl⟩)
  subst hj
  exact ⟨by (try dsimp only); rw [hr], rfl⟩
def Zq (t : Nat) : wO → Option wO
 | .slot i j => if i = t then some (.res j) else some (.slot i j)
 | s => some s
def Jk (t k : Nat) : wO → Option wO
 | .slot i (some j) => if i = t ∧ j = k then some (.res none) else some (.slot i (some j))
 | s => some s
theorem XG {x : Operand} (hG : GI μ S H) (hT : TI μ H ω T A) (hx : yO x = true) : Out μ ω H A (jX T x) S (je T x) (some (je A x, H)) := by
 cases x with
 | const v => exact Out.same hG hT (VV.wo hx)
 | global g => cases hx
 | func f => exact Out.same hG hT (hT.eval (x := .func f) rfl)
 | tmp t =>
  refine ⟨_, H, μ, fun r => (ω r).bind (Zq t), rfl, hG, Later.refl μ H, fun r hr => ⟨by dsimp only; rw [hr]; rfl, rfl⟩, fun r s hs => ?_, by simp [jX, yM, hT.len], fun i => ?_, ?_⟩
  ·
   dsimp only at hs
   cases hr : ω r with
   | none => rw [hr] at hs; cases hs
   | some s0 => exact hT.dom r s0 hr
  ·
   dsimp only [jX, yM]
   rw [wR]
   by_cases hi : i = t
   ·
    subst hi
    by_cases hlt : i < T.length
    ·
     rw [if_pos ⟨rfl, hlt⟩]
     exact (hT.slots i).v0.at0
    ·
     rw [if_neg (fun h => hlt h.2)]
     rw [List.getD_eq_getElem?_getD, List.getElem?_eq_none (Nat.le_of_not_lt hlt), List.getD_eq_getElem?_getD, List.getElem?_eq_none (by rw [← hT.len]; omega)]
     exact .nores
   ·
    rw [if_neg (fun h => hi h.1)]
    refine (hT.slots i).YQ (fun _ => rfl) _ (fun s hs => ?_)
    cases hs
    refine ⟨_, rfl, by simp only [Zq]; rw [if_neg hi], fun k t' ht => ?_⟩
    cases ht
    exact ⟨_, rfl, by simp only [Zq]; rw [if_neg hi]⟩
  ·
   refine (hT.slots t).YQ (fun _ => rfl) _ (fun s hs => ?_)
   cases hs
   refine ⟨_, rfl, by simp only [Zq, if_true], fun k t' ht => ?_⟩
   cases ht
   exact ⟨_, rfl, by simp only [Zq, if_true]⟩
theorem getD_modify (vs : Array Value) (i k : Nat) (f : Value → Value) (hf : f undef = undef) : (vs.modify i f).getD k undef = if k = i then f (vs.getD k undef) else vs.getD k undef := by
 rw [Array.getD_eq_getD_getElem?, Array.getD_eq_getD_getElem?, Array.getElem?_modify]
 by_cases h : i = k
 ·
  subst h
  rw [if_pos rfl, if_pos rfl]
  cases vs[i]? with
  | none => exact hf.symm
  | some v => rfl
 ·
  rw [if_neg h, if_neg (fun e => h e.symm)]
theorem VV.part {ω' : Nat → Option wO} {ℓ ℓ' : Option wO} {v a : Value} (h : VV μ H ω ℓ v a) (hℓ : ∀ s, ℓ = some s → ∀ k, s.comp k = none) : VV μ H ω' ℓ' (Go.Abs.qP v) a := by
 by_cases ht : ∃ x, v = .tuple x
 ·
  obtain ⟨x, rfl⟩ := ht
  show VV μ H ω' ℓ' (.tuple x) a
  cases h with
  | sg hs => simp [Go.Abs.sg] at hs
  | nores => exact .nores
  | tuple hx hh =>
   refine .tuple hx fun i => ?_
   have := hh i
   cases ℓ with
   | none => exact this.at0
   | some s =>
    have e : (some s).bind (·.comp i) = none := hℓ s rfl i
    rw [e] at this
    exact this.at0
 ·
  have e : Go.Abs.dem v = Go.Abs.qP v := by
   cases v <;> first | rfl | exact absurd ⟨_, rfl⟩ ht
  rw [← e]
  exact h.v0.at0
def ZN (T : List Value) (i : Nat) : Operand → List Value
 | .tmp t => T.set t (zQ i (T.getD t undef))
 | _ => T
theorem KR {x : Operand} {i : Nat} {v : Value} (hG : GI μ S H) (hT : TI μ H ω T A) (hx : yO x = true) (h : zL (je T x) i S = some (v, S')) :
  Out μ ω H A (ZN T i x) S' v (zL (je A x) i H) := by
 cases x with
 | const w =>
  exfalso
  unfold zL at h
  split at h
  ·
   rename_i vs he
   simp only [je] at he
   subst he
   simp [yO, ground, Go.Abs.sg] at hx
  ·
   cases h
 | global g => cases hx
 | func f => simp [je, zL] at h
 | tmp t =>
  simp only [je, ZN] at h ⊢
  unfold zL at h
  split at h
  ·
   rename_i vs hvs
   split at h <;> first | (cases h; done) | skip
   rename_i w hw
   cases h
   have hs := hT.slots t
   rw [hvs] at hs
   have hil : i < vs.size := (Array.getElem?_eq_some_iff.1 hw).1
   have hlt : t < T.length := by
    rcases Nat.lt_or_ge t T.length with h | h
    ·
     exact h
    ·
     rw [List.getD_eq_getElem?_getD, List.getElem?_eq_none h] at hvs
     cases hvs
     simp at hil
   generalize hA : A.getD t undef = at' at hs
   cases hs with
   | sg hs => simp [Go.Abs.sg] at hs
   | nores => simp at hil
   | @tuple _ _ y hxs hxx =>
    have hiy : i < y.size := by rw [← hxs]; exact hil
    have hrun : zL (.tuple y) i H = some (y[i], H) := by simp only [zL, Array.getElem?_eq_getElem hiy]
    rw [hrun]
    have hcomp := hxx i
    rw [Array.getD_eq_getD_getElem?, hw, Array.getD_eq_getD_getElem?, Array.getElem?_eq_getElem hiy] at hcomp
    simp only [Option.getD_some] at hcomp
    refine ⟨_, H, μ, fun r => (ω r).bind (Jk t i), rfl, hG, Later.refl μ H, fun r hr => ⟨by dsimp only; rw [hr]; rfl, rfl⟩, fun r s hs => ?_, by simp [hT.len], fun k => ?_, ?_⟩
    ·
     dsimp only at hs
     cases hr : ω r with
     | none => rw [hr] at hs; cases hs
     | some s0 => exact hT.dom r s0 hr
    ·
     rw [wR]
     by_cases hk : k = t
     ·
      subst hk
      rw [if_pos ⟨rfl, hlt⟩, hA, hvs]
      simp only [zQ]
      refine .tuple (by simpa using hxs) fun j => ?_
      rw [getD_modify _ _ _ _ rfl]
      by_cases hj : j = i
      ·
       subst hj
       rw [if_pos rfl]
       exact (hxx j).part (fun s hs k => by cases hs; rfl)
      ·
       rw [if_neg hj]
       refine (hxx j).YQ (fun _ => rfl) _ (fun s hs => ?_)
       cases hs
       refine ⟨_, rfl, by simp only [Jk]; rw [if_neg (fun e => hj e.2)], fun a b hb => by cases hb⟩
     ·
      rw [if_neg (fun e => hk e.1)]
      refine (hT.slots k).YQ (fun _ => rfl) _ (fun s hs => ?_)
      cases hs
      refine ⟨_, rfl, rfl, fun a b hb => ?_⟩
      cases hb
      exact ⟨_, rfl, by simp only [Jk]; rw [if_neg (fun e => hk e.1)]⟩
    ·
     refine hcomp.YQ (fun _ => rfl) _ (fun s hs => ?_)
     cases hs
     exact ⟨_, rfl, by simp [Jk], fun a b hb => by cases hb⟩
  ·
   cases h
theorem afb (hT : TI μ H ω T A) : ∀ (xs : List Operand), xs.all yO = true → L0 μ H (xs.map fun x => dem (je T x)) (xs.map (je A)) := by
 intro xs h
 exact LV.map fun x hx => hT.eval (List.all_eq_true.1 h x hx)
theorem JZ {xs : List Operand} (hT : TI μ H ω T A) (h : xs.all yO = true) (hg : (xs.map (je T)).all ground = true) : xs.map (je A) = xs.map (je T) := by
 apply List.map_congr_left
 intro x hx
 exact jo (hT.eval (List.all_eq_true.1 h x hx)) (List.all_eq_true.1 hg _ (List.mem_map.2 ⟨x, hx, rfl⟩))
theorem adr {o : Oper} (h : hands o = false) (hc : ∀ c, o.op ≠ .call c) : moved o T = T := by
 unfold moved
 unfold hands at h
 split <;> first | rfl | (rename_i he; exact absurd he (hc _)) | (rename_i he; rw [he] at h; cases h)
theorem acE {fx : Fx} (hc : Zx P call) {o : Oper} {v : Value} (hG : GI μ S H) (hT : TI μ H ω T A) (h : jW P fx call T o S = some (v, S')) : Out μ ω H A (moved o T) S' v (wC P (lim P) A o H) := by
 unfold jW at h
 split at h <;> first | (cases h; done) | skip
 rename_i hok
 unfold wC
 rw [if_pos hok]
 have hargs : o.op.operands.toList.all yO = true := hok
 have hev : ∀ x ∈ o.op.operands.toList, V0 μ H (dem (je T x)) (je A x) := fun x hx => hT.eval (List.all_eq_true.1 hargs x hx)
 have hoka : ∀ x ∈ o.op.operands.toList, yO x = true := fun x hx => List.all_eq_true.1 hargs x hx
 obtain ⟨dst, op, type, pos, after, guard⟩ := o
 by_cases hcall : ∃ c, op = .call c
 ·
  obtain ⟨c, rfl⟩ := hcall
  dsimp only at h hev hoka hargs ⊢
  have hcargs : c.args.toList.all yO = true := by
   rw [List.all_eq_true]
   intro x hx
   refine hoka x ?_
   simp only [Op.operands, Call.operands]
   cases c.callee <;> simp <;> first | exact .inr (by simpa using hx) | exact (by simpa using hx)
  cases hcal : c.callee with
  | value f =>
   rw [hcal] at h
   dsimp only at h ⊢
   have hf := hev f (by simp [Op.operands, Call.operands, hcal])
   split at h <;> first | (cases h; done) | skip
   rename_i g first captured hfe
   rw [hfe] at hf
   have hf : V0 μ H (.func (.func g) first captured) (je A f) := hf
   generalize hfa : je A f = fa at hf
   cases hf with
   | sg hs => simp [Go.Abs.sg] at hs
   | func _ hx hcs h1 h2 =>
    rename_i x' c'
    dsimp only
    have l1 : L0 μ H first.toList x'.toList := ⟨by simpa using hx, fun i => by rw [getD_toList, getD_toList]; exact h1 i⟩
    have l2 : L0 μ H captured.toList c'.toList := ⟨by simpa using hcs, fun i => by rw [getD_toList, getD_toList]; exact h2 i⟩
    have hm : moved ⟨dst, .call c, type, pos, after, guard⟩ T = T := by simp only [moved, hcal]
    rw [hm]
    exact adu hc hG hT h ((l1.append (afb hT _ hcargs)).append l2)
  | invoke r m => rw [hcal] at h; cases h
  | builtin b =>
   rw [hcal] at h
   dsimp only at h ⊢
   unfold Yr at h
   unfold qo
   cases b <;> dsimp only at h ⊢ <;> first | (cases h; done) | skip
   case len =>
    split at h <;> first | (cases h; done) | skip
    rename_i t x0 ht ha
    obtain ⟨x, hx, rfl⟩ : ∃ x, c.args.toList = [x] ∧ je T x = x0 := by
     match hl : c.args.toList with
     | [] => rw [hl] at ha; cases ha
     | [y] => rw [hl] at ha; simp at ha; exact ⟨y, rfl, ha⟩
     | y :: z :: w => rw [hl] at ha; simp at ha
    have hm : moved ⟨dst, .call c, type, pos, after, guard⟩ T = T := by simp only [moved, hcal]
    rw [hm, ht, hx]
    rw [hx] at hcargs
    obtain ⟨rfl, a, h1, h2⟩ := abd h (hT.eval (List.all_eq_true.1 hcargs x (by simp)))
    simp only [List.map_cons, List.map_nil]
    rw [h1]
    exact Out.same hG hT h2
   case append =>
    split at h <;> first | (cases h; done) | skip
    rename_i t tx s0 x0 ht ha
    obtain ⟨so, x, hx, rfl, rfl⟩ : ∃ so x, c.args.toList = [so, x] ∧ je T so = s0 ∧ je T x = x0 := by
     match hl : c.args.toList with
     | [] => rw [hl] at ha; cases ha
     | [y] => rw [hl] at ha; simp at ha
     | [y, z] => rw [hl] at ha; simp at ha; exact ⟨y, z, rfl, ha.1, ha.2⟩
     | y :: z :: w :: u => rw [hl] at ha; simp at ha
    rw [hx] at hcargs
    have hso := List.all_eq_true.1 hcargs so (by simp)
    have hm : moved ⟨dst, .call c, type, pos, after, guard⟩ T = jX T so := by
     simp only [moved, hcal, hx]
     cases so <;> rfl
    rw [hm, ht, hx]
    exact VX hG hT hso h (hT.eval (List.all_eq_true.1 hcargs x (by simp)))
   case copy =>
    split at h <;> first | (cases h; done) | skip
    rename_i t tx s0 x0 ht ha
    obtain ⟨so, x, hx, rfl, rfl⟩ : ∃ so x, c.args.toList = [so, x] ∧ je T so = s0 ∧ je T x = x0 := by
     match hl : c.args.toList with
     | [] => rw [hl] at ha; cases ha
     | [y] => rw [hl] at ha; simp at ha
     | [y, z] => rw [hl] at ha; simp at ha; exact ⟨y, z, rfl, ha.1, ha.2⟩
     | y :: z :: w :: u => rw [hl] at ha; simp at ha
    rw [hx] at hcargs
    have hm : moved ⟨dst, .call c, type, pos, after, guard⟩ T = T := by simp only [moved, hcal]
    rw [hm, ht, hx]
    exact ac9 hG hT h (hT.eval (List.all_eq_true.1 hcargs so (by simp))) (hT.eval (List.all_eq_true.1 hcargs x (by simp)))
   case clear =>
    split at h <;> first | (cases h; done) | skip
    rename_i t x0 ht ha
    obtain ⟨x, hx, rfl⟩ : ∃ x, c.args.toList = [x] ∧ je T x = x0 := by
     match hl : c.args.toList with
     | [] => rw [hl] at ha; cases ha
     | [y] => rw [hl] at ha; simp at ha; exact ⟨y, rfl, ha⟩
     | y :: z :: w => rw [hl] at ha; simp at ha
    have hm : moved ⟨dst, .call c, type, pos, after, guard⟩ T = T := by simp only [moved, hcal]
    rw [hm, ht, hx]
    rw [hx] at hcargs
    exact aaB hG hT h (hT.eval (List.all_eq_true.1 hcargs x (by simp)))
   case min =>
    obtain ⟨rfl, hg, hga, hh⟩ := jP (H := H) h
    have hm : moved ⟨dst, .call c, type, pos, after, guard⟩ T = T := by simp only [moved, hcal]
    rw [hm, JZ hT hcargs hga, hh]
    exact Out.same hG hT (V0.ground hg)
   case max =>
    obtain ⟨rfl, hg, hga, hh⟩ := jP (H := H) h
    have hm : moved ⟨dst, .call c, type, pos, after, guard⟩ T = T := by simp only [moved, hcal]
    rw [hm, JZ hT hcargs hga, hh]
    exact Out.same hG hT (V0.ground hg)
 ·
  have hnc : ∀ c, op ≠ .call c := fun c hc => hcall ⟨c, hc⟩
  have hV : vOp P fx (je T) ⟨dst, op, type, pos, after, guard⟩ S = some (v, S') := by
   cases op <;> first | exact h | exact absurd rfl (hnc _)
  suffices hs : Out μ ω H A (moved ⟨dst, op, type, pos, after, guard⟩ T) S' v (aOp P (je A) ⟨dst, op, type, pos, after, guard⟩ H) by
   cases op <;> first | exact hs | exact absurd rfl (hnc _)
  by_cases hh : hands ⟨dst, op, type, pos, after, guard⟩ = true
  ·
   cases op <;> first | (cases hh; done) | skip
   case move x =>
    cases hV
    have := XG hG hT (hoka x (by simp [Op.operands]))
    have hm : moved ⟨dst, .move x, type, pos, after, guard⟩ T = jX T x := by cases x <;> rfl
    rw [hm]; exact this
   case assign x =>
    cases hV
    have := XG hG hT (hoka x (by simp [Op.operands]))
    have hm : moved ⟨dst, .assign x, type, pos, after, guard⟩ T = jX T x := by cases x <;> rfl
    rw [hm]; exact this
   case extract x i =>
    have := KR hG hT (hoka x (by simp [Op.operands])) hV
    have hm : moved ⟨dst, .extract x i, type, pos, after, guard⟩ T = (ZN T i x) := by cases x <;> rfl
    rw [hm]; exact this
  ·
   have hh : hands ⟨dst, op, type, pos, after, guard⟩ = false := by simpa using hh
   rw [adr hh hnc]
   by_cases hch : xM P ⟨dst, op, type, pos, after, guard⟩ = false
   ·
    obtain ⟨rfl, a, h1, h2, h3⟩ := Qv hV hch hev (.inr hG) (.inr hG)
    rw [h1]
    exact Out.same hG hT (h3 hh)
   ·
    unfold vOp at hV
    unfold aOp
    cases op <;> dsimp only at hV hev ⊢ <;> first | (cases hV; done) | (exact absurd rfl hch) | (cases hh; done) | skip
    case alloc e => exact aa8 hG hT hV
    case box x _ => exact ae3 hG hT hV (hev x (by simp [Op.operands]))
    case buildSlice t len parts _ =>
     have hps := Kt (μ := μ) (H := H) (parts := parts.toList) (ρ := je T) (ρA := je A) fun p hp => hev p.2 (by simp [Op.operands]; exact ⟨p.1, by simpa using hp⟩)
     split at hV
     ·
      exact Qq hG hT hV hps
     ·
      exact WB hG hT hV hps
    case makeMap t r _ => exact Xn hG hT hV (fun h => by cases r <;> simp at h ⊢)
    case mapUpdate t x k w _ => exact Y2 hG hT hV (hev x (by simp [Op.operands])) (hev k (by simp [Op.operands])) (hev w (by simp [Op.operands]))
    case store a x _ => exact abo hG hT hV (hev a (by simp [Op.operands])) (hev x (by simp [Op.operands]))
    case makeSlice l c _ =>
     split at hV
     ·
      exact KP hG hT hV (hev l (by simp [Op.operands])) (hev c (by simp [Op.operands]))
     ·
      exact YS hG hT hV (hev l (by simp [Op.operands])) (hev c (by simp [Op.operands]))
    case convert dst' x _ =>
     have hd : ∃ e, P.underlying dst' = some (.slice e) := by
      unfold xM at hch
      dsimp only at hch
      split at hch
      ·
       exact ⟨_, by assumption⟩
      ·
       exact absurd rfl hch
     obtain ⟨e, hd⟩ := hd
     cases x with
     | tmp t => exact Jv hG hT hV (hT.slots t) hd
     | const w => exact Jv hG hT hV (VV.wo (ℓ := none) (hoka (.const w) (by simp [Op.operands]))) hd
     | global g => have := hoka (.global g) (by simp [Op.operands]); cases this
     | func f => exact Jv hG hT hV (ℓ := none) ((hT.eval (x := .func f) rfl).at0) hd
theorem abl {ops : Array Oper} (hT : TI μ H ω T A) (j : Nat) : ynd ops T j = ynd ops A j := by
 unfold ynd
 cases hd : (ops[j]?).bind (·.dst) with
 | none => rfl
 | some d =>
  simp only [Option.bind_some]
  have := hT.slots d
  have e := hT.len
  by_cases hlt : d < T.length
  ·
   have hlt' : d < A.length := by rw [← e]; exact hlt
   simp only [List.getD_eq_getElem?_getD, List.getElem?_eq_getElem hlt, List.getElem?_eq_getElem hlt', Option.getD_some] at this
   rw [List.getElem?_eq_getElem hlt, List.getElem?_eq_getElem hlt']
   generalize T[d] = u at *
   generalize A[d] = u' at *
   cases this <;> rfl
  ·
   have hlt' : A.length ≤ d := by rw [← e]; exact Nat.le_of_not_lt hlt
   rw [List.getElem?_eq_none (Nat.le_of_not_lt hlt), List.getElem?_eq_none hlt']
theorem TI.moved (hT : TI μ H ω T A) (o : Oper) : TI μ H ω (moved o T) A := by
 have slot : ∀ t, TI μ H ω (yM T t) A := by
  intro t
  refine ⟨by simp [yM, hT.len], fun i => ?_, hT.dom, hT.nores⟩
  rw [yM, wR]
  split
  ·
   rename_i h; rw [h.1]; exact (hT.slots t).dem
  ·
   exact hT.slots i
 unfold Go.Abs.moved
 split
 ·
  exact slot _
 ·
  exact slot _
 ·
  rename_i t i _
  refine ⟨by simp [hT.len], fun k => ?_, hT.dom, hT.nores⟩
  rw [wR]
  split
  ·
   rename_i h
   rw [h.1]
   have := hT.slots t
   generalize T.getD t undef = w at this
   cases w with
   | tuple vs =>
    simp only [zQ]
    generalize A.getD t undef = a at this
    cases this with
    | sg hs => simp [Go.Abs.sg] at hs
    | nores => rw [show (#[] : Array Value).modify i Go.Abs.qP = #[] by simp]; exact .nores
    | @tuple _ _ y hxs hxx =>
     refine .tuple (by simpa using hxs) fun j => ?_
     rw [getD_modify _ _ _ _ rfl]
     by_cases hj : j = i
     ·
      subst hj
      rw [if_pos rfl]
      exact (hxx j).part (fun s hs k => by cases hs; rfl)
     ·
      rw [if_neg hj]; exact hxx j
   | _ => exact this
  ·
   exact hT.slots k
 ·
  split
  ·
   exact slot _
  ·
   exact hT
 ·
  exact hT
def After (μ : Mu) (ω : Nat → Option wO) (H : zi) (T' : List Value) (S' : zi) (R : Option (List Value × zi)) : Prop :=
 ∃ A' H' μ' ω', R = some (A', H') ∧ GI μ' S' H' ∧ Later μ H μ' H' ∧ Kept ω H ω' H' ∧ TI μ' H' ω' T' A'
theorem X4 {fx : Fx} (hc : Zx P call) {o : Oper} {rest : List Oper} {v : Value} (hG : GI μ S H) (hT : TI μ H ω T A) (h : jW P fx call T o S = some (v, S')) :
  ∃ a H' μ' ω', wC P (lim P) A o H = some (a, H') ∧ GI μ' S' H' ∧ Later μ H μ' H' ∧ Kept ω H ω' H' ∧ TI μ' H' ω' (kS o rest T v) (Zw A o.dst a) := by
 unfold kS
 split
 ·
  rename_i hl
  have hm : ∃ x, o.op = .move x := by
   unfold agC at hl
   split at hl
   ·
    rename_i x _ he _; exact ⟨x, he⟩
   ·
    cases hl
  obtain ⟨x, hx⟩ := hm
  unfold jW at h
  split at h <;> first | (cases h; done) | skip
  rename_i hok
  have hox : yO x = true := List.all_eq_true.1 (show o.op.operands.toList.all yO = true from hok) x (by rw [hx]; simp [Op.operands])
  rw [hx] at h
  dsimp only at h
  unfold vOp at h
  rw [hx] at h
  cases h
  have ha : wC P (lim P) A o H = some (je A x, H) := by
   unfold wC
   rw [if_pos hok, hx]
   dsimp only
   unfold aOp
   rw [hx]
   rfl
  rw [ha]
  exact (Out.same hG hT (hT.eval hox)).put o.dst
 ·
  exact (acE hc hG hT h).put o.dst
theorem Jc {o : Oper} {rest : List Oper} (hG : GI μ S H) (hT : TI μ H ω T A) : ∃ μ' ω', GI μ' S H ∧ Later μ H μ' H ∧ Kept ω H ω' H ∧ TI μ' H ω' (kS o rest T undef) (Zw A o.dst undef) := by
 unfold kS
 split
 ·
  rw [show dem undef = undef from xX]
  obtain ⟨a, H1, μ1, ω1, h1, h2, h3, h4, h5⟩ := (Out.same hG hT (VV.undef)).put o.dst
  cases h1
  exact ⟨μ1, ω1, h2, h3, h4, h5⟩
 ·
  obtain ⟨a, H1, μ1, ω1, h1, h2, h3, h4, h5⟩ := (Out.same hG (hT.moved o) (VV.undef)).put o.dst
  cases h1
  exact ⟨μ1, ω1, h2, h3, h4, h5⟩
theorem aez {fx : Fx} (hc : Zx P call) {ops : Array Oper} : ∀ (l : List Oper) (T T' A : List Value) (S S' H : zi) (μ : Mu) (ω : Nat → Option wO), jl P fx call ops l T S = some (T', S') → GI μ S H → TI μ H ω T A → After μ ω H T' S' (KA P (lim P) ops l A H) := by
 intro l
 induction l with
 | nil =>
  intro T T' A S S' H μ ω h hG hT
  simp only [jl, Option.some.injEq, Prod.mk.injEq] at h
  obtain ⟨rfl, rfl⟩ := h
  exact ⟨A, H, μ, ω, rfl, hG, Later.refl _ _, Kept.refl _ _, hT⟩
 | cons o l ih =>
  intro T T' A S S' H μ ω h hG hT
  have hy : (ynd ops T) = ynd ops A := funext fun j => abl hT j
  simp only [jl] at h
  simp only [KA, ← hy]
  split at h
  ·
   rename_i hw
   split at h
   ·
    rename_i v S1 hs
    obtain ⟨a, H1, μ1, ω1, h1, h2, h3, h4, h5⟩ := X4 (rest := l) hc hG hT hs
    obtain ⟨A2, H2, μ2, ω2, k1, k2, k3, k4, k5⟩ := ih _ _ _ _ _ _ _ _ h h2 h5
    refine ⟨A2, H2, μ2, ω2, ?_, k2, h3.trans k3, h4.trans k4, k5⟩
    rw [if_pos hw, h1]
    exact k1
   ·
    cases h
  ·
   rename_i hw
   obtain ⟨μ1, ω1, h2, h3, h4, h5⟩ := Jc (o := o) (rest := l) hG hT
   obtain ⟨A2, H2, μ2, ω2, k1, k2, k3, k4, k5⟩ := ih _ _ _ _ _ _ _ _ h h2 h5
   refine ⟨A2, H2, μ2, ω2, ?_, k2, h3.trans k3, h4.trans k4, k5⟩
   rw [if_neg hw]
   exact k1
end
end Go.Abs
namespace Go.Abs
open Go.RowKit
section
variable {P : Program} {call : FuncId → List Value → M Value} {μ μ2 : Mu} {S S' G H H2 : zi} {T A : List Value}
theorem xJ.two {s : M Value} (hs : xJ s) {a : Value} {G' : zi} (h : s G = some (a, G')) : ∀ H, s H = some (a, H) := by
 obtain ⟨o, ho⟩ := hs
 rw [ho] at h
 cases o with
 | none => cases h
 | some w =>
  simp only [Option.map_some, Option.some.injEq, Prod.mk.injEq] at h
  intro H
  rw [ho, h.1]; rfl
theorem Xv {t : TypeId} {ps : List (Nat × Value)} : xJ (yh P t ps) := by
 refine ⟨(yh P t ps zi.empty).map (·.1), fun H => ?_⟩
 unfold yh
 split
 ·
  split
  ·
   split
   ·
    split
    ·
     split <;> rfl
    ·
     rfl
   ·
    split
    ·
     split <;> rfl
    ·
     rfl
   ·
    rfl
  ·
   rfl
 ·
  rfl
theorem Wx {x : Value} : xJ (qA x) := by
 refine ⟨(qA x zi.empty).map (·.1), fun H => ?_⟩
 unfold qA
 split <;> rfl
theorem Xf {t : TypeId} {x i : Value} : xJ (kH P t x i) := by
 unfold kH
 refine ⟨(kH P t x i zi.empty).map (·.1), fun H => ?_⟩
 unfold kH
 dsimp only
 split
 ·
  split
  ·
   split
   ·
    split <;> rfl
   ·
    rfl
  ·
   rfl
 ·
  obtain ⟨o, ho⟩ := wI (P := P) _ _
  rw [ho, ho]
  cases o <;> rfl
 ·
  rfl
theorem abO {t : TypeId} {x : Value} (hx : ∀ m, x ≠ .map m) : xJ (QI P t x) := by
 refine ⟨(QI P t x zi.empty).map (·.1), fun H => ?_⟩
 unfold QI
 split <;> first | rfl | exact absurd rfl (hx _)
theorem Wi {d : Nat} {v : Value} (h : okq d v = true) : okq d (dem v) = true := by
 cases v with
 | iface k v => cases d <;> rfl
 | tuple vs => cases d <;> cases h
 | _ => exact h
theorem Wp : ∀ (d : Nat) {v a : Value}, okq d v = true → V0 μ H v a → aai d a a = true := by
 intro d
 induction d with
 | zero =>
  intro v a h hv
  cases hv <;> first | (cases h; done) | (simp [aai]; done) | skip
  rename_i hs
  cases v <;> first | (simp [aai]; done) | (simp [Go.Abs.sg] at hs; done) | skip
 | succ d ih =>
  intro v a h hv
  cases hv <;> first | (cases h; done) | (simp [aai]; done) | skip
  ·
   rename_i hs
   cases v <;> first | (simp [aai]; done) | (simp [Go.Abs.sg] at hs; done) | skip
  ·
   rename_i x x' hx hh
   unfold aai
   simp only [decide_true, Bool.true_and]
   rw [List.all_eq_true]
   intro p hp
   obtain ⟨i, hi, he⟩ := List.mem_iff_getElem.1 hp
   simp only [List.length_zip, Nat.min_self] at hi
   rw [List.getElem_zip] at he
   subst he
   have hi' : i < x'.size := by simpa using hi
   have hi2 : i < x.size := by rw [hx]; exact hi'
   have h2 := hh i
   rw [Array.getD_eq_getD_getElem?, Array.getElem?_eq_getElem hi2, Array.getD_eq_getD_getElem?, Array.getElem?_eq_getElem hi'] at h2
   have h3 : okq d x[i] = true := List.all_eq_true.1 (show x.toList.all (okq d) = true from h) _ (by simp)
   have := ih h3 h2
   simpa using this
theorem XL (x : Value) : Y4 (dem x) = Y4 x := by cases x <;> rfl
theorem adQ {fx : Fx} {o : Oper} {v : Value} (hdr : fx.dr = true) (h : jW P fx call T o S = some (v, S')) (hn : xM P o = false) (hr : qB o = false) (ho : ∀ x ∈ o.op.operands.toList, V0 μ G (dem (je T x)) (je A x)) :
  ∃ a, V0 μ G (dem v) a ∧ ∀ H, aOp P (je A) o H = some (a, H) ∧ wC P (lim P) A o H = some (a, H) := by
 have hrm : yY o = false := by
  unfold qB at hr
  unfold yY
  split <;> simp_all
 unfold jW at h
 split at h <;> first | (cases h; done) | skip
 rename_i hok
 obtain ⟨dst, op, type, pos, after, guard⟩ := o
 by_cases hcall : ∃ c, op = .call c
 ·
  obtain ⟨c, rfl⟩ := hcall
  dsimp only at h ho
  unfold xM at hn
  dsimp only at hn
  have hcargs : ∀ x ∈ c.args.toList, V0 μ G (dem (je T x)) (je A x) := by
   intro x hx
   refine ho x ?_
   simp only [Op.operands, Call.operands]
   cases c.callee <;> simp <;> first | exact .inr (by simpa using hx) | exact (by simpa using hx)
  have step : ∀ {b : Builtin} (a : Value), c.callee = .builtin b → (∀ H, qo P b c.argTypes type (c.args.toList.map (je A)) H = some (a, H)) → ∀ H, aOp P (je A) ⟨dst, .call c, type, pos, after, guard⟩ H = some (a, H) ∧ wC P (lim P) A ⟨dst, .call c, type, pos, after, guard⟩ H = some (a, H) := by
   intro b a hb hall H
   constructor
   ·
    unfold aOp; dsimp only; rw [hb]; exact hall H
   ·
    unfold wC; rw [if_pos hok]; dsimp only; rw [hb]; exact hall H
  cases hcal : c.callee with
  | value f => rw [hcal] at hn; cases hn
  | invoke r m => rw [hcal] at hn; cases hn
  | builtin b =>
   rw [hcal] at h
   dsimp only at h
   unfold Yr at h
   rw [hcal] at hn
   have gargs : (c.args.toList.map (je T)).all ground = true → c.args.toList.map (je A) = c.args.toList.map (je T) := by
    intro hg
    apply List.map_congr_left
    intro x hx
    exact jo (hcargs x hx) (List.all_eq_true.1 hg _ (List.mem_map.2 ⟨x, hx, rfl⟩))
   cases b <;> dsimp only at h hn <;> first | (cases h; done) | (cases hn; done) | skip
   case len =>
    split at h <;> first | (cases h; done) | skip
    rename_i t x0 ht ha
    obtain ⟨x, hx, rfl⟩ : ∃ x, c.args.toList = [x] ∧ je T x = x0 := by
     match hl : c.args.toList with
     | [] => rw [hl] at ha; cases ha
     | [y] => rw [hl] at ha; simp at ha; exact ⟨y, rfl, ha⟩
     | y :: z :: w => rw [hl] at ha; simp at ha
    have hxv := hcargs x (by rw [hx]; simp)
    obtain ⟨rfl, a, h1, h2⟩ := abd h hxv
    have hmap : ∀ m, je A x ≠ .map m := by
     intro m hm
     rw [hm] at hxv
     generalize hu : dem (je T x) = u at hxv
     have hum : ∃ m', u = .map m' := by cases hxv <;> exact ⟨_, rfl⟩
     obtain ⟨m', rfl⟩ := hum
     have : je T x = .map m' := by
      cases hv : je T x <;> rw [hv] at hu <;> simp [dem, qP] at hu <;> rw [hu]
     rw [this] at h
     simp [qM] at h
    refine ⟨a, h2.dem, step a hcal fun H => ?_⟩
    unfold qo
    dsimp only
    rw [ht, hx]
    exact (abO hmap).two h1 H
   case min =>
    obtain ⟨rfl, hg, hga, hh⟩ := jP (H := G) h
    refine ⟨v, (V0.ground hg).dem, step v hcal fun H => ?_⟩
    unfold qo
    dsimp only
    rw [gargs hga]
    exact (wI _ _).two hh H
   case max =>
    obtain ⟨rfl, hg, hga, hh⟩ := jP (H := G) h
    refine ⟨v, (V0.ground hg).dem, step v hcal fun H => ?_⟩
    unfold qo
    dsimp only
    rw [gargs hga]
    exact (wI _ _).two hh H
 ·
  have hnc : ∀ c, op ≠ .call c := fun c hc => hcall ⟨c, hc⟩
  have hV : vOp P fx (je T) ⟨dst, op, type, pos, after, guard⟩ S = some (v, S') := by
   cases op <;> first | exact h | exact absurd rfl (hnc _)
  obtain ⟨rfl, a, h1, h2, h3⟩ := Qv (ρA := je A) hV hn ho (.inl (ZW hrm)) (.inl hdr)
  have hA : ∀ H, wC P (lim P) A ⟨dst, op, type, pos, after, guard⟩ H = aOp P (je A) ⟨dst, op, type, pos, after, guard⟩ H := by
   intro H
   unfold wC
   rw [if_pos hok]
   cases op <;> first | rfl | exact absurd rfl (hnc _)
  refine ⟨a, h2, fun H => ?_⟩
  rw [hA]
  have key : aOp P (je A) ⟨dst, op, type, pos, after, guard⟩ H = some (a, H) := by
   have hf : xJ (aOp P (je A) ⟨dst, op, type, pos, after, guard⟩) := by
    unfold xM at hn
    unfold qB at hr
    unfold aOp
    unfold vOp at hV
    cases op <;> dsimp only at hn hr hV ⊢ <;> first | (cases hn; done) | (cases hr; done) | (cases hV; done) | skip
    ·
     exact JW _
    ·
     exact JW _
    ·
     exact Vl _ _ _
    ·
     exact Xv
    ·
     exact Wx
    ·
     exact QY _ _ _ _
    ·
     exact ady _ _
    ·
     exact JW _
    ·
     exact JA _ _ _
    ·
     exact Xc _ _ _
    ·
     exact J3 _ _ _
    ·
     exact Xf
    ·
     exact YR _ _
   exact hf.two h1 H
  exact ⟨key, key⟩
theorem aaH {t : TypeId} {r o e : Nat} {l : List Value} {own own' : Own} {a : Value} (hg : G.get r = some (.cells l own e)) (hg' : H2.get r = some (.cells l own' e)) (h : wY P t (.pointer (some ⟨r, o, none⟩)) G = some (a, G)) :
  wY P t (.pointer (some ⟨r, o, none⟩)) H2 = some (a, H2) := by
 simp only [wY, hg] at h
 simp only [wY, hg']
 (repeat' split at h) <;> first | (cases h; done) | skip
 all_goals simp_all
theorem VV.backed {v : Value} {r o n c : Nat} (h : V0 μ G v (.slice (some ⟨r, o, none⟩) n c)) (hv : Y4 v = false) : ∃ l own e, r < G.next ∧ Jh μ r ∧ G.get r = some (.cells l own e) := by
 cases h with
 | sg hs => simp [Go.Abs.sg] at hs
 | slm hm => simp [Y4] at hv
 | sl hr hp hg _ _ _ => exact ⟨_, _, _, hr, hp, hg⟩
theorem VD {x : Value} {n : Nat} {cs : List Value} (hx : ∀ r o n c, x = .slice (some ⟨r, o, none⟩) n c → ∃ l own own' e, G.get r = some (.cells l own e) ∧ H2.get r = some (.cells l own' e)) (h : wS x n G = some cs) : wS x n H2 = some cs := by
 unfold wS at h ⊢
 split at h
 ·
  rename_i r o k c
  obtain ⟨l, own, own', e, hg, hg'⟩ := hx _ _ _ _ rfl
  rw [hg] at h
  rw [hg']
  exact h
 ·
  exact h
 ·
  exact h
 ·
  cases h
theorem ab7 {src dst : TypeId} {x a : Value} (hd : ∀ e, P.underlying dst ≠ some (.slice e)) (hx : ∀ r o n c, x = .slice (some ⟨r, o, none⟩) n c → ∃ l own own' e, G.get r = some (.cells l own e) ∧ H2.get r = some (.cells l own' e)) (h : wB P src dst x G = some (a, G)) :
  wB P src dst x H2 = some (a, H2) := by
 unfold wB at h ⊢
 split at h
 ·
  rename_i b n c
  (try dsimp only)
  split at h
  ·
   rename_i e hs hdd
   split at h <;> first | (cases h; done) | skip
   rename_i he
   split at h <;> first | (cases h; done) | skip
   rename_i cs hcs
   rw [VD hx hcs]
   (try dsimp only)
   split at h <;> first | (cases h; done) | skip
   rename_i bs hbs
   (try rw [hbs])
   cases h
   rfl
  ·
   rename_i e0 e hs hdd
   exact absurd hdd (hd e)
  ·
   cases h
 ·
  rename_i s
  (try dsimp only)
  split at h
  ·
   rename_i d e hs hdd
   exact absurd hdd (hd e)
  ·
   exact (wI _ _).two h H2
 ·
  exact (wI _ _).two h H2
theorem VT {t : TypeId} {x a : Value} {lo hi : Option Value} (hx : ∀ r o n c, x = .slice (some ⟨r, o, none⟩) n c → ∃ l own own' e, G.get r = some (.cells l own e) ∧ H2.get r = some (.cells l own' e)) (h : y9 P t x lo hi G = some (a, G)) :
  y9 P t x lo hi H2 = some (a, H2) := by
 unfold y9 at h ⊢
 split at h
 ·
  rename_i s hu
  exact (wI _ _).two h H2
 ·
  rename_i e b n c hu
  (try dsimp only)
  split at h <;> first | (cases h; done) | skip
  rename_i size l hh hs hl hhi
  (try simp only [hs, hl, hhi])
  split at h <;> first | (cases h; done) | skip
  rename_i c0
  split at h <;> first | (cases h; done) | skip
  rename_i c1
  split at h <;> first | (cases h; done) | skip
  rename_i c2
  rw [if_pos c0, if_pos c1, if_pos c2]
  split at h
  ·
   split at h <;> first | (cases h; done) | skip
   rename_i hn
   cases h
   rw [if_pos hn]
  ·
   rename_i r o
   obtain ⟨l2, own, own', e2, hg, hg'⟩ := hx _ _ _ _ rfl
   rw [hg] at h
   rw [hg']
   dsimp only at h ⊢
   split at h <;> first | (cases h; done) | skip
   rename_i he
   rw [if_pos he]
   cases h
   rfl
  ·
   split at h <;> first | (cases h; done) | skip
   rename_i hn
   cases h
   rw [if_pos hn]
  ·
   cases h
 ·
  cases h
theorem VB {t : TypeId} {r o : Nat} {a : Value} {G' : zi} (hg : H2.get r = G.get r) (h : wY P t (.pointer (some ⟨r, o, none⟩)) G = some (a, G')) : wY P t (.pointer (some ⟨r, o, none⟩)) H2 = some (a, H2) := by
 simp only [wY] at h ⊢
 rw [hg]
 (repeat' split at h) <;> first | (cases h; done) | skip
 all_goals simp_all
theorem Ku {t : TypeId} {x k : Value} {ok : Bool} {a : Value} {G' : zi} (hg : ∀ r, x = .map (some r) → H2.get r = G.get r) (h : jT P t x k ok G = some (a, G')) : jT P t x k ok H2 = some (a, H2) := by
 have e : ∀ H : zi, jT P t x k ok H = (jT P t x k ok H).map (fun r => (r.1, H)) := by
  intro H
  unfold jT
  (try dsimp only)
  (repeat' split) <;> rfl
 have e2 : (jT P t x k ok H2).map (·.1) = (jT P t x k ok G).map (·.1) := by
  cases x with
  | map b =>
   cases b with
   | none => unfold jT; dsimp only; (repeat' split) <;> rfl
   | some r =>
    unfold jT
    dsimp only
    rw [hg r rfl]
    (repeat' split) <;> rfl
  | _ => unfold jT; (try dsimp only) <;> (try ((repeat' split) <;> rfl))
 rw [h] at e2
 rw [e H2]
 cases hh : jT P t x k ok H2 with
 | none => rw [hh] at e2; cases e2
 | some w =>
  rw [hh] at e2
  simp only [Option.map_some, Option.some.injEq] at e2 ⊢
  rw [e2]
theorem ae4 {fx : Fx} {o : Oper} {v : Value} (hdr : fx.dr = true) (h : jW P fx call T o S = some (v, S')) (hn : xM P o = false) (hm : kY (je T) o) (ho : ∀ x ∈ o.op.operands.toList, V0 μ G (dem (je T x)) (je A x)) (hL : Later μ G μ2 H2) :
  ∃ a, V0 μ G (dem v) a ∧ aOp P (je A) o G = some (a, G) ∧ aOp P (je A) o H2 = some (a, H2) ∧ wC P (lim P) A o G = some (a, G) ∧ wC P (lim P) A o H2 = some (a, H2) := by
 by_cases hr : qB o = false
 ·
  obtain ⟨a, h1, h2⟩ := adQ hdr h hn hr ho
  exact ⟨a, h1, (h2 G).1, (h2 H2).1, (h2 G).2, (h2 H2).2⟩
 ·
  unfold jW at h
  split at h <;> first | (cases h; done) | skip
  rename_i hok
  obtain ⟨dst, op, type, pos, after, guard⟩ := o
  unfold qB at hr
  cases op <;> dsimp only at h hr <;> first | (exact absurd rfl hr) | skip
  case load t addr =>
   obtain ⟨rfl, a, h1, h2, h3⟩ := Qv (ρA := je A) h hn ho (.inl hm) (.inl hdr)
   have hA : ∀ H, wC P (lim P) A ⟨dst, .load t addr, type, pos, after, guard⟩ H = aOp P (je A) ⟨dst, .load t addr, type, pos, after, guard⟩ H := fun H => by unfold wC; rw [if_pos hok]
   have key : aOp P (je A) ⟨dst, .load t addr, type, pos, after, guard⟩ H2 = some (a, H2) := by
    have hx := ho addr (by simp [Op.operands])
    have h : jw P fx.nm t (je T addr) S' = some (v, S') := h
    unfold aOp at h1 ⊢
    dsimp only at h1 ⊢
    unfold jw at h
    split at h
    ·
     rename_i k cs he
     split at h <;> first | (cases h; done) | skip
     rename_i hk
     subst hk
     rw [he] at hx
     have hx : V0 μ G (.iface 3 (.agg cs)) (je A addr) := hx
     generalize hq : je A addr = q at hx h1 ⊢
     cases hx with
     | sg hs => simp [Go.Abs.sg] at hs
     | ep hr hp hg hl hc =>
      obtain ⟨own', hg'⟩ := hL.cells _ _ _ _ hr hp hg
      exact aaH hg hg' h1
    ·
     rename_i ad he
     exact absurd he (hm ad)
    ·
     cases h
   exact ⟨a, h2, h1, key, by rw [hA]; exact h1, by rw [hA]; exact key⟩
  case convert src d x =>
   obtain ⟨rfl, a, h1, h2, h3⟩ := Qv (ρA := je A) h hn ho (.inl hm) (.inl hdr)
   have hA : ∀ H, wC P (lim P) A ⟨dst, .convert src d x, type, pos, after, guard⟩ H = aOp P (je A) ⟨dst, .convert src d x, type, pos, after, guard⟩ H := fun H => by unfold wC; rw [if_pos hok]
   have key : aOp P (je A) ⟨dst, .convert src d x, type, pos, after, guard⟩ H2 = some (a, H2) := by
    have hx := ho x (by simp [Op.operands])
    unfold aOp at h1 ⊢
    dsimp only at h1 ⊢
    refine ab7 (fun e he => ?_) (fun r o n c hq => ?_) h1
    ·
     unfold xM at hn
     dsimp only at hn
     rw [he] at hn; cases hn
    ·
     rw [hq] at hx
     have hh : Y4 (dem (je T x)) = false := by
      rw [XL]
      have h : jK P fx.hp fx.dr src d (je T x) S' = some (v, S') := h
      unfold jK at h
      split at h
      ·
       first | (cases h; done) | (rw [hdr] at h; simp at h)
      ·
       rename_i hh; simpa using hh
     obtain ⟨l, own, e, hr, hp, hg⟩ := hx.backed hh
     obtain ⟨own', hg'⟩ := hL.cells _ _ _ _ hr hp hg
     exact ⟨l, own, own', e, hg, hg'⟩
   exact ⟨a, h2, h1, key, by rw [hA]; exact h1, by rw [hA]; exact key⟩
  case slice t x lo hi mx =>
   obtain ⟨rfl, a, h1, h2, h3⟩ := Qv (ρA := je A) h hn ho (.inl hm) (.inl hdr)
   have hA : ∀ H, wC P (lim P) A ⟨dst, .slice t x lo hi mx, type, pos, after, guard⟩ H = aOp P (je A) ⟨dst, .slice t x lo hi mx, type, pos, after, guard⟩ H := fun H => by unfold wC; rw [if_pos hok]
   have key : aOp P (je A) ⟨dst, .slice t x lo hi mx, type, pos, after, guard⟩ H2 = some (a, H2) := by
    have hx := ho x (by simp [Op.operands])
    unfold aOp at h1 ⊢
    cases mx with
    | some m => cases h1
    | none =>
     dsimp only at h1 ⊢
     refine VT (fun r o n c hq => ?_) h1
     rw [hq] at hx
     have hh : Y4 (dem (je T x)) = false := by
      rw [XL]
      have h : wz P fx.dr t (je T x) (lo.map (je T)) (hi.map (je T)) S' = some (v, S') := h
      unfold wz at h
      split at h
      ·
       first | (cases h; done) | (rw [hdr] at h; simp at h)
      ·
       rename_i hh; simpa using hh
     obtain ⟨l, own, e, hr, hp, hg⟩ := hx.backed hh
     obtain ⟨own', hg'⟩ := hL.cells _ _ _ _ hr hp hg
     exact ⟨l, own, own', e, hg, hg'⟩
   exact ⟨a, h2, h1, key, by rw [hA]; exact h1, by rw [hA]; exact key⟩
  case lookup t x k ok =>
   exact hm.elim
end
end Go.Abs
namespace Go.Abs
open Go.RowKit
structure Line (P : Program) (fx : Fx) (chk : List Nat) (call : FuncId → List Value → M Value) (ops : Array Oper) (k0 : Nat) (l : List Oper) (Ts As : Nat → List Value) (Ss Hs : Nat → zi) (μs : Nat → Mu) (ωs : Nat → Nat → Option wO) (vs zf : Nat → Value) : Prop where
  inv : ∀ k, k ≤ l.length → GI (μs k) (Ss k) (Hs k) ∧ TI (μs k) (Hs k) (ωs k) (Ts k) (As k)
  step : ∀ k o, l[k]? = some o → Later (μs k) (Hs k) (μs (k + 1)) (Hs (k + 1)) ∧ Kept (ωs k) (Hs k) (ωs (k + 1)) (Hs (k + 1)) ∧
    ((Region.wanted o (ynd ops (As k)) = true ∧ jW P fx call (Ts k) o (Ss k) = some (vs k, Ss (k + 1)) ∧ wC P (lim P) (As k) o (Hs k) = some (zf k, Hs (k + 1)) ∧
        Ts (k + 1) = kS o (l.drop (k + 1)) (Ts k) (vs k) ∧ As (k + 1) = Zw (As k) o.dst (zf k) ∧ (chk.contains (k0 + k) = true → okq 3 (vs k) = true)) ∨
     (Region.wanted o (ynd ops (As k)) = false ∧ zf k = undef ∧ Ts (k + 1) = kS o (l.drop (k + 1)) (Ts k) undef ∧ As (k + 1) = Zw (As k) o.dst undef ∧ Hs (k + 1) = Hs k))
section
variable {P : Program} {call : FuncId → List Value → M Value}
theorem aeZ {fx : Fx} {chk : List Nat} {nl : List (Nat × Nat)} (hc : Zx P call) {ops : Array Oper} : ∀ (l : List Oper) (k0 : Nat) (hist : List (Value × zi)) (T T' A : List Value) (S S' H : zi) (μ : Mu) (ω : Nat → Option wO), jH P fx chk nl call ops k0 hist l T S = some (T', S') → GI μ S H → TI μ H ω T A →
    ∃ Ts As Ss Hs μs ωs vs zf tr, Line P fx chk call ops k0 l Ts As Ss Hs μs ωs vs zf ∧ Ts 0 = T ∧ As 0 = A ∧ Ss 0 = S ∧ Hs 0 = H ∧ μs 0 = μ ∧ ωs 0 = ω ∧ Ts l.length = T' ∧ Ss l.length = S' ∧
      yL P (lim P) ops l A H = some (tr, As l.length, Hs l.length) ∧ (∀ k, k < l.length → tr[k]? = some (As k, Hs k, zf k)) ∧ (∀ k, k ≤ l.length → (tr.map (·.2.1) ++ [Hs l.length])[k]? = some (Hs k)) ∧
      ∃ hs : List (Value × zi), hs.length = l.length ∧ (∀ k o, l[k]? = some o → hs[k]? = some (kT (Ts k) o, Ss k)) ∧ (nl.isEmpty = false → nl.all (XC (hist ++ hs ++ [(undef, S')])) = true) := by
  intro l
  induction l with
  | nil =>
    intro k0 hist T T' A S S' H μ ω h hG hT
    simp only [jH] at h
    split at h <;> first | (cases h; done) | skip
    rename_i hst
    cases h
    refine ⟨fun _ => T, fun _ => A, fun _ => S, fun _ => H, fun _ => μ, fun _ => ω, fun _ => undef, fun _ => undef, [], ⟨fun k _ => ⟨hG, hT⟩, fun k o ho => by simp at ho⟩, rfl, rfl, rfl, rfl, rfl, rfl, rfl, rfl, rfl, fun k hk => by simp at hk, fun k hk => ?_, [], rfl, fun k o ho => by simp at ho, fun he => ?_⟩
    · have : k = 0 := by simpa using hk
      subst this
      rfl
    · simpa [qx, he] using hst
  | cons o l ih =>
    intro k0 hist T T' A S S' H μ ω h hG hT
    have hy : (ynd ops T) = ynd ops A := funext fun j => abl hT j
    simp only [jH] at h
    have glue : ∀ (T1 A1 : List Value) (S1 H1 : zi) (μ1 : Mu) (ω1 : Nat → Option wO) (v a : Value), jH P fx chk nl call ops (k0 + 1) (qx nl hist (kT T o) S) l T1 S1 = some (T', S') → GI μ1 S1 H1 → TI μ1 H1 ω1 T1 A1 → Later μ H μ1 H1 → Kept ω H ω1 H1 →
        ((Region.wanted o (ynd ops A) = true ∧ jW P fx call T o S = some (v, S1) ∧ wC P (lim P) A o H = some (a, H1) ∧ T1 = kS o l T v ∧ A1 = Zw A o.dst a ∧ (chk.contains k0 = true → okq 3 v = true)) ∨
         (Region.wanted o (ynd ops A) = false ∧ a = undef ∧ T1 = kS o l T undef ∧ A1 = Zw A o.dst undef ∧ H1 = H)) →
        (∀ tr A2 H2, yL P (lim P) ops l A1 H1 = some (tr, A2, H2) → yL P (lim P) ops (o :: l) A H = some ((A, H, a) :: tr, A2, H2)) →
        ∃ Ts As Ss Hs μs ωs vs zf tr, Line P fx chk call ops k0 (o :: l) Ts As Ss Hs μs ωs vs zf ∧ Ts 0 = T ∧ As 0 = A ∧ Ss 0 = S ∧ Hs 0 = H ∧ μs 0 = μ ∧ ωs 0 = ω ∧ Ts (o :: l).length = T' ∧ Ss (o :: l).length = S' ∧
          yL P (lim P) ops (o :: l) A H = some (tr, As (o :: l).length, Hs (o :: l).length) ∧ (∀ k, k < (o :: l).length → tr[k]? = some (As k, Hs k, zf k)) ∧ (∀ k, k ≤ (o :: l).length → (tr.map (·.2.1) ++ [Hs (o :: l).length])[k]? = some (Hs k)) ∧
          ∃ hs : List (Value × zi), hs.length = (o :: l).length ∧ (∀ k o', (o :: l)[k]? = some o' → hs[k]? = some (kT (Ts k) o', Ss k)) ∧ (nl.isEmpty = false → nl.all (XC (hist ++ hs ++ [(undef, S')])) = true) := by
      intro T1 A1 S1 H1 μ1 ω1 v a hrest hG1 hT1 hL hK hstep htr
      obtain ⟨Ts, As, Ss, Hs, μs, ωs, vs, zf, tr, hline, e1, e2, e3, e4, e5, e6, e7, e8, e9, e10, e11, hs, e12, e13, e14⟩ := ih _ _ _ _ _ _ _ _ _ _ hrest hG1 hT1
      refine ⟨fun k => match k with | 0 => T | k + 1 => Ts k, fun k => match k with | 0 => A | k + 1 => As k, fun k => match k with | 0 => S | k + 1 => Ss k, fun k => match k with | 0 => H | k + 1 => Hs k,
        fun k => match k with | 0 => μ | k + 1 => μs k, fun k => match k with | 0 => ω | k + 1 => ωs k, fun k => match k with | 0 => v | k + 1 => vs k, fun k => match k with | 0 => a | k + 1 => zf k, (A, H, a) :: tr,
        ⟨fun k hk => ?_, fun k o' ho => ?_⟩, rfl, rfl, rfl, rfl, rfl, rfl, e7, e8, htr _ _ _ e9, fun k hk => ?_, fun k hk => ?_, (kT T o, S) :: hs, by simp [e12], fun k o' ho => ?_, fun he => ?_⟩
      · cases k with
        | zero => exact ⟨hG, hT⟩
        | succ k => exact hline.inv k (by simpa using hk)
      · cases k with
        | zero =>
          simp only [List.getElem?_cons_zero, Option.some.injEq] at ho
          subst ho
          dsimp only
          rw [e1, e2, e3, e4, e5, e6]
          exact ⟨hL, hK, hstep⟩
        | succ k =>
          have := hline.step k o' (by simpa using ho)
          rw [show k0 + 1 + k = k0 + (k + 1) by omega] at this
          exact this
      · cases k with
        | zero => rfl
        | succ k => simpa using e10 k (by simpa using hk)
      · cases k with
        | zero => rfl
        | succ k => simpa using e11 k (by simpa using hk)
      · cases k with
        | zero =>
          simp only [List.getElem?_cons_zero, Option.some.injEq] at ho
          subst ho
          rfl
        | succ k => simpa using e13 k o' (by simpa using ho)
      · have := e14 he
        rw [show qx nl hist (kT T o) S = hist ++ [(kT T o, S)] by simp [qx, he]] at this
        simpa using this
    split at h
    · rename_i hw
      split at h
      · rename_i v S1 hs
        split at h <;> first | (cases h; done) | skip
        rename_i hchk
        obtain ⟨a, H1, μ1, ω1, h1, h2, h3, h4, h5⟩ := X4 (rest := l) hc hG hT hs
        have hw' : Region.wanted o (ynd ops A) = true := by rw [← hy]; exact hw
        refine glue _ _ _ H1 μ1 ω1 v a h h2 h5 h3 h4 (.inl ⟨hw', hs, h1, rfl, rfl, fun hk => ?_⟩) (fun tr A2 H2 ht => ?_)
        · rw [hk] at hchk; simpa using hchk
        · simp only [yL, hw', if_true, h1, ht]
      · cases h
    · rename_i hw
      obtain ⟨μ1, ω1, h2, h3, h4, h5⟩ := Jc (o := o) (rest := l) hG hT
      have hw' : Region.wanted o (ynd ops A) = false := by rw [← hy]; simpa using hw
      refine glue _ _ _ H μ1 ω1 undef undef h h2 h5 h3 h4 (.inr ⟨hw', rfl, rfl, rfl, rfl⟩) (fun tr A2 H2 ht => ?_)
      simp only [yL, hw', ht]
      rfl
variable {fx : Fx} {chk : List Nat} {ops : Array Oper} {k0 : Nat} {l : List Oper} {Ts As : Nat → List Value} {Ss Hs : Nat → zi} {μs : Nat → Mu} {ωs : Nat → Nat → Option wO} {vs zf : Nat → Value}
theorem Line.later (hl : Line P fx chk call ops k0 l Ts As Ss Hs μs ωs vs zf) {i : Nat} : ∀ (d : Nat), i + d ≤ l.length → Later (μs i) (Hs i) (μs (i + d)) (Hs (i + d)) := by
 intro d
 induction d with
 | zero => intro _; exact Later.refl _ _
 | succ d ih =>
  intro hd
  have ho : l[i + d]? = some l[i + d] := List.getElem?_eq_getElem (by omega)
  exact (ih (by omega)).trans (hl.step (i + d) _ ho).1
theorem Line.kept (hl : Line P fx chk call ops k0 l Ts As Ss Hs μs ωs vs zf) : ∀ (d : Nat), d ≤ l.length → Kept (ωs 0) (Hs 0) (ωs d) (Hs d) := by
 intro d
 induction d with
 | zero => intro _; exact Kept.refl _ _
 | succ d ih =>
  intro hd
  have ho : l[d]? = some l[d] := List.getElem?_eq_getElem (by omega)
  exact (ih (by omega)).trans (hl.step d _ ho).2.1
theorem Xo (i : Nat) (w : Value) : dem (zQ i w) = dem w := by
 cases w with
 | tuple vs =>
  simp only [zQ, dem]
  congr 1
  apply Array.ext (by simp)
  intro k h1 h2
  rw [Array.getElem_map, Array.getElem_map, Array.getElem_modify]
  split
  ·
   have : ∀ v, qP (qP v) = qP v := by
    intro v
    cases v with
    | iface k v =>
     simp only [qP]
     by_cases h : k = 2
     ·
      rw [if_pos h, if_neg (by decide)]
     ·
      rw [if_neg h, if_neg h]
    | _ => rfl
   exact this _
  ·
   rfl
 | _ => rfl
theorem Kr (o : Oper) (T : List Value) (t : Nat) : dem ((moved o T).getD t undef) = dem (T.getD t undef) := by
 have slot : ∀ t', dem ((yM T t').getD t undef) = dem (T.getD t undef) := by
  intro t'
  rw [yM, wR]
  split
  ·
   rename_i h; rw [h.1, Yx]
  ·
   rfl
 unfold moved
 split
 ·
  exact slot _
 ·
  exact slot _
 ·
  rw [wR]
  split
  ·
   rename_i h; rw [h.1, Xo]
  ·
   rfl
 ·
  split
  ·
   exact slot _
  ·
   rfl
 ·
  rfl
theorem moved_length (o : Oper) (T : List Value) : (moved o T).length = T.length := by
 unfold moved
 split <;> first | simp [yM] | rfl | skip
 split <;> first | simp [yM] | rfl
theorem QZ {o : Oper} {rest : List Oper} {T : List Value} {v : Value} (hd : o.dst = none) (t : Nat) : dem ((kS o rest T v).getD t undef) = dem (T.getD t undef) := by
 unfold kS
 rw [hd]
 split
 ·
  rfl
 ·
  exact Kr o T t
theorem Qr {o : Oper} {rest : List Oper} {T : List Value} {v : Value} {d : Nat} (hd : o.dst = some d) (t : Nat) : dem ((kS o rest T v).getD t undef) = if t = d ∧ d < T.length then dem v else dem (T.getD t undef) := by
 unfold kS
 rw [hd]
 split
 ·
  simp only [Zw]
  rw [wR]
  split
  ·
   exact Yx v
  ·
   rfl
 ·
  simp only [Zw]
  rw [wR, moved_length]
  split
  ·
   rfl
  ·
   exact Kr o T t
def Clear (μ : Mu) (G : zi) (bad : List Nat) (T A : List Value) : Prop := ∀ t, bad.contains t = false → V0 μ G (dem (T.getD t undef)) (A.getD t undef)
theorem Clear.operands {μ : Mu} {G : zi} {bad : List Nat} {T A : List Value} (h : Clear μ G bad T A) {o : Oper} (hok : adg o = true) (hc : yI bad o = true) : ∀ x ∈ o.op.operands.toList, V0 μ G (dem (je T x)) (je A x) := by
 intro x hx
 have h1 := List.all_eq_true.1 (show o.op.operands.toList.all yO = true from hok) x hx
 have h2 := List.all_eq_true.1 hc x hx
 cases x with
 | tmp t => exact h t (by simpa using h2)
 | const v => exact (VV.wo (μ := μ) (H := G) (ω := W0) (ℓ := none) h1).v0
 | global g => cases h1
 | func f =>
  have : V0 μ G (.func (.func f) #[] #[]) (.func (.func f) #[] #[]) := .func _ rfl rfl (fun i => by simpa using VV.undef) (fun i => by simpa using VV.undef)
  exact this
theorem vK {T : List Value} {o : Oper} {S S' : zi} {v : Value} (h : jW P fx call T o S = some (v, S')) : adg o = true := by
 unfold jW at h
 split at h
 ·
  assumption
 ·
  cases h
theorem Vg {fx : Fx} {o : Oper} {T A : List Value} {v : Value} {S S' H : zi} {μ : Mu} (h : jW P fx call T o S = some (v, S')) (hnm : fx.nm = true) (hm : ¬ kY (je T) o) (hG : GI μ S H) (ho : ∀ x ∈ o.op.operands.toList, V0 μ H (dem (je T x)) (je A x)) :
  ground v = true ∧ ∃ a, wC P (lim P) A o H = some (a, H) ∧ a = v := by
 have hok := vK h
 unfold jW at h
 rw [if_pos hok] at h
 obtain ⟨dst, op, type, pos, after, guard⟩ := o
 unfold kY at hm
 cases op <;> dsimp only at h hm <;> first | (exact absurd True.intro hm) | skip
 case load t a =>
  have h : jw P fx.nm t (je T a) S = some (v, S') := h
  obtain ⟨q, hq⟩ : ∃ q, je T a = .pointer q := Classical.byContradiction fun hn => hm fun q hq => hn ⟨q, hq⟩
  obtain ⟨rfl, w, k1, k2⟩ := Jj h (ho a (by simp [Op.operands])) (.inr hG)
  rw [hnm] at h
  have hgr : ground v = true := by
   unfold jw at h
   rw [hq] at h
   dsimp only at h
   split at h <;> first | (cases h; done) | skip
   ·
    split at h
    ·
     split at h <;> first | (cases h; done) | skip
     rename_i hg
     cases h
     exact hg
    ·
     rename_i hf; exact absurd rfl hf
   ·
    split at h
    ·
     split at h <;> first | (cases h; done) | skip
     rename_i hg
     cases h
     exact hg
    ·
     rename_i hf; exact absurd rfl hf
  refine ⟨hgr, w, ?_, k2.qG hgr⟩
  unfold wC
  rw [if_pos hok]
  exact k1
 case lookup t x k ok =>
  have h : ZL P fx.nm t (je T x) (je T k) ok S = some (v, S') := h
  unfold ZL at h
  rw [hnm] at h
  simp at h
theorem Line.clear (hdr : fx.dr = true) (hl : Line P fx chk call ops k0 l Ts As Ss Hs μs ωs vs zf) {j : Nat} (hj : j ≤ l.length) : ∀ (rest : List Oper) (bad : List Nat) (k : Nat), j ≤ k → l.drop k = rest → Clear (μs j) (Hs j) bad (Ts k) (As k) →
  ∀ d, d ≤ rest.length → Clear (μs j) (Hs j) ((aaZ P fx.nm rest bad).getD d []) (Ts (k + d)) (As (k + d)) := by
 intro rest
 induction rest with
 | nil =>
  intro bad k hjk hr hC d hd
  have : d = 0 := by simpa using hd
  subst this
  exact hC
 | cons o rest ih =>
  intro bad k hjk hr hC d hd
  have hkl : k < l.length := by
   have := congrArg List.length hr
   simp at this; omega
  have ho : l[k]? = some o := by
   have := congrArg (·[0]?) hr
   simpa [List.getElem?_drop] using this
  cases d with
  | zero => exact hC
  | succ d =>
   simp only [aaZ, List.getD_cons_succ]
   rw [show k + (d + 1) = k + 1 + d by omega]
   refine ih _ (k + 1) (by omega) ?_ ?_ d (by simpa using hd)
   ·
    rw [← List.drop_drop, hr]; rfl
   ·
    obtain ⟨hL, _, hor⟩ := hl.step k o ho
    obtain ⟨hG, hT⟩ := hl.inv k (by omega)
    have hlen := hT.len
    intro t ht
    cases hd : o.dst with
    | none =>
     rw [hd] at ht
     rcases hor with ⟨_, _, _, e1, e2, _⟩ | ⟨_, _, e1, e2, _⟩
     ·
      rw [e1, QZ hd, e2, hd]; exact hC t ht
     ·
      rw [e1, QZ hd, e2, hd]; exact hC t ht
    | some dd =>
     rw [hd] at ht
     dsimp only at ht
     have htb : bad.contains t = false := by
      split at ht
      ·
       simp only [List.contains_cons, Bool.or_eq_false_iff] at ht; exact ht.2
      ·
       exact ht
     rcases hor with ⟨hw, hv, ha, e1, e2, _⟩ | ⟨_, _, e1, e2, _⟩
     ·
      rw [e1, Qr hd, e2, hd]
      simp only [Zw]
      rw [wR, hlen]
      by_cases hc : t = dd ∧ dd < (As k).length
      ·
       rw [if_pos hc, if_pos hc]
       have hcond : ¬ (xM P o || !yI bad o || (yY o && !fx.nm)) = true := by
        intro hh
        rw [if_pos hh] at ht
        simp [hc.1] at ht
       simp only [Bool.or_eq_true, not_or, Bool.not_eq_true, Bool.not_eq_eq_eq_not, Bool.not_true, Bool.and_eq_true, not_and] at hcond
       obtain ⟨⟨q1, q2⟩, q3⟩ := hcond
       have q2' : yI bad o = true := by simpa using q2
       have hLj : Later (μs j) (Hs j) (μs k) (Hs k) := by
        have := hl.later (i := j) (k - j) (by omega)
        rwa [show j + (k - j) = k by omega] at this
       by_cases hm : kY (je (Ts k)) o
       ·
        obtain ⟨a, h1, _, _, _, h5⟩ := ae4 hdr hv q1 hm (hC.operands (vK hv) q2') hLj
        rw [ha] at h5
        have e : zf k = a := by simpa using congrArg (Option.map Prod.fst) h5
        subst e
        exact h1
       ·
        have hrm : yY o = true := by
         cases hrm : yY o with
         | true => rfl
         | false => exact absurd (ZW hrm) hm
        have hnm : fx.nm = true := by have := q3 hrm; simpa using this
        obtain ⟨g1, a, g2, g3⟩ := Vg hv hnm hm hG (fun x hx => hT.eval (List.all_eq_true.1 (show o.op.operands.toList.all yO = true from vK hv) x hx))
        rw [ha] at g2
        have e : zf k = a := by simpa using congrArg (Option.map Prod.fst) g2
        subst e
        rw [g3, Yo g1]
        exact V0.ground g1
      ·
       rw [if_neg hc, if_neg hc]
       exact hC t htb
     ·
      rw [e1, Qr hd, e2, hd]
      simp only [Zw]
      rw [wR, hlen]
      by_cases hc : t = dd ∧ dd < (As k).length
      ·
       rw [if_pos hc, if_pos hc, show dem undef = undef from xX]
       exact .nores
      ·
       rw [if_neg hc, if_neg hc]
       exact hC t htb
theorem abI {hp0 : Bool} (hc : Zx P call) {T T' A : List Value} {S S' H : zi} {μ : Mu} {ω : Nat → Option wO} (hd : qI P ops = true) (h : jH P ⟨hp0, !(checked P ops).isEmpty, fixed P ops⟩ (checked P ops) (again P ops) call ops 0 [] ops.toList T S = some (T', S')) (hG : GI μ S H) (hT : TI μ H ω T A) :
  After μ ω H T' S' (xB P (lim P) ops A H) := by
 obtain ⟨Ts, As, Ss, Hs, μs, ωs, vs, zf, tr, hline, rfl, rfl, rfl, rfl, rfl, rfl, rfl, rfl, e9, e10, e11, hs, e12, e13, e14⟩ := aeZ hc _ _ _ _ _ _ _ _ _ _ _ h hG hT
 obtain ⟨hGn, hTn⟩ := hline.inv ops.toList.length (Nat.le_refl _)
 have hLn := hline.later (i := 0) ops.toList.length (by omega)
 rw [Nat.zero_add] at hLn
 refine ⟨As ops.toList.length, Hs ops.toList.length, μs ops.toList.length, ωs ops.toList.length, ?_, hGn, hLn, hline.kept _ (Nat.le_refl _), hTn⟩
 simp only [qI, YN, Bool.and_eq_true] at hd
 refine acL hd.1 e9 fun p hp => ?_
 have hchk : (checked P ops).contains p.1 = true := by
  unfold checked
  simp only [List.contains_eq_mem, decide_eq_true_eq]
  exact List.mem_map.2 ⟨p, hp, rfl⟩
 have hdr : (Fx.mk hp0 (!(checked P ops).isEmpty) (fixed P ops)).dr = true := by
  show (!(checked P ops).isEmpty) = true
  cases hl : checked P ops with
  | nil => rw [hl] at hchk; cases hchk
  | cons a b => rfl
 have hp2 := List.all_eq_true.1 hd.2 p hp
 have hp0 := hp
 unfold need at hp
 obtain ⟨i, hi, hp⟩ := List.mem_flatMap.1 hp
 obtain ⟨j, hj, hp⟩ := List.mem_filterMap.1 hp
 have hi : i < ops.toList.length := List.mem_range.1 hi
 have hj : j < ops.toList.length := List.mem_range.1 hj
 split at hp <;> first | (cases hp; done) | skip
 rename_i oi oj hoi hoj
 split at hp <;> first | (cases hp; done) | skip
 rename_i hcond
 cases hp
 simp only [Bool.and_eq_true, Bool.not_eq_true'] at hcond
 obtain ⟨⟨hni, hcj⟩, _⟩ := hcond
 dsimp only at hp2 hchk ⊢
 rw [hoi] at hp2
 dsimp only at hp2
 have hij : i ≠ j := by
  intro e; subst e
  rw [hoi] at hoj; cases hoj
  rw [hni] at hcj; cases hcj
 have hGj : (tr.map (·.2.1) ++ [Hs ops.toList.length])[if j < i then j else j + 1]? = some (Hs (if j < i then j else j + 1)) := e11 _ (by split <;> omega)
 unfold Jz
 rw [hoi, e10 i hi, hGj]
 dsimp only
 obtain ⟨_, _, hor⟩ := hline.step i oi hoi
 rcases hor with ⟨hw, hv, ha, heT, heA, hq⟩ | ⟨hw, _⟩
 ·
  rw [hw]
  simp only [Bool.not_true, Bool.false_or]
  obtain ⟨hGi, hTi⟩ := hline.inv i (by omega)
  have hops : ∀ x ∈ oi.op.operands.toList, V0 (μs i) (Hs i) (dem (je (Ts i) x)) (je (As i) x) := fun x hx => hTi.eval (List.all_eq_true.1 (show oi.op.operands.toList.all yO = true from vK hv) x hx)
  have hq3 : okq 3 (vs i) = true := hq (by rw [Nat.zero_add]; exact hchk)
  have same : ∃ G', aOp P (je (As i)) oi (Hs (if j < i then j else j + 1)) = some (zf i, G') ∧ aai 3 (zf i) (zf i) = true := by
   by_cases hm : kY (je (Ts i)) oi
   case neg =>
    have hrm : yY oi = true := by
     cases hrm : yY oi with
     | true => rfl
     | false => exact absurd (ZW hrm) hm
    have hin : (i, j) ∈ again P ops := List.mem_filter.2 ⟨hp0, by dsimp only; rw [hoi]; exact hrm⟩
    have hne : (again P ops).isEmpty = false := by
     cases hl : again P ops with
     | nil => rw [hl] at hin; cases hin
     | cons a b => rfl
    have hst := List.all_eq_true.1 (e14 hne) _ hin
    rw [List.nil_append] at hst
    have hi1 : (hs ++ [(undef, Ss ops.toList.length)])[i]? = some (kT (Ts i) oi, Ss i) := by
     rw [List.getElem?_append_left (by omega)]; exact e13 i oi hoi
    have hj1 : ∃ p2, (hs ++ [(undef, Ss ops.toList.length)])[if j < i then j else j + 1]? = some (p2, Ss (if j < i then j else j + 1)) := by
     by_cases hjl : (if j < i then j else j + 1) < ops.toList.length
     ·
      rw [List.getElem?_append_left (by omega)]
      exact ⟨_, e13 _ _ (List.getElem?_eq_getElem hjl)⟩
     ·
      have : (if j < i then j else j + 1) = ops.toList.length := by split at hjl <;> (rename_i hh; simp only [hh, if_true, if_false]; omega)
      rw [this, List.getElem?_append_right (by omega), e12, Nat.sub_self]
      exact ⟨_, rfl⟩
    obtain ⟨p2, hj1⟩ := hj1
    unfold XC at hst
    dsimp only at hst
    rw [hi1, hj1] at hst
    dsimp only at hst
    have obj : ∀ q r b, μs i q = some (r, b) → (∀ Sa Sb, qN (kT (Ts i) oi) Sa Sb = true → (∃ o, Sa.get q = some o ∧ o.alive = true) ∧ q ∉ Sb.log.take (Sb.log.length - Sa.log.length)) → (Hs (if j < i then j else j + 1)).get r = (Hs i).get r := by
     intro q r b hq hQ
     by_cases hji : j < i
     ·
      rw [if_pos hji] at hst ⊢
      rw [if_pos hji] at hst
      obtain ⟨⟨o1, g1, g2⟩, g3⟩ := hQ _ _ hst
      obtain ⟨hGj3, _⟩ := hline.inv j (by omega)
      obtain ⟨r0, _, g4, _⟩ := hGj3.obj q o1 g1 g2
      have hL := hline.later (i := j) (i - j) (by omega)
      rw [show j + (i - j) = i by omega] at hL
      obtain ⟨b', hb'⟩ := hL.mu q r0 true g4
      rw [hq] at hb'
      cases hb'
      obtain ⟨new, n1, n2⟩ := hL.still
      rw [hGj3.log, hGi.log] at n1
      rw [n1] at g3
      simp only [List.length_append, Nat.add_sub_cancel, List.take_left] at g3
      exact (n2 q r g4 g3).2.symm
     ·
      rw [if_neg hji] at hst ⊢
      rw [if_neg hji] at hst
      obtain ⟨⟨o1, g1, g2⟩, g3⟩ := hQ _ _ hst
      have hb := hGi.at hq g1 g2
      subst hb
      have hL := hline.later (i := i) (j + 1 - i) (by omega)
      rw [show i + (j + 1 - i) = j + 1 by omega] at hL
      obtain ⟨hGj3, _⟩ := hline.inv (j + 1) (by omega)
      obtain ⟨new, n1, n2⟩ := hL.still
      rw [hGj3.log, hGi.log] at n1
      rw [n1] at g3
      simp only [List.length_append, Nat.add_sub_cancel, List.take_left] at g3
      exact (n2 q r hq g3).2
    clear hst hi1 hj1
    have hok := vK hv
    have hvo := hv
    unfold jW at hv
    rw [if_pos hok] at hv
    obtain ⟨dst, op, type, pos, after, guard⟩ := oi
    unfold kY at hm
    cases op <;> dsimp only at hv hm <;> first | (exact absurd True.intro hm) | skip
    case load t a =>
     have hv : jw P (fixed P ops) t (je (Ts i) a) (Ss i) = some (vs i, Ss (i + 1)) := hv
     obtain ⟨ad, hq⟩ : ∃ q, je (Ts i) a = .pointer q := Classical.byContradiction fun hn => hm fun q hq => hn ⟨q, hq⟩
     have hx := hops a (by simp [Op.operands])
     obtain ⟨_, w, k1, k2⟩ := Jj hv hx (.inr hGi)
     have hA : wC P (lim P) (As i) ⟨dst, .load t a, type, pos, after, guard⟩ (Hs i) = wY P t (je (As i) a) (Hs i) := by unfold wC; rw [if_pos hok]; rfl
     rw [hA, k1] at ha
     have e : w = zf i := by simpa using congrArg (Option.map Prod.fst) ha
     subst e
     rw [hq] at hx
     have hx : V0 (μs i) (Hs i) (.pointer ad) (je (As i) a) := hx
     generalize hpa : je (As i) a = pa at hx k1
     have hres : wY P t pa (Hs (if j < i then j else j + 1)) = some (zf i, Hs (if j < i then j else j + 1)) := by
      cases hx with
      | sg hs =>
       cases ad with
       | none => simp [wY] at k1
       | some ad => simp [Go.Abs.sg] at hs
      | @ptr _ q o r b hmq =>
       refine VB (obj q r b hmq fun Sa Sb hQ => ?_) k1
       have hQ : qN (je (Ts i) a) Sa Sb = true := hQ
       rw [hq] at hQ
       simp only [qN, Bool.and_eq_true, Bool.not_eq_true', List.contains_eq_mem, decide_eq_false_iff_not] at hQ
       refine ⟨?_, hQ.2⟩
       have h1 := hQ.1
       split at h1 <;> first | (cases h1; done) | skip
       rename_i hsa
       exact ⟨_, hsa, rfl⟩
     rw [← hpa] at hres
     exact ⟨_, hres, Wp 3 (Wi hq3) k2.dem⟩
    case lookup t x k ok =>
     have hv : ZL P (fixed P ops) t (je (Ts i) x) (je (Ts i) k) ok (Ss i) = some (vs i, Ss (i + 1)) := hv
     have hx := hops x (by simp [Op.operands])
     obtain ⟨_, w, k1, k2⟩ := Yi hv hx (hops k (by simp [Op.operands])) (.inr hGi)
     have hA : wC P (lim P) (As i) ⟨dst, .lookup t x k ok, type, pos, after, guard⟩ (Hs i) = jT P t (je (As i) x) (je (As i) k) ok (Hs i) := by unfold wC; rw [if_pos hok]; rfl
     rw [hA, k1] at ha
     have e : w = zf i := by simpa using congrArg (Option.map Prod.fst) ha
     subst e
     have hres : jT P t (je (As i) x) (je (As i) k) ok (Hs (if j < i then j else j + 1)) = some (zf i, Hs (if j < i then j else j + 1)) := by
      refine Ku (fun r hr => ?_) k1
      rw [hr] at hx
      generalize hu : dem (je (Ts i) x) = u at hx
      have hum : ∃ q b, u = .map (some q) ∧ μs i q = some (r, b) := by
       cases hx with
       | sg hs => simp [Go.Abs.sg] at hs
       | map hmq => exact ⟨_, _, rfl, hmq⟩
      obtain ⟨q, b, rfl, hmq⟩ := hum
      have hxe : je (Ts i) x = .map (some q) := by
       cases hvx : je (Ts i) x <;> rw [hvx] at hu <;> simp [dem, qP] at hu <;> rw [hu]
      refine obj q r b hmq fun Sa Sb hQ => ?_
      have hQ : qN (je (Ts i) x) Sa Sb = true := hQ
      rw [hxe] at hQ
      simp only [qN, Bool.and_eq_true, Bool.not_eq_true', List.contains_eq_mem, decide_eq_false_iff_not] at hQ
      refine ⟨?_, hQ.2⟩
      have h1 := hQ.1
      split at h1 <;> first | (cases h1; done) | skip
      rename_i hsa
      exact ⟨_, hsa, rfl⟩
     exact ⟨_, hres, Wp 3 (Wi hq3) k2.dem⟩
   by_cases hrd : qB oi = false
   ·
    obtain ⟨a, h1, h2⟩ := adQ hdr hv hni hrd hops
    have h3 := (h2 (Hs i)).2
    rw [ha] at h3
    have e : zf i = a := by simpa using congrArg (Option.map Prod.fst) h3
    subst e
    exact ⟨_, (h2 _).1, Wp 3 (Wi hq3) h1⟩
   ·
    have hrd : qB oi = true := by simpa using hrd
    by_cases hlt : i < j
    ·
     rw [if_neg (by omega)]
     have hL := hline.later (i := i) (j + 1 - i) (by omega)
     rw [show i + (j + 1 - i) = j + 1 by omega] at hL
     obtain ⟨a, h1, _, h3, h4, _⟩ := ae4 hdr hv hni hm hops hL
     rw [ha] at h4
     have e : zf i = a := by simpa using congrArg (Option.map Prod.fst) h4
     subst e
     exact ⟨_, h3, Wp 3 (Wi hq3) h1⟩
    ·
     rw [if_pos (by omega)]
     rw [hrd] at hp2
     have hcl : yI ((aaZ P (fixed P ops) (ops.toList.drop j) []).getD (i - j) []) oi = true := by
      simpa [hlt] using hp2
     obtain ⟨hGj2, hTj⟩ := hline.inv j (by omega)
     have hC0 : Clear (μs j) (Hs j) [] (Ts j) (As j) := fun t _ => (hTj.slots t).v0
     have hC := hline.clear hdr (j := j) (by omega) _ [] j (Nat.le_refl _) rfl hC0 (i - j) (by rw [List.length_drop]; omega)
     rw [show j + (i - j) = i by omega] at hC
     have hL := hline.later (i := j) (i - j) (by omega)
     rw [show j + (i - j) = i by omega] at hL
     obtain ⟨a, h1, h2, _, _, h5⟩ := ae4 hdr hv hni hm (hC.operands (vK hv) hcl) hL
     rw [ha] at h5
     have e : zf i = a := by simpa using congrArg (Option.map Prod.fst) h5
     subst e
     exact ⟨_, h2, Wp 3 (Wi hq3) h1⟩
  obtain ⟨G', h1, h2⟩ := same
  unfold recheck
  rw [h1]
  exact h2
 ·
  rw [hw]
  rfl
end
end Go.Abs
namespace Go.Abs
open Go.RowKit
section
variable {P : Program} {call : FuncId → List Value → M Value}
def aen (μ : Mu) (ω : Nat → Option wO) (H : zi) (e : AEx) (T' : List Value) (S' : zi) (R : St) : Prop :=
 ∃ A' H' μ' ω', R = some (e, A', H') ∧ GI μ' S' H' ∧ Later μ H μ' H' ∧ Kept ω H ω' H' ∧ TI μ' H' ω' T' A'
theorem acM {hp : Bool} (hc : Zx P call) (fuel : Nat) : ∀ (c : Code) (T T' A : List Value) (S S' H : zi) (μ : Mu) (ω : Nat → Option wO) (e : AEx), wH P hp call fuel c T S = some (e, T', S') → GI μ S H → TI μ H ω T A → aen μ ω H e T' S' (wJ P c A H) := by
 intro c
 induction c with
 | skip =>
  intro T T' A S S' H μ ω e h hG hT
  simp only [wH, Option.some.injEq, Prod.mk.injEq] at h
  obtain ⟨rfl, rfl, rfl⟩ := h
  exact ⟨A, H, μ, ω, rfl, hG, Later.refl _ _, Kept.refl _ _, hT⟩
 | exit id =>
  intro T T' A S S' H μ ω e h hG hT
  simp only [wH, Option.some.injEq, Prod.mk.injEq] at h
  obtain ⟨rfl, rfl, rfl⟩ := h
  exact ⟨A, H, μ, ω, rfl, hG, Later.refl _ _, Kept.refl _ _, hT⟩
 | ret =>
  intro T T' A S S' H μ ω e h hG hT
  simp only [wH, Option.some.injEq, Prod.mk.injEq] at h
  obtain ⟨rfl, rfl, rfl⟩ := h
  exact ⟨A, H, μ, ω, rfl, hG, Later.refl _ _, Kept.refl _ _, hT⟩
 | region i ops d =>
  intro T T' A S S' H μ ω e h hG hT
  cases d with
  | false =>
   simp only [wH] at h
   split at h <;> first | (cases h; done) | skip
   rename_i T1 S1 ho
   cases h
   obtain ⟨A', H', μ', ω', h1, h2, h3, h4, h5⟩ := aez hc _ _ _ _ _ _ _ _ _ ho hG hT
   exact ⟨A', H', μ', ω', by simp only [wJ, h1], h2, h3, h4, h5⟩
  | true =>
   simp only [wH] at h
   split at h <;> first | (cases h; done) | skip
   rename_i hd
   split at h <;> first | (cases h; done) | skip
   rename_i T1 S1 ho
   cases h
   obtain ⟨A', H', μ', ω', h1, h2, h3, h4, h5⟩ := abI hc hd ho hG hT
   exact ⟨A', H', μ', ω', by simp only [wJ, h1], h2, h3, h4, h5⟩
 | seq x y ihx ihy =>
  intro T T' A S S' H μ ω e h hG hT
  simp only [wH] at h
  split at h
  ·
   rename_i T1 S1 hx
   obtain ⟨A1, H1, μ1, ω1, h1, h2, h3, h4, h5⟩ := ihx _ _ _ _ _ _ _ _ _ hx hG hT
   obtain ⟨A2, H2, μ2, ω2, k1, k2, k3, k4, k5⟩ := ihy _ _ _ _ _ _ _ _ _ h h2 h5
   exact ⟨A2, H2, μ2, ω2, by simp only [wJ, h1]; exact k1, k2, h3.trans k3, h4.trans k4, k5⟩
  ·
   rename_i hne
   obtain ⟨A1, H1, μ1, ω1, h1, h2, h3, h4, h5⟩ := ihx _ _ _ _ _ _ _ _ _ h hG hT
   refine ⟨A1, H1, μ1, ω1, ?_, h2, h3, h4, h5⟩
   simp only [wJ, h1]
   cases e with
   | normal => exact absurd h (hne _ _)
   | exit id => rfl
   | ret => rfl
 | cond c x y ihx ihy =>
  intro T T' A S S' H μ ω e h hG hT
  simp only [wH] at h
  split at h <;> first | (cases h; done) | skip
  rename_i hok
  have hv := hT.eval hok
  split at h
  ·
   rename_i hb
   have : je A c = .bool true := jo hv (by rw [hb]; rfl) |>.trans hb
   obtain ⟨A1, H1, μ1, ω1, h1, h2, h3, h4, h5⟩ := ihx _ _ _ _ _ _ _ _ _ h hG hT
   exact ⟨A1, H1, μ1, ω1, by simp only [wJ, hok, if_true, this]; exact h1, h2, h3, h4, h5⟩
  ·
   rename_i hb
   have : je A c = .bool false := jo hv (by rw [hb]; rfl) |>.trans hb
   obtain ⟨A1, H1, μ1, ω1, h1, h2, h3, h4, h5⟩ := ihy _ _ _ _ _ _ _ _ _ h hG hT
   exact ⟨A1, H1, μ1, ω1, by simp only [wJ, hok, if_true, this]; exact h1, h2, h3, h4, h5⟩
  ·
   cases h
 | block id c ih =>
  intro T T' A S S' H μ ω e h hG hT
  simp only [wH] at h
  split at h
  ·
   rename_i id' T1 S1 hx
   obtain ⟨A1, H1, μ1, ω1, h1, h2, h3, h4, h5⟩ := ih _ _ _ _ _ _ _ _ _ hx hG hT
   by_cases hid : id' = id
   ·
    rw [if_pos hid] at h
    cases h
    exact ⟨A1, H1, μ1, ω1, by simp only [wJ, h1, if_pos hid], h2, h3, h4, h5⟩
   ·
    rw [if_neg hid] at h
    cases h
    exact ⟨A1, H1, μ1, ω1, by simp only [wJ, h1, if_neg hid], h2, h3, h4, h5⟩
  ·
   rename_i hne
   obtain ⟨A1, H1, μ1, ω1, h1, h2, h3, h4, h5⟩ := ih _ _ _ _ _ _ _ _ _ h hG hT
   refine ⟨A1, H1, μ1, ω1, ?_, h2, h3, h4, h5⟩
   simp only [wJ, h1]
   cases e with
   | normal => rfl
   | exit id' => exact absurd h (hne _ _ _)
   | ret => rfl
 | loop c ih =>
  have key : ∀ (n : Nat) (T T' A : List Value) (S S' H : zi) (μ : Mu) (ω : Nat → Option wO) (e : AEx), yC n (wH P hp call fuel c) T S = some (e, T', S') → GI μ S H → TI μ H ω T A → aen μ ω H e T' S' (wQ (wJ P c) A H) := by
   intro n
   induction n with
   | zero => intro T T' A S S' H μ ω e h; cases h
   | succ n ihn =>
    intro T T' A S S' H μ ω e h hG hT
    simp only [yC] at h
    split at h
    ·
     rename_i T1 S1 hx
     obtain ⟨A1, H1, μ1, ω1, h1, h2, h3, h4, h5⟩ := ih _ _ _ _ _ _ _ _ _ hx hG hT
     obtain ⟨A2, H2, μ2, ω2, k1, k2, k3, k4, k5⟩ := ihn _ _ _ _ _ _ _ _ _ h h2 h5
     exact ⟨A2, H2, μ2, ω2, by rw [jY h1]; exact k1, k2, h3.trans k3, h4.trans k4, k5⟩
    ·
     rename_i hne
     obtain ⟨A1, H1, μ1, ω1, h1, h2, h3, h4, h5⟩ := ih _ _ _ _ _ _ _ _ _ h hG hT
     exact ⟨A1, H1, μ1, ω1, jq h1 (fun he => by subst he; exact hne _ _ h), h2, h3, h4, h5⟩
  intro T T' A S S' H μ ω e h hG hT
  simp only [wH] at h
  obtain ⟨A1, H1, μ1, ω1, h1, h2⟩ := key fuel _ _ _ _ _ _ _ _ _ h hG hT
  exact ⟨A1, H1, μ1, ω1, by simp only [wJ]; exact h1, h2⟩
 | _ => intro T T' A S S' H μ ω e h; simp only [wH] at h; cases h
theorem VV.afQ {μ : Mu} {H : zi} {ω ω' : Nat → Option wO} {f : wO → Option wO} (hω : ∀ r, ω' r = (ω r).bind f) {s s' : wO} (hs : f s = some s') {v a : Value} (h : VV μ H ω (some s) v a) (hv : ji v = true) : VV μ H ω' (some s') v a := by
 cases h with
 | sg h => exact .sg h
 | ptr h => exact .ptr h
 | map h => exact .map h
 | slm h => exact .slm h
 | slE => exact .slE
 | sl hr hp hg hl hl' hc => exact .sl hr hp hg hl hl' (fun i hi => (hc i hi).at0)
 | so h hr hp hg hl hl' hc => exact .so (by rw [hω, h]; exact hs) hr hp hg hl hl' (fun i hi => (hc i hi).at0)
 | ep hr hp hg hl hc => exact .ep hr hp hg hl (fun i hi => (hc i hi).at0)
 | func fn hx hc h1 h2 => exact .func fn hx hc (fun i => (h1 i).at0) (fun i => (h2 i).at0)
 | agg hx hh => exact .agg hx (fun i => (hh i).at0)
 | nores => exact .nores
 | @tuple _ x x' hx hh =>
  have h0 : x.size = 0 := by simpa [ji] using hv
  have e1 : x = #[] := Array.eq_empty_of_size_eq_zero h0
  have e2 : x' = #[] := Array.eq_empty_of_size_eq_zero (by rw [← hx]; exact h0)
  subst e1 e2
  exact .nores
def place (rs : List ResultVar) : wO → Option wO
 | .ext => some .ext
 | .res _ => none
 | .slot i j => match rs with
  | [.tmp t] => if i = t then some (.res j) else none
  | _ => match j with
   | none => (rs.findIdx? (adi i)).map fun k => .res (some k)
   | some _ => none
theorem Vq {rs : List ResultVar} {i : Nat} (h : ∀ t, rs ≠ [.tmp t]) : place rs (.slot i none) = (rs.findIdx? (adi i)).map fun k => .res (some k) := by
 match rs, h with
 | [], _ => rfl
 | [.tmp t], h => exact absurd rfl (h t)
 | [.cell _ _], _ => rfl
 | .tmp _ :: _ :: _, _ => rfl
 | .cell _ _ :: _ :: _, _ => rfl
theorem Xm {μ : Mu} {ω : Nat → Option wO} {S H : zi} {T A : List Value} (hG : GI μ S H) (hT : TI μ H ω T A) : ∀ (l : List ResultVar) (vs : List Value), zV P T S l = some vs →
  ∃ zf, kP P A H l = some zf ∧ vs.length = l.length ∧ zf.length = l.length ∧ ∀ i : Nat, match (l[i]? : Option ResultVar) with
   | some (.tmp t) => vs.getD i undef = T.getD t undef ∧ zf.getD i undef = A.getD t undef
   | _ => V0 μ H (vs.getD i undef) (zf.getD i undef) := by
 intro l
 induction l with
 | nil =>
  intro vs h
  simp only [zV, Option.some.injEq] at h
  subst h
  exact ⟨[], rfl, rfl, rfl, fun i => by simpa using VV.undef⟩
 | cons x l ih =>
  intro vs h
  cases x with
  | tmp t =>
   simp only [zV] at h
   split at h <;> first | (cases h; done) | skip
   rename_i vs' hr
   cases h
   obtain ⟨zf, h1, h2, h3, h4⟩ := ih _ hr
   refine ⟨A.getD t undef :: zf, by simp only [kP, h1], by simp [h2], by simp [h3], fun i => ?_⟩
   cases i with
   | zero => exact ⟨rfl, rfl⟩
   | succ i => simpa using h4 i
  | cell a t =>
   simp only [zV] at h
   split at h <;> first | (cases h; done) | skip
   rename_i v S1 vs' hl hr
   cases h
   obtain ⟨zf, h1, h2, h3, h4⟩ := ih _ hr
   obtain ⟨_, w, k1, k2⟩ := Jj hl (hT.slots a).v0 (.inr hG)
   refine ⟨w :: zf, by simp only [kP, k1, h1], by simp [h2], by simp [h3], fun i => ?_⟩
   cases i with
   | zero => exact k2
   | succ i => simpa using h4 i
theorem aeO {μ : Mu} {ω : Nat → Option wO} {S S' H : zi} {T A : List Value} {fn : Func} {v : Value} (hG : GI μ S H) (hT : TI μ H ω T A) (h : aaW P fn T S = some (v, S')) :
  S' = S ∧ ∃ a, adH P fn A H = some (a, H) ∧ VV μ H (fun r => (ω r).bind (place fn.results.toList)) (some (.res none)) v a := by
 unfold aaW at h
 split at h <;> first | (cases h; done) | skip
 rename_i vs hvs
 split at h <;> first | (cases h; done) | skip
 rename_i hok
 obtain ⟨zf, h1, h2, h3, h4⟩ := Xm hG hT _ _ hvs
 generalize hrs : fn.results.toList = rs at *
 split at h
 ·
  rename_i v1
  cases h
  obtain ⟨a, rfl⟩ : ∃ a, zf = [a] := by
   match zf, h3.trans h2.symm with
   | [a], _ => exact ⟨a, rfl⟩
  refine ⟨rfl, a, by simp only [adH, hrs, h1], ?_⟩
  match rs, h2 with
  | [x], _ =>
   have := h4 0
   cases x with
   | tmp t =>
    simp only [List.getElem?_cons_zero, List.getD_cons_zero] at this
    obtain ⟨rfl, rfl⟩ := this
    refine (hT.slots t).YQ (fun _ => rfl) _ (fun s hs => ?_)
    cases hs
    refine ⟨_, rfl, by simp only [place, if_true], fun k t' ht => ?_⟩
    cases ht
    exact ⟨_, rfl, by simp only [place, if_true]⟩
   | cell b t => exact (show V0 μ H v a from this).at0
 ·
  rename_i hne
  split at h <;> first | (cases h; done) | skip
  rename_i hnt
  cases h
  refine ⟨rfl, .tuple zf.toArray, ?_, .tuple (by simp [h2, h3]) fun i => ?_⟩
  ·
   simp only [adH, hrs, h1]
   match zf, vs, h3.trans h2.symm, hne with
   | [], _, _, _ => rfl
   | [a], [v], _, hne => exact absurd rfl (hne v)
   | a :: b :: c, _, _, _ => rfl
  ·
   have e1 : vs.toArray.getD i undef = vs.getD i undef := by rw [← getD_toList, List.toList_toArray]
   have e2 : zf.toArray.getD i undef = zf.getD i undef := by rw [← getD_toList, List.toList_toArray]
   rw [e1, e2]
   have h5 := h4 i
   cases hx : rs[i]? with
   | none => rw [hx] at h5; exact (show V0 μ H _ _ from h5).at0
   | some x =>
    rw [hx] at h5
    cases x with
    | cell b t => exact (show V0 μ H _ _ from h5).at0
    | tmp t =>
     dsimp only at h5
     have hi : i < rs.length := (List.getElem?_eq_some_iff.1 hx).1
     have hid : rs.findIdx? (adi t) = some i := by
      have := List.all_eq_true.1 hok i (List.mem_range.2 hi)
      rw [hx] at this
      simpa using this
     have hnt2 : ji (T.getD t undef) = true := by
      rw [← h5.1, List.getD_eq_getElem?_getD, List.getElem?_eq_getElem (by omega)]
      exact List.all_eq_true.1 hnt _ (List.getElem_mem _)
     rw [h5.1, h5.2]
     refine (hT.slots t).afQ (fun _ => rfl) (s' := .res (some i)) ?_ hnt2
     have hne1 : ∀ t', rs ≠ [.tmp t'] := by
      intro t' e
      rw [e] at h2
      match vs, h2 with
      | [v], _ => exact hne v rfl
     rw [Vq hne1, hid]; rfl
def KI (P : Program) (O : Ora) : Prop := ∀ f q, O.fn f = some q → Zx P (fun g args => if g = f then q args else fun _ => none)
open Classical in
noncomputable def Xk (μ μ1 : Mu) (ω : Nat → Option wO) : Nat → Option wO := fun r => if ∃ q, μ q = some (r, true) ∧ ¬ μ1 q = some (r, true) then some .ext else ω r
theorem acO {call : FuncId → List Value → M Value} (hc : Zx P call) {hps : FuncId → Bool} {hp : Bool} : Zx P (qK hps hp call) := by
 cases hp with
 | false => exact hc
 | true =>
  intro g args aargs S v S' h μ H ω hG hA hD hE
  unfold qK at h
  dsimp only at h
  split at h
  ·
   exact hc g args aargs S v S' h μ H ω hG hA hD hE
  ·
   split at h <;> first | (cases h; done) | skip
   rename_i m S1 hf
   obtain ⟨μ1, h1, h2, h3⟩ := KX _ _ _ _ _ _ hf hG hA
   split at h <;> first | (cases h; done) | skip
   rename_i r0 hr0
   obtain ⟨v0, S2⟩ := r0
   simp only [Option.some.injEq] at h
   unfold aaE at h
   dsimp only at h
   split at h
   ·
    rename_i hb
    cases h
    simp only [Bool.and_eq_true, beq_iff_eq] at hb
    obtain ⟨⟨_, hgr⟩, hlog⟩ := hb
    have hlent : ∀ q r, μ q = some (r, true) → ¬ μ1 q = some (r, true) → r < H.next ∧ Jh μ1 r := fun q r hq hn =>
     ⟨hG.lt q r _ hq, fun q' hq' => by
      rcases h2.new q' r hq' with h5 | h5
      ·
       have := hG.inj q q' r hq h5
       subst this
       exact hn hq'
      ·
       have := hG.lt q r _ hq; omega, by rw [h2.hid]; exact hG.vis q r hq⟩
    have hDL : Dom μ1 H (Xk μ μ1 ω) := fun r s hs => by
     unfold Xk at hs
     split at hs
     ·
      rename_i hx
      obtain ⟨q, hq, hn⟩ := hx
      exact hlent q r hq hn
     ·
      exact ⟨(hD r s hs).1, h2.priv (hD r s hs).1 (hD r s hs).2⟩
    have hEL : ∀ r s, Xk μ μ1 ω r = some s → s = .ext := fun r s hs => by
     unfold Xk at hs
     split at hs
     ·
      cases hs; rfl
     ·
      exact hE r s hs
    obtain ⟨a, H', μ', ω', k1, k2, k3, k4, k5, k6⟩ := hc g m aargs S1 v S2 hr0 μ1 H (Xk μ μ1 ω) h1 h3 hDL hEL
    have hsame : ∀ q r, μ q = some (r, true) → H'.get r = H.get r := fun q r hq => by
     by_cases hn : μ1 q = some (r, true)
     ·
      obtain ⟨new, e1, e2⟩ := k3.still
      have : new = [] := by
       rw [k2.log, h1.log, hlog] at e1
       exact List.append_cancel_right (bs := S1.log) (by rw [← e1]; rfl)
      subst this
      exact (e2 q r hn (by simp)).2
     ·
      exact (k4 r (by unfold Xk; rw [if_pos ⟨q, hq, hn⟩])).2
    have hL : Later μ H μ H' := ⟨fun _ _ b h => ⟨b, h⟩, k3.next, fun _ _ h => .inl h, rfl, fun r hr hh => k3.same r hr (by rw [h2.hid]; exact hh), ⟨[], rfl, fun q r hq _ => ⟨hq, hsame q r hq⟩⟩,
     fun r l own e hr hp hg => k3.cells r l own e hr (h2.priv hr hp) hg⟩
    refine ⟨a, H', μ, ω, k1, hG.later hL rfl hsame, hL, fun r hr => ⟨hr, (k4 r ?_).2⟩, fun r s hs => ⟨Nat.lt_of_lt_of_le (hD r s hs).1 k3.next, (hD r s hs).2⟩, ?_⟩
    ·
     unfold Xk
     split
     ·
      rfl
     ·
      exact hr
    ·
     rw [VV.qG hgr k6]
     exact VV.wo hgr
   ·
    cases h
    obtain ⟨a, H', μ', ω', k1, k2, k3, k4, k5, k6⟩ := hc g m aargs S1 v S' hr0 μ1 H ω h1 h3 (fun r s hs => ⟨(hD r s hs).1, h2.priv (hD r s hs).1 (hD r s hs).2⟩) hE
    exact ⟨a, H', μ', ω', k1, k2, h2.trans k3, k4, k5, k6⟩
theorem VV.clean {μ μ' : Mu} {H : zi} {ω : Nat → Option wO} (hp : ∀ r, Jh μ r → Jh μ' r) {ℓ : Option wO} {v a : Value} (h : VV μ H ω ℓ v a) : ∀ d, jy d v = true → VV μ' H ω ℓ v a := by
 induction h with
 | sg h => exact fun _ _ => .sg h
 | ptr h => intro d hc; cases d <;> simp [jy] at hc
 | map h => intro d hc; cases d <;> simp [jy] at hc
 | slm h => intro d hc; cases d <;> simp [jy] at hc
 | slE => exact fun _ _ => .slE
 | sl hr hpr hg hl hn hc ih =>
  intro d hcl
  obtain ⟨d, rfl⟩ : ∃ k, d = k + 4 := by
   match d, hcl with
   | 0, h => cases h
   | 1, h => simp [jy] at h
   | 2, h => simp [jy] at h
   | 3, h => simp [jy] at h
   | k + 4, _ => exact ⟨k, rfl⟩
  simp only [jy] at hcl
  refine .sl hr (hp _ hpr) hg hl hn (fun i hi => ih i hi d ?_)
  rw [List.getD_eq_getElem?_getD, List.getElem?_eq_getElem (by omega)]
  exact List.all_eq_true.1 hcl _ (List.getElem_mem _)
 | so hω hr hpr hg hl hn hc ih =>
  intro d hcl
  obtain ⟨d, rfl⟩ : ∃ k, d = k + 4 := by
   match d, hcl with
   | 0, h => cases h
   | 1, h => simp [jy] at h
   | 2, h => simp [jy] at h
   | 3, h => simp [jy] at h
   | k + 4, _ => exact ⟨k, rfl⟩
  simp only [jy] at hcl
  refine .so hω hr (hp _ hpr) hg hl hn (fun i hi => ih i hi d ?_)
  rw [List.getD_eq_getElem?_getD, List.getElem?_eq_getElem (by omega)]
  exact List.all_eq_true.1 hcl _ (List.getElem_mem _)
 | ep hr hpr hg hl hc ih =>
  intro d hcl
  obtain ⟨d, rfl⟩ : ∃ k, d = k + 2 := by
   match d, hcl with
   | 0, h => cases h
   | 1, h => simp [jy] at h
   | k + 2, _ => exact ⟨k, rfl⟩
  simp only [jy] at hcl
  refine .ep hr (hp _ hpr) hg hl (fun i hi => ih i hi d ?_)
  rw [List.getD_eq_getElem?_getD, List.getElem?_eq_getElem hi]
  exact List.all_eq_true.1 hcl _ (List.getElem_mem _)
 | func fn hx hc h1 h2 => intro d hc; cases d <;> simp [jy] at hc
 | @agg ℓ x x' hx hh ih =>
  intro d hcl
  obtain ⟨d, rfl⟩ : ∃ k, d = k + 1 := by
   match d, hcl with
   | 0, h => cases h
   | k + 1, _ => exact ⟨k, rfl⟩
  simp only [jy] at hcl
  refine .agg hx (fun i => ?_)
  by_cases hi : i < x.size
  ·
   refine ih i d ?_
   rw [Array.getD_eq_getD_getElem?, Array.getElem?_eq_getElem hi]
   exact List.all_eq_true.1 hcl _ (by simp)
  ·
   rw [Array.getD_eq_getD_getElem?, Array.getElem?_eq_none (Nat.le_of_not_lt hi), Array.getD_eq_getD_getElem?, Array.getElem?_eq_none (by omega)]
   exact .nores
 | nores => exact fun _ _ => .nores
 | @tuple ℓ x x' hx hh ih =>
  intro d hcl
  obtain ⟨d, rfl⟩ : ∃ k, d = k + 1 := by
   match d, hcl with
   | 0, h => cases h
   | k + 1, _ => exact ⟨k, rfl⟩
  simp only [jy] at hcl
  refine .tuple hx (fun i => ?_)
  by_cases hi : i < x.size
  ·
   refine ih i d ?_
   rw [Array.getD_eq_getD_getElem?, Array.getElem?_eq_getElem hi]
   exact List.all_eq_true.1 hcl _ (by simp)
  ·
   rw [Array.getD_eq_getD_getElem?, Array.getElem?_eq_none (Nat.le_of_not_lt hi), Array.getD_eq_getD_getElem?, Array.getElem?_eq_none (by omega)]
   exact .nores
open Classical in
noncomputable def vC (μ : Mu) : Mu := ⟨fun _ => none, fun r => μ.hid r || decide (∃ q, μ q = some (r, true)), []⟩
theorem J7 {μ : Mu} {r : Nat} (h : Jh μ r) : Jh (vC μ) r := ⟨fun q hq => (by cases hq), by
 simp only [vC, h.2, Bool.false_or, decide_eq_false_iff_not]
 rintro ⟨q, hq⟩
 exact h.1 q hq⟩
theorem abJ {μ : Mu} {r : Nat} (h : (vC μ).hid r = false) : Jh μ r := by
 simp only [vC, Bool.or_eq_false_iff, decide_eq_false_iff_not] at h
 exact ⟨fun q hq => h.2 ⟨q, hq⟩, h.1⟩
def agm (P : Program) (g : FuncId) (args : List Value) (run : M Value) : Prop := ∀ aargs S v S', run S = some (v, S') → ∀ μ H ω, GI μ S H → L0 μ H args aargs → Dom μ H ω → (∀ r s, ω r = some s → s = .ext) →
 ∃ a H' μ' ω', lim P g aargs H = some (a, H') ∧ GI μ' S' H' ∧ Later μ H μ' H' ∧ Kept ω H ω' H' ∧ Dom μ' H' ω' ∧ VV μ' H' ω' (some (.res none)) v a
theorem ac1 {g : FuncId} {args : List Value} {run : M Value} (hr : agm P g args run) : agm P g args (abN run args) := by
 intro aargs S v S' h μ H ω hG hA hD hE
 unfold abN at h
 split at h <;> first | (cases h; done) | skip
 rename_i hca
 split at h <;> first | (cases h; done) | skip
 rename_i w S1 hrun
 split at h <;> first | (cases h; done) | skip
 rename_i hcw
 cases h
 have hG0 : GI (vC μ) zi.empty H := ⟨fun q o h => (by cases h), fun q q' r h => (by cases h), fun q r b h => (by cases h), fun q _ => rfl, fun q r h => (by cases h), fun r h => by
  simp only [vC, Bool.or_eq_true, decide_eq_true_eq] at h
  rcases h with h | ⟨q, hq⟩
  ·
   exact hG.hlt r h
  ·
   exact hG.lt q r _ hq, rfl, fun q cs anc e h => (by cases h)⟩
 have hA0 : L0 (vC μ) H args aargs := ⟨hA.1, fun i => by
  by_cases hi : i < args.length
  ·
   refine (hA.2 i).clean (fun r h => J7 h) 16 ?_
   rw [List.getD_eq_getElem?_getD, List.getElem?_eq_getElem hi]
   exact List.all_eq_true.1 hca _ (List.getElem_mem _)
  ·
   rw [List.getD_eq_getElem?_getD, List.getElem?_eq_none (Nat.le_of_not_lt hi), List.getD_eq_getElem?_getD, List.getElem?_eq_none (by rw [← hA.1]; omega)]
   exact .nores⟩
 obtain ⟨a, H1, μ1, ω1, k1, k2, k3, k4, k5, k6⟩ := hr aargs _ _ _ hrun (vC μ) H ω hG0 hA0 (fun r s h => ⟨(hD r s h).1, J7 (hD r s h).2⟩) hE
 have hp1 : ∀ r, Jh μ1 r → Jh μ r := fun r h => abJ (by rw [← k3.hid]; exact h.2)
 have hL : Later μ H μ H1 := ⟨fun _ _ b h => ⟨b, h⟩, k3.next, fun _ _ h => .inl h, rfl, fun r hr hh => k3.same r hr (by simp only [vC, hh, Bool.true_or]), ⟨[], rfl, fun q r hq _ => ⟨hq, k3.same r (hG.lt q r _ hq) (by
  simp only [vC, Bool.or_eq_true, decide_eq_true_eq]
  exact .inr ⟨q, hq⟩)⟩⟩, fun r l own e hr hp hg => k3.cells r l own e hr (J7 hp) hg⟩
 refine ⟨a, H1, μ, ω1, k1, ?_, hL, k4, fun r s h => ⟨(k5 r s h).1, hp1 r (k5 r s h).2⟩, k6.clean hp1 16 hcw⟩
 exact hG.later hL rfl fun q r hq => k3.same r (hG.lt q r _ hq) (by
  simp only [vC, Bool.or_eq_true, decide_eq_true_eq]
  exact .inr ⟨q, hq⟩)
theorem adC {O : Ora} (hO : KI P O) : ∀ n, Zx P (kF P O n) := by
 intro n
 induction n with
 | zero => intro g args aargs S v S' h; cases h
 | succ n ih =>
  intro g args aargs S v S' h μ H ω hG hA hD hE
  simp only [kF] at h
  cases ho : O.fn g with
  | some q =>
   rw [ho] at h
   exact hO g q ho g args aargs S v S' (by simpa using h) μ H ω hG hA hD hE
  | none =>
   rw [ho] at h
   dsimp only at h
   cases hf : P.funcs[g]? with
   | none => rw [hf] at h; cases h
   | some fn =>
    rw [hf] at h
    dsimp only at h
    split at h <;> first | (cases h; done) | skip
    rename_i hn
    cases hb : fn.body with
    | none => rw [hb] at h; cases h
    | some c =>
     rw [hb] at h
     dsimp only at h
     have hrun : agm P g args (acB P (O.hp g) (qK O.hp (O.hp g) (kF P O n)) n fn c args) := by
      intro aargs S v S' h μ H ω hG hA hD hE
      have hT0 : TI μ H ω (args ++ List.replicate (fn.ntmps - args.length) undef) (aargs ++ List.replicate (fn.ntmps - aargs.length) undef) := by
       have hl : L0 μ H (args ++ List.replicate (fn.ntmps - args.length) undef) (aargs ++ List.replicate (fn.ntmps - aargs.length) undef) := by
        refine hA.append (VL.ofRange (by rw [hA.1]) fun i hi => ?_)
        have hi2 : i < fn.ntmps - args.length := by simpa using hi
        rw [List.getD_eq_getElem?_getD, List.getElem?_replicate, if_pos hi2, List.getD_eq_getElem?_getD, List.getElem?_replicate, if_pos (by rw [← hA.1]; exact hi2)]
        exact .nores
       exact ⟨hl.1, fun i => (hl.2 i).at0, hD, fun r j hr => by have := hE r _ hr; cases this⟩
      have fin : ∀ (e : AEx) (T1 : List Value) (S1 : zi), (e = .normal ∨ e = .ret) → wH P (O.hp g) (qK O.hp (O.hp g) (kF P O n)) n c (args ++ List.replicate (fn.ntmps - args.length) undef) S = some (e, T1, S1) → aaW P fn T1 S1 = some (v, S') →
        ∃ a H' μ' ω', lim P g aargs H = some (a, H') ∧ GI μ' S' H' ∧ Later μ H μ' H' ∧ Kept ω H ω' H' ∧ Dom μ' H' ω' ∧ VV μ' H' ω' (some (.res none)) v a := by
       intro e T1 S1 he hcode hres
       obtain ⟨A1, H1, μ1, ω1, h1, h2, h3, h4, h5⟩ := acM (acO ih) n c _ _ _ _ _ _ _ _ _ hcode hG hT0
       obtain ⟨rfl, a, k1, k2⟩ := aeO (P := P) h2 h5 hres
       refine ⟨a, H1, μ1, fun r => (ω1 r).bind (place fn.results.toList), ac8 hf hn hb h1 he k1, h2, h3, fun r hr => ?_, fun r s hs => ?_, k2⟩
       ·
        obtain ⟨q1, q2⟩ := h4 r hr
        exact ⟨by simp [q1, place], q2⟩
       ·
        cases hr : ω1 r with
        | none => simp [hr] at hs
        | some s0 => exact h5.dom r s0 hr
      unfold acB at h
      split at h
      ·
       rename_i T1 S1 hx; exact fin .normal _ _ (.inl rfl) hx h
      ·
       rename_i T1 S1 hx; exact fin .ret _ _ (.inr rfl) hx h
      ·
       cases h
     split at h
     ·
      exact ac1 hrun aargs S v S' h μ H ω hG hA hD hE
     ·
      exact hrun aargs S v S' h μ H ω hG hA hD hE
end
end Go.Abs
namespace Go.Abs
open Go.RowKit
open Classical
noncomputable def jc (P : Program) (O : Ora) (g : FuncId) (args : List Value) : M Value := fun S =>
 if h : ∃ r, ∃ k0, ∀ k, k0 ≤ k → kF P O k g args S = some r then some (Classical.choose h) else none
section
variable {P : Program} {O : Ora}
theorem Qj {g : FuncId} {args : List Value} {S : zi} {r : Value × zi} (h : jc P O g args S = some r) : ∃ k0, ∀ k, k0 ≤ k → kF P O k g args S = some r := by
 unfold jc at h
 split at h
 ·
  rename_i hx
  have := Classical.choose_spec hx
  cases h
  exact this
 ·
  cases h
theorem Xu {g : FuncId} {args : List Value} {S : zi} {r : Value × zi} (h : ∃ k0, ∀ k, k0 ≤ k → kF P O k g args S = some r) : jc P O g args S = some r := by
 have hx : ∃ r, ∃ k0, ∀ k, k0 ≤ k → kF P O k g args S = some r := ⟨r, h⟩
 unfold jc
 rw [dif_pos hx]
 obtain ⟨k0, h0⟩ := h
 obtain ⟨k1, h1⟩ := Classical.choose_spec hx
 have e0 := h0 (max k0 k1) (Nat.le_max_left _ _)
 have e1 := h1 (max k0 k1) (Nat.le_max_right _ _)
 rw [e0] at e1
 exact e1.symm
theorem aak (hO : KI P O) : Zx P (jc P O) := by
 intro g args aargs S v S' h
 obtain ⟨k, hk⟩ := Qj h
 exact adC hO k g args aargs S v S' (hk k (Nat.le_refl k))
def afn (c : FuncId → List Value → M Value) (ck : Nat → FuncId → List Value → M Value) : Prop := ∀ g args S r, c g args S = some r → ∃ k0, ∀ k, k0 ≤ k → ck k g args S = some r
theorem Qz : afn (jc P O) (fun k => kF P O k) := fun g args S r h => Qj h
theorem Yb {c : FuncId → List Value → M Value} {ck : Nat → FuncId → List Value → M Value} (hl : afn c ck) {hps : FuncId → Bool} {hp : Bool} : afn (qK hps hp c) (fun k => qK hps hp (ck k)) := by
 cases hp with
 | false => exact hl
 | true =>
  intro g args S r h
  unfold qK at h
  dsimp only at h
  split at h
  ·
   rename_i hg
   obtain ⟨k0, h0⟩ := hl _ _ _ _ h
   exact ⟨k0, fun k hk => by unfold qK; dsimp only; rw [if_pos hg]; exact h0 k hk⟩
  ·
   rename_i hg
   split at h <;> first | (cases h; done) | skip
   rename_i m S1 hf
   split at h <;> first | (cases h; done) | skip
   rename_i r0 hr0
   obtain ⟨k0, h0⟩ := hl _ _ _ _ hr0
   exact ⟨k0, fun k hk => by unfold qK; dsimp only; rw [if_neg hg, hf]; dsimp only; rw [h0 k hk]; exact h⟩
section
variable {c : FuncId → List Value → M Value} {ck : Nat → FuncId → List Value → M Value}
theorem Qu (hl : afn c ck) {fx : Fx} {T : List Value} {o : Oper} {S : zi} {r : Value × zi} (h : jW P fx c T o S = some r) : ∃ k0, ∀ k, k0 ≤ k → jW P fx (ck k) T o S = some r := by
 unfold jW at h
 split at h
 ·
  rename_i hok
  split at h
  ·
   rename_i q0 hop
   split at h
   ·
    rename_i f hf
    split at h
    ·
     rename_i g first captured hev
     obtain ⟨k0, hk⟩ := hl _ _ _ _ h
     refine ⟨k0, fun k hkk => ?_⟩
     unfold jW
     rw [if_pos hok]
     simp only [hop, hf, hev]
     exact hk k hkk
    ·
     cases h
   ·
    rename_i b hb
    refine ⟨0, fun k _ => ?_⟩
    unfold jW
    rw [if_pos hok]
    simp only [hop, hb]
    exact h
   ·
    cases h
  ·
   rename_i hop
   refine ⟨0, fun k _ => ?_⟩
   unfold jW
   rw [if_pos hok]
   split
   ·
    rename_i q0 hc; exact absurd hc (hop q0)
   ·
    exact h
 ·
  cases h
theorem adv (hl : afn c ck) {fx : Fx} {ops : Array Oper} : ∀ (l : List Oper) (T : List Value) (S : zi) (r : List Value × zi), jl P fx c ops l T S = some r → ∃ k0, ∀ k, k0 ≤ k → jl P fx (ck k) ops l T S = some r := by
 intro l
 induction l with
 | nil => intro T S r h; exact ⟨0, fun k _ => h⟩
 | cons o l ih =>
  intro T S r h
  simp only [jl] at h
  split at h
  ·
   rename_i hw
   split at h
   ·
    rename_i v S' hs
    obtain ⟨k1, h1⟩ := Qu hl hs
    obtain ⟨k2, h2⟩ := ih _ _ _ h
    refine ⟨max k1 k2, fun k hk => ?_⟩
    simp only [jl, hw, if_true, h1 k (by omega)]
    exact h2 k (by omega)
   ·
    cases h
  ·
   rename_i hw
   obtain ⟨k2, h2⟩ := ih _ _ _ h
   refine ⟨k2, fun k hk => ?_⟩
   simp only [jl, hw, if_false]
   exact h2 k hk
theorem aaQ (hl : afn c ck) {fx : Fx} {chk : List Nat} {nl : List (Nat × Nat)} {ops : Array Oper} : ∀ (l : List Oper) (i : Nat) (hist : List (Value × zi)) (T : List Value) (S : zi) (r : List Value × zi), jH P fx chk nl c ops i hist l T S = some r → ∃ k0, ∀ k, k0 ≤ k → jH P fx chk nl (ck k) ops i hist l T S = some r := by
 intro l
 induction l with
 | nil => intro i hist T S r h; exact ⟨0, fun k _ => h⟩
 | cons o l ih =>
  intro i hist T S r h
  simp only [jH] at h
  split at h
  ·
   rename_i hw
   split at h
   ·
    rename_i v S' hs
    split at h
    ·
     rename_i hq
     obtain ⟨k1, h1⟩ := Qu hl hs
     obtain ⟨k2, h2⟩ := ih _ _ _ _ _ h
     refine ⟨max k1 k2, fun k hk => ?_⟩
     simp only [jH, hw, if_true, h1 k (by omega), hq]
     exact h2 k (by omega)
    ·
     cases h
   ·
    cases h
  ·
   rename_i hw
   obtain ⟨k2, h2⟩ := ih _ _ _ _ _ h
   refine ⟨k2, fun k hk => ?_⟩
   simp only [jH, hw, if_false]
   exact h2 k hk
end
noncomputable def zI (P : Program) (O : Ora) (hp : Bool) : Code → List Value → zi → St
 | .skip, T, H => some (.normal, T, H)
 | .region _ ops false, T, H => match jl P ⟨hp, false, false⟩ (qK O.hp hp (jc P O)) ops ops.toList T H with
  | some (T1, H1) => some (.normal, T1, H1)
  | none => none
 | .region _ ops true, T, H => if qI P ops then match jH P ⟨hp, !(checked P ops).isEmpty, fixed P ops⟩ (checked P ops) (again P ops) (qK O.hp hp (jc P O)) ops 0 [] ops.toList T H with
  | some (T1, H1) => some (.normal, T1, H1)
  | none => none
  else none
 | .seq x y, T, H => match zI P O hp x T H with
  | some (.normal, T1, H1) => zI P O hp y T1 H1
  | r => r
 | .cond c x y, T, H => if yO c then
   match je T c with
   | .bool true => zI P O hp x T H
   | .bool false => zI P O hp y T H
   | _ => none
  else none
 | .block id c, T, H => match zI P O hp c T H with
  | some (.exit id', T1, H1) => if id' = id then some (.normal, T1, H1) else some (.exit id', T1, H1)
  | r => r
 | .loop c, T, H => wQ (zI P O hp c) T H
 | .exit id, T, H => some (.exit id, T, H)
 | .ret, T, H => some (.ret, T, H)
 | _, _, _ => none
theorem Yk {hp : Bool} : ∀ (c : Code) (T : List Value) (H : zi) (r), zI P O hp c T H = some r → ∃ k0, ∀ k fuel, k0 ≤ k → k0 ≤ fuel → wH P hp (qK O.hp hp (kF P O k)) fuel c T H = some r := by
 intro c
 induction c with
 | skip => intro T H r h; exact ⟨0, fun k fuel _ _ => h⟩
 | region i ops d =>
  intro T H r h
  cases d with
  | false =>
   simp only [zI] at h
   split at h
   ·
    rename_i T1 H1 ho
    obtain ⟨k0, h0⟩ := adv (Yb Qz) _ _ _ _ ho
    exact ⟨k0, fun k fuel hk _ => by simp only [wH, h0 k hk]; exact h⟩
   ·
    cases h
  | true =>
   simp only [zI] at h
   split at h
   ·
    rename_i hd
    split at h
    ·
     rename_i T1 H1 ho
     obtain ⟨k0, h0⟩ := aaQ (Yb Qz) _ _ _ _ _ _ ho
     exact ⟨k0, fun k fuel hk _ => by simp only [wH, hd, if_true, h0 k hk]; exact h⟩
    ·
     cases h
   ·
    cases h
 | seq x y ihx ihy =>
  intro T H r h
  simp only [zI] at h
  split at h
  ·
   rename_i T1 H1 hx
   obtain ⟨k1, h1⟩ := ihx _ _ _ hx
   obtain ⟨k2, h2⟩ := ihy _ _ _ h
   exact ⟨max k1 k2, fun k fuel hk hf => by simp only [wH, h1 k fuel (by omega) (by omega)]; exact h2 k fuel (by omega) (by omega)⟩
  ·
   rename_i hne
   obtain ⟨k1, h1⟩ := ihx _ _ _ h
   refine ⟨k1, fun k fuel hk hf => ?_⟩
   simp only [wH, h1 k fuel hk hf]
   split
   ·
    rename_i T1 H1 he; exact absurd (h.trans he) (hne T1 H1)
   ·
    rfl
 | cond c x y ihx ihy =>
  intro T H r h
  simp only [zI] at h
  split at h
  ·
   rename_i hok
   split at h
   ·
    rename_i hb
    obtain ⟨k1, h1⟩ := ihx _ _ _ h
    exact ⟨k1, fun k fuel hk hf => by simp only [wH, hok, if_true, hb]; exact h1 k fuel hk hf⟩
   ·
    rename_i hb
    obtain ⟨k1, h1⟩ := ihy _ _ _ h
    exact ⟨k1, fun k fuel hk hf => by simp only [wH, hok, if_true, hb]; exact h1 k fuel hk hf⟩
   ·
    cases h
  ·
   cases h
 | block id c ih =>
  intro T H r h
  simp only [zI] at h
  split at h
  ·
   rename_i id' T1 H1 hc
   obtain ⟨k1, h1⟩ := ih _ _ _ hc
   exact ⟨k1, fun k fuel hk hf => by simp only [wH, h1 k fuel hk hf]; exact h⟩
  ·
   rename_i hne
   obtain ⟨k1, h1⟩ := ih _ _ _ h
   refine ⟨k1, fun k fuel hk hf => ?_⟩
   simp only [wH, h1 k fuel hk hf]
   split
   ·
    rename_i id' T1 H1 he; exact absurd (h.trans he) (hne id' T1 H1)
   ·
    rfl
 | loop c ih =>
  intro T H r h
  simp only [zI] at h
  obtain ⟨n, hn⟩ := vV h
  have key : ∀ (n : Nat) (T : List Value) (H : zi), yC n (zI P O hp c) T H = some r → ∃ k0, ∀ k fuel, k0 ≤ k → k0 ≤ fuel → ∀ j, n ≤ j → yC j (wH P hp (qK O.hp hp (kF P O k)) fuel c) T H = some r := by
   intro n
   induction n with
   | zero => intro T H h; cases h
   | succ n ihn =>
    intro T H h
    simp only [yC] at h
    split at h
    ·
     rename_i T1 H1 hf
     obtain ⟨k1, h1⟩ := ih _ _ _ hf
     obtain ⟨k2, h2⟩ := ihn _ _ h
     refine ⟨max k1 k2, fun k fuel hk hfu j hj => ?_⟩
     obtain ⟨j, rfl⟩ : ∃ i, j = i + 1 := ⟨j - 1, by omega⟩
     simp only [yC, h1 k fuel (by omega) (by omega)]
     exact h2 k fuel (by omega) (by omega) j (by omega)
    ·
     rename_i hne
     obtain ⟨k1, h1⟩ := ih _ _ _ h
     refine ⟨k1, fun k fuel hk hfu j hj => ?_⟩
     obtain ⟨j, rfl⟩ : ∃ i, j = i + 1 := ⟨j - 1, by omega⟩
     simp only [yC, h1 k fuel hk hfu]
     split
     ·
      rename_i T1 H1 he; exact absurd (h.trans he) (hne T1 H1)
     ·
      rfl
  obtain ⟨k0, h0⟩ := key n T H hn
  exact ⟨max k0 n, fun k fuel hk hf => by simp only [wH]; exact h0 k fuel (by omega) (by omega) fuel (by omega)⟩
 | exit id => intro T H r h; exact ⟨0, fun k fuel _ _ => h⟩
 | ret => intro T H r h; exact ⟨0, fun k fuel _ _ => h⟩
 | _ => intro T H r h; simp only [zI] at h; cases h
theorem jU {f : FuncId} {fn : Func} {c : Code} {args : List Value} {H H1 H' : zi} {e : AEx} {T : List Value} {v : Value} (ho : O.fn f = none) (hpu : O.pu f = false) (hf : P.funcs[f]? = some fn) (hn : fn.name ≠ "runtime.NumGoroutine") (hb : fn.body = some c)
  (h : zI P O (O.hp f) c (args ++ List.replicate (fn.ntmps - args.length) undef) H = some (e, T, H1)) (he : e = .normal ∨ e = .ret) (hres : aaW P fn T H1 = some (v, H')) : jc P O f args H = some (v, H') := by
 obtain ⟨k0, h0⟩ := Yk _ _ _ _ h
 refine Xu ⟨k0 + 1, fun k hk => ?_⟩
 obtain ⟨k, rfl⟩ : ∃ i, k = i + 1 := ⟨k - 1, by omega⟩
 simp only [kF, ho, hf, if_neg hn, hb, hpu, Bool.false_eq_true, if_false, acB, h0 k k (by omega) (by omega)]
 rcases he with rfl | rfl <;> exact hres
theorem qH {f : FuncId} {fn : Func} {c : Code} {args : List Value} {S H1 H' : zi} {e : AEx} {T : List Value} {v : Value} (ho : O.fn f = none) (hpu : O.pu f = true) (hf : P.funcs[f]? = some fn) (hn : fn.name ≠ "runtime.NumGoroutine") (hb : fn.body = some c)
  (h : zI P O (O.hp f) c (args ++ List.replicate (fn.ntmps - args.length) undef) zi.empty = some (e, T, H1)) (he : e = .normal ∨ e = .ret) (hres : aaW P fn T H1 = some (v, H')) (hca : args.all (jy 16) = true) (hcv : jy 16 v = true) : jc P O f args S = some (v, S) := by
 obtain ⟨k0, h0⟩ := Yk _ _ _ _ h
 refine Xu ⟨k0 + 1, fun k hk => ?_⟩
 obtain ⟨k, rfl⟩ : ∃ i, k = i + 1 := ⟨k - 1, by omega⟩
 have hr : acB P (O.hp f) (qK O.hp (O.hp f) (kF P O k)) k fn c args zi.empty = some (v, H') := by
  simp only [acB, h0 k k (by omega) (by omega)]
  rcases he with rfl | rfl <;> exact hres
 simp only [kF, ho, hf, if_neg hn, hb, hpu, if_true, abN, if_pos hca, hr, if_pos hcv]
def Ty.WH : (t : Ty) → t.Val → List Value
 | .int k, n => [.int k n]
 | .bool, b => [.bool b]
 | .str, s => [.string s]
 | .slc _ e, l => match l with
  | none => [.slice none 0 0]
  | some l => [SL 1 e.sz l.length (l.flatMap e.WH)]
 | .pair a b, (x, y) => a.WH x ++ b.WH y
 | .unit, _ => []
theorem Ty.Xl : ∀ (t : Ty) (x : t.Val), (t.WH x).length = t.sz := by
 intro t
 induction t with
 | pair a b iha ihb => rintro ⟨x, y⟩; simp [Ty.WH, Ty.sz, iha, ihb]
 | slc bytes e ih => intro x; cases x <;> rfl
 | _ => intro x; rfl
theorem Z8 {e : Ty} (l : List e.Val) : (l.flatMap e.WH).length = l.length * e.sz := by
 induction l with
 | nil => simp
 | cons x l ih => simp [List.flatMap_cons, Ty.Xl, ih, Nat.add_mul]; omega
def M0 : Mu := ⟨fun _ => none, fun _ => false, []⟩
theorem GI.none {H : zi} : GI M0 zi.empty H := ⟨(fun q o h => by cases h), (fun q q' r h => by cases h), (fun q r b h => by cases h), (fun q _ => rfl), (fun q r h => by cases h), (fun r h => by cases h), rfl, (fun q cs anc e h => by cases h)⟩
theorem Ty.Yv : ∀ (t : Ty) (x : t.Val) (H : zi), Later M0 H M0 (t.place x H).2 ∧ L0 M0 (t.place x H).2 (t.WH x) (t.place x H).1 := by
 intro t
 induction t with
 | int k => intro x H; exact ⟨Later.refl _ _, VL.cons (.sg rfl) VL.nil⟩
 | bool => intro x H; exact ⟨Later.refl _ _, VL.cons (.sg rfl) VL.nil⟩
 | str => intro x H; exact ⟨Later.refl _ _, VL.cons (.sg rfl) VL.nil⟩
 | unit => intro x H; exact ⟨Later.refl _ _, VL.nil⟩
 | pair a b iha ihb =>
  rintro ⟨x, y⟩ H
  obtain ⟨h1, h2⟩ := iha x H
  obtain ⟨h3, h4⟩ := ihb y (a.place x H).2
  exact ⟨h1.trans h3, (h2.later h3).append h4⟩
 | slc bytes e ih =>
  intro x H
  match x with
  | none => exact ⟨Later.refl _ _, VL.cons (.sg rfl) VL.nil⟩
  | some [] => exact ⟨Later.refl _ _, VL.cons (.slE (e := e.sz)) VL.nil⟩
  | some (x :: l) =>
   have key : ∀ (l : List e.Val) (H : zi), Later M0 H M0 (jQ e.place l H).2 ∧ L0 M0 (jQ e.place l H).2 (l.flatMap e.WH) (jQ e.place l H).1 := by
    intro l
    induction l with
    | nil => intro H; exact ⟨Later.refl _ _, VL.nil⟩
    | cons x l ihl =>
     intro H
     obtain ⟨h1, h2⟩ := ih x H
     obtain ⟨h3, h4⟩ := ihl (e.place x H).2
     exact ⟨h1.trans h3, (h2.later h3).append h4⟩
   obtain ⟨h1, h2⟩ := key (x :: l) H
   have hL : Later M0 (jQ e.place (x :: l) H).2 M0 ((jQ e.place (x :: l) H).2.push (.cells (jQ e.place (x :: l) H).1 .ro e.sz)) := Yp (fun q r h => by cases h) _
   refine ⟨h1.trans hL, VL.cons ?_ VL.nil⟩
   have hlen : (jQ e.place (x :: l) H).1.length = (l.length + 1) * e.sz := by rw [← h2.1, Z8]; rfl
   show V0 M0 ((jQ e.place (x :: l) H).2.push (.cells (jQ e.place (x :: l) H).1 .ro e.sz)) (SL 1 e.sz (l.length + 1) ((x :: l).flatMap e.WH)) (.slice (some ⟨(jQ e.place (x :: l) H).2.next, 0, none⟩) (l.length + 1) (l.length + 1))
   refine VV.sl (o := 0) (l := (jQ e.place (x :: l) H).1) (own := .ro) (by simp) ⟨fun q h => (by cases h), rfl⟩ (by rw [zi.jm, if_pos rfl]) (by omega) (by rw [List.toList_toArray, Z8]; rfl) (fun i hi => ?_)
   rw [Nat.zero_add, List.toList_toArray]
   exact (h2.2 i).kU hL
def Args.WH : (l : List (Bool × Ty)) → Args l → List Value
 | [], _ => []
 | (b, c) :: l, (x, xs) => xK b (c.WH x) :: Args.WH l xs
theorem ado {H : zi} {b : Bool} {cs cs' : List Value} (h : L0 M0 H cs cs') : V0 M0 H (xK b cs) (xK b cs') := by
 unfold xK
 split
 ·
  exact JV h
 ·
  rw [vS, vS]; exact h.2 0
theorem Args.Yv : ∀ (l : List (Bool × Ty)) (x : Args l) (H : zi), Later M0 H M0 (Args.place l x H).2 ∧ L0 M0 (Args.place l x H).2 (Args.WH l x) (Args.place l x H).1 := by
 intro l
 induction l with
 | nil => intro x H; exact ⟨Later.refl _ _, VL.nil⟩
 | cons p l ih =>
  obtain ⟨b, c⟩ := p
  rintro ⟨x, xs⟩ H
  obtain ⟨h1, h2⟩ := c.Yv x H
  obtain ⟨h3, h4⟩ := ih xs (c.place x H).2
  exact ⟨h1.trans h3, VL.cons ((ado h2).kU h3) h4⟩
theorem Xr (hO : KI P O) {f : FuncId} {codes : List (Bool × Ty)} {x : Args codes} {S' : zi} (h : jc P O f (Args.WH codes x) zi.empty = some (.bool true, S')) :
  ∃ k, (kV P k f (Args.place codes x zi.empty).1 (Args.place codes x zi.empty).2).map (·.1) = some (.bool true) := by
 obtain ⟨h1, h2⟩ := Args.Yv codes x zi.empty
 obtain ⟨a, H', μ', ω', k1, k2, k3, k4, k5, k6⟩ := aak hO f _ _ _ _ _ h M0 _ W0 GI.none h2 (fun r s hs => by cases hs) (fun r s hs => by cases hs)
 have : a = .bool true := jo (k6.v0) rfl
 subst this
 exact VG k1
theorem adl {hps pus : FuncId → Bool} : KI P ⟨fun _ => none, hps, pus⟩ := fun f q h => by cases h
end
end Go.Abs
namespace Go.Abs
open Go.RowKit
section
variable {R : Type} {P : Program} {O : Ora} {fx : Fx} {hp nm : Bool} {chk : List Nat} {call : FuncId → List Value → M Value} {ops : Array Oper}
def okC (v : Value) (r : Option R) : Option R := if okq 3 v = true then r else none
@[simp] theorem Vd (b : Bool) (r : Option R) : okC (.bool b) r = r := Eq.trans rfl rfl
@[simp] theorem aaR (k : IntKind) (n : Int) (r : Option R) : okC (.int k n) r = r := Eq.trans rfl rfl
@[simp] theorem Ya (s : ByteArray) (r : Option R) : okC (.string s) r = r := Eq.trans rfl rfl
@[simp] theorem Q7 (a : Option Addr) (n c : Nat) (r : Option R) : okC (.slice a n c) r = r := Eq.trans rfl rfl
@[simp] theorem QT (k : Nat) (v : Value) (r : Option R) : okC (.iface k v) r = r := Eq.trans rfl rfl
@[simp] theorem aeE (a : Option Addr) (r : Option R) : okC (.pointer a) r = r := Eq.trans rfl rfl
def gdC (v : Value) (b : Bool) (s : M Value) (S : zi) (K : Value → zi → Option R) : Option R :=
 if (vb v == some b) = true then andThen (s S) (fun v S1 => okC v (K v S1)) else K undef S
@[simp] theorem ad4 (s : M Value) (H : zi) (K : Value → zi → Option R) : gdC (.bool true) true s H K = andThen (s H) (fun v S1 => okC v (K v S1)) := Eq.trans rfl rfl
@[simp] theorem adO (s : M Value) (H : zi) (K : Value → zi → Option R) : gdC (.bool false) false s H K = andThen (s H) (fun v S1 => okC v (K v S1)) := Eq.trans rfl rfl
@[simp] theorem aey (s : M Value) (H : zi) (K : Value → zi → Option R) : gdC (.bool true) false s H K = K undef H := Eq.trans rfl rfl
@[simp] theorem ad1 (s : M Value) (H : zi) (K : Value → zi → Option R) : gdC (.bool false) true s H K = K undef H := Eq.trans rfl rfl
@[simp] theorem aes (s : M Value) (b : Bool) (H : zi) (K : Value → zi → Option R) : gdC undef b s H K = K undef H := Eq.trans rfl rfl
abbrev Zo {α : Type} (a : α) : Type := Unit
def zW (s : Option (Value × zi)) (K : Value → zi → Option R) (p : Zo K) : Option R := andThen s K
def gdK (v : Value) (b : Bool) (s : M Value) (S : zi) (K : Value → zi → Option R) (p : Zo K) : Option R := gd v b s S K
def afA (v : Value) (b : Bool) (s : M Value) (S : zi) (K : Value → zi → Option R) (p : Zo K) : Option R := gdC v b s S K
def okK (v : Value) (r : Option R) (p : Zo r) : Option R := okC v r
@[simp] theorem Qs (v : Value) (H : zi) (K : Value → zi → Option R) (p : Zo K) : zW (some (v, H)) K p = K v H := Eq.trans rfl rfl
@[simp] theorem aew (s : M Value) (H : zi) (K : Value → zi → Option R) (p : Zo K) : gdK (.bool true) true s H K p = zW (s H) K p := Eq.trans rfl rfl
@[simp] theorem aep (s : M Value) (H : zi) (K : Value → zi → Option R) (p : Zo K) : gdK (.bool false) false s H K p = zW (s H) K p := Eq.trans rfl rfl
@[simp] theorem adR (s : M Value) (H : zi) (K : Value → zi → Option R) (p : Zo K) : gdK (.bool true) false s H K p = K undef H := Eq.trans rfl rfl
@[simp] theorem adV (s : M Value) (H : zi) (K : Value → zi → Option R) (p : Zo K) : gdK (.bool false) true s H K p = K undef H := Eq.trans rfl rfl
@[simp] theorem ad2 (s : M Value) (b : Bool) (H : zi) (K : Value → zi → Option R) (p : Zo K) : gdK undef b s H K p = K undef H := Eq.trans rfl rfl
@[simp] theorem aa6 (s : M Value) (H : zi) (K : Value → zi → Option R) (p : Zo K) : afA (.bool true) true s H K p = zW (s H) (fun v S1 => okK v (K v S1) ()) () := Eq.trans rfl rfl
@[simp] theorem acu (s : M Value) (H : zi) (K : Value → zi → Option R) (p : Zo K) : afA (.bool false) false s H K p = zW (s H) (fun v S1 => okK v (K v S1) ()) () := Eq.trans rfl rfl
@[simp] theorem abL (s : M Value) (H : zi) (K : Value → zi → Option R) (p : Zo K) : afA (.bool true) false s H K p = K undef H := Eq.trans rfl rfl
@[simp] theorem abm (s : M Value) (H : zi) (K : Value → zi → Option R) (p : Zo K) : afA (.bool false) true s H K p = K undef H := Eq.trans rfl rfl
@[simp] theorem abk (s : M Value) (b : Bool) (H : zi) (K : Value → zi → Option R) (p : Zo K) : afA undef b s H K p = K undef H := Eq.trans rfl rfl
@[simp] theorem X3 (b : Bool) (r : Option R) (p : Zo r) : okK (.bool b) r p = r := Eq.trans rfl rfl
@[simp] theorem aaC (k : IntKind) (n : Int) (r : Option R) (p : Zo r) : okK (.int k n) r p = r := Eq.trans rfl rfl
@[simp] theorem WY (s : ByteArray) (r : Option R) (p : Zo r) : okK (.string s) r p = r := Eq.trans rfl rfl
@[simp] theorem Qk (a : Option Addr) (n c : Nat) (r : Option R) (p : Zo r) : okK (.slice a n c) r p = r := Eq.trans rfl rfl
@[simp] theorem JD (a : Option Addr) (r : Option R) (p : Zo r) : okK (.pointer a) r p = r := Eq.trans rfl rfl
theorem WX {v : Value} (h : okq 3 v = true) (r : Option R) (p : Zo r) : okK v r p = r := if_pos h
theorem ab8 {l rest : List Oper} {o : Oper} {T : List Value} {T1 : Value → List Value} {S : zi} {v : Value} {r : Option (List Value × zi)} (hl : l = o :: rest) (hg : o.guard = none) (hm : ∀ v, kS o rest T v = T1 v)
  (hs : jW P fx call T o S = some (v, S)) (hK : jl P fx call ops rest (T1 v) S = r) : jl P fx call ops l T S = r := by
 subst hl
 simp only [jl, Region.wanted, hg, if_true, hs, hm]
 exact hK
theorem aeN {l rest : List Oper} {o : Oper} {T : List Value} {T1 : Value → List Value} {S : zi} {s : Option (Value × zi)} {K : Value → zi → Option (List Value × zi)} (hl : l = o :: rest) (hg : o.guard = none) (hm : ∀ v, kS o rest T v = T1 v)
  (hs : jW P fx call T o S = s) (hK : ∀ v S1, jl P fx call ops rest (T1 v) S1 = K v S1) : jl P fx call ops l T S = zW s K () := by
 show _ = andThen s K
 subst hl hs
 simp only [jl, Region.wanted, hg, if_true, hm, hK]
 rfl
theorem aeD {l rest : List Oper} {o : Oper} {T : List Value} {T1 : Value → List Value} {S : zi} {j : Nat} {b : Bool} {g : Value} {s : M Value} {K : Value → zi → Option (List Value × zi)} (hl : l = o :: rest) (hg : o.guard = some (j, b)) (hm : ∀ v, kS o rest T v = T1 v)
  (hy : ynd ops T j = vb g) (hs : jW P fx call T o S = s S) (hK : ∀ v S1, jl P fx call ops rest (T1 v) S1 = K v S1) : jl P fx call ops l T S = gdK g b s S K () := by
 show _ = gd g b s S K
 subst hl
 simp only [jl, Region.wanted, hg, hy, hs, hm, hK, gd]
 rfl
theorem adG {l rest : List Oper} {o : Oper} {T : List Value} {T1 : Value → List Value} {S : zi} {k : Nat} {s : Option (Value × zi)} {K : Value → zi → Option (List Value × zi)} (hc : chk.contains k = false) (hl : l = o :: rest) (hg : o.guard = none) (hm : ∀ v, kS o rest T v = T1 v)
  (hs : jW P fx call T o S = s) (hK : ∀ v S1, jH P fx chk [] call ops (k + 1) [] rest (T1 v) S1 = K v S1) : jH P fx chk [] call ops k [] l T S = zW s K () := by
 show _ = andThen s K
 subst hl hs
 simp only [jH, qx, List.isEmpty_nil, if_true, Region.wanted, hg, if_true, hm, hK, hc, Bool.not_false, Bool.true_or]
 rfl
theorem abS {l rest : List Oper} {o : Oper} {T : List Value} {T1 : Value → List Value} {S : zi} {k : Nat} {s : Option (Value × zi)} {K : Value → zi → Option (List Value × zi)} (hc : chk.contains k = true) (hl : l = o :: rest) (hg : o.guard = none) (hm : ∀ v, kS o rest T v = T1 v)
  (hs : jW P fx call T o S = s) (hK : ∀ v S1, jH P fx chk [] call ops (k + 1) [] rest (T1 v) S1 = K v S1) : jH P fx chk [] call ops k [] l T S = zW s (fun v S1 => okK v (K v S1) ()) () := by
 show _ = andThen s (fun v S1 => okC v (K v S1))
 subst hl hs
 simp only [jH, qx, List.isEmpty_nil, if_true, Region.wanted, hg, if_true, hm, hK, hc, Bool.not_true, Bool.false_or]
 rfl
theorem Vj {l rest : List Oper} {o : Oper} {T : List Value} {T1 : Value → List Value} {S : zi} {k : Nat} {v : Value} {r : Option (List Value × zi)} (hc : chk.contains k = false) (hl : l = o :: rest) (hg : o.guard = none) (hm : ∀ v, kS o rest T v = T1 v)
  (hs : jW P fx call T o S = some (v, S)) (hK : jH P fx chk [] call ops (k + 1) [] rest (T1 v) S = r) : jH P fx chk [] call ops k [] l T S = r := by
 subst hl
 simp only [jH, qx, List.isEmpty_nil, if_true, Region.wanted, hg, if_true, hs, hm, hc, Bool.not_false, Bool.true_or]
 exact hK
theorem KO {l rest : List Oper} {o : Oper} {T : List Value} {T1 : Value → List Value} {S : zi} {k : Nat} {v : Value} {r : Option (List Value × zi)} (hc : chk.contains k = true) (hl : l = o :: rest) (hg : o.guard = none) (hm : ∀ v, kS o rest T v = T1 v)
  (hs : jW P fx call T o S = some (v, S)) (hK : jH P fx chk [] call ops (k + 1) [] rest (T1 v) S = r) : jH P fx chk [] call ops k [] l T S = okK v r () := by
 show _ = okC v r
 subst hl
 simp only [jH, qx, List.isEmpty_nil, if_true, Region.wanted, hg, if_true, hs, hm, hc, Bool.not_true, Bool.false_or]
 rw [← hK]
 rfl
theorem ac3 {l rest : List Oper} {o : Oper} {T : List Value} {T1 : Value → List Value} {S : zi} {j k : Nat} {b : Bool} {g : Value} {s : M Value} {K : Value → zi → Option (List Value × zi)} (hc : chk.contains k = false) (hl : l = o :: rest) (hg : o.guard = some (j, b)) (hm : ∀ v, kS o rest T v = T1 v)
  (hy : ynd ops T j = vb g) (hs : jW P fx call T o S = s S) (hK : ∀ v S1, jH P fx chk [] call ops (k + 1) [] rest (T1 v) S1 = K v S1) : jH P fx chk [] call ops k [] l T S = gdK g b s S K () := by
 show _ = gd g b s S K
 subst hl
 simp only [jH, qx, List.isEmpty_nil, if_true, Region.wanted, hg, hy, hs, hm, hK, gd, hc, Bool.not_false, Bool.true_or, if_true]
 rfl
theorem adD {l rest : List Oper} {o : Oper} {T : List Value} {T1 : Value → List Value} {S : zi} {k : Nat} {s : Option (Value × zi)} {K : Value → zi → Option (List Value × zi)} (hc : chk.contains k = false) {x : Nat × Nat} {nl : List (Nat × Nat)} {hist : List (Value × zi)} {pe : Value} (hpe : kT T o = pe) (hl : l = o :: rest) (hg : o.guard = none) (hm : ∀ v, kS o rest T v = T1 v)
  (hs : jW P fx call T o S = s) (hK : ∀ v S1, jH P fx chk (x :: nl) call ops (k + 1) (hist ++ [(pe, S)]) rest (T1 v) S1 = K v S1) : jH P fx chk (x :: nl) call ops k hist l T S = zW s K () := by
 show _ = andThen s K
 subst hl hs
 simp only [jH, qx, List.isEmpty_cons, Bool.false_eq_true, if_false, hpe, Region.wanted, hg, if_true, hm, hK, hc, Bool.not_false, Bool.true_or]
 rfl
theorem aaO {l rest : List Oper} {o : Oper} {T : List Value} {T1 : Value → List Value} {S : zi} {k : Nat} {s : Option (Value × zi)} {K : Value → zi → Option (List Value × zi)} (hc : chk.contains k = true) {x : Nat × Nat} {nl : List (Nat × Nat)} {hist : List (Value × zi)} {pe : Value} (hpe : kT T o = pe) (hl : l = o :: rest) (hg : o.guard = none) (hm : ∀ v, kS o rest T v = T1 v)
  (hs : jW P fx call T o S = s) (hK : ∀ v S1, jH P fx chk (x :: nl) call ops (k + 1) (hist ++ [(pe, S)]) rest (T1 v) S1 = K v S1) : jH P fx chk (x :: nl) call ops k hist l T S = zW s (fun v S1 => okK v (K v S1) ()) () := by
 show _ = andThen s (fun v S1 => okC v (K v S1))
 subst hl hs
 simp only [jH, qx, List.isEmpty_cons, Bool.false_eq_true, if_false, hpe, Region.wanted, hg, if_true, hm, hK, hc, Bool.not_true, Bool.false_or]
 rfl
theorem Vo {l rest : List Oper} {o : Oper} {T : List Value} {T1 : Value → List Value} {S : zi} {k : Nat} {v : Value} {r : Option (List Value × zi)} (hc : chk.contains k = false) {x : Nat × Nat} {nl : List (Nat × Nat)} {hist : List (Value × zi)} {pe : Value} (hpe : kT T o = pe) (hl : l = o :: rest) (hg : o.guard = none) (hm : ∀ v, kS o rest T v = T1 v)
  (hs : jW P fx call T o S = some (v, S)) (hK : jH P fx chk (x :: nl) call ops (k + 1) (hist ++ [(pe, S)]) rest (T1 v) S = r) : jH P fx chk (x :: nl) call ops k hist l T S = r := by
 subst hl
 simp only [jH, qx, List.isEmpty_cons, Bool.false_eq_true, if_false, hpe, Region.wanted, hg, if_true, hs, hm, hc, Bool.not_false, Bool.true_or]
 exact hK
theorem Xq {l rest : List Oper} {o : Oper} {T : List Value} {T1 : Value → List Value} {S : zi} {k : Nat} {v : Value} {r : Option (List Value × zi)} (hc : chk.contains k = true) {x : Nat × Nat} {nl : List (Nat × Nat)} {hist : List (Value × zi)} {pe : Value} (hpe : kT T o = pe) (hl : l = o :: rest) (hg : o.guard = none) (hm : ∀ v, kS o rest T v = T1 v)
  (hs : jW P fx call T o S = some (v, S)) (hK : jH P fx chk (x :: nl) call ops (k + 1) (hist ++ [(pe, S)]) rest (T1 v) S = r) : jH P fx chk (x :: nl) call ops k hist l T S = okK v r () := by
 show _ = okC v r
 subst hl
 simp only [jH, qx, List.isEmpty_cons, Bool.false_eq_true, if_false, hpe, Region.wanted, hg, if_true, hs, hm, hc, Bool.not_true, Bool.false_or]
 rw [← hK]
 rfl
theorem acV {l rest : List Oper} {o : Oper} {T : List Value} {T1 : Value → List Value} {S : zi} {j k : Nat} {b : Bool} {g : Value} {s : M Value} {K : Value → zi → Option (List Value × zi)} (hc : chk.contains k = false) {x : Nat × Nat} {nl : List (Nat × Nat)} {hist : List (Value × zi)} {pe : Value} (hpe : kT T o = pe) (hl : l = o :: rest) (hg : o.guard = some (j, b)) (hm : ∀ v, kS o rest T v = T1 v)
  (hy : ynd ops T j = vb g) (hs : jW P fx call T o S = s S) (hK : ∀ v S1, jH P fx chk (x :: nl) call ops (k + 1) (hist ++ [(pe, S)]) rest (T1 v) S1 = K v S1) : jH P fx chk (x :: nl) call ops k hist l T S = gdK g b s S K () := by
 show _ = gd g b s S K
 subst hl
 simp only [jH, qx, List.isEmpty_cons, Bool.false_eq_true, if_false, hpe, Region.wanted, hg, hy, hs, hm, hK, gd, hc, Bool.not_false, Bool.true_or, if_true]
 rfl
def ckK (c : Bool) (r : Option R) (p : Zo r) : Option R := if c then r else none
@[simp] theorem Xz (r : Option R) (p : Zo r) : ckK true r p = r := Eq.trans rfl rfl
noncomputable def aeG (P : Program) (O : Ora) (hp : Bool) (v : Value) (x y : Code) (T : List Value) (S : zi) : St := acJ v (zI P O hp x T S) (zI P O hp y T S)
@[simp] theorem Ym (x y : Code) (T : List Value) (S : zi) : aeG P O hp (.bool true) x y T S = zI P O hp x T S := Eq.trans rfl rfl
@[simp] theorem JQ (x y : Code) (T : List Value) (S : zi) : aeG P O hp (.bool false) x y T S = zI P O hp y T S := Eq.trans rfl rfl
@[simp] theorem JR (T : List Value) (H : zi) : zI P O hp .skip T H = some (.normal, T, H) := Eq.trans rfl rfl
@[simp] theorem WV (T : List Value) (H : zi) : zI P O hp .ret T H = some (.ret, T, H) := Eq.trans rfl rfl
@[simp] theorem Wh (i : Nat) (T : List Value) (H : zi) : zI P O hp (.exit i) T H = some (.exit i, T, H) := Eq.trans rfl rfl
@[simp] theorem Zy (i : Nat) (ops : Array Oper) (T : List Value) (H : zi) : zI P O false (.region i ops false) T H = WW (jl P ⟨false, false, false⟩ (jc P O) ops ops.toList T H) := Eq.trans rfl rfl
@[simp] theorem Zb (i : Nat) (ops : Array Oper) (T : List Value) (H : zi) : zI P O true (.region i ops false) T H = WW (jl P ⟨true, false, false⟩ (qK O.hp true (jc P O)) ops ops.toList T H) := Eq.trans rfl rfl
theorem yj {i : Nat} {ops : Array Oper} (hd : qI P ops = true) (hf : fixed P ops = nm) (hc : checked P ops = chk) {nl : List (Nat × Nat)} (hn : again P ops = nl) (T : List Value) (H : zi) : zI P O false (.region i ops true) T H = WW (jH P ⟨false, !chk.isEmpty, nm⟩ chk nl (jc P O) ops 0 [] ops.toList T H) := by
 subst hf hc hn
 simp only [zI, hd, if_true, qK]
 rfl
@[simp] theorem Yl (x y : Code) (T : List Value) (H : zi) : zI P O hp (.seq x y) T H = agd (zI P O hp x T H) (zI P O hp y) := Eq.trans rfl rfl
@[simp] theorem Ja (i : Nat) (c : Code) (T : List Value) (H : zi) : zI P O hp (.block i c) T H = QU i (zI P O hp c T H) := Eq.trans rfl rfl
@[simp] theorem JY (c : Code) (T : List Value) (H : zi) : zI P O hp (.loop c) T H = wQ (zI P O hp c) T H := Eq.trans rfl rfl
@[simp] theorem JE (t : Tmp) (x y : Code) (T : List Value) (H : zi) : zI P O hp (.cond (.tmp t) x y) T H = aeG P O hp (T.getD t undef) x y T H := by
 simp only [zI, yO, if_true, je]
 rfl
@[simp] theorem JL : dem undef = undef := xX
@[simp] theorem aap (k : IntKind) (n : Int) : dem (.int k n) = .int k n := Eq.trans rfl rfl
@[simp] theorem XV (b : Bool) : dem (.bool b) = .bool b := Eq.trans rfl rfl
@[simp] theorem Yd (s : ByteArray) : dem (.string s) = .string s := Eq.trans rfl rfl
@[simp] theorem aaX : dem (.slice none 0 0) = .slice none 0 0 := Eq.trans rfl rfl
@[simp] theorem abM (x : Array Value) : dem (.agg x) = .agg x := Eq.trans rfl rfl
@[simp] theorem X5 (f : Fn) (x c : Array Value) : dem (.func f x c) = .func f x c := Eq.trans rfl rfl
@[simp] theorem JM (a : Option Addr) : dem (.pointer a) = .pointer a := Eq.trans rfl rfl
@[simp] theorem ags (e n : Nat) (cs : List Value) : dem (SL 1 e n cs) = SL 1 e n cs := Eq.trans rfl rfl
@[simp] theorem agl (e n : Nat) (cs : List Value) : dem (SL 2 e n cs) = SL 1 e n cs := Eq.trans rfl rfl
@[simp] theorem aek (k e n : Nat) (cs : List Value) (r : Option R) (p : Zo r) : okK (SL k e n cs) r p = r := Eq.trans rfl rfl
@[simp] theorem aei (cs : List Value) (r : Option R) (p : Zo r) : okK (EP cs) r p = r := Eq.trans rfl rfl
@[simp] theorem agy (k e n : Nat) (cs : List Value) (r : Option R) : okC (SL k e n cs) r = r := Eq.trans rfl rfl
@[simp] theorem aea (cs : List Value) (r : Option R) : okC (EP cs) r = r := Eq.trans rfl rfl
def sv (k e n : Nat) (cs : List Value) : Value := if k = 0 then .slice none 0 0 else SL k e n cs
structure Okv (k n : Nat) (cs : List Value) : Prop where
 le : k ≤ 2
 nil : k = 0 → n = 0 ∧ cs = []
theorem sv0 {e n : Nat} {cs : List Value} : sv 0 e n cs = .slice none 0 0 := rfl
theorem sv1 {e n : Nat} {cs : List Value} : sv 1 e n cs = SL 1 e n cs := rfl
theorem sv2 {e n : Nat} {cs : List Value} : sv 2 e n cs = SL 2 e n cs := rfl
@[simp] theorem X8 (k e n : Nat) (cs : List Value) : dem (sv k e n cs) = sv (if k = 2 then 1 else k) e n cs := by
 unfold sv
 by_cases h0 : k = 0
 ·
  subst h0; rfl
 ·
  by_cases h2 : k = 2
  ·
   subst h2; rfl
  ·
   rw [if_neg h0, if_neg h2, if_neg h0]
   simp only [SL, dem, qP, if_neg h2]
@[simp] theorem QA (k e n : Nat) (cs : List Value) (r : Option R) : okC (sv k e n cs) r = r := by
 unfold sv; split <;> rfl
@[simp] theorem aef (k e n : Nat) (cs : List Value) (r : Option R) (p : Zo r) : okK (sv k e n cs) r p = r := QA k e n cs r
theorem XY {k e n : Nat} {cs : List Value} (h : Okv k n cs) : ∃ e', vSl (sv k e n cs) = some (e', n, cs) ∧ (e' = e ∨ n = 0 ∧ cs = []) := by
 unfold sv
 by_cases h0 : k = 0
 ·
  obtain ⟨rfl, rfl⟩ := h.nil h0
  rw [if_pos h0]
  exact ⟨0, rfl, .inr ⟨rfl, rfl⟩⟩
 ·
  rw [if_neg h0]
  have : k = 1 ∨ k = 2 := by have := h.le; omega
  exact ⟨e, by simp [SL, vSl, this], .inl rfl⟩
theorem ae7 {t te : TypeId} {k e n : Nat} {cs : List Value} {S : zi} (ht : P.underlying t = some (.slice te)) (h : Okv k n cs) : qM P t (sv k e n cs) S = some (goInt n, S) := by
 by_cases h0 : k = 0
 ·
  obtain ⟨rfl, rfl⟩ := h.nil h0
  subst h0
  simp only [sv0, qM, QI, ht]
 ·
  obtain ⟨e', h1, _⟩ := XY (e := e) h
  simp only [sv, if_neg h0] at h1 ⊢
  simp only [SL] at h1 ⊢
  simp only [qM, ht, h1]
theorem Yw {t te : TypeId} {k e n : Nat} {cs : List Value} {S : zi} {ki : IntKind} {i : Int} (ht : P.underlying t = some (.slice te)) (he : qR P te = some e) (h : Okv k n cs) (h0 : 0 ≤ i) (hi : i < n) :
  jk P t (sv k e n cs) (.int ki i) S = some (EP ((cs.drop (i.toNat * e)).take e), S) := by
 have hk : k ≠ 0 := fun e => by have := (h.nil e).1; omega
 have hk2 : k = 1 ∨ k = 2 := by have := h.le; omega
 have h1 : vSl (SL k e n cs) = some (e, n, cs) := by simp [SL, vSl, hk2]
 simp only [sv, if_neg hk]
 simp only [SL] at h1 ⊢
 simp only [jk, ht, h1, he, if_true]
 rw [if_pos ⟨h0, hi⟩]
@[simp] theorem Qn {t : TypeId} {v : Value} {S : zi} (ht : qg P t = some false) : jw P nm t (EP [v]) S = some (v, S) := by
 simp [EP, jw, ht]
theorem abu {t : TypeId} {n : Nat} {cs : List Value} {S : zi} (ht : qg P t = some true) (hn : qR P t = some n) (hc : cs.length = n) : jw P nm t (EP cs) S = some (.agg cs.toArray, S) := by
 simp only [EP, jw, ht, hn, if_true, List.toList_toArray]
 rw [if_pos (by omega), ← hc, List.take_length]
theorem ab9 {t te : TypeId} {k e n : Nat} {cs : List Value} {S : zi} {lo hi : Option Value} {i j : Int} (ht : P.underlying t = some (.slice te)) (he : qR P te = some e) (h : Okv k n cs) (hlo : y5 0 lo = some i) (hhi : y5 n hi = some j)
  (h0 : 0 ≤ i) (hij : i ≤ j) (hj : j ≤ n) : yT P t (sv k e n cs) lo hi S = some (sv (if k = 2 then 1 else k) e (j.toNat - i.toNat) ((cs.drop (i.toNat * e)).take ((j.toNat - i.toNat) * e)), S) := by
 by_cases hk : k = 0
 ·
  obtain ⟨rfl, rfl⟩ := h.nil hk
  subst hk
  simp only [sv0, yT, ht, vSl, he, hlo, hhi, if_pos h0, if_pos hij, if_pos hj]
  rfl
 ·
  have hk2 : k = 1 ∨ k = 2 := by have := h.le; omega
  have h1 : vSl (SL k e n cs) = some (e, n, cs) := by simp [SL, vSl, hk2]
  have h3 : (if k = 2 then 1 else k) = 1 := by rcases hk2 with rfl | rfl <;> rfl
  rw [h3]
  simp only [sv, if_neg hk]
  simp only [SL] at h1 ⊢
  simp only [yT, ht, h1, he, hlo, hhi, if_pos h0, if_pos hij, if_pos hj, if_true]
  rfl
theorem ac0 {t te : TypeId} {k e n : Nat} {cs : List Value} {S : zi} (ht : P.underlying t = some (.slice te)) (h : Okv k n cs) : jJ P .eql t (sv k e n cs) (.slice none 0 0) S = some (.bool (decide (k = 0)), S) := by
 by_cases hk : k = 0
 ·
  subst hk
  simp only [sv0, jJ, xI, yV, ht, xH]
  rfl
 ·
  have hk2 : k = 1 ∨ k = 2 := by have := h.le; omega
  have h1 : vSl (SL k e n cs) = some (e, n, cs) := by simp [SL, vSl, hk2]
  simp only [sv, if_neg hk]
  simp only [SL] at h1 ⊢
  simp only [jJ, ht, h1]
  simp [hk]
@[simp] theorem J4 (k e n : Nat) (cs : List Value) : Y4 (sv k e n cs) = false := by unfold sv; split <;> rfl
@[simp] theorem ZP (dr : Bool) (t : TypeId) (k e n : Nat) (cs : List Value) (lo hi : Option Value) (S : zi) : wz P dr t (sv k e n cs) lo hi S = yT P t (sv k e n cs) lo hi S := by
 unfold wz; rw [J4]; rfl
@[simp] theorem vZ (dr : Bool) (t : TypeId) (s : ByteArray) (lo hi : Option Value) (S : zi) : wz P dr t (.string s) lo hi S = yT P t (.string s) lo hi S := Eq.trans rfl rfl
@[simp] theorem JJ (hp dr : Bool) (src dst : TypeId) (k e n : Nat) (cs : List Value) (S : zi) : jK P hp dr src dst (sv k e n cs) S = kG P src dst (sv k e n cs) S := by
 unfold jK
 rw [J4]
 have : ∀ s, sv k e n cs ≠ .string s := by intro s; unfold sv; split <;> (intro h; cases h)
 cases hp <;> simp only [Bool.false_eq_true, if_false] <;> (split <;> first | rfl | (rename_i h; exact absurd h (this _)) | skip)
@[simp] theorem WZ (hp dr : Bool) (src dst : TypeId) (k : IntKind) (n : Int) (S : zi) : jK P hp dr src dst (.int k n) S = kG P src dst (.int k n) S := by cases hp <;> rfl
@[simp] theorem ZG (dr : Bool) (src dst : TypeId) (s : ByteArray) (S : zi) : jK P false dr src dst (.string s) S = kG P src dst (.string s) S := Eq.trans rfl rfl
@[simp] theorem Ze (dr : Bool) (src dst : TypeId) (s : ByteArray) (S : zi) : jK P true dr src dst (.string s) S = wB P src dst (.string s) S := Eq.trans rfl rfl
theorem VW {t te tx tex : TypeId} {k e n j m bytes : Nat} {cs ds : List Value} {z : Value} {S : zi} (ht : P.underlying t = some (.slice te)) (he : qR P te = some e) (hz : zeroOf P te = some z) (hzs : z.cells.size = e) (hb : bytesOf P te = some bytes) (hp : 0 < e)
  (htx : P.underlying tx = some (.slice tex)) (h : Okv k n cs) (hk : k ≠ 1) (hx : Okv j m ds) (hn : cs.length = n * e) (hm : ds.length = m * e) (h1 : cs.all (·.oneCell') = true) (h2 : ds.all (·.oneCell') = true) (hl : (n + m) * bytes ≤ 140737488355328) (hmax : n + m ≤ 4611686018427387903) :
  jB P t tx (sv k e n cs) (sv j e m ds) S = some (sv (if k = 0 ∧ m = 0 then 0 else 2) e (n + m) (cs ++ ds), S) := by
 have hel : wE P t = some te := by simp only [wE, ht]
 have hsrc : aeQ P tx e (sv j e m ds) = some (m, ds) := by
  obtain ⟨e', q1, q2⟩ := XY (e := e) hx
  have hns : ∀ s, sv j e m ds ≠ .string s := by intro s; unfold sv; split <;> (intro h; cases h)
  have hcond : m = 0 ∨ e' = e := q2.elim .inr fun h => .inl h.1
  unfold aeQ
  split
  ·
   rename_i s hs; exact absurd hs (hns s)
  ·
   simp only [htx, q1, if_pos hcond, if_pos hm, h2, if_true]
 have hsrc : WA P tx e (sv j e m ds) S = some (m, ds) := by
  unfold WA
  rw [J4]
  exact hsrc
 by_cases hk0 : k = 0
 ·
  obtain ⟨rfl, rfl⟩ := h.nil hk0
  subst hk0
  simp only [sv0, jB, y8, hel, he, hz, hb, if_pos hp, if_pos hzs, hsrc]
  by_cases hm0 : m = 0
  ·
   subst hm0
   simp [sv0]
  ·
   rw [Nat.zero_add] at hl hmax
   rw [if_neg hm0, if_pos hl, if_pos hmax, if_neg Bool.false_ne_true, if_neg (fun h => hm0 h.2), sv2, Nat.zero_add, List.nil_append]
 ·
  have hk2 : k = 2 := by have := h.le; omega
  subst hk2
  rw [if_neg (fun h => hk0 h.1)]
  have h1' : cs.toArray.toList.all (·.oneCell') = true := by simpa using h1
  simp only [sv2, SL, jB, y8, hel, he, hz, hb, if_pos hp, if_pos hzs, hsrc, if_true, if_pos hl, if_pos hmax, h1']
@[simp] theorem XJ (op : BinOp) (t : TypeId) (k k' : IntKind) (a b : Int) (S : zi) : jJ P op t (.int k a) (.int k' b) S = xI P op t (.int k a) (.int k' b) S := Eq.trans rfl rfl
@[simp] theorem JH (op : BinOp) (t : TypeId) (a b : ByteArray) (S : zi) : jJ P op t (.string a) (.string b) S = xI P op t (.string a) (.string b) S := Eq.trans rfl rfl
@[simp] theorem QX (op : BinOp) (t : TypeId) (a b : Bool) (S : zi) : jJ P op t (.bool a) (.bool b) S = xI P op t (.bool a) (.bool b) S := Eq.trans rfl rfl
@[simp] theorem agi (op : BinOp) (t : TypeId) (a b : Array Value) (S : zi) : jJ P op t (.agg a) (.agg b) S = xI P op t (.agg a) (.agg b) S := Eq.trans rfl rfl
@[simp] theorem Yf (b : Bool) (x y : Value) (S : zi) : wZ (.bool b) x y S = some (if b then dem x else dem y, S) := Eq.trans rfl rfl
@[simp] theorem QM {src dst : TypeId} (k : IntKind) (n : Int) (S : zi) : kG P src dst (.int k n) S = wB P src dst (.int k n) S := Eq.trans rfl rfl
@[simp] theorem Za (vs : List Value) (i : Nat) (S : zi) : zL (.tuple vs.toArray) i S = (vs[i]?).map (·, S) := by
 simp only [zL, List.getElem?_toArray]
 cases vs[i]? <;> rfl
end
end Go.Abs
namespace Go.Abs
theorem wu {P : Program} {fn : Func} {a b : Value} {r : List Value} {T : List Value} {S : zi} (h : zV P T S fn.results.toList = some (a :: b :: r)) (hn : ae6 fn.results.toList = true) (hall : (a :: b :: r).all ji = true) :
  aaW P fn T S = some (.tuple (a :: b :: r).toArray, S) := by
 unfold aaW
 rw [h]
 dsimp only
 rw [if_pos hn, if_pos hall]
theorem qW {P : Program} {fn : Func} {a : Value} {T : List Value} {S : zi} (h : zV P T S fn.results.toList = some [a]) (hn : ae6 fn.results.toList = true) : aaW P fn T S = some (a, S) := by
 unfold aaW
 rw [h]
 dsimp only
 rw [if_pos hn]
@[simp] theorem zJ (k : IntKind) (n : Int) : ji (.int k n) = true := rfl
@[simp] theorem zG (b : Bool) : ji (.bool b) = true := rfl
@[simp] theorem KQ (k e n : Nat) (cs : List Value) : ji (sv k e n cs) = true := by unfold sv; split <;> rfl
@[simp] theorem zK (x : Array Value) : ji (.agg x) = true := rfl
@[simp] theorem zD (a : Option Addr) (n c : Nat) : ji (.slice a n c) = true := rfl
end Go.Abs
namespace Go.Abs
open Go.RowKit
def vs {α : Type} (f : α → List Value) (e k : Nat) (l : List α) : Value := sv k e l.length (l.flatMap f)
structure Okl {α : Type} (k : Nat) (l : List α) : Prop where
 le : k ≤ 2
 nil : k = 0 → l = []
theorem Okl.own {α : Type} {l : List α} : Okl 2 l := ⟨Nat.le_refl 2, (fun h => by cases h)⟩
theorem Okl.read {α : Type} {l : List α} : Okl 1 l := ⟨by omega, (fun h => by cases h)⟩
theorem Okl.none {α : Type} : Okl 0 ([] : List α) := ⟨by omega, fun _ => rfl⟩
theorem Okl.dem {α : Type} {k : Nat} {l : List α} (h : Okl k l) : Okl (if k = 2 then 1 else k) l := ⟨by have := h.le; split <;> omega, fun hk => h.nil (by split at hk <;> omega)⟩
def cb (b : UInt8) : List Value := [.int .u8 b.toNat]
def ci (n : Int) : List Value := [.int .i64 n]
section
variable {R α : Type} {P : Program} {f : α → List Value} {e k j : Nat} {l m : List α} {t te tx tex : TypeId} {S : zi}
theorem Okl.okv (h : Okl k l) : Okv k l.length (l.flatMap f) := ⟨h.le, fun h0 => by rw [h.nil h0]; exact ⟨rfl, rfl⟩⟩
theorem xg (hf : ∀ x, (f x).length = e) (l : List α) : (l.flatMap f).length = l.length * e := by
 induction l with
 | nil => simp
 | cons x l ih => simp only [List.flatMap_cons, List.length_append, hf, ih, List.length_cons, Nat.add_mul]; omega
theorem Je (hf : ∀ x, (f x).length = e) (l : List α) : ∀ (i : Nat), (l.flatMap f).drop (i * e) = (l.drop i).flatMap f := by
 induction l with
 | nil => intro i; simp
 | cons x l ih =>
  intro i
  cases i with
  | zero => simp
  | succ i =>
   rw [List.flatMap_cons, List.drop_succ_cons, ← ih i, List.drop_append, List.drop_eq_nil_of_le (by rw [hf, Nat.add_mul]; omega), List.nil_append, hf]
   congr 1
   rw [Nat.add_mul]; omega
theorem Jd (hf : ∀ x, (f x).length = e) (l : List α) : ∀ (i : Nat), (l.flatMap f).take (i * e) = (l.take i).flatMap f := by
 induction l with
 | nil => intro i; simp
 | cons x l ih =>
  intro i
  cases i with
  | zero => simp
  | succ i =>
   rw [List.flatMap_cons, List.take_succ_cons, List.flatMap_cons, ← ih i, List.take_append, List.take_of_length_le (by rw [hf, Nat.add_mul]; omega), hf]
   congr 2
   rw [Nat.add_mul]; omega
@[simp] theorem ab1 : dem (vs f e k l) = vs f e (if k = 2 then 1 else k) l := X8 _ _ _ _
@[simp] theorem aer (r : Option R) : okC (vs f e k l) r = r := QA _ _ _ _ _
@[simp] theorem adY (r : Option R) (p : Zo r) : okK (vs f e k l) r p = r := QA _ _ _ _ _
@[simp] theorem agn : Y4 (vs f e k l) = false := J4 _ _ _ _
@[simp] theorem Yc (dr : Bool) (lo hi : Option Value) : wz P dr t (vs f e k l) lo hi S = yT P t (vs f e k l) lo hi S := ZP _ _ _ _ _ _ _ _ _
@[simp] theorem qy (hp dr : Bool) (src dst : TypeId) : jK P hp dr src dst (vs f e k l) S = kG P src dst (vs f e k l) S := JJ _ _ _ _ _ _ _ _ _
@[simp] theorem zO : ji (vs f e k l) = true := KQ _ _ _ _
theorem aal (ht : P.underlying t = some (.slice te)) (h : Okl k l) : qM P t (vs f e k l) S = some (goInt l.length, S) := ae7 ht h.okv
theorem adI (ht : P.underlying t = some (.slice te)) (h : Okl k l) : jJ P .eql t (vs f e k l) (.slice none 0 0) S = some (.bool (decide (k = 0)), S) := ac0 ht h.okv
theorem afd {ki : IntKind} {i : Int} (ht : P.underlying t = some (.slice te)) (he : qR P te = some e) (hf : ∀ x, (f x).length = e) (h : Okl k l) (h0 : 0 ≤ i) (hi : i < l.length) :
  jk P t (vs f e k l) (.int ki i) S = some (EP (f (l[i.toNat]'(by omega))), S) := by
 unfold vs
 rw [Yw ht he h.okv h0 hi, Je hf]
 have hlt : i.toNat < l.length := by omega
 have := Jd hf (l.drop i.toNat) 1
 rw [Nat.one_mul] at this
 rw [this, List.drop_eq_getElem_cons hlt, List.take_succ_cons, List.take_zero, List.flatMap_cons, List.flatMap_nil, List.append_nil]
theorem ac6 {lo hi : Option Value} {i j : Int} (ht : P.underlying t = some (.slice te)) (he : qR P te = some e) (hf : ∀ x, (f x).length = e) (h : Okl k l) (hlo : y5 0 lo = some i) (hhi : y5 l.length hi = some j) (h0 : 0 ≤ i) (hij : i ≤ j) (hj : j ≤ l.length) :
  yT P t (vs f e k l) lo hi S = some (vs f e (if k = 2 then 1 else k) ((l.drop i.toNat).take (j.toNat - i.toNat)), S) := by
 unfold vs
 rw [ab9 ht he h.okv hlo hhi h0 hij hj, Je hf, Jd hf]
 congr 3
 simp; omega
theorem Js {bytes : Nat} {z : Value} (ht : P.underlying t = some (.slice te)) (he : qR P te = some e) (hz : zeroOf P te = some z) (hzs : z.cells.size = e) (hb : bytesOf P te = some bytes) (hp : 0 < e) (htx : P.underlying tx = some (.slice tex))
  (hf : ∀ x, (f x).length = e) (h1 : ∀ x, (f x).all (·.oneCell') = true) (h : Okl k l) (hk : k ≠ 1) (hm : Okl j m) (hl : (l.length + m.length) * bytes ≤ 140737488355328) (hmax : l.length + m.length ≤ 4611686018427387903) :
  jB P t tx (vs f e k l) (vs f e j m) S = some (vs f e (if k = 0 ∧ m.length = 0 then 0 else 2) (l ++ m), S) := by
 have hone : ∀ l : List α, (l.flatMap f).all (·.oneCell') = true := by
  intro l
  rw [List.all_flatMap, List.all_eq_true]
  exact fun x _ => h1 x
 unfold vs
 rw [VW ht he hz hzs hb hp htx h.okv hk hm.okv (xg hf l) (xg hf m) (hone l) (hone m) hl hmax, List.flatMap_append, List.length_append]
theorem Qw (x : UInt8) : (cb x).length = 1 := rfl
theorem afZ (x : UInt8) : (cb x).all (·.oneCell') = true := rfl
theorem adZ (x : Int) : (ci x).length = 1 := rfl
theorem afM (x : Int) : (ci x).all (·.oneCell') = true := rfl
theorem ac5 (l : List UInt8) : wG (l.flatMap cb) = some l := by
 induction l with
 | nil => rfl
 | cons b l ih =>
  have : (b :: l).flatMap cb = .int .u8 b.toNat :: l.flatMap cb := rfl
  rw [this]
  simp only [wG, JC, ih]
  simp
theorem jv {v : Value} {i j : Nat} {S : zi} (h : j ≠ i) : zL (zQ j v) i S = zL v i S := by
 cases v with
 | tuple vs => simp only [zQ, zL, Array.getElem?_modify, if_neg h]
 | _ => rfl
theorem acv {v : Value} {S : zi} : zL (zQ 0 v) 1 S = zL v 1 S := jv (by decide)
theorem acd {v : Value} {S : zi} : zL (zQ 0 v) 2 S = zL v 2 S := jv (by decide)
theorem abR {v : Value} {S : zi} : zL (zQ 1 v) 2 S = zL v 2 S := jv (by decide)
theorem aa0 {v : Value} {S : zi} : zL (zQ 0 v) 3 S = zL v 3 S := jv (by decide)
theorem aar {v : Value} {S : zi} : zL (zQ 1 v) 3 S = zL v 3 S := jv (by decide)
theorem acz {v : Value} {S : zi} : zL (zQ 2 v) 3 S = zL v 3 S := jv (by decide)
theorem ab2 {v : Value} {S : zi} : zL (zQ 0 v) 4 S = zL v 4 S := jv (by decide)
theorem acj {v : Value} {S : zi} : zL (zQ 1 v) 4 S = zL v 4 S := jv (by decide)
theorem abz {v : Value} {S : zi} : zL (zQ 2 v) 4 S = zL v 4 S := jv (by decide)
theorem aa9 {v : Value} {S : zi} : zL (zQ 3 v) 4 S = zL v 4 S := jv (by decide)
theorem aaI {v : Value} {S : zi} : zL (zQ 0 v) 5 S = zL v 5 S := jv (by decide)
theorem aa2 {v : Value} {S : zi} : zL (zQ 1 v) 5 S = zL v 5 S := jv (by decide)
theorem abf {v : Value} {S : zi} : zL (zQ 2 v) 5 S = zL v 5 S := jv (by decide)
theorem abv {v : Value} {S : zi} : zL (zQ 3 v) 5 S = zL v 5 S := jv (by decide)
theorem abQ {v : Value} {S : zi} : zL (zQ 4 v) 5 S = zL v 5 S := jv (by decide)
abbrev by_ (k : Nat) (l : List UInt8) : Value := vs cb 1 k l
abbrev iz (k : Nat) (l : List Int) : Value := vs ci 1 k l
theorem aao {src dst : TypeId} {k : Nat} {l : List UInt8} (hs : P.underlying src = some (.slice te)) (he : P.underlying te = some (.int .u8)) (hd : P.underlying dst = some .string) (h : Okl k l) : kG P src dst (by_ k l) S = some (.string ⟨l.toArray⟩, S) := by
 obtain ⟨e', h1, _⟩ := XY (e := 1) (h.okv (f := cb))
 have hlen : (l.flatMap cb).length = l.length := by rw [xg Qw]; omega
 have hns : ∀ s, by_ k l ≠ .string s := by intro s; unfold by_ vs sv; split <;> (intro h; cases h)
 unfold kG
 split
 ·
  rename_i s hs; exact absurd hs (hns s)
 ·
  unfold by_ vs
  rw [h1]
  simp only [hs, hd, he, if_pos hlen, ac5]
end
end Go.Abs
namespace Go.Abs
open Go.RowKit
def CLe (c d : FuncId → List Value → M Value) : Prop := ∀ g a S r, c g a S = some r → d g a S = some r
section
variable {P : Program} {O : Ora} {c d : FuncId → List Value → M Value}
theorem WR (h : CLe c d) {fx : Fx} {T : List Value} {o : Oper} {S : zi} {r : Value × zi} (hs : jW P fx c T o S = some r) : jW P fx d T o S = some r := by
 unfold jW at hs ⊢
 split at hs
 ·
  rename_i hok
  rw [if_pos hok]
  cases hop : o.op with
  | call q =>
   rw [hop] at hs
   dsimp only at hs ⊢
   cases hcal : q.callee with
   | value f =>
    rw [hcal] at hs
    dsimp only at hs ⊢
    split at hs
    ·
     rename_i g first captured hev
     exact h _ _ _ _ hs
    ·
     cases hs
   | builtin b => rw [hcal] at hs; exact hs
   | invoke a b => rw [hcal] at hs; cases hs
  | _ => rw [hop] at hs; exact hs
 ·
  cases hs
theorem abx (h : CLe c d) {fx : Fx} {ops : Array Oper} : ∀ (l : List Oper) (T : List Value) (S : zi) (r : List Value × zi), jl P fx c ops l T S = some r → jl P fx d ops l T S = some r := by
 intro l
 induction l with
 | nil => intro T S r hs; exact hs
 | cons o l ih =>
  intro T S r hs
  simp only [jl] at hs ⊢
  split at hs
  ·
   rename_i hw
   rw [if_pos hw]
   split at hs
   ·
    rename_i v S' he
    rw [WR h he]
    exact ih _ _ _ hs
   ·
    cases hs
  ·
   rename_i hw
   rw [if_neg hw]
   exact ih _ _ _ hs
theorem VZ (h : CLe c d) {fx : Fx} {chk : List Nat} {nl : List (Nat × Nat)} {ops : Array Oper} : ∀ (l : List Oper) (i : Nat) (hist : List (Value × zi)) (T : List Value) (S : zi) (r : List Value × zi), jH P fx chk nl c ops i hist l T S = some r → jH P fx chk nl d ops i hist l T S = some r := by
 intro l
 induction l with
 | nil => intro i hist T S r hs; exact hs
 | cons o l ih =>
  intro i hist T S r hs
  simp only [jH] at hs ⊢
  split at hs
  ·
   rename_i hw
   rw [if_pos hw]
   split at hs
   ·
    rename_i v S' he
    rw [WR h he]
    dsimp only
    split at hs
    ·
     rename_i hq
     rw [if_pos hq]
     exact ih _ _ _ _ _ hs
    ·
     cases hs
   ·
    cases hs
  ·
   rename_i hw
   rw [if_neg hw]
   exact ih _ _ _ _ _ hs
theorem WT (h : CLe c d) {hp : Bool} {n m : Nat} (hn : n ≤ m) : ∀ (q : Code) (T : List Value) (S : zi) (r), wH P hp c n q T S = some r → wH P hp d m q T S = some r := by
 intro q
 induction q with
 | skip => intro T S r hs; exact hs
 | exit id => intro T S r hs; exact hs
 | ret => intro T S r hs; exact hs
 | region i ops dr =>
  intro T S r hs
  cases dr with
  | false =>
   simp only [wH] at hs ⊢
   split at hs
   ·
    rename_i T1 S1 ho
    rw [abx h _ _ _ _ ho]; exact hs
   ·
    cases hs
  | true =>
   simp only [wH] at hs ⊢
   split at hs
   ·
    rename_i hd
    rw [if_pos hd]
    split at hs
    ·
     rename_i T1 S1 ho
     rw [VZ h _ _ _ _ _ _ ho]; exact hs
    ·
     cases hs
   ·
    cases hs
 | seq x y ihx ihy =>
  intro T S r hs
  simp only [wH] at hs ⊢
  split at hs
  ·
   rename_i T1 S1 hx
   rw [ihx _ _ _ hx]
   exact ihy _ _ _ hs
  ·
   rename_i hne
   rw [ihx _ _ _ hs]
   split
   ·
    rename_i T1 S1 he; exact absurd (hs.trans he) (hne T1 S1)
   ·
    rfl
 | cond x y z ihy ihz =>
  intro T S r hs
  simp only [wH] at hs ⊢
  split at hs
  ·
   rename_i hok
   rw [if_pos hok]
   split at hs
   ·
    rename_i hb; exact ihy _ _ _ hs
   ·
    rename_i hb; exact ihz _ _ _ hs
   ·
    cases hs
  ·
   cases hs
 | block id x ih =>
  intro T S r hs
  simp only [wH] at hs ⊢
  split at hs
  ·
   rename_i id' T1 S1 hx
   rw [ih _ _ _ hx]; exact hs
  ·
   rename_i hne
   rw [ih _ _ _ hs]
   split
   ·
    rename_i id' T1 S1 he; exact absurd (hs.trans he) (hne id' T1 S1)
   ·
    rfl
 | loop x ih =>
  intro T S r hs
  simp only [wH] at hs ⊢
  have key : ∀ (n : Nat) (T : List Value) (S : zi), ∀ k, yC k (wH P hp c n x) T S = some r → (∀ T S r, wH P hp c n x T S = some r → wH P hp d m x T S = some r) → yC k (wH P hp d m x) T S = some r := by
   intro n T S k hk hx
   induction k generalizing T S with
   | zero => cases hk
   | succ k ihk =>
    simp only [yC] at hk ⊢
    split at hk
    ·
     rename_i T1 S1 h1
     rw [hx _ _ _ h1]
     exact ihk _ _ hk
    ·
     rename_i hne
     rw [hx _ _ _ hk]
     split
     ·
      rename_i T1 S1 he; exact absurd (hk.trans he) (hne T1 S1)
     ·
      rfl
  exact Qh hn (key n T S n hs ih)
 | _ => intro T S r hs; simp only [wH] at hs; cases hs
theorem aag {hps : FuncId → Bool} {hp : Bool} (h : CLe c d) : CLe (qK hps hp c) (qK hps hp d) := by
 cases hp with
 | false => exact h
 | true =>
  intro g a S r hs
  unfold qK at hs ⊢
  dsimp only at hs ⊢
  split at hs
  ·
   rename_i hg; rw [if_pos hg]; exact h _ _ _ _ hs
  ·
   rename_i hg
   rw [if_neg hg]
   split at hs <;> first | (cases hs; done) | skip
   rename_i m S1 hf
   split at hs <;> first | (cases hs; done) | skip
   rename_i r0 hr0
   (try rw [hf])
   (try dsimp only)
   rw [h _ _ _ _ hr0]
   exact hs
theorem QK (h : CLe c d) {hp : Bool} {n m : Nat} (hn : n ≤ m) {fn : Func} {q : Code} {a : List Value} {S : zi} {r : Value × zi} (hs : acB P hp c n fn q a S = some r) : acB P hp d m fn q a S = some r := by
 unfold acB at hs ⊢
 split at hs
 ·
  rename_i T1 S1 hx
  rw [WT h hn _ _ _ _ hx]; exact hs
 ·
  rename_i T1 S1 hx
  rw [WT h hn _ _ _ _ hx]; exact hs
 ·
  cases hs
theorem adK : ∀ (n m : Nat), n ≤ m → CLe (kF P O n) (kF P O m) := by
 intro n
 induction n with
 | zero => intro m _ g a S r h; cases h
 | succ n ih =>
  intro m hm g a S r h
  obtain ⟨m, rfl⟩ : ∃ k, m = k + 1 := ⟨m - 1, by omega⟩
  simp only [kF] at h ⊢
  cases ho : O.fn g with
  | some q => rw [ho] at h; exact h
  | none =>
   rw [ho] at h
   dsimp only at h ⊢
   cases hf : P.funcs[g]? with
   | none => rw [hf] at h; cases h
   | some fn =>
    rw [hf] at h
    dsimp only at h ⊢
    split at h
    ·
     cases h
    ·
     rename_i hn
     rw [if_neg hn]
     cases hb : fn.body with
     | none => rw [hb] at h; cases h
     | some q =>
      rw [hb] at h
      dsimp only at h ⊢
      have hc := aag (hps := O.hp) (hp := O.hp g) (ih m (by omega))
      split at h
      ·
       rename_i hpu
       rw [if_pos hpu]
       unfold abN at h ⊢
       split at h <;> first | (cases h; done) | skip
       rename_i hca
       rw [if_pos hca]
       split at h <;> first | (cases h; done) | skip
       rename_i v1 S1 hr
       rw [QK hc (by omega) hr]
       exact h
      ·
       rename_i hpu
       rw [if_neg hpu]
       exact QK hc (by omega) h
theorem acG {n : Nat} {g : FuncId} {args : List Value} {S : zi} {r : Value × zi} (h : kF P O n g args S = some r) : jc P O g args S = some r :=
 Xu ⟨n, fun k hk => adK n k hk _ _ _ _ h⟩
end
end Go.Abs
namespace Go.Abs
open Go.RowKit
theorem XM (x : (Ty.slc 1 (.int .u8)).Val) (hg : (Ty.slc 1 (.int .u8)).Good x) : ∃ k l, Okl k l ∧ k ≠ 2 ∧ (Ty.slc 1 (.int .u8)).WH x = [by_ k l] ∧ l.length ≤ 140737488351232 := by
 match x, hg with
 | none, _ => exact ⟨0, [], Okl.none, by decide, rfl, by simp⟩
 | some xs, hg =>
  obtain ⟨h1, h2, h3⟩ := hg
  have key : ∀ xs : List Int, (∀ n ∈ xs, (Lit.int .u8 n).wf = true) → (xs.flatMap fun n => [Value.int .u8 n]) = (xs.map fun n => UInt8.ofNat n.toNat).flatMap cb := by
   intro xs
   induction xs with
   | nil => intro _; rfl
   | cons n xs ih =>
    intro h
    have hw := h n (by simp)
    simp [Lit.wf, IntKind.min, IntKind.max, IntKind.signed, IntKind.bits] at hw
    have e : (Value.int .u8 n) = .int .u8 ((UInt8.ofNat n.toNat).toNat : Int) := by
     simp only [UInt8.toNat_ofNat']
     congr 1
     omega
    rw [List.flatMap_cons, ih (fun m hm => h m (by simp [hm])), List.map_cons, List.flatMap_cons, e]
    rfl
  refine ⟨1, (show List Int from xs).map fun n => UInt8.ofNat n.toNat, Okl.read, by decide, ?_, ?_⟩
  ·
   have e := key (show List Int from xs) h3
   show [SL 1 1 (show List Int from xs).length ((show List Int from xs).flatMap fun n => [Value.int .u8 n])] = [_]
   unfold by_ vs
   rw [sv1, List.length_map, ← e]
  ·
   have : (show List Int from xs).length * 1 ≤ 140737488351232 := h1
   rw [List.length_map]; omega
theorem XZ {n : Int} (h : (Lit.int .i64 n).wf = true) : -9223372036854775808 ≤ n ∧ n < 9223372036854775808 := by
 simp [Lit.wf, IntKind.min, IntKind.max, IntKind.signed, IntKind.bits] at h
 omega
def acU (call : FuncId → List Value → M Value) (g : FuncId) (args : List Value) : M Value := fun S => match ZJ args S with
 | some (m, S1) => match call g m S1 with
  | some r => some (aaE S S1 args r)
  | none => none
 | none => none
end Go.Abs
namespace Go.Abs
open Go.RowKit
section
variable {P : Program} {μ μ1 : Mu} {S S1 H H1 : zi} {ω ω1 : Nat → Option wO}
def YF (n : Nat) (lg : List Nat) (μ : Mu) : Mu := ⟨fun q => if q < n then μ q else none, μ.hid, lg⟩
theorem ql {n q : Nat} {lg : List Nat} {μ : Mu} {x : Nat × Bool} (h : YF n lg μ q = some x) : μ q = some x ∧ q < n := by
 simp only [YF] at h
 split at h
 ·
  exact ⟨h, by assumption⟩
 ·
  cases h
theorem xA {n q : Nat} {lg : List Nat} {μ : Mu} (h : q < n) : YF n lg μ q = μ q := if_pos h
theorem Jh.cut {n r : Nat} {lg : List Nat} {μ : Mu} (h : Jh μ r) : Jh (YF n lg μ) r := ⟨fun q hq => h.1 q (ql hq).1, h.2⟩
theorem VV.cut {n : Nat} {lg : List Nat} (hf : ∀ q, n ≤ q → μ q = none) {ℓ : Option wO} {v a : Value} (h : VV μ1 H1 ω1 ℓ v a) : ∀ {H0 : zi} {ω0 : Nat → Option wO} {ℓ0 : Option wO} {a0 : Value}, VV μ H0 ω0 ℓ0 v a0 → VV (YF n lg μ1) H1 ω1 ℓ v a := by
 have lt : ∀ {q : Nat} {x : Nat × Bool}, μ q = some x → q < n := fun {q x} h => Nat.lt_of_not_le fun hn => by rw [hf q hn] at h; cases h
 induction h with
 | sg h => intro _ _ _ _ _; exact .sg h
 | ptr h =>
  intro _ _ _ _ h0
  cases h0 with
  | sg hs => simp [Go.Abs.sg] at hs
  | ptr k => exact .ptr (by rw [xA (lt k)]; exact h)
 | map h =>
  intro _ _ _ _ h0
  cases h0 with
  | sg hs => simp [Go.Abs.sg] at hs
  | map k => exact .map (by rw [xA (lt k)]; exact h)
 | slm h =>
  intro _ _ _ _ h0
  cases h0 with
  | sg hs => simp [Go.Abs.sg] at hs
  | slm k => exact .slm (by rw [xA (lt k)]; exact h)
 | slE => intro _ _ _ _ _; exact .slE
 | sl hr hp hg hl hn hc ih =>
  intro _ _ _ _ h0
  cases h0 with
  | sg hs => simp [Go.Abs.sg] at hs
  | slE => exact .sl hr hp.cut hg hl hn (fun i hi => by simp at hi)
  | sl _ _ _ _ _ k => exact .sl hr hp.cut hg hl hn (fun i hi => ih i hi (k i hi))
 | so hω hr hp hg hl hn hc ih =>
  intro _ _ _ _ h0
  cases h0 with
  | sg hs => simp [Go.Abs.sg] at hs
  | so _ _ _ _ _ _ k => exact .so hω hr hp.cut hg hl hn (fun i hi => ih i hi (k i hi))
 | ep hr hp hg hl hc ih =>
  intro _ _ _ _ h0
  cases h0 with
  | sg hs => simp [Go.Abs.sg] at hs
  | ep _ _ _ _ k => exact .ep hr hp.cut hg hl (fun i hi => ih i hi (k i hi))
 | func fn hx hc h1 h2 ih1 ih2 =>
  intro _ _ _ _ h0
  cases h0 with
  | sg hs => simp [Go.Abs.sg] at hs
  | func _ _ _ k1 k2 => exact .func fn hx hc (fun i => ih1 i (k1 i)) (fun i => ih2 i (k2 i))
 | agg hx hh ih =>
  intro _ _ _ _ h0
  cases h0 with
  | sg hs => simp [Go.Abs.sg] at hs
  | agg _ k => exact .agg hx (fun i => ih i (k i))
 | nores => intro _ _ _ _ _; exact .nores
 | tuple hx hh ih =>
  intro _ _ _ _ h0
  cases h0 with
  | sg hs => simp [Go.Abs.sg] at hs
  | nores => exact .tuple hx (fun i => ih i (a0 := Go.undef) (show VV μ H1 ω1 none ((#[] : Array Value).getD i Go.undef) Go.undef from by simpa using VV.undef))
  | tuple _ k => exact .tuple hx (fun i => ih i (k i))
structure Ext (S S1 : zi) : Prop where
 next : S.next ≤ S1.next
 get : ∀ k, k < S.next → S1.get k = S.get k
 log : ∃ new, S1.log = new ++ S.log ∧ ∀ k ∈ new, S.next ≤ k
theorem Ext.refl (S : zi) : Ext S S := ⟨Nat.le_refl _, fun _ _ => rfl, [], rfl, fun k h => by cases h⟩
theorem Ext.trans {S2 : zi} (h : Ext S S1) (k : Ext S1 S2) : Ext S S2 := ⟨Nat.le_trans h.1 k.1, fun q hq => (k.2 q (Nat.lt_of_lt_of_le hq h.1)).trans (h.2 q hq), by
 obtain ⟨n1, e1, f1⟩ := h.log
 obtain ⟨n2, e2, f2⟩ := k.log
 refine ⟨n2 ++ n1, by rw [e2, e1, List.append_assoc], fun q hq => ?_⟩
 rcases List.mem_append.1 hq with hq | hq
 ·
  exact Nat.le_trans h.1 (f2 q hq)
 ·
  exact f1 q hq⟩
theorem Ext.push (S : zi) (o : yG) : Ext S (S.push o) := ⟨by simp, fun k hk => by rw [zi.jm, if_neg (by omega)], [], rfl, fun k h => by cases h⟩
theorem Ext.set {S S1 : zi} (h : Ext S S1) {r : Nat} (hr : S.next ≤ r) (o : yG) : Ext S (S1.set r o) := ⟨by simpa using h.1, fun k hk => by rw [zi.jF, if_neg (by omega)]; exact h.2 k hk, by
 obtain ⟨n1, e1, f1⟩ := h.log
 refine ⟨r :: n1, by rw [zi.YH, e1]; rfl, fun q hq => ?_⟩
 rcases List.mem_cons.1 hq with rfl | hq
 ·
  exact hr
 ·
  exact f1 q hq⟩
theorem GI.cut (hG : GI μ S H) (hG1 : GI μ1 S1 H1) (hE : Ext S S1) : GI (YF S.next S.log μ1) S H1 := by
 have lt : ∀ {q o}, S.get q = some o → o.alive = true → q < S.next := fun {q o} h ha => by
  obtain ⟨r, o', h1, _⟩ := hG.obj q o h ha
  exact Nat.lt_of_not_le fun hn => by rw [hG.fresh q hn] at h1; cases h1
 refine ⟨fun q o ho ha => ?_, fun q q' r h1 h2 => hG1.inj q q' r (ql h1).1 (ql h2).1, fun q r b h => hG1.lt q r b (ql h).1, fun q h => if_neg (by omega), fun q r h => hG1.vis q r (ql h).1, hG1.hlt, rfl, hG.anc⟩
 have hq := lt ho ha
 obtain ⟨r1, o1, h1, h2, h3⟩ := hG1.obj q o (by rw [hE.2 q hq]; exact ho) ha
 obtain ⟨r0, o0, k1, k2, k3⟩ := hG.obj q o ho ha
 refine ⟨r1, o1, by rw [xA hq]; exact h1, h2, ?_⟩
 cases o with
 | cells cs own esz =>
  cases o1 with
  | cells cs1 own1 esz1 =>
   cases o0 with
   | cells cs0 own0 esz0 =>
    obtain ⟨e1, w1, l1⟩ := h3
    obtain ⟨e0, w0, l0⟩ := k3
    refine ⟨e1, ?_, l1.1, fun i => (l1.2 i).cut hG.fresh (l0.2 i)⟩
    cases own with
    | ro => cases own1 with
     | ro => exact True.intro
     | own a => exact w1.elim
    | own a => cases own1 with
     | ro => exact w1.elim
     | own a1 => cases own0 with
      | ro => exact w0.elim
      | own a0 =>
       refine Wv.mono w1 fun b hb r hr => ?_
       obtain ⟨r2, h2⟩ := Wv.left w0 b hb
       rw [xA (Nat.lt_of_not_le fun hn => by rw [hG.fresh b hn] at h2; cases h2)]
       exact hr
   | map es c => exact k3.elim
   | dead => exact k3.elim
  | map es c => exact h3.elim
  | dead => exact h3.elim
 | map es c =>
  cases o1 with
  | map es1 c1 =>
   cases o0 with
   | map es0 c0 =>
    obtain ⟨e1, w1, l1⟩ := h3
    obtain ⟨e0, w0, l0⟩ := k3
    refine ⟨e1, w1, fun i e he => ?_⟩
    obtain ⟨e', p1, p2, p3, p4⟩ := l1 i e he
    obtain ⟨e'', q1, q2, q3, q4⟩ := l0 i e he
    exact ⟨e', p1, p2, p3, p4.cut hG.fresh q4⟩
   | cells cs own e => exact k3.elim
   | dead => exact k3.elim
  | cells cs own e => exact h3.elim
  | dead => exact h3.elim
 | dead => cases ha
inductive Lower (S : zi) (v1 : Value) (S1 : zi) : Value → Prop
 | same (h : ground v1 = true) : Lower S v1 S1 v1
 | own {r n e : Nat} {cs : List Value} (hv : v1 = .slice (some ⟨r, 0, none⟩) n n) (hr : S.next ≤ r) (hg : S1.get r = some (.cells cs (.own []) e)) (hn : cs.length = n * e) (hs : cs.all sg = true) : Lower S v1 S1 (SL 2 e n cs)
theorem afY {O0 : Ora} (hO : KI P O0) {f : FuncId} {q : List Value → M Value} (h : ∀ args S v S', q args S = some (v, S') → S' = S ∧ ∃ v1 S1, jc P O0 f args S = some (v1, S1) ∧ Ext S S1 ∧ Lower S v1 S1 v) :
  Zx P (fun g args => if g = f then q args else fun _ => none) := by
 intro g args aargs S v S' hq μ H ω hG hA hD hE
 dsimp only at hq
 split at hq
 ·
  rename_i hgf
  subst hgf
  obtain ⟨rfl, v1, S1, hv, hx, hlow⟩ := h _ _ _ _ hq
  obtain ⟨a, H1, μ1, ω1, k1, k2, k3, k4, k5, k6⟩ := aak hO g args aargs S' v1 S1 hv μ H ω hG hA hD hE
  have hL : Later μ H (YF S'.next S'.log μ1) H1 := by
   refine ⟨fun q r b hm => ?_, k3.next, fun q r hm => k3.new q r (ql hm).1, k3.hid, k3.same, (by
    obtain ⟨new, n1, n2⟩ := k3.still
    obtain ⟨nx, x1, x2⟩ := hx.log
    refine ⟨[], by show S'.log = _; rw [hG.log]; rfl, fun q r hq _ => ?_⟩
    have hqn : q < S'.next := Nat.lt_of_not_le fun hn => by rw [hG.fresh q hn] at hq; cases hq
    have hnew : q ∉ new := fun hm => by
     rw [k2.log, hG.log, x1] at n1
     have := List.append_cancel_right n1
     subst this
     have := x2 q hm
     omega
    obtain ⟨p1, p2⟩ := n2 q r hq hnew
    exact ⟨by rw [xA hqn]; exact p1, p2⟩), fun r l own e hr hp hg => k3.cells r l own e hr hp hg⟩
   obtain ⟨b', hb⟩ := k3.mu q r b hm
   exact ⟨b', by rw [xA (Nat.lt_of_not_le fun hn => by rw [hG.fresh q hn] at hm; cases hm)]; exact hb⟩
  have hDom : Dom (YF S'.next S'.log μ1) H1 ω1 := fun r s hr => ⟨(k5 r s hr).1, (k5 r s hr).2.cut⟩
  cases hlow with
  | same hgr =>
   have : a = v := jo k6.v0 hgr
   subst this
   exact ⟨a, H1, _, ω1, k1, hG.cut k2 hx, hL, k4, hDom, VV.wo hgr⟩
  | @own r n e cs hv1 hr hg hn hs =>
   subst hv1
   cases k6 with
   | sg hs => simp [Go.Abs.sg] at hs
   | @slm _ _ _ r' b _ hm =>
    obtain ⟨r2, l, own', ho, hm', hg', hl⟩ := k2.cells hg
    rw [hm] at hm'; cases hm'
    cases own' with
    | ro => exact ho.elim
    | own anc' =>
    have hpr : Jh (YF S'.next S'.log μ1) r' := ⟨fun q hq => by
     obtain ⟨h1, h2⟩ := ql hq
     have := k2.inj q r r' h1 hm
     omega, k2.vis r r' hm⟩
    have hnω : ∀ x s, ω1 x = some s → x ≠ r' := fun x s hx e => (k5 x s hx).2.1 r (by rw [e]; exact hm)
    refine ⟨_, H1, _, fun x => if x = r' then some (.res none) else ω1 x, k1, hG.cut k2 hx, hL, fun x hx => ?_, fun x s hx => ?_, ?_⟩
    ·
     obtain ⟨e1, e2⟩ := k4 x hx
     exact ⟨by dsimp only; rw [if_neg (hnω x _ e1)]; exact e1, e2⟩
    ·
     dsimp only at hx
     split at hx
     ·
      rename_i e1; subst e1; exact ⟨k2.lt r x _ hm, hpr⟩
     ·
      exact hDom x s hx
    ·
     refine .so (by simp) (k2.lt r r' _ hm) hpr hg' (by rw [← hl.1]; exact hn) (by simpa using hn) fun i hi => ?_
     have h2 := hl.2 i
     have hi' : i < cs.length := by omega
     have hsi : sg (cs.getD i undef) = true := by
      rw [List.getD_eq_getElem?_getD, List.getElem?_eq_getElem hi']
      exact List.all_eq_true.1 hs _ (List.getElem_mem hi')
     have : l.getD i undef = cs.getD i undef := by
      generalize cs.getD i undef = u at h2 hsi
      generalize l.getD i undef = u' at h2
      cases h2 <;> first | rfl | (simp [Go.Abs.sg] at hsi)
     simp only [List.toList_toArray]
     rw [this]
     exact .sg hsi
 ·
  cases hq
end
end Go.Abs
namespace Go.Abs
open Go.RowKit
section
variable {P : Program} {S : zi} {t te tx tex : TypeId} {q o n c e i r : Nat} {cs : List Value} {own : Own} {anc : List Nat} {v x : Value} {hp : Bool}
theorem xW (a : Addr) (S : zi) : qp (.pointer (some a)) S = some (.pointer (some a), S) := Eq.trans rfl rfl
theorem YT (h : S.get q = some (.cells cs own e)) (ha : qg P t = some false) (hv : cs[o]? = some v) (hn : ∀ l, v ≠ .agg l) : jw P false t (.pointer (some ⟨q, o, none⟩)) S = some (dem v, S) := by
 unfold jw
 simp only [Bool.false_eq_true, if_false]
 have : wY P t (.pointer (some ⟨q, o, none⟩)) S = some (v, S) := by simp only [wY, h, ha, hv]
 rw [this]
 split
 ·
  rename_i l S2 he; cases he; exact absurd rfl (hn _)
 ·
  rename_i v2 S2 _ he; cases he; rfl
 ·
  rename_i he; cases he
theorem Jm {k : IntKind} {m : Int} (h : S.get q = some (.cells cs own e)) (ha : qg P t = some false) (hv : cs[o]? = some (.int k m)) : jw P false t (.pointer (some ⟨q, o, none⟩)) S = some (.int k m, S) :=
 YT h ha hv (fun l h => by cases h)
theorem Y1 {a : Option Addr} {n c : Nat} (h : S.get q = some (.cells cs own e)) (ha : qg P t = some false) (hv : cs[o]? = some (.slice a n c)) : jw P false t (.pointer (some ⟨q, o, none⟩)) S = some (.slice a n c, S) :=
 YT h ha hv (fun l h => by cases h)
theorem adA (h : S.get q = some (.cells cs own e)) (ha : qg P t = some true) (hs : qR P t = some n) (hle : o + n ≤ cs.length) : jw P false t (.pointer (some ⟨q, o, none⟩)) S = some (.agg (((cs.drop o).take n).toArray.map qP), S) := by
 unfold jw
 simp only [Bool.false_eq_true, if_false]
 have : wY P t (.pointer (some ⟨q, o, none⟩)) S = some (.agg ((cs.drop o).take n).toArray, S) := by simp only [wY, h, ha, hs, if_pos hle]
 rw [this]
theorem Kv (h : S.get q = some (.cells cs (.own anc) e)) (hs : qR P t = some n) (hx : x.cells.size = n) (h1 : x.cells.toList.all (·.oneCell') = true) (hle : o + n ≤ cs.length) :
  yU P t (.pointer (some ⟨q, o, none⟩)) x S = some (undef, (S.kills anc).set q (.cells (splice cs o x.cells.toList) (.own []) e)) := by
 simp only [yU, vX, h, hs, if_pos hx, if_pos h1, if_pos hle]
theorem aaw (ht : P.underlying t = some (.slice te)) (a : Option Addr) (n c : Nat) (S : zi) : qM P t (.slice a n c) S = some (goInt n, S) := by
 simp only [qM, QI, ht]
theorem abq {lo hi : Option Value} {l h : Int} {dr : Bool} (hd : dr = false) (hg : S.get q = some (.cells cs own e)) (ht : P.underlying t = some (.slice te)) (hs : qR P te = some e) (hl : y5 0 lo = some l) (hh : y5 n hi = some h) (h0 : 0 ≤ l) (h1 : l ≤ h) (h2 : h ≤ n) :
  wz P dr t (.slice (some ⟨q, o, none⟩) n c) lo hi S = some (.slice (some ⟨q, o + l.toNat * e, none⟩) (h.toNat - l.toNat) (h.toNat - l.toNat), S) := by
 subst hd
 simp only [wz, Y4, if_true, Bool.false_eq_true, if_false, y9, ht, hs, hl, hh, if_pos h0, if_pos h1, if_pos h2, hg]
theorem aat {lo hi : Option Value} {l h : Int} {dr : Bool} (ht : P.underlying t = some (.slice te)) (hs : qR P te = some e) (hl : y5 0 lo = some l) (hh : y5 0 hi = some h) (h0 : 0 ≤ l) (h1 : l ≤ h) (h2 : h ≤ 0) :
  wz P dr t (.slice none 0 0) lo hi S = some (.slice none 0 0, S) := by
 have h2' : h ≤ ((0 : Nat) : Int) := h2
 simp only [wz, Y4, Bool.false_eq_true, if_false, yT, ht, vSl, hs, hl, hh, if_pos h0, if_pos h1, if_pos h2']
theorem aeX {k m : Nat} {ds : List Value} (htx : P.underlying tx = some (.slice tex)) (hx : Okv k m ds) (hm : ds.length = m * e) (h2 : ds.all (·.oneCell') = true) : aeQ P tx e (sv k e m ds) = some (m, ds) := by
 obtain ⟨e', q1, q2⟩ := XY (e := e) hx
 have hns : ∀ s, sv k e m ds ≠ .string s := by intro s; unfold sv; split <;> (intro h; cases h)
 have hcond : m = 0 ∨ e' = e := q2.elim .inr fun h => .inl h.1
 unfold aeQ
 split
 ·
  rename_i s hs; exact absurd hs (hns s)
 ·
  simp only [htx, q1, if_pos hcond, if_pos hm, h2, if_true]
theorem acZ {k m : Nat} {ds : List Value} (htx : P.underlying tx = some (.slice tex)) (hx : Okv k m ds) (hm : ds.length = m * e) (h2 : ds.all (·.oneCell') = true) : WA P tx e (sv k e m ds) S = some (m, ds) := by
 unfold WA
 rw [J4]
 exact aeX htx hx hm h2
theorem Vp {bytes k : Nat} {z : Value} {news : List Value} (hel : P.underlying t = some (.slice te)) (he : qR P te = some e) (hz : zeroOf P te = some z) (hzs : z.cells.size = e) (hb : bytesOf P te = some bytes) (hpos : 0 < e) (hsrc : WA P tx e x S = some (k, news))
  (hg : S.get q = some (.cells cs (.own anc) e)) (hle : o + n * e ≤ cs.length) (hmax : (n + k) * bytes ≤ 140737488355328) (hmax2 : n + k ≤ 4611686018427387903) (h1 : ((cs.drop o).take (n * e)).all (·.oneCell') = true) :
  y8 P hp t tx (.slice (some ⟨q, o, none⟩) n c) x S = some (.slice (some ⟨S.next, 0, none⟩) (n + k) (n + k),
   if o + n * e = cs.length then (S.set q (.cells cs .ro e)).push (.cells ((cs.drop o).take (n * e) ++ news) (.own (if n * e = 0 then [] else q :: anc)) e)
   else ((S.kills anc).set q .dead).push (.cells ((cs.drop o).take (n * e) ++ news) (.own []) e)) := by
 have hel2 : wE P t = some te := by simp only [wE, hel]
 simp only [y8, hel2, he, hz, hb, if_pos hpos, if_pos hzs, hsrc, hg, if_true, if_pos hle, if_pos hmax, if_pos hmax2, if_pos h1, yQ]
 by_cases h : o + n * e = cs.length
 ·
  rw [if_pos h, if_pos h]
 ·
  rw [if_neg h, if_neg h]
theorem VE {bytes k : Nat} {z : Value} {news : List Value} (hel : P.underlying t = some (.slice te)) (he : qR P te = some e) (hz : zeroOf P te = some z) (hzs : z.cells.size = e) (hb : bytesOf P te = some bytes) (hpos : 0 < e) (hsrc : WA P tx e x S = some (k, news))
  (hmax : k * bytes ≤ 140737488355328) (hmax2 : k ≤ 4611686018427387903) :
  y8 P true t tx (.slice none 0 0) x S = some (if k = 0 then .slice none 0 0 else .slice (some ⟨S.next, 0, none⟩) k k, if k = 0 then S else S.push (.cells news (.own []) e)) := by
 have hel2 : wE P t = some te := by simp only [wE, hel]
 simp only [y8, hel2, he, hz, hb, if_pos hpos, if_pos hzs, hsrc, if_pos hmax, if_pos hmax2, if_true]
 by_cases h : k = 0
 ·
  rw [if_pos h, if_pos h, if_pos h]
 ·
  rw [if_neg h, if_neg h, if_neg h]
theorem aeY {r2 o2 c2 : Nat} {cs2 : List Value} {own2 : Own} {e2 : Nat} (ht : P.underlying t = some (.slice te)) (hs : qR P te = some e) (hg2 : S.get r2 = some (.cells cs2 own2 e2)) (hle2 : o2 + n * e ≤ cs2.length) (hg : S.get q = some (.cells cs (.own anc) i)) (hn : n ≠ 0) (hle : o + n * e ≤ cs.length) (h1 : ((cs2.drop o2).take (n * e)).all (·.oneCell') = true) :
  WG P t tx (.slice (some ⟨q, o, none⟩) n c) (.slice (some ⟨r2, o2, none⟩) n c2) S = some (goInt n, (S.kills anc).set q (.cells (splice cs o ((cs2.drop o2).take (n * e))) (.own []) i)) := by
 have hel2 : wE P t = some te := by simp only [wE, ht]
 have hmin : Nat.min n n = n := Nat.min_self n
 simp only [WG, hel2, hs, JO, hmin, if_neg hn, hg, wS, hg2, if_pos hle2, if_pos hle, h1, if_true]
theorem QH (ht : P.underlying t = some (.slice te)) (hs : qR P te = some e) (c2 : Nat) (s : Value) (hsn : ∃ f, JO s S = some (0, f)) (a : Option Addr) (ha : a = none ∨ ∃ q o, a = some ⟨q, o, none⟩) : WG P t tx (.slice a 0 0) s S = some (goInt 0, S) := by
 have hel2 : wE P t = some te := by simp only [wE, ht]
 obtain ⟨f, hf⟩ := hsn
 have hmin : Nat.min 0 0 = 0 := Nat.min_self 0
 rcases ha with rfl | ⟨q, o, rfl⟩
 ·
  simp only [WG, hel2, hs, hf]
 ·
  simp only [WG, hel2, hs, hf, hmin, if_true]
theorem XO {l : Nat} {k k2 : IntKind} {z : Value} {bytes : Nat} (ht : P.underlying t = some (.slice te)) (he : qR P te = some e) (hz : zeroOf P te = some z) (hb : bytesOf P te = some bytes) (hgz : ground z = true) (hzs : z.cells.size = e) (hpos : 0 < e) (hmax : l * bytes ≤ 140737488355328) (hmax2 : l ≤ 9223372036854775807) :
  jO P t (.int k l) (.int k2 l) S = some (.slice (some ⟨S.next, 0, none⟩) l l, S.push (.cells (zl z.cells.toList l) (.own []) e)) := by
 have hel2 : wE P t = some te := by simp only [wE, ht]
 have h0 : (0 : Int) ≤ (l : Int) := by omega
 have h1 : (l : Int) * bytes ≤ 140737488355328 := by
  have h : ((l * bytes : Nat) : Int) ≤ 140737488355328 := by omega
  rwa [Int.natCast_mul] at h
 have h2 : (l : Int) ≤ 9223372036854775807 := by omega
 simp only [jO, hel2, he, hz, hb, if_pos hgz, if_pos hzs, if_pos hpos, if_pos h0, Int.le_refl, if_true, if_pos h1, if_pos h2, Int.toNat_natCast]
end
theorem Jq {α : Type} {f : α → List Value} {e k d : Nat} {l : List α} (hk : k ≤ 2) (h : ∀ x ∈ l, (f x).all (jy d) = true) : jy (d + 4) (vs f e k l) = true := by
 unfold vs sv
 split
 ·
  rfl
 ·
  show ((l.flatMap f).toArray.toList.all (jy d)) = true
  rw [List.toList_toArray, List.all_flatMap, List.all_eq_true]
  exact h
theorem vG {k d : Nat} {l : List UInt8} (hk : k ≤ 2) : jy (d + 5) (by_ k l) = true := Jq hk (fun _ _ => rfl)
theorem abC {l : List Value} {d : Nat} (h : l.all (jy d) = true) : jy (d + 1) (.agg l.toArray) = true := by
 show l.toArray.toList.all (jy d) = true
 simpa using h
theorem qh {l : List Value} {d : Nat} (h : l.all (jy d) = true) : jy (d + 1) (.tuple l.toArray) = true := by
 show l.toArray.toList.all (jy d) = true
 simpa using h
theorem all1 {p : Value → Bool} {a : Value} (h : p a = true) : [a].all p = true := by simp [h]
theorem all2 {p : Value → Bool} {a b : Value} (h : p a = true) (k : p b = true) : [a, b].all p = true := by simp [h, k]
theorem agI {p : Value → Bool} {a b c : Value} (h : p a = true) (k : p b = true) (j : p c = true) : [a, b, c].all p = true := by simp [h, k, j]
theorem acN {k e n : Nat} {cs : List Value} : (sv k e n cs).cells = #[sv k e n cs] := by unfold sv; split <;> rfl
theorem XU {α : Type} {f : α → List Value} {e k : Nat} {l : List α} : (vs f e k l).cells = #[vs f e k l] := acN
theorem afl {k e n : Nat} {cs : List Value} : qP (sv k e n cs) = sv (if k = 2 then 1 else k) e n cs := by rw [← X8]; unfold sv; split <;> rfl
theorem afk {α : Type} {f : α → List Value} {e k : Nat} {l : List α} : qP (vs f e k l) = vs f e (if k = 2 then 1 else k) l := afl
theorem ac4 {k : IntKind} {n : Int} : qP (.int k n) = .int k n := rfl
theorem vg {x : Array Value} : (Value.agg x).cells = x := rfl
theorem qC {k : IntKind} {n : Int} : (Value.int k n).cells = #[.int k n] := rfl
@[simp] theorem Q8 (a : Option Addr) (n c : Nat) : dem (.slice a n c) = .slice a n c := Eq.trans rfl rfl
@[simp] theorem abT (a : Option Nat) : dem (.map a) = .map a := Eq.trans rfl rfl
theorem wrap_i64 {n : Int} (h0 : -9223372036854775808 ≤ n) (h : n < 9223372036854775808) : IntKind.i64.wrap n = n := by
 simp [IntKind.wrap, IntKind.bits, IntKind.signed]
 split <;> omega
theorem Ju {l pre suf : List Int} {n : Int} (hl : l = pre ++ n :: suf) (h : Int.toNat (pre.length : Int) < l.length) : l[Int.toNat (pre.length : Int)] = n := by
 subst hl; simp
theorem acA {α : Type} {l pre suf : List α} {n : α} (hl : l = pre ++ n :: suf) (h : Int.toNat (pre.length : Int) < l.length) : l[Int.toNat (pre.length : Int)] = n := by
 subst hl; simp
theorem aej (k : Nat) : (if (if k = 2 then 1 else k) = 2 then 1 else if k = 2 then 1 else k) = if k = 2 then 1 else k := by split <;> simp_all
theorem afh (k : Nat) : (if k = 2 then 1 else k) ≠ 2 := by split <;> omega
theorem Z9 (Sa Sb : zi) : qN undef Sa Sb = true := rfl
theorem Qp (cs : List Value) (Sa Sb : zi) : qN (EP cs) Sa Sb = true := rfl
theorem JG {q o e : Nat} {cs : List Value} {own : Own} {S : zi} (h : S.get q = some (.cells cs own e)) : qN (.pointer (some ⟨q, o, none⟩)) S S = true := by
 simp only [qN, h, Nat.sub_self, List.take_zero, List.contains_nil, Bool.not_false, Bool.and_self]
end Go.Abs
namespace Go.Abs
open Go.RowKit
section
variable {P : Program} {fx : Fx} {chk : List Nat} {call : FuncId → List Value → M Value} {ops : Array Oper}
theorem sP (f : Func) (i n : Nat) {l : List Oper} {T : List Value} {T1 : Value → List Value} {S : zi} {v : Value} {r : Option (List Value × zi)} (hK : jl P fx call ops ((reg f i).toList.drop (n + 1)) (T1 v) S = r) (hl : l = (opAt f i n) :: ((reg f i).toList.drop (n + 1)) := by kernel_rfl) (hg : (opAt f i n).guard = none := by kernel_rfl) (hm : ∀ v, kS (opAt f i n) ((reg f i).toList.drop (n + 1)) T v = T1 v := by exact fun _ => rfl) (hs : jW P fx call T (opAt f i n) S = some (v, S) := by kernel_rfl) : jl P fx call ops l T S = r :=
 ab8 hl hg hm hs hK
theorem sD (f : Func) (i n : Nat) {l : List Oper} {T : List Value} {T1 : Value → List Value} {S : zi} {s : Option (Value × zi)} {K : Value → zi → Option (List Value × zi)} (hK : ∀ v S1, jl P fx call ops ((reg f i).toList.drop (n + 1)) (T1 v) S1 = K v S1) (hl : l = (opAt f i n) :: ((reg f i).toList.drop (n + 1)) := by kernel_rfl) (hg : (opAt f i n).guard = none := by kernel_rfl) (hm : ∀ v, kS (opAt f i n) ((reg f i).toList.drop (n + 1)) T v = T1 v := by exact fun _ => rfl) (hs : jW P fx call T (opAt f i n) S = s := by kernel_rfl) : jl P fx call ops l T S = zW s K () :=
 aeN hl hg hm hs hK
theorem sG (f : Func) (i n : Nat) {l : List Oper} {T : List Value} {T1 : Value → List Value} {S : zi} {j : Nat} {b : Bool} {g : Value} {s : M Value} {K : Value → zi → Option (List Value × zi)} (hK : ∀ v S1, jl P fx call ops ((reg f i).toList.drop (n + 1)) (T1 v) S1 = K v S1) (hl : l = (opAt f i n) :: ((reg f i).toList.drop (n + 1)) := by kernel_rfl) (hg : (opAt f i n).guard = some (j, b) := by kernel_rfl) (hm : ∀ v, kS (opAt f i n) ((reg f i).toList.drop (n + 1)) T v = T1 v := by exact fun _ => rfl) (hy : ynd ops T j = vb g := by kernel_rfl) (hs : jW P fx call T (opAt f i n) S = s S := by kernel_rfl) : jl P fx call ops l T S = gdK g b s S K () :=
 aeD hl hg hm hy hs hK
theorem tD (f : Func) (i n : Nat) {l : List Oper} {T : List Value} {T1 : Value → List Value} {S : zi} {k : Nat} {s : Option (Value × zi)} {K : Value → zi → Option (List Value × zi)} (hK : ∀ v S1, jH P fx chk [] call ops (k + 1) [] ((reg f i).toList.drop (n + 1)) (T1 v) S1 = K v S1) (hc : chk.contains k = false := by kernel_rfl) (hl : l = (opAt f i n) :: ((reg f i).toList.drop (n + 1)) := by kernel_rfl) (hg : (opAt f i n).guard = none := by kernel_rfl) (hm : ∀ v, kS (opAt f i n) ((reg f i).toList.drop (n + 1)) T v = T1 v := by exact fun _ => rfl) (hs : jW P fx call T (opAt f i n) S = s := by kernel_rfl) : jH P fx chk [] call ops k [] l T S = zW s K () :=
 adG hc hl hg hm hs hK
theorem tDC (f : Func) (i n : Nat) {l : List Oper} {T : List Value} {T1 : Value → List Value} {S : zi} {k : Nat} {s : Option (Value × zi)} {K : Value → zi → Option (List Value × zi)} (hK : ∀ v S1, jH P fx chk [] call ops (k + 1) [] ((reg f i).toList.drop (n + 1)) (T1 v) S1 = K v S1) (hc : chk.contains k = true := by kernel_rfl) (hl : l = (opAt f i n) :: ((reg f i).toList.drop (n + 1)) := by kernel_rfl) (hg : (opAt f i n).guard = none := by kernel_rfl) (hm : ∀ v, kS (opAt f i n) ((reg f i).toList.drop (n + 1)) T v = T1 v := by exact fun _ => rfl) (hs : jW P fx call T (opAt f i n) S = s := by kernel_rfl) : jH P fx chk [] call ops k [] l T S = zW s (fun v S1 => okK v (K v S1) ()) () :=
 abS hc hl hg hm hs hK
theorem tP (f : Func) (i n : Nat) {l : List Oper} {T : List Value} {T1 : Value → List Value} {S : zi} {k : Nat} {v : Value} {r : Option (List Value × zi)} (hK : jH P fx chk [] call ops (k + 1) [] ((reg f i).toList.drop (n + 1)) (T1 v) S = r) (hc : chk.contains k = false := by kernel_rfl) (hl : l = (opAt f i n) :: ((reg f i).toList.drop (n + 1)) := by kernel_rfl) (hg : (opAt f i n).guard = none := by kernel_rfl) (hm : ∀ v, kS (opAt f i n) ((reg f i).toList.drop (n + 1)) T v = T1 v := by exact fun _ => rfl) (hs : jW P fx call T (opAt f i n) S = some (v, S) := by kernel_rfl) : jH P fx chk [] call ops k [] l T S = r :=
 Vj hc hl hg hm hs hK
theorem tPC (f : Func) (i n : Nat) {l : List Oper} {T : List Value} {T1 : Value → List Value} {S : zi} {k : Nat} {v : Value} {r : Option (List Value × zi)} (hK : jH P fx chk [] call ops (k + 1) [] ((reg f i).toList.drop (n + 1)) (T1 v) S = r) (hc : chk.contains k = true := by kernel_rfl) (hl : l = (opAt f i n) :: ((reg f i).toList.drop (n + 1)) := by kernel_rfl) (hg : (opAt f i n).guard = none := by kernel_rfl) (hm : ∀ v, kS (opAt f i n) ((reg f i).toList.drop (n + 1)) T v = T1 v := by exact fun _ => rfl) (hs : jW P fx call T (opAt f i n) S = some (v, S) := by kernel_rfl) : jH P fx chk [] call ops k [] l T S = okK v r () :=
 KO hc hl hg hm hs hK
theorem tG (f : Func) (i n : Nat) {l : List Oper} {T : List Value} {T1 : Value → List Value} {S : zi} {j k : Nat} {b : Bool} {g : Value} {s : M Value} {K : Value → zi → Option (List Value × zi)} (hK : ∀ v S1, jH P fx chk [] call ops (k + 1) [] ((reg f i).toList.drop (n + 1)) (T1 v) S1 = K v S1) (hc : chk.contains k = false := by kernel_rfl) (hl : l = (opAt f i n) :: ((reg f i).toList.drop (n + 1)) := by kernel_rfl) (hg : (opAt f i n).guard = some (j, b) := by kernel_rfl) (hm : ∀ v, kS (opAt f i n) ((reg f i).toList.drop (n + 1)) T v = T1 v := by exact fun _ => rfl) (hy : ynd ops T j = vb g := by kernel_rfl) (hs : jW P fx call T (opAt f i n) S = s S := by kernel_rfl) : jH P fx chk [] call ops k [] l T S = gdK g b s S K () :=
 ac3 hc hl hg hm hy hs hK
theorem uD (f : Func) (i n : Nat) {l : List Oper} {T : List Value} {T1 : Value → List Value} {S : zi} {k : Nat} {s : Option (Value × zi)} {K : Value → zi → Option (List Value × zi)} {x : Nat × Nat} {nl : List (Nat × Nat)} {hist : List (Value × zi)} {pe : Value} (hK : ∀ v S1, jH P fx chk (x :: nl) call ops (k + 1) (hist ++ [(pe, S)]) ((reg f i).toList.drop (n + 1)) (T1 v) S1 = K v S1) (hc : chk.contains k = false := by kernel_rfl) (hpe : kT T (opAt f i n) = pe := by kernel_rfl) (hl : l = (opAt f i n) :: ((reg f i).toList.drop (n + 1)) := by kernel_rfl) (hg : (opAt f i n).guard = none := by kernel_rfl) (hm : ∀ v, kS (opAt f i n) ((reg f i).toList.drop (n + 1)) T v = T1 v := by exact fun _ => rfl) (hs : jW P fx call T (opAt f i n) S = s := by kernel_rfl) : jH P fx chk (x :: nl) call ops k hist l T S = zW s K () :=
 adD hc hpe hl hg hm hs hK
theorem uDC (f : Func) (i n : Nat) {l : List Oper} {T : List Value} {T1 : Value → List Value} {S : zi} {k : Nat} {s : Option (Value × zi)} {K : Value → zi → Option (List Value × zi)} {x : Nat × Nat} {nl : List (Nat × Nat)} {hist : List (Value × zi)} {pe : Value} (hK : ∀ v S1, jH P fx chk (x :: nl) call ops (k + 1) (hist ++ [(pe, S)]) ((reg f i).toList.drop (n + 1)) (T1 v) S1 = K v S1) (hc : chk.contains k = true := by kernel_rfl) (hpe : kT T (opAt f i n) = pe := by kernel_rfl) (hl : l = (opAt f i n) :: ((reg f i).toList.drop (n + 1)) := by kernel_rfl) (hg : (opAt f i n).guard = none := by kernel_rfl) (hm : ∀ v, kS (opAt f i n) ((reg f i).toList.drop (n + 1)) T v = T1 v := by exact fun _ => rfl) (hs : jW P fx call T (opAt f i n) S = s := by kernel_rfl) : jH P fx chk (x :: nl) call ops k hist l T S = zW s (fun v S1 => okK v (K v S1) ()) () :=
 aaO hc hpe hl hg hm hs hK
theorem uP (f : Func) (i n : Nat) {l : List Oper} {T : List Value} {T1 : Value → List Value} {S : zi} {k : Nat} {v : Value} {r : Option (List Value × zi)} {x : Nat × Nat} {nl : List (Nat × Nat)} {hist : List (Value × zi)} {pe : Value} (hK : jH P fx chk (x :: nl) call ops (k + 1) (hist ++ [(pe, S)]) ((reg f i).toList.drop (n + 1)) (T1 v) S = r) (hc : chk.contains k = false := by kernel_rfl) (hpe : kT T (opAt f i n) = pe := by kernel_rfl) (hl : l = (opAt f i n) :: ((reg f i).toList.drop (n + 1)) := by kernel_rfl) (hg : (opAt f i n).guard = none := by kernel_rfl) (hm : ∀ v, kS (opAt f i n) ((reg f i).toList.drop (n + 1)) T v = T1 v := by exact fun _ => rfl) (hs : jW P fx call T (opAt f i n) S = some (v, S) := by kernel_rfl) : jH P fx chk (x :: nl) call ops k hist l T S = r :=
 Vo hc hpe hl hg hm hs hK
theorem uPC (f : Func) (i n : Nat) {l : List Oper} {T : List Value} {T1 : Value → List Value} {S : zi} {k : Nat} {v : Value} {r : Option (List Value × zi)} {x : Nat × Nat} {nl : List (Nat × Nat)} {hist : List (Value × zi)} {pe : Value} (hK : jH P fx chk (x :: nl) call ops (k + 1) (hist ++ [(pe, S)]) ((reg f i).toList.drop (n + 1)) (T1 v) S = r) (hc : chk.contains k = true := by kernel_rfl) (hpe : kT T (opAt f i n) = pe := by kernel_rfl) (hl : l = (opAt f i n) :: ((reg f i).toList.drop (n + 1)) := by kernel_rfl) (hg : (opAt f i n).guard = none := by kernel_rfl) (hm : ∀ v, kS (opAt f i n) ((reg f i).toList.drop (n + 1)) T v = T1 v := by exact fun _ => rfl) (hs : jW P fx call T (opAt f i n) S = some (v, S) := by kernel_rfl) : jH P fx chk (x :: nl) call ops k hist l T S = okK v r () :=
 Xq hc hpe hl hg hm hs hK
theorem uG (f : Func) (i n : Nat) {l : List Oper} {T : List Value} {T1 : Value → List Value} {S : zi} {j k : Nat} {b : Bool} {g : Value} {s : M Value} {K : Value → zi → Option (List Value × zi)} {x : Nat × Nat} {nl : List (Nat × Nat)} {hist : List (Value × zi)} {pe : Value} (hK : ∀ v S1, jH P fx chk (x :: nl) call ops (k + 1) (hist ++ [(pe, S)]) ((reg f i).toList.drop (n + 1)) (T1 v) S1 = K v S1) (hc : chk.contains k = false := by kernel_rfl) (hpe : kT T (opAt f i n) = pe := by kernel_rfl) (hl : l = (opAt f i n) :: ((reg f i).toList.drop (n + 1)) := by kernel_rfl) (hg : (opAt f i n).guard = some (j, b) := by kernel_rfl) (hm : ∀ v, kS (opAt f i n) ((reg f i).toList.drop (n + 1)) T v = T1 v := by exact fun _ => rfl) (hy : ynd ops T j = vb g := by kernel_rfl) (hs : jW P fx call T (opAt f i n) S = s S := by kernel_rfl) : jH P fx chk (x :: nl) call ops k hist l T S = gdK g b s S K () :=
 acV hc hpe hl hg hm hy hs hK
end
end Go.Abs
namespace Go.Proofs.Ytblpnklfimkfoaa
open Go.Abs
def O0 : Ora := ⟨fun _ => none, fun f => ([23, 25, 40] : List Nat).contains f, fun f => ([9, 11, 12, 13, 16, 18, 20, 22, 24, 29, 31, 37, 38, 41] : List Nat).contains f⟩
theorem aeC : KI Try.prog O0 := adl
end Go.Proofs.Ytblpnklfimkfoaa
namespace Go.Proofs.Ytblpnklfimkfoaa
open Go.Abs
abbrev zU.id : FuncId := 25
noncomputable def zU.code : Code := (Code.seq (Code.region 0 (reg Try.f25 0) false) (Code.seq (Code.region 1 (reg Try.f25 1) false) (Code.seq (Code.region 2 (reg Try.f25 2) false) (Code.seq (Code.region 3 (reg Try.f25 3) false) Code.ret))))
theorem zU.body : Try.f25.body = some zU.code := by kernel_rfl
variable (b m u c o p q r s t d f g i j k l : Value) (S : zi)
theorem zU.r0  : jl Try.prog ⟨true, false, false⟩ (qK O0.hp true (jc Try.prog O0)) (reg Try.f25 0) (reg Try.f25 0).toList ([b,m,u,c,o,p,q,r,s,t,d,f,g,i,j,k,l]) S =
  ( some ([b,m,Value.slice none 0 0,c,o,p,q,r,s,t,d,f,g,i,j,k,l], S)) := by
 kernel_rfl
theorem zU.r1  : jl Try.prog ⟨true, false, false⟩ (qK O0.hp true (jc Try.prog O0)) (reg Try.f25 1) (reg Try.f25 1).toList ([b,m,u,c,o,p,q,r,s,t,d,f,g,i,j,k,l]) S =
  (zW (qp (dem b) S) (fun C n => zW (jf Try.prog 73 C 0 n) (fun w z => zW (jw Try.prog false 26 w z) (fun x A => zW (qM Try.prog 26 x A) (fun v B => zW (jO Try.prog 26 v v B) (fun y D => some ([b,m,u,y,dem b,C,w,x,v,dem y,d,f,g,i,j,k,l], D)) ()) ()) ()) ()) ()) := by
 kernel_rfl
theorem zU.r2  : jl Try.prog ⟨true, false, false⟩ (qK O0.hp true (jc Try.prog O0)) (reg Try.f25 2) (reg Try.f25 2).toList ([b,m,u,c,o,p,q,r,s,t,d,f,g,i,j,k,l]) S =
  (zW (qp (dem b) S) (fun w n => zW (jf Try.prog 73 w 0 n) (fun x z => zW (jw Try.prog false 26 x z) (fun v A => zW (WG Try.prog 26 26 (dem c) v A) (fun y B => some ([b,m,u,c,o,p,q,r,s,t,dem c,dem b,w,x,v,y,l], B)) ()) ()) ()) ()) := by
 kernel_rfl
theorem zU.r3  : jl Try.prog ⟨true, false, false⟩ (qK O0.hp true (jc Try.prog O0)) (reg Try.f25 3) (reg Try.f25 3).toList ([b,m,u,c,o,p,q,r,s,t,d,f,g,i,j,k,l]) S =
  ( some ([b,m,c,dem c,o,p,q,r,s,t,d,f,g,i,j,k,dem c], S)) := by
 kernel_rfl
theorem zU.rs : type_of% (And.intro @zU.r0 (And.intro @zU.r1 (And.intro @zU.r2 (@zU.r3)))) := And.intro @zU.r0 (And.intro @zU.r1 (And.intro @zU.r2 (@zU.r3)))
theorem zU.runs {b : Value} {S n : zi} {e : AEx} {T : List Value} (h : zI Try.prog O0 true zU.code ([b,undef,undef,undef,undef,undef,undef,undef,undef,undef,undef,undef,undef,undef,undef,undef,undef]) S = some (e, T, n)) (he : e = .normal ∨ e = .ret) : jc Try.prog O0 25 [b] S = some (T.getD 2 undef, n) :=
 jU rfl rfl Try.func25 (by decide) zU.body (by exact h) he (qW (a := T.getD 2 undef) ((show zV Try.prog T n Try.f25.results.toList = zV Try.prog T n [(ResultVar.tmp 2)] from by kernel_rfl).trans (by simp only [zV])) (by kernel_rfl))
end Go.Proofs.Ytblpnklfimkfoaa
namespace Go.Proofs.Ytblpnklfimkfoaa
open Go.Abs
theorem afH : Try.prog.underlying 3 = some (TypeDesc.int IntKind.i64) := by kernel_rfl
theorem af5 : qR Try.prog 3 = some 1 := by kernel_rfl
theorem agj : bytesOf Try.prog 3 = some 8 := by kernel_rfl
theorem agp : zeroOf Try.prog 3 = (some (Value.int IntKind.i64 0)) := by kernel_rfl
theorem aaT : qg Try.prog 3 = some false := by kernel_rfl
theorem KW : Try.prog.underlying 5 = some (TypeDesc.int IntKind.u8) := by kernel_rfl
theorem qL : qR Try.prog 5 = some 1 := by kernel_rfl
theorem J5 : bytesOf Try.prog 5 = some 1 := by kernel_rfl
theorem Wu : zeroOf Try.prog 5 = (some (Value.int IntKind.u8 0)) := by kernel_rfl
theorem aeI : qg Try.prog 5 = some false := by kernel_rfl
theorem adJ : Try.prog.underlying 9 = some TypeDesc.string := by kernel_rfl
theorem xq : Try.prog.underlying 22 = some (TypeDesc.slice 28) := by kernel_rfl
theorem jL : Try.prog.underlying 26 = some (TypeDesc.slice 5) := by kernel_rfl
theorem xR : qg Try.prog 26 = some false := by kernel_rfl
theorem kW : qR Try.prog 28 = some 5 := by kernel_rfl
theorem aa4 : bytesOf Try.prog 28 = some 56 := by kernel_rfl
theorem abZ : zeroOf Try.prog 28 = (some (Value.agg #[(Value.int IntKind.i64 0), (Value.int IntKind.i64 0), (Value.int IntKind.i64 0), (Value.int IntKind.i64 0), (Value.slice none 0 0)])) := by kernel_rfl
theorem Qx : qg Try.prog 28 = some true := by kernel_rfl
theorem YM : Try.prog.underlying 56 = some (TypeDesc.slice 3) := by kernel_rfl
theorem Jp : Try.prog.underlying 75 = some (TypeDesc.int IntKind.u64) := by kernel_rfl
theorem qw (q o : Nat) (S : zi) : jf Try.prog 28 (.pointer (some ⟨q, o, none⟩)) 0 S = some (.pointer (some ⟨q, o + 0, none⟩), S) := by kernel_rfl
theorem yB (q o : Nat) (S : zi) : jf Try.prog 28 (.pointer (some ⟨q, o, none⟩)) 1 S = some (.pointer (some ⟨q, o + 1, none⟩), S) := by kernel_rfl
theorem yu (q o : Nat) (S : zi) : jf Try.prog 28 (.pointer (some ⟨q, o, none⟩)) 2 S = some (.pointer (some ⟨q, o + 2, none⟩), S) := by kernel_rfl
theorem yx (q o : Nat) (S : zi) : jf Try.prog 28 (.pointer (some ⟨q, o, none⟩)) 3 S = some (.pointer (some ⟨q, o + 3, none⟩), S) := by kernel_rfl
theorem yE (q o : Nat) (S : zi) : jf Try.prog 28 (.pointer (some ⟨q, o, none⟩)) 4 S = some (.pointer (some ⟨q, o + 4, none⟩), S) := by kernel_rfl
theorem kM (q o : Nat) (S : zi) : jf Try.prog 73 (.pointer (some ⟨q, o, none⟩)) 0 S = some (.pointer (some ⟨q, o + 0, none⟩), S) := by kernel_rfl
theorem aaf {fx : Bool} {x0 x1 x2 x3 x4 : Value} {S : zi} : jw Try.prog fx 28 (EP [x0, x1, x2, x3, x4]) S = some (.agg [x0, x1, x2, x3, x4].toArray, S) := abu Qx kW rfl
theorem Vs {q : Nat} {x0 x1 x2 x3 x4 : Value} {own : Own} {e : Nat} {S : zi} (h : S.get q = some (.cells [x0, x1, x2, x3, x4] own e)) : jw Try.prog false 28 (.pointer (some ⟨q, 0, none⟩)) S = some (.agg [qP x0, qP x1, qP x2, qP x3, qP x4].toArray, S) := (adA (o := 0) h Qx kW (by simp)).trans (by simp)
theorem WM  (S : zi) : yh Try.prog 28 [] S = some (.agg [(Value.int IntKind.i64 0), (Value.int IntKind.i64 0), (Value.int IntKind.i64 0), (Value.int IntKind.i64 0), (Value.slice none 0 0)].toArray, S) := by
 kernel_rfl
theorem qO {y0 y1 y2 y3 y4 : Value} (h0 : y0.cells = #[y0]) (h1 : y1.cells = #[y1]) (h2 : y2.cells = #[y2]) (h3 : y3.cells = #[y3]) (h4 : y4.cells = #[y4]) (S : zi) : yh Try.prog 28 [(0, y0), (1, y1), (2, y2), (3, y3), (4, y4)] S = some (.agg [y0, y1, y2, y3, y4].toArray, S) := by
 rw [show yh Try.prog 28 [(0, y0), (1, y1), (2, y2), (3, y3), (4, y4)] S = (match vW ([(0, 1), (1, 1), (2, 1), (3, 1), (4, 1)][·]?) [(Value.int IntKind.i64 0), (Value.int IntKind.i64 0), (Value.int IntKind.i64 0), (Value.int IntKind.i64 0), (Value.slice none 0 0)] [(0, y0), (1, y1), (2, y2), (3, y3), (4, y4)] with | some l => some (.agg l.toArray, S) | none => none) from by kernel_rfl]
 simp [vW, splice, vg, h0, h1, h2, h3, h4]
@[simp] theorem yJ (k : IntKind) (n : Int) (H : zi) : wB Try.prog 3 75 (.int k n) H = some (.int IntKind.u64 (IntKind.wrap IntKind.u64 n), H) := ZA afH Jp k n
@[simp] theorem xU (k : IntKind) (n : Int) (H : zi) : wB Try.prog 5 75 (.int k n) H = some (.int IntKind.u64 (IntKind.wrap IntKind.u64 n), H) := ZA KW Jp k n
@[simp] theorem qV (k : IntKind) (n : Int) (H : zi) : wB Try.prog 75 3 (.int k n) H = some (.int IntKind.i64 (IntKind.wrap IntKind.i64 n), H) := ZA Jp afH k n
@[simp] theorem kC (k : IntKind) (n : Int) (H : zi) : wB Try.prog 75 5 (.int k n) H = some (.int IntKind.u8 (IntKind.wrap IntKind.u8 n), H) := ZA Jp KW k n
theorem WE (S : zi) : jg Try.prog 22 0 [] S = some (sv 2 5 0 [], S) := by kernel_rfl
theorem yS (S : zi) : jg Try.prog 26 0 [] S = some (sv 2 1 0 [], S) := by kernel_rfl
theorem kK (x0 : Int) (S : zi) : jg Try.prog 26 1 [(0, .int IntKind.u8 x0)] S = some (sv 2 1 1 [.int IntKind.u8 x0], S) := by kernel_rfl
theorem VY (S : zi) : jg Try.prog 56 0 [] S = some (sv 2 1 0 [], S) := by kernel_rfl
theorem WQ (x0 : Int) (S : zi) : jg Try.prog 56 1 [(0, .int IntKind.i64 x0)] S = some (sv 2 1 1 [.int IntKind.i64 x0], S) := by kernel_rfl
theorem yK {k : Nat} {l : List UInt8} {S : zi} (h : Okl k l) : qM Try.prog 26 (by_ k l) S = some (goInt l.length, S) := aal jL h
theorem afI {k : Nat} {l : List UInt8} {S : zi} {ki : IntKind} {i : Int} (h : Okl k l) (h0 : 0 ≤ i) (hi : i < l.length) : jk Try.prog 26 (by_ k l) (.int ki i) S = some (EP [.int .u8 (l[i.toNat]'(by omega)).toNat], S) := afd jL qL Qw h h0 hi
theorem KD {fx : Bool} {v : Value} {S : zi} : jw Try.prog fx 5 (EP [v]) S = some (v, S) := Qn aeI
theorem kJ {k : Nat} {l : List UInt8} {S : zi} {lo hi : Option Value} {i j : Int} (h : Okl k l) (hlo : y5 0 lo = some i) (hhi : y5 l.length hi = some j) (h0 : 0 ≤ i) (hij : i ≤ j) (hj : j ≤ l.length) : yT Try.prog 26 (by_ k l) lo hi S = some (by_ (if k = 2 then 1 else k) ((l.drop i.toNat).take (j.toNat - i.toNat)), S) := ac6 jL qL Qw h hlo hhi h0 hij hj
theorem yN {k : Nat} {l : List UInt8} {S : zi} {j : Nat} {m : List UInt8} (h : Okl k l) (hk : k ≠ 1) (hm : Okl j m) (hl : l.length + m.length ≤ 140737488355328) : jB Try.prog 26 26 (by_ k l) (by_ j m) S = some (by_ (if k = 0 ∧ m.length = 0 then 0 else 2) (l ++ m), S) := Js jL qL Wu rfl J5 (by omega) jL Qw afZ h hk hm (by omega) (by omega)
theorem abV {k : Nat} {l : List UInt8} {S : zi} (h : Okl k l) (hl : l.length ≤ 140737488355328) : jB Try.prog 26 26 (by_ 2 []) (by_ k l) S = some (by_ 2 l, S) := by
 rw [yN Okl.own (by decide) h (by simpa using hl)]; rfl
theorem acK {k : Nat} {l : List UInt8} {S : zi} (h : Okl k l) : jJ Try.prog .eql 26 (by_ k l) (.slice none 0 0) S = some (.bool (decide (k = 0)), S) := adI jL h
theorem Yh {k : Nat} {l : List UInt8} {S : zi} (h : Okl k l) : kG Try.prog 26 9 (by_ k l) S = some (.string ⟨l.toArray⟩, S) := aao jL KW adJ h
theorem QJ {k : Nat} {l : List Int} {S : zi} (h : Okl k l) : qM Try.prog 56 (iz k l) S = some (goInt l.length, S) := aal YM h
theorem ac2 {k : Nat} {l : List Int} {S : zi} {ki : IntKind} {i : Int} (h : Okl k l) (h0 : 0 ≤ i) (hi : i < l.length) : jk Try.prog 56 (iz k l) (.int ki i) S = some (EP [.int .i64 (l[i.toNat]'(by omega))], S) := afd YM af5 adZ h h0 hi
theorem qJ {fx : Bool} {v : Value} {S : zi} : jw Try.prog fx 3 (EP [v]) S = some (v, S) := Qn aaT
theorem abw {k : Nat} {l : List Int} {S : zi} {j : Nat} {m : List Int} (h : Okl k l) (hk : k ≠ 1) (hm : Okl j m) (hl : l.length + m.length ≤ 17592186044416) : jB Try.prog 56 56 (iz k l) (iz j m) S = some (iz (if k = 0 ∧ m.length = 0 then 0 else 2) (l ++ m), S) := Js YM af5 agp rfl agj (by omega) YM adZ afM h hk hm (by omega) (by omega)
theorem wk : type_of% (And.intro @Yl (And.intro @Zy (And.intro @Ja (And.intro @JR (And.intro @WV (And.intro @Wh (And.intro @JE (And.intro @JY (And.intro @Jb (And.intro @Qo (And.intro @Wl (And.intro @Ko (And.intro @Vb (And.intro @Zn (And.intro @Ye (And.intro @JX (And.intro @Ym (And.intro @JQ (And.intro @Qs (And.intro @aew (And.intro @aep (And.intro @adR (And.intro @adV (And.intro @ad2 (And.intro @aa6 (And.intro @acu (And.intro @abL (And.intro @abm (And.intro @abk (And.intro @Xz (And.intro @Z9 (And.intro @Qp (And.intro @Bool.and_true (And.intro @Bool.true_and (And.intro @Bool.and_self (And.intro @X3 (And.intro @aaC (And.intro @WY (And.intro @Qk (And.intro @JD (And.intro @aek (And.intro @aei (And.intro @aef (And.intro @adY (And.intro @afy (And.intro @afV (And.intro @afR (And.intro @af0 (And.intro @afE (And.intro @ad4 (And.intro @adO (And.intro @aey (And.intro @ad1 (And.intro @aes (And.intro @abP (And.intro @Yf (And.intro @Bool.false_eq_true (And.intro @Vd (And.intro @aaR (And.intro @Ya (And.intro @Q7 (And.intro @QT (And.intro @aer (And.intro @QA (And.intro @aea (And.intro @JL (And.intro @aap (And.intro @XV (And.intro @Yd (And.intro @aaX (And.intro @abM (And.intro @X5 (And.intro @JM (And.intro @Q8 (And.intro @abT (And.intro @ab1 (And.intro @X8 (And.intro @Yx (And.intro @XJ (And.intro @JH (And.intro @QX (And.intro @QM (And.intro @WZ (And.intro @ZG (And.intro @Ze (And.intro @JJ (And.intro @qy (And.intro @ZP (And.intro @Yc (And.intro @vZ (And.intro @Zb (And.intro @Za (And.intro @YW (And.intro @Yt (And.intro @XQ (And.intro @Qd (And.intro @YB (And.intro @YL (And.intro @Qc (And.intro @Y3 (And.intro @Qe (And.intro @acn (And.intro @Bool.not_true (And.intro @Bool.not_false (And.intro @Bool.true_eq_false (And.intro @decide_true (And.intro @decide_false (And.intro @acv (And.intro @acd (And.intro @abR (And.intro @aa0 (And.intro @aar (And.intro @acz (And.intro @ab2 (And.intro @acj (And.intro @abz (And.intro @aa9 (And.intro @aaI (And.intro @aa2 (And.intro @abf (And.intro @abv (@abQ)))))))))))))))))))))))))))))))))))))))))))))))))))))))))))))))))))))))))))))))))))))))))))))))))))))))))))))))))))))))))) := And.intro @Yl (And.intro @Zy (And.intro @Ja (And.intro @JR (And.intro @WV (And.intro @Wh (And.intro @JE (And.intro @JY (And.intro @Jb (And.intro @Qo (And.intro @Wl (And.intro @Ko (And.intro @Vb (And.intro @Zn (And.intro @Ye (And.intro @JX (And.intro @Ym (And.intro @JQ (And.intro @Qs (And.intro @aew (And.intro @aep (And.intro @adR (And.intro @adV (And.intro @ad2 (And.intro @aa6 (And.intro @acu (And.intro @abL (And.intro @abm (And.intro @abk (And.intro @Xz (And.intro @Z9 (And.intro @Qp (And.intro @Bool.and_true (And.intro @Bool.true_and (And.intro @Bool.and_self (And.intro @X3 (And.intro @aaC (And.intro @WY (And.intro @Qk (And.intro @JD (And.intro @aek (And.intro @aei (And.intro @aef (And.intro @adY (And.intro @afy (And.intro @afV (And.intro @afR (And.intro @af0 (And.intro @afE (And.intro @ad4 (And.intro @adO (And.intro @aey (And.intro @ad1 (And.intro @aes (And.intro @abP (And.intro @Yf (And.intro @Bool.false_eq_true (And.intro @Vd (And.intro @aaR (And.intro @Ya (And.intro @Q7 (And.intro @QT (And.intro @aer (And.intro @QA (And.intro @aea (And.intro @JL (And.intro @aap (And.intro @XV (And.intro @Yd (And.intro @aaX (And.intro @abM (And.intro @X5 (And.intro @JM (And.intro @Q8 (And.intro @abT (And.intro @ab1 (And.intro @X8 (And.intro @Yx (And.intro @XJ (And.intro @JH (And.intro @QX (And.intro @QM (And.intro @WZ (And.intro @ZG (And.intro @Ze (And.intro @JJ (And.intro @qy (And.intro @ZP (And.intro @Yc (And.intro @vZ (And.intro @Zb (And.intro @Za (And.intro @YW (And.intro @Yt (And.intro @XQ (And.intro @Qd (And.intro @YB (And.intro @YL (And.intro @Qc (And.intro @Y3 (And.intro @Qe (And.intro @acn (And.intro @Bool.not_true (And.intro @Bool.not_false (And.intro @Bool.true_eq_false (And.intro @decide_true (And.intro @decide_false (And.intro @acv (And.intro @acd (And.intro @abR (And.intro @aa0 (And.intro @aar (And.intro @acz (And.intro @ab2 (And.intro @acj (And.intro @abz (And.intro @aa9 (And.intro @aaI (And.intro @aa2 (And.intro @abf (And.intro @abv (@abQ)))))))))))))))))))))))))))))))))))))))))))))))))))))))))))))))))))))))))))))))))))))))))))))))))))))))))))))))))))))))))
theorem zSs : type_of% (And.intro wk (And.intro (@List.getD_cons_succ Value) (And.intro (@List.getD_cons_zero Value) (And.intro @if_true.{1} (And.intro @if_false.{1} (And.intro (@List.getElem?_cons_succ Value) (And.intro (@List.getElem?_cons_zero Value) (And.intro @Option.map_some.{0,0} @eq_self.{1})))))))) := And.intro wk (And.intro (@List.getD_cons_succ Value) (And.intro (@List.getD_cons_zero Value) (And.intro @if_true.{1} (And.intro @if_false.{1} (And.intro (@List.getElem?_cons_succ Value) (And.intro (@List.getElem?_cons_zero Value) (And.intro @Option.map_some.{0,0} @eq_self.{1})))))))
end Go.Proofs.Ytblpnklfimkfoaa
namespace Go.Proofs.Ytblpnklfimkfoaa
open Go.Abs
def aa7 (args : List Value) : M Value := fun S =>
 match args with
 | [.pointer (some ⟨q, 0, none⟩)] => match S.get q with
  | some (.cells (dv :: _) _ _) => if q < S.next then match dv with
   | .slice none 0 0 => some (SL 2 1 0 [], S)
   | .slice (some ⟨r, 0, none⟩) n _ => match S.get r with
    | some (.cells cs _ _) => if n ≤ cs.length then if (cs.take n).all sg then if n ≤ 140737488355328 then if r < S.next then some (SL 2 1 n (cs.take n), S) else none else none else none else none
    | _ => none
   | _ => none
   else none
  | _ => none
 | _ => none
theorem ZQ {cs xs : List Value} (h : cs.length = xs.length) : splice cs 0 xs = xs := by
 unfold splice
 rw [List.take_zero, List.nil_append, Nat.zero_add, ← h, List.drop_length, List.append_nil]
theorem ZV {l : List Value} (h : l.all sg = true) : l.all (·.oneCell') = true := by
 rw [List.all_eq_true] at *
 intro x hx
 have := h x hx
 cases x <;> first | rfl | (simp [sg] at this)
theorem zU.nil {S : zi} {q e : Nat} {rest : List Value} {own : Own} (hq : S.get q = some (.cells (.slice none 0 0 :: rest) own e)) (hlt : q < S.next) :
  jc Try.prog O0 zU.id [.pointer (some ⟨q, 0, none⟩)] S = some (.slice (some ⟨S.next, 0, none⟩) 0 0, S.push (.cells [] (.own []) 1)) := by
 obtain ⟨T, hTe⟩ : ∃ T, T = (.pointer (some ⟨q, 0, none⟩) :: undef :: undef :: undef :: undef :: undef :: undef :: undef :: undef :: undef :: undef :: undef :: undef :: undef :: undef :: undef :: undef :: []) := ⟨_, rfl⟩
 have hr : zI Try.prog O0 true zU.code T S = zI Try.prog O0 true zU.code T S := rfl
 have l1 := Y1 (t := 26) (o := 0 + 0) hq xR rfl
 have m1 := XO (S := S) (k := .i64) (k2 := .i64) (l := 0) jL qL Wu J5 rfl rfl (by decide) (by decide) (by decide)
 have hq2 : (S.push (.cells (zl (Value.int .u8 0).cells.toList 0) (.own []) 1)).get q = some (.cells (.slice none 0 0 :: rest) own e) := by rw [zi.jm, if_neg (by omega)]; exact hq
 have l2 := Y1 (t := 26) (o := 0 + 0) hq2 xR rfl
 have c2 := QH (P := Try.prog) (t := 26) (tx := 26) (S := S.push (.cells (zl (Value.int .u8 0).cells.toList 0) (.own []) 1)) jL qL 0 (.slice none 0 0) ⟨_, rfl⟩ (some ⟨S.next, 0, none⟩) (.inr ⟨_, _, rfl⟩)
 have ln := fun S => aaw jL none 0 0 S
 conv at hr =>
  rhs
  rw [hTe]
  simp only [zU.code, zU.rs, zSs, reduceIte, Nat.reduceEqDiff, Int.reduceEq, Int.reduceLT, Int.reduceLE, xW, kM, l1, ln, goInt, m1, l2, c2]
 rw [hTe] at hr
 exact zU.runs hr (.inr rfl)
theorem zU.full {S : zi} {q e r n c i : Nat} {rest cs : List Value} {own own2 : Own} (hq : S.get q = some (.cells (.slice (some ⟨r, 0, none⟩) n c :: rest) own e)) (hlt : q < S.next) (hg : S.get r = some (.cells cs own2 i)) (hn : n ≤ cs.length)
  (hs : (cs.take n).all sg = true) (hb : n ≤ 140737488355328) (hrn : r < S.next) :
  ∃ S1, jc Try.prog O0 zU.id [.pointer (some ⟨q, 0, none⟩)] S = some (.slice (some ⟨S.next, 0, none⟩) n n, S1) ∧ Ext S S1 ∧ S1.get S.next = some (.cells (cs.take n) (.own []) 1) := by
 obtain ⟨T, hTe⟩ : ∃ T, T = (.pointer (some ⟨q, 0, none⟩) :: undef :: undef :: undef :: undef :: undef :: undef :: undef :: undef :: undef :: undef :: undef :: undef :: undef :: undef :: undef :: undef :: []) := ⟨_, rfl⟩
 have hr : zI Try.prog O0 true zU.code T S = zI Try.prog O0 true zU.code T S := rfl
 have l1 := Y1 (t := 26) (o := 0 + 0) hq xR rfl
 have m1 := XO (S := S) (k := .i64) (k2 := .i64) (l := n) jL qL Wu J5 rfl rfl (by decide) (by omega) (by omega)
 have hq2 : (S.push (.cells (zl (Value.int .u8 0).cells.toList n) (.own []) 1)).get q = some (.cells (.slice (some ⟨r, 0, none⟩) n c :: rest) own e) := by rw [zi.jm, if_neg (by omega)]; exact hq
 have hg2 : (S.push (.cells (zl (Value.int .u8 0).cells.toList n) (.own []) 1)).get r = some (.cells cs own2 i) := by rw [zi.jm, if_neg (by omega)]; exact hg
 have hg3 : (S.push (.cells (zl (Value.int .u8 0).cells.toList n) (.own []) 1)).get S.next = some (.cells (zl (Value.int .u8 0).cells.toList n) (.own []) 1) := by rw [zi.jm, if_pos rfl]
 have l2 := Y1 (t := 26) (o := 0 + 0) hq2 xR rfl
 have ln := fun S => aaw jL (some ⟨r, 0, none⟩) n c S
 by_cases h0 : n = 0
 ·
  subst h0
  have c2 : WG Try.prog 26 26 (.slice (some ⟨S.next, 0, none⟩) 0 0) (.slice (some ⟨r, 0, none⟩) 0 c) (S.push (.cells (zl (Value.int .u8 0).cells.toList 0) (.own []) 1)) = some (goInt 0, S.push (.cells (zl (Value.int .u8 0).cells.toList 0) (.own []) 1)) :=
   QH jL qL 0 _ ⟨_, rfl⟩ (some ⟨S.next, 0, none⟩) (.inr ⟨_, _, rfl⟩)
  conv at hr =>
   rhs
   rw [hTe]
   simp only [zU.code, zU.rs, zSs, reduceIte, Nat.reduceEqDiff, Int.reduceEq, Int.reduceLT, Int.reduceLE, xW, kM, l1, ln, goInt, m1, l2, c2]
  rw [hTe] at hr
  have hrun := zU.runs hr (.inr rfl)
  exact ⟨_, hrun, Ext.push _ _, hg3⟩
 ·
  have c2 := aeY (t := 26) (tx := 26) (o := 0) (o2 := 0) (c := n) (c2 := c) jL qL hg2 (n := n) (by omega) hg3 h0 (by rw [Ve]; show 0 + n * 1 ≤ n * 1; omega) (by rw [List.drop_zero, Nat.mul_one]; exact ZV hs)
  conv at hr =>
   rhs
   rw [hTe]
   simp only [zU.code, zU.rs, zSs, reduceIte, Nat.reduceEqDiff, Int.reduceEq, Int.reduceLT, Int.reduceLE, xW, kM, l1, ln, goInt, m1, l2, c2]
  rw [hTe] at hr
  have hrun := zU.runs hr (.inr rfl)
  refine ⟨_, hrun, (Ext.push _ _).set (Nat.le_refl _) _, ?_⟩
  rw [zi.jF, if_pos rfl, List.drop_zero, Nat.mul_one, ZQ (by rw [Ve, List.length_take, Nat.min_eq_left hn]; show n * 1 = n; omega)]
theorem aaF : Zx Try.prog (fun g args => if g = 25 then aa7 args else fun _ => none) := by
 refine afY aeC fun args S v S' h => ?_
 unfold aa7 at h
 split at h <;> first | (cases h; done) | skip
 rename_i q
 split at h <;> first | (cases h; done) | skip
 rename_i dv rest own e hq
 split at h <;> first | (cases h; done) | skip
 rename_i hlt
 split at h <;> first | (cases h; done) | skip
 ·
  cases h
  exact ⟨rfl, _, _, zU.nil hq hlt, Ext.push _ _, .own rfl (Nat.le_refl _) (by rw [zi.jm, if_pos rfl]) rfl rfl⟩
 ·
  rename_i r n c
  split at h <;> first | (cases h; done) | skip
  rename_i cs own2 i hg
  split at h <;> first | (cases h; done) | skip
  rename_i h1
  split at h <;> first | (cases h; done) | skip
  rename_i h2
  split at h <;> first | (cases h; done) | skip
  rename_i h3
  split at h <;> first | (cases h; done) | skip
  rename_i h4
  cases h
  obtain ⟨S1, k1, k2, k3⟩ := zU.full hq hlt hg h1 h2 h3 h4
  exact ⟨rfl, _, S1, k1, k2, .own rfl (Nat.le_refl _) k3 (by rw [List.length_take, Nat.min_eq_left h1, Nat.mul_one]) h2⟩
end Go.Proofs.Ytblpnklfimkfoaa
namespace Go.Proofs.Ytblpnklfimkfoaa
open Go.Abs
def O : Ora := ⟨fun f => if f = 25 then some aa7 else none, fun f => ([23, 25, 40] : List Nat).contains f, fun f => ([9, 11, 12, 13, 16, 18, 20, 22, 24, 29, 31, 37, 38, 41] : List Nat).contains f⟩
theorem af8 : KI Try.prog O := by
 intro f q h
 simp only [O] at h
 split at h
 ·
  rename_i hf; subst hf; cases h; exact aaF
 ·
  cases h
end Go.Proofs.Ytblpnklfimkfoaa
namespace Go.Proofs.Ytblpnklfimkfoaa
open Go.Abs
noncomputable def zA.code : Code := (Code.seq (Code.region 0 (reg Try.f4 0) false) (Code.seq (Code.region 1 (reg Try.f4 1) false) (Code.seq (Code.region 2 (reg Try.f4 2) false) (Code.seq (Code.region 3 (reg Try.f4 3) false) (Code.seq (Code.region 4 (reg Try.f4 4) false) (Code.seq (Code.region 5 (reg Try.f4 5) false) Code.ret))))))
theorem zA.body : Try.f4.body = some zA.code := by kernel_rfl
variable (x0 c x2 x3 x4 x5 x6 x7 x8 x9 d f g i k l m n o p q r s t u w x y z A B C D E F G H I J K L M N P Q R U V W X Y Z a0 a1 a2 a3 a4 a5 : Value) (S : zi)
theorem zA.r0  : jl Try.prog ⟨false, false, false⟩ (jc Try.prog O) (reg Try.f4 0) (reg Try.f4 0).toList ([x0,c,x2,x3,x4,x5,x6,x7,x8,x9,d,f,g,i,k,l,m,n,o,p,q,r,s,t,u,w,x,y,z,A,B,C,D,E,F,G,H,I,J,K,L,M,N,P,Q,R,U,V,W,X,Y,Z,a0,a1,a2,a3,a4,a5]) S =
  (zW (Xd (dem x0) S) (fun b S1 => some ([x0,c,b,x3,Value.bool false,x5,x6,x7,x8,x9,d,f,g,i,k,l,m,n,o,p,q,r,s,t,u,w,x,y,z,A,B,C,D,E,F,G,H,I,J,K,L,M,N,P,Q,R,U,V,W,X,Y,Z,a0,a1,a2,a3,a4,a5], S1)) ()) := by
 kernel_rfl
theorem zA.r1  : jl Try.prog ⟨false, false, false⟩ (jc Try.prog O) (reg Try.f4 1) (reg Try.f4 1).toList ([x0,c,x2,x3,x4,x5,x6,x7,x8,x9,d,f,g,i,k,l,m,n,o,p,q,r,s,t,u,w,x,y,z,A,B,C,D,E,F,G,H,I,J,K,L,M,N,P,Q,R,U,V,W,X,Y,Z,a0,a1,a2,a3,a4,a5]) S =
  (zW (jw Try.prog false 28 x2 S) (fun b S1 => zW ((jc Try.prog O) 11 [(dem b)] S1) (fun v1 S2 => zW (zL v1 0 S2) (fun v3 S3 => zW (zL (zQ 0 v1) 1 S3) (fun v4 S4 => some ([x0,c,x2,x3,x4,v3,v4,x7,x8,x9,d,f,g,zQ 1 (zQ 0 v1),b,dem v1,dem v3,dem v4,o,p,q,r,s,t,u,w,x,y,z,A,B,C,D,E,F,G,H,I,J,K,L,M,N,P,Q,R,U,V,W,X,Y,Z,a0,a1,a2,a3,a4,a5], S4)) ()) ()) ()) ()) := by
 kernel_rfl
theorem zA.r2  : jl Try.prog ⟨false, false, false⟩ (jc Try.prog O) (reg Try.f4 2) (reg Try.f4 2).toList ([x0,c,x2,x3,x4,x5,x6,x7,x8,x9,d,f,g,i,k,l,m,n,o,p,q,r,s,t,u,w,x,y,z,A,B,C,D,E,F,G,H,I,J,K,L,M,N,P,Q,R,U,V,W,X,Y,Z,a0,a1,a2,a3,a4,a5]) S =
  (zW (jw Try.prog false 28 x2 S) (fun b S1 => zW ((jc Try.prog O) 12 [(dem b)] S1) (fun v1 S2 => zW (zL v1 0 S2) (fun v3 S3 => zW (zL (zQ 0 v1) 1 S3) (fun v4 S4 => some ([x0,c,x2,x3,x4,x5,x6,v3,v4,x9,d,f,g,i,k,l,m,n,zQ 1 (zQ 0 v1),b,dem v1,dem v3,dem v4,t,u,w,x,y,z,A,B,C,D,E,F,G,H,I,J,K,L,M,N,P,Q,R,U,V,W,X,Y,Z,a0,a1,a2,a3,a4,a5], S4)) ()) ()) ()) ()) := by
 kernel_rfl
theorem zA.r3  : jl Try.prog ⟨false, false, false⟩ (jc Try.prog O) (reg Try.f4 3) (reg Try.f4 3).toList ([x0,c,x2,x3,x4,x5,x6,x7,x8,x9,d,f,g,i,k,l,m,n,o,p,q,r,s,t,u,w,x,y,z,A,B,C,D,E,F,G,H,I,J,K,L,M,N,P,Q,R,U,V,W,X,Y,Z,a0,a1,a2,a3,a4,a5]) S =
  (zW (jg Try.prog 26 0 [] S) (fun b S1 => zW (jB Try.prog 26 26 b (dem c) S1) (fun v2 S2 => zW ((jc Try.prog O) 9 [(dem v2)] S2) (fun v3 S3 => zW (zL v3 0 S3) (fun v5 S4 => zW (zL (zQ 0 v3) 1 S4) (fun v6 S5 => some ([x0,c,x2,x3,x4,x5,x6,x7,x8,v5,v6,f,g,i,k,l,m,n,o,p,q,r,s,zQ 1 (zQ 0 v3),dem b,dem c,v2,dem v3,dem v5,dem v6,B,C,D,E,F,G,H,I,J,K,L,M,N,P,Q,R,U,V,W,X,Y,Z,a0,a1,a2,a3,a4,a5], S5)) ()) ()) ()) ()) ()) := by
 kernel_rfl
theorem zA.r4  : jl Try.prog ⟨false, false, false⟩ (jc Try.prog O) (reg Try.f4 4) (reg Try.f4 4).toList ([x0,c,x2,x3,x4,x5,x6,x7,x8,x9,d,f,g,i,k,l,m,n,o,p,q,r,s,t,u,w,x,y,z,A,B,C,D,E,F,G,H,I,J,K,L,M,N,P,Q,R,U,V,W,X,Y,Z,a0,a1,a2,a3,a4,a5]) S =
  (zW ((jc Try.prog O) 13 [(dem (dem c))] S) (fun v1 S1 => zW (zL v1 0 S1) (fun v3 S2 => zW (zL (zQ 0 v1) 1 S2) (fun v4 S3 => some ([x0,c,x2,x3,x4,x5,x6,x7,x8,x9,d,v3,v4,i,k,l,m,n,o,p,q,r,s,t,u,w,x,y,z,A,zQ 1 (zQ 0 v1),dem c,dem v1,dem v3,dem v4,G,H,I,J,K,L,M,N,P,Q,R,U,V,W,X,Y,Z,a0,a1,a2,a3,a4,a5], S3)) ()) ()) ()) := by
 kernel_rfl
theorem zA.r5  : jl Try.prog ⟨false, false, false⟩ (jc Try.prog O) (reg Try.f4 5) (reg Try.f4 5).toList ([x0,c,x2,x3,x4,x5,x6,x7,x8,x9,d,f,g,i,k,l,m,n,o,p,q,r,s,t,u,w,x,y,z,A,B,C,D,E,F,G,H,I,J,K,L,M,N,P,Q,R,U,V,W,X,Y,Z,a0,a1,a2,a3,a4,a5]) S =
  (zW ((jc Try.prog O) 10 [] S) (fun b S1 => gdK (dem b) true (ret x5) S1 (fun v2 S2 => gdK (dem b) true (jK Try.prog false false 26 9 (dem v2)) S2 (fun v3 S3 => gdK (dem b) true (ret x7) S3 (fun v4 S4 => gdK (dem b) true (jK Try.prog false false 26 9 (dem v4)) S4 (fun v5 S5 => gdK (dem b) true (jJ Try.prog BinOp.eql 9 v3 v5) S5 (fun v6 S6 => zW (wZ (dem b) v6 (Value.bool false) S6) (fun v7 S7 => gdK (dem v7) true (ret x6) S7 (fun v9 S8 => gdK (dem v7) true (ret x8) S8 (fun a9 S9 => gdK (dem v7) true (jJ Try.prog BinOp.eql 3 (dem v9) (dem a9)) S9 (fun b0 b7 => zW (wZ (dem v7) b0 (Value.bool false) b7) (fun a6 b8 => gdK (dem a6) true (ret x9) b8 (fun b1 b9 => gdK (dem a6) true (ret f) b9 (fun b2 c0 => gdK (dem a6) true ((jc Try.prog O) 14 [(dem (dem b1)), (dem (dem b2))]) c0 (fun b3 c1 => zW (wZ (dem a6) b3 (Value.bool false) c1) (fun a7 c2 => gdK (dem a7) true (ret d) c2 (fun b4 c3 => gdK (dem a7) true (ret g) c3 (fun b5 c4 => gdK (dem a7) true (jJ Try.prog BinOp.eql 3 (dem b4) (dem b5)) c4 (fun b6 c5 => zW (wZ (dem a7) b6 (Value.bool false) c5) (fun a8 c6 => some ([x0,c,x2,x3,a8,x5,x6,x7,x8,x9,d,f,g,i,k,l,m,n,o,p,q,r,s,t,u,w,x,y,z,A,B,C,D,E,F,b,dem b,dem v2,v3,dem v4,v5,v6,v7,dem v7,dem v9,dem a9,b0,a6,dem a6,dem b1,dem b2,b3,a7,dem a7,dem b4,dem b5,b6,dem a8], c6)) ()) ()) ()) ()) ()) ()) ()) ()) ()) ()) ()) ()) ()) ()) ()) ()) ()) ()) ()) := by
 refine sD Try.f4 5 0 (fun b S1 => ?_)
 refine sP Try.f4 5 1 (v := b) ?_
 refine sG Try.f4 5 2 (j := 1) (fun v2 S2 => ?_)
 refine sG Try.f4 5 3 (j := 1) (fun v3 S3 => ?_)
 refine sG Try.f4 5 4 (j := 1) (fun v4 S4 => ?_)
 refine sG Try.f4 5 5 (j := 1) (fun v5 S5 => ?_)
 refine sG Try.f4 5 6 (j := 1) (fun v6 S6 => ?_)
 refine sD Try.f4 5 7 (fun v7 S7 => ?_)
 refine sP Try.f4 5 8 (v := v7) ?_
 refine sG Try.f4 5 9 (j := 8) (fun v9 S8 => ?_)
 refine sG Try.f4 5 10 (j := 8) (fun a9 S9 => ?_)
 refine sG Try.f4 5 11 (j := 8) (fun b0 b7 => ?_)
 refine sD Try.f4 5 12 (fun a6 b8 => ?_)
 refine sP Try.f4 5 13 (v := a6) ?_
 refine sG Try.f4 5 14 (j := 13) (fun b1 b9 => ?_)
 refine sG Try.f4 5 15 (j := 13) (fun b2 c0 => ?_)
 refine sG Try.f4 5 16 (j := 13) (fun b3 c1 => ?_)
 refine sD Try.f4 5 17 (fun a7 c2 => ?_)
 refine sP Try.f4 5 18 (v := a7) ?_
 refine sG Try.f4 5 19 (j := 18) (fun b4 c3 => ?_)
 refine sG Try.f4 5 20 (j := 18) (fun b5 c4 => ?_)
 refine sG Try.f4 5 21 (j := 18) (fun b6 c5 => ?_)
 refine sD Try.f4 5 22 (fun a8 c6 => ?_)
 refine sP Try.f4 5 23 (v := a8) ?_
 kernel_rfl
theorem zA.rs : type_of% (And.intro @zA.r0 (And.intro @zA.r1 (And.intro @zA.r2 (And.intro @zA.r3 (And.intro @zA.r4 (@zA.r5)))))) := And.intro @zA.r0 (And.intro @zA.r1 (And.intro @zA.r2 (And.intro @zA.r3 (And.intro @zA.r4 (@zA.r5)))))
theorem zA.runs {x0 c : Value} {S S1 : zi} {e : AEx} {T : List Value} (h : zI Try.prog O false zA.code ([x0,c,undef,undef,undef,undef,undef,undef,undef,undef,undef,undef,undef,undef,undef,undef,undef,undef,undef,undef,undef,undef,undef,undef,undef,undef,undef,undef,undef,undef,undef,undef,undef,undef,undef,undef,undef,undef,undef,undef,undef,undef,undef,undef,undef,undef,undef,undef,undef,undef,undef,undef,undef,undef,undef,undef,undef,undef]) S = some (e, T, S1)) (he : e = .normal ∨ e = .ret) : jc Try.prog O 4 [x0, c] S = some (T.getD 4 undef, S1) :=
 jU rfl rfl Try.func4 (by decide) zA.body (by exact h) he (qW (a := T.getD 4 undef) ((show zV Try.prog T S1 Try.f4.results.toList = zV Try.prog T S1 [(ResultVar.tmp 4)] from by kernel_rfl).trans (by simp only [zV])) (by kernel_rfl))
end Go.Proofs.Ytblpnklfimkfoaa
namespace Go.Proofs.Ytblpnklfimkfoaa
open Go.Abs
abbrev jd.id : FuncId := 38
noncomputable def jd.code : Code := (Code.seq (Code.region 0 (reg Try.f38 0) false) (Code.seq (Code.region 1 (reg Try.f38 1) false) Code.ret))
theorem jd.body : Try.f38.body = some jd.code := by kernel_rfl
variable (g i k l x4 x5 x6 x7 x8 x9 o p q r s t u w x y z A B C D E F G H I J K L M N P Q R U V : Value) (S : zi)
theorem jd.r0  : jl Try.prog ⟨false, false, false⟩ (jc Try.prog O) (reg Try.f38 0) (reg Try.f38 0).toList ([g,i,k,l,x4,x5,x6,x7,x8,x9,o,p,q,r,s,t,u,w,x,y,z,A,B,C,D,E,F,G,H,I,J,K,L,M,N,P,Q,R,U,V]) S =
  (zW (Xd (dem g) S) (fun W m => zW (Xd (dem i) m) (fun X S2 => some ([g,i,W,X,Value.bool false,x5,x6,x7,x8,x9,o,p,q,r,s,t,u,w,x,y,z,A,B,C,D,E,F,G,H,I,J,K,L,M,N,P,Q,R,U,V], S2)) ()) ()) := by
 kernel_rfl
theorem jd.r1  : jl Try.prog ⟨false, false, false⟩ (jc Try.prog O) (reg Try.f38 1) (reg Try.f38 1).toList ([g,i,k,l,x4,x5,x6,x7,x8,x9,o,p,q,r,s,t,u,w,x,y,z,A,B,C,D,E,F,G,H,I,J,K,L,M,N,P,Q,R,U,V]) S =
  (zW (jf Try.prog 28 k 0 S) (fun W m => zW (jw Try.prog false 3 W m) (fun X S2 => zW (jf Try.prog 28 l 0 S2) (fun v2 S3 => zW (jw Try.prog false 3 v2 S3) (fun v3 S4 => zW (jJ Try.prog BinOp.eql 3 X v3 S4) (fun f S5 => gdK (dem f) true (jf Try.prog 28 k 1) S5 (fun v6 S6 => gdK (dem f) true (jw Try.prog false 3 v6) S6 (fun v7 S7 => gdK (dem f) true (jf Try.prog 28 l 1) S7 (fun v8 S8 => gdK (dem f) true (jw Try.prog false 3 v8) S8 (fun v9 S9 => gdK (dem f) true (jJ Try.prog BinOp.eql 3 v7 v9) S9 (fun Y b6 => zW (wZ (dem f) Y (Value.bool false) b6) (fun c b7 => gdK (dem c) true (jf Try.prog 28 k 2) b7 (fun Z b8 => gdK (dem c) true (jw Try.prog false 3 Z) b8 (fun a0 b9 => gdK (dem c) true (jf Try.prog 28 l 2) b9 (fun a1 c0 => gdK (dem c) true (jw Try.prog false 3 a1) c0 (fun a2 c1 => gdK (dem c) true (jJ Try.prog BinOp.eql 3 a0 a2) c1 (fun a3 c2 => zW (wZ (dem c) a3 (Value.bool false) c2) (fun d c3 => gdK (dem d) true (jf Try.prog 28 k 3) c3 (fun a4 c4 => gdK (dem d) true (jw Try.prog false 3 a4) c4 (fun a5 c5 => gdK (dem d) true (jf Try.prog 28 l 3) c5 (fun a6 c6 => gdK (dem d) true (jw Try.prog false 3 a6) c6 (fun a7 c7 => gdK (dem d) true (jJ Try.prog BinOp.eql 3 a5 a7) c7 (fun a8 c8 => zW (wZ (dem d) a8 (Value.bool false) c8) (fun b c9 => gdK (dem b) true (jf Try.prog 28 k 4) c9 (fun a9 d0 => gdK (dem b) true (jw Try.prog false 26 a9) d0 (fun b0 d1 => gdK (dem b) true (jK Try.prog false false 26 9 b0) d1 (fun b1 d2 => gdK (dem b) true (jf Try.prog 28 l 4) d2 (fun b2 d3 => gdK (dem b) true (jw Try.prog false 26 b2) d3 (fun b3 d4 => gdK (dem b) true (jK Try.prog false false 26 9 b3) d4 (fun b4 d5 => gdK (dem b) true (jJ Try.prog BinOp.eql 9 b1 b4) d5 (fun b5 d6 => zW (wZ (dem b) b5 (Value.bool false) d6) (fun n d7 => some ([g,i,k,l,n,W,X,v2,v3,f,dem f,v6,v7,v8,v9,Y,c,dem c,Z,a0,a1,a2,a3,d,dem d,a4,a5,a6,a7,a8,b,dem b,a9,b0,b1,b2,b3,b4,b5,dem n], d7)) ()) ()) ()) ()) ()) ()) ()) ()) ()) ()) ()) ()) ()) ()) ()) ()) ()) ()) ()) ()) ()) ()) ()) ()) ()) ()) ()) ()) ()) ()) ()) := by
 refine sD Try.f38 1 0 (fun W m => ?_)
 refine sD Try.f38 1 1 (fun X S2 => ?_)
 refine sD Try.f38 1 2 (fun v2 S3 => ?_)
 refine sD Try.f38 1 3 (fun v3 S4 => ?_)
 refine sD Try.f38 1 4 (fun f S5 => ?_)
 refine sP Try.f38 1 5 (v := f) ?_
 refine sG Try.f38 1 6 (j := 5) (fun v6 S6 => ?_)
 refine sG Try.f38 1 7 (j := 5) (fun v7 S7 => ?_)
 refine sG Try.f38 1 8 (j := 5) (fun v8 S8 => ?_)
 refine sG Try.f38 1 9 (j := 5) (fun v9 S9 => ?_)
 refine sG Try.f38 1 10 (j := 5) (fun Y b6 => ?_)
 refine sD Try.f38 1 11 (fun c b7 => ?_)
 refine sP Try.f38 1 12 (v := c) ?_
 refine sG Try.f38 1 13 (j := 12) (fun Z b8 => ?_)
 refine sG Try.f38 1 14 (j := 12) (fun a0 b9 => ?_)
 refine sG Try.f38 1 15 (j := 12) (fun a1 c0 => ?_)
 refine sG Try.f38 1 16 (j := 12) (fun a2 c1 => ?_)
 refine sG Try.f38 1 17 (j := 12) (fun a3 c2 => ?_)
 refine sD Try.f38 1 18 (fun d c3 => ?_)
 refine sP Try.f38 1 19 (v := d) ?_
 refine sG Try.f38 1 20 (j := 19) (fun a4 c4 => ?_)
 refine sG Try.f38 1 21 (j := 19) (fun a5 c5 => ?_)
 refine sG Try.f38 1 22 (j := 19) (fun a6 c6 => ?_)
 refine sG Try.f38 1 23 (j := 19) (fun a7 c7 => ?_)
 refine sG Try.f38 1 24 (j := 19) (fun a8 c8 => ?_)
 refine sD Try.f38 1 25 (fun b c9 => ?_)
 refine sP Try.f38 1 26 (v := b) ?_
 refine sG Try.f38 1 27 (j := 26) (fun a9 d0 => ?_)
 refine sG Try.f38 1 28 (j := 26) (fun b0 d1 => ?_)
 refine sG Try.f38 1 29 (j := 26) (fun b1 d2 => ?_)
 refine sG Try.f38 1 30 (j := 26) (fun b2 d3 => ?_)
 refine sG Try.f38 1 31 (j := 26) (fun b3 d4 => ?_)
 refine sG Try.f38 1 32 (j := 26) (fun b4 d5 => ?_)
 refine sG Try.f38 1 33 (j := 26) (fun b5 d6 => ?_)
 refine sD Try.f38 1 34 (fun n d7 => ?_)
 refine sP Try.f38 1 35 (v := n) ?_
 kernel_rfl
theorem jd.rs : type_of% (And.intro @jd.r0 (@jd.r1)) := And.intro @jd.r0 (@jd.r1)
theorem jd.runs {g i : Value} {S m : zi} {e : AEx} {T : List Value} (h : zI Try.prog O false jd.code ([g,i,undef,undef,undef,undef,undef,undef,undef,undef,undef,undef,undef,undef,undef,undef,undef,undef,undef,undef,undef,undef,undef,undef,undef,undef,undef,undef,undef,undef,undef,undef,undef,undef,undef,undef,undef,undef,undef,undef]) zi.empty = some (e, T, m)) (he : e = .normal ∨ e = .ret) (hca : [g, i].all (jy 16) = true) (hcv : jy 16 (T.getD 4 undef) = true) : jc Try.prog O 38 [g, i] S = some (T.getD 4 undef, S) :=
 qH rfl rfl Try.func38 (by decide) jd.body (by exact h) he (qW (a := T.getD 4 undef) ((show zV Try.prog T m Try.f38.results.toList = zV Try.prog T m [(ResultVar.tmp 4)] from by kernel_rfl).trans (by simp only [zV])) (by kernel_rfl)) hca hcv
end Go.Proofs.Ytblpnklfimkfoaa
namespace Go.Proofs.Ytblpnklfimkfoaa
open Go.Abs
abbrev zq.id : FuncId := 14
noncomputable def zq.jh : Code := (Code.seq (Code.region 4 (reg Try.f14 4) false) (Code.seq (Code.cond (Operand.tmp 14) Code.skip (Code.exit 0)) (Code.seq (Code.block 1 (Code.seq (Code.region 5 (reg Try.f14 5) false) (Code.seq (Code.region 6 (reg Try.f14 6) true) (Code.cond (Operand.tmp 25) (Code.seq (Code.region 7 (reg Try.f14 7) false) Code.ret) Code.skip)))) (Code.region 8 (reg Try.f14 8) false))))
noncomputable def zq.code : Code := (Code.seq (Code.region 0 (reg Try.f14 0) false) (Code.seq (Code.seq (Code.region 1 (reg Try.f14 1) false) (Code.cond (Operand.tmp 10) (Code.seq (Code.region 2 (reg Try.f14 2) false) Code.ret) Code.skip)) (Code.seq (Code.seq (Code.region 3 (reg Try.f14 3) false) (Code.block 0 (Code.loop zq.jh))) (Code.seq (Code.region 9 (reg Try.f14 9) false) Code.ret))))
theorem zq.body : Try.f14.body = some zq.code := by kernel_rfl
theorem zq.eta {T : List Value} (h : T.length = 27) : T = [T.getD 0 undef,T.getD 1 undef,T.getD 2 undef,T.getD 3 undef,T.getD 4 undef,T.getD 5 undef,T.getD 6 undef,T.getD 7 undef,T.getD 8 undef,T.getD 9 undef,T.getD 10 undef,T.getD 11 undef,T.getD 12 undef,T.getD 13 undef,T.getD 14 undef,T.getD 15 undef,T.getD 16 undef,T.getD 17 undef,T.getD 18 undef,T.getD 19 undef,T.getD 20 undef,T.getD 21 undef,T.getD 22 undef,T.getD 23 undef,T.getD 24 undef,T.getD 25 undef,T.getD 26 undef] := (wV T 27 h).trans (by kernel_rfl)
variable (d w y z E x A B C D f g c b i j k l m n o p q r s t u : Value) (S : zi)
theorem zq.r0  : jl Try.prog ⟨false, false, false⟩ (jc Try.prog O) (reg Try.f14 0) (reg Try.f14 0).toList ([d,w,y,z,E,x,A,B,C,D,f,g,c,b,i,j,k,l,m,n,o,p,q,r,s,t,u]) S =
  ( some ([d,w,y,z,Value.bool false,x,A,B,C,D,f,g,c,b,i,j,k,l,m,n,o,p,q,r,s,t,u], S)) := by
 kernel_rfl
theorem zq.r1  : jl Try.prog ⟨false, false, false⟩ (jc Try.prog O) (reg Try.f14 1) (reg Try.f14 1).toList ([d,w,y,z,E,x,A,B,C,D,f,g,c,b,i,j,k,l,m,n,o,p,q,r,s,t,u]) S =
  (zW (qM Try.prog 22 (dem d) S) (fun H F => zW (qM Try.prog 22 (dem w) F) (fun G I => zW (jJ Try.prog BinOp.neq 3 H G I) (fun W J => some ([d,w,y,z,E,x,dem d,H,dem w,G,W,g,c,b,i,j,k,l,m,n,o,p,q,r,s,t,u], J)) ()) ()) ()) := by
 kernel_rfl
theorem zq.r2  : jl Try.prog ⟨false, false, false⟩ (jc Try.prog O) (reg Try.f14 2) (reg Try.f14 2).toList ([d,w,y,z,E,x,A,B,C,D,f,g,c,b,i,j,k,l,m,n,o,p,q,r,s,t,u]) S =
  ( some ([d,w,y,z,Value.bool false,x,A,B,C,D,f,g,c,b,i,j,k,l,m,n,o,p,q,r,s,t,u], S)) := by
 kernel_rfl
theorem zq.r3  : jl Try.prog ⟨false, false, false⟩ (jc Try.prog O) (reg Try.f14 3) (reg Try.f14 3).toList ([d,w,y,z,E,x,A,B,C,D,f,g,c,b,i,j,k,l,m,n,o,p,q,r,s,t,u]) S =
  (zW (qM Try.prog 22 (dem d) S) (fun H F => some ([d,w,y,z,E,x,A,B,C,D,f,dem d,H,Value.int IntKind.i64 0,i,j,k,l,m,n,o,p,q,r,s,t,u], F)) ()) := by
 kernel_rfl
theorem zq.r4  : jl Try.prog ⟨false, false, false⟩ (jc Try.prog O) (reg Try.f14 4) (reg Try.f14 4).toList ([d,w,y,z,E,x,A,B,C,D,f,g,c,b,i,j,k,l,m,n,o,p,q,r,s,t,u]) S =
  (zW (jJ Try.prog BinOp.lss 3 b c S) (fun K F => some ([d,w,y,z,E,x,A,B,C,D,f,g,c,b,K,j,k,l,m,n,o,p,q,r,s,t,u], F)) ()) := by
 kernel_rfl
theorem zq.r5  : jl Try.prog ⟨false, false, false⟩ (jc Try.prog O) (reg Try.f14 5) (reg Try.f14 5).toList ([d,w,y,z,E,x,A,B,C,D,f,g,c,b,i,j,k,l,m,n,o,p,q,r,s,t,u]) S =
  ( some ([d,w,y,z,E,b,A,B,C,D,f,g,c,dem b,i,dem b,k,l,m,n,o,p,q,r,s,t,u], S)) := by
 kernel_rfl
theorem zq.d6 : qI Try.prog (reg Try.f14 6) = true := by kernel_rfl
theorem zq.ff6 : fixed Try.prog (reg Try.f14 6) = false := by kernel_rfl
theorem zq.k6 : checked Try.prog (reg Try.f14 6) = [] := by kernel_rfl
theorem zq.g6 : again Try.prog (reg Try.f14 6) = [] := by kernel_rfl
theorem zq.r6  : zI Try.prog O false (.region 6 (reg Try.f14 6) true) ([d,w,y,z,E,x,A,B,C,D,f,g,c,b,i,j,k,l,m,n,o,p,q,r,s,t,u]) S =
  WW (zW (jk Try.prog 22 (dem d) (dem x) S) (fun L F => zW (jw Try.prog false 28 L F) (fun G I => zW (jk Try.prog 22 (dem w) (dem x) I) (fun M J => zW (jw Try.prog false 28 M J) (fun N Q => zW ((jc Try.prog O) 38 [(dem G), (dem N)] Q) (fun P R => zW (aUn Try.prog UnOp.not P R) (fun U V => some ([d,w,y,z,E,x,A,B,C,D,f,g,c,b,i,j,dem d,dem x,L,G,dem w,dem x,M,N,P,U,u], V)) ()) ()) ()) ()) ()) ()) := by
 rw [yj zq.d6 zq.ff6 zq.k6 zq.g6]
 refine congrArg WW ?_
 refine tP Try.f14 6 0 (v := d) ?_
 refine tP Try.f14 6 1 (v := x) ?_
 refine tD Try.f14 6 2 (fun L F => ?_)
 refine tD Try.f14 6 3 (fun G I => ?_)
 refine tP Try.f14 6 4 (v := w) ?_
 refine tP Try.f14 6 5 (v := x) ?_
 refine tD Try.f14 6 6 (fun M J => ?_)
 refine tD Try.f14 6 7 (fun N Q => ?_)
 refine tD Try.f14 6 8 (fun P R => ?_)
 refine tD Try.f14 6 9 (fun U V => ?_)
 kernel_rfl
theorem zq.r7  : jl Try.prog ⟨false, false, false⟩ (jc Try.prog O) (reg Try.f14 7) (reg Try.f14 7).toList ([d,w,y,z,E,x,A,B,C,D,f,g,c,b,i,j,k,l,m,n,o,p,q,r,s,t,u]) S =
  ( some ([d,w,y,z,Value.bool false,x,A,B,C,D,f,g,c,b,i,j,k,l,m,n,o,p,q,r,s,t,u], S)) := by
 kernel_rfl
theorem zq.r8  : jl Try.prog ⟨false, false, false⟩ (jc Try.prog O) (reg Try.f14 8) (reg Try.f14 8).toList ([d,w,y,z,E,x,A,B,C,D,f,g,c,b,i,j,k,l,m,n,o,p,q,r,s,t,u]) S =
  (zW (jJ Try.prog BinOp.add 3 b (Value.int IntKind.i64 1) S) (fun K F => some ([d,w,y,z,E,x,A,B,C,D,f,g,c,dem K,i,j,k,l,m,n,o,p,q,r,s,t,K], F)) ()) := by
 kernel_rfl
theorem zq.r9  : jl Try.prog ⟨false, false, false⟩ (jc Try.prog O) (reg Try.f14 9) (reg Try.f14 9).toList ([d,w,y,z,E,x,A,B,C,D,f,g,c,b,i,j,k,l,m,n,o,p,q,r,s,t,u]) S =
  ( some ([d,w,y,z,Value.bool true,x,A,B,C,D,f,g,c,b,i,j,k,l,m,n,o,p,q,r,s,t,u], S)) := by
 kernel_rfl
theorem zq.rs : type_of% (And.intro @zq.r0 (And.intro @zq.r1 (And.intro @zq.r2 (And.intro @zq.r3 (And.intro @zq.r4 (And.intro @zq.r5 (And.intro @zq.r6 (And.intro @zq.r7 (And.intro @zq.r8 (@zq.r9)))))))))) := And.intro @zq.r0 (And.intro @zq.r1 (And.intro @zq.r2 (And.intro @zq.r3 (And.intro @zq.r4 (And.intro @zq.r5 (And.intro @zq.r6 (And.intro @zq.r7 (And.intro @zq.r8 (@zq.r9)))))))))
theorem zq.runs {d w : Value} {S F : zi} {e : AEx} {T : List Value} (h : zI Try.prog O false zq.code ([d,w,undef,undef,undef,undef,undef,undef,undef,undef,undef,undef,undef,undef,undef,undef,undef,undef,undef,undef,undef,undef,undef,undef,undef,undef,undef]) S = some (e, T, F)) (he : e = .normal ∨ e = .ret) : jc Try.prog O 14 [d, w] S = some (T.getD 4 undef, F) :=
 jU rfl rfl Try.func14 (by decide) zq.body (by exact h) he (qW (a := T.getD 4 undef) ((show zV Try.prog T F Try.f14.results.toList = zV Try.prog T F [(ResultVar.tmp 4)] from by kernel_rfl).trans (by simp only [zV])) (by kernel_rfl))
end Go.Proofs.Ytblpnklfimkfoaa
namespace Go.Proofs.Ytblpnklfimkfoaa
open Go.Abs
abbrev zN.id : FuncId := 29
noncomputable def zN.code : Code := (Code.seq (Code.region 0 (reg Try.f29 0) false) (Code.seq (Code.region 1 (reg Try.f29 1) false) (Code.seq (Code.seq (Code.region 2 (reg Try.f29 2) false) (Code.cond (Operand.tmp 16) (Code.seq (Code.region 3 (reg Try.f29 3) false) Code.ret) Code.skip)) (Code.seq (Code.region 4 (reg Try.f29 4) false) (Code.seq (Code.region 5 (reg Try.f29 5) false) (Code.seq (Code.seq (Code.region 6 (reg Try.f29 6) false) (Code.cond (Operand.tmp 26) (Code.region 7 (reg Try.f29 7) true) Code.skip)) (Code.seq (Code.region 8 (reg Try.f29 8) true) Code.ret)))))))
theorem zN.body : Try.f29.body = some zN.code := by kernel_rfl
variable (x0 x1 x2 x3 a x5 x6 x7 x8 x9 b c d f g i k l m n o p q r s t u w x y z A B C D E F G H I J K L M N P Q R U V W X Y : Value) (S : zi)
theorem zN.r0  : jl Try.prog ⟨false, false, false⟩ (jc Try.prog O) (reg Try.f29 0) (reg Try.f29 0).toList ([x0,x1,x2,x3,a,x5,x6,x7,x8,x9,b,c,d,f,g,i,k,l,m,n,o,p,q,r,s,t,u,w,x,y,z,A,B,C,D,E,F,G,H,I,J,K,L,M,N,P,Q,R,U,V,W,X,Y]) S =
  (zW (qc Try.prog 28 S) (fun v0 Z => some ([x0,x1,v0,Value.bool false,a,x5,x6,x7,x8,x9,b,c,d,f,g,i,k,l,m,n,o,p,q,r,s,t,u,w,x,y,z,A,B,C,D,E,F,G,H,I,J,K,L,M,N,P,Q,R,U,V,W,X,Y], Z)) ()) := by
 kernel_rfl
theorem zN.r1  : jl Try.prog ⟨false, false, false⟩ (jc Try.prog O) (reg Try.f29 1) (reg Try.f29 1).toList ([x0,x1,x2,x3,a,x5,x6,x7,x8,x9,b,c,d,f,g,i,k,l,m,n,o,p,q,r,s,t,u,w,x,y,z,A,B,C,D,E,F,G,H,I,J,K,L,M,N,P,Q,R,U,V,W,X,Y]) S =
  (zW ((jc Try.prog O) 44 [(dem (dem x0)), (Value.int IntKind.i64 4)] S) (fun v1 Z => zW (zL v1 0 Z) (fun v3 S2 => zW (zL (zQ 0 v1) 1 S2) (fun v4 S3 => zW (zL (zQ 1 (zQ 0 v1)) 2 S3) (fun v5 S4 => some ([x0,x1,x2,x3,v3,v4,v5,x7,x8,zQ 2 (zQ 1 (zQ 0 v1)),dem x0,dem v1,dem v3,dem v4,dem v5,i,k,l,m,n,o,p,q,r,s,t,u,w,x,y,z,A,B,C,D,E,F,G,H,I,J,K,L,M,N,P,Q,R,U,V,W,X,Y], S4)) ()) ()) ()) ()) := by
 kernel_rfl
theorem zN.r2  : jl Try.prog ⟨false, false, false⟩ (jc Try.prog O) (reg Try.f29 2) (reg Try.f29 2).toList ([x0,x1,x2,x3,a,x5,x6,x7,x8,x9,b,c,d,f,g,i,k,l,m,n,o,p,q,r,s,t,u,w,x,y,z,A,B,C,D,E,F,G,H,I,J,K,L,M,N,P,Q,R,U,V,W,X,Y]) S =
  (zW (jJ Try.prog BinOp.neq 29 (dem x6) (Value.int IntKind.i64 0) S) (fun v1 Z => some ([x0,x1,x2,x3,a,x5,x6,x7,x8,x9,b,c,d,f,g,dem x6,v1,l,m,n,o,p,q,r,s,t,u,w,x,y,z,A,B,C,D,E,F,G,H,I,J,K,L,M,N,P,Q,R,U,V,W,X,Y], Z)) ()) := by
 kernel_rfl
theorem zN.r3  : jl Try.prog ⟨false, false, false⟩ (jc Try.prog O) (reg Try.f29 3) (reg Try.f29 3).toList ([x0,x1,x2,x3,a,x5,x6,x7,x8,x9,b,c,d,f,g,i,k,l,m,n,o,p,q,r,s,t,u,w,x,y,z,A,B,C,D,E,F,G,H,I,J,K,L,M,N,P,Q,R,U,V,W,X,Y]) S =
  (zW (yh Try.prog 28 [] S) (fun v0 Z => zW (yU Try.prog 28 x2 (dem v0) Z) (fun v1 S2 => some ([x0,x1,x2,Value.bool false,a,x5,x6,x7,x8,x9,b,c,d,f,g,i,k,v0,m,n,o,p,q,r,s,t,u,w,x,y,z,A,B,C,D,E,F,G,H,I,J,K,L,M,N,P,Q,R,U,V,W,X,Y], S2)) ()) ()) := by
 kernel_rfl
theorem zN.r4  : jl Try.prog ⟨false, false, false⟩ (jc Try.prog O) (reg Try.f29 4) (reg Try.f29 4).toList ([x0,x1,x2,x3,a,x5,x6,x7,x8,x9,b,c,d,f,g,i,k,l,m,n,o,p,q,r,s,t,u,w,x,y,z,A,B,C,D,E,F,G,H,I,J,K,L,M,N,P,Q,R,U,V,W,X,Y]) S =
  (zW ((jc Try.prog O) 28 [(dem (dem x5))] S) (fun v1 Z => zW (zL v1 0 Z) (fun v3 S2 => zW (zL (zQ 0 v1) 1 S2) (fun v4 S3 => zW (zL (zQ 1 (zQ 0 v1)) 2 S3) (fun v5 S4 => some ([x0,x1,x2,x3,a,v4,v5,v3,x8,x9,b,c,d,f,g,i,k,l,zQ 2 (zQ 1 (zQ 0 v1)),dem x5,dem v1,dem v3,dem v4,dem v5,s,t,u,w,x,y,z,A,B,C,D,E,F,G,H,I,J,K,L,M,N,P,Q,R,U,V,W,X,Y], S4)) ()) ()) ()) ()) := by
 kernel_rfl
theorem zN.r5  : jl Try.prog ⟨false, false, false⟩ (jc Try.prog O) (reg Try.f29 5) (reg Try.f29 5).toList ([x0,x1,x2,x3,a,x5,x6,x7,x8,x9,b,c,d,f,g,i,k,l,m,n,o,p,q,r,s,t,u,w,x,y,z,A,B,C,D,E,F,G,H,I,J,K,L,M,N,P,Q,R,U,V,W,X,Y]) S =
  (zW (yh Try.prog 28 [] S) (fun v0 Z => zW (qc Try.prog 28 Z) (fun v1 S2 => zW (yU Try.prog 28 v1 (dem v0) S2) (fun v2 S3 => some ([x0,x1,x2,x3,a,x5,x6,x7,v1,x9,b,c,d,f,g,i,k,l,m,n,o,p,q,r,v0,t,u,w,x,y,z,A,B,C,D,E,F,G,H,I,J,K,L,M,N,P,Q,R,U,V,W,X,Y], S3)) ()) ()) ()) := by
 kernel_rfl
theorem zN.r6  : jl Try.prog ⟨false, false, false⟩ (jc Try.prog O) (reg Try.f29 6) (reg Try.f29 6).toList ([x0,x1,x2,x3,a,x5,x6,x7,x8,x9,b,c,d,f,g,i,k,l,m,n,o,p,q,r,s,t,u,w,x,y,z,A,B,C,D,E,F,G,H,I,J,K,L,M,N,P,Q,R,U,V,W,X,Y]) S =
  (zW (jJ Try.prog BinOp.eql 29 (dem x6) (Value.int IntKind.i64 0) S) (fun v1 Z => some ([x0,x1,x2,x3,a,x5,x6,x7,x8,x9,b,c,d,f,g,i,k,l,m,n,o,p,q,r,s,dem x6,v1,w,x,y,z,A,B,C,D,E,F,G,H,I,J,K,L,M,N,P,Q,R,U,V,W,X,Y], Z)) ()) := by
 kernel_rfl
theorem zN.d7 : qI Try.prog (reg Try.f29 7) = true := by kernel_rfl
theorem zN.ff7 : fixed Try.prog (reg Try.f29 7) = false := by kernel_rfl
theorem zN.k7 : checked Try.prog (reg Try.f29 7) = [] := by kernel_rfl
theorem zN.g7 : again Try.prog (reg Try.f29 7) = [] := by kernel_rfl
theorem zN.r7  : zI Try.prog O false (.region 7 (reg Try.f29 7) true) ([x0,x1,x2,x3,a,x5,x6,x7,x8,x9,b,c,d,f,g,i,k,l,m,n,o,p,q,r,s,t,u,w,x,y,z,A,B,C,D,E,F,G,H,I,J,K,L,M,N,P,Q,R,U,V,W,X,Y]) S =
  WW (zW (jk Try.prog 56 (dem a) (Value.int IntKind.i64 0) S) (fun v1 Z => zW (jw Try.prog false 3 v1 Z) (fun v2 S2 => zW (jk Try.prog 56 (dem a) (Value.int IntKind.i64 1) S2) (fun v4 S3 => zW (jw Try.prog false 3 v4 S3) (fun v5 S4 => zW (jk Try.prog 56 (dem a) (Value.int IntKind.i64 2) S4) (fun v7 S5 => zW (jw Try.prog false 3 v7 S5) (fun v8 S6 => zW (jk Try.prog 56 (dem a) (Value.int IntKind.i64 3) S6) (fun a1 S7 => zW (jw Try.prog false 3 a1 S7) (fun a0 S8 => zW (yh Try.prog 28 [(0, (dem v2)), (1, (dem v5)), (2, (dem v8)), (3, (dem a0)), (4, (dem (dem x7)))] S8) (fun a3 S9 => zW (yU Try.prog 28 x8 (dem a3) S9) (fun a4 a2 => some ([x0,x1,x2,x3,a,x5,x6,x7,x8,x9,b,c,d,f,g,i,k,l,m,n,o,p,q,r,s,t,u,dem a,v1,v2,dem a,v4,v5,dem a,v7,v8,dem a,a1,a0,dem x7,a3,K,L,M,N,P,Q,R,U,V,W,X,Y], a2)) ()) ()) ()) ()) ()) ()) ()) ()) ()) ()) := by
 rw [yj zN.d7 zN.ff7 zN.k7 zN.g7]
 refine congrArg WW ?_
 refine tP Try.f29 7 0 (v := a) ?_
 refine tD Try.f29 7 1 (fun v1 Z => ?_)
 refine tD Try.f29 7 2 (fun v2 S2 => ?_)
 refine tP Try.f29 7 3 (v := a) ?_
 refine tD Try.f29 7 4 (fun v4 S3 => ?_)
 refine tD Try.f29 7 5 (fun v5 S4 => ?_)
 refine tP Try.f29 7 6 (v := a) ?_
 refine tD Try.f29 7 7 (fun v7 S5 => ?_)
 refine tD Try.f29 7 8 (fun v8 S6 => ?_)
 refine tP Try.f29 7 9 (v := a) ?_
 refine tD Try.f29 7 10 (fun a1 S7 => ?_)
 refine tD Try.f29 7 11 (fun a0 S8 => ?_)
 refine tP Try.f29 7 12 (v := x7) ?_
 refine tD Try.f29 7 13 (fun a3 S9 => ?_)
 refine tD Try.f29 7 14 (fun a4 a2 => ?_)
 kernel_rfl
theorem zN.d8 : qI Try.prog (reg Try.f29 8) = true := by kernel_rfl
theorem zN.ff8 : fixed Try.prog (reg Try.f29 8) = false := by kernel_rfl
theorem zN.k8 : checked Try.prog (reg Try.f29 8) = [0, 11] := by kernel_rfl
theorem zN.g8 : again Try.prog (reg Try.f29 8) = [(0, 10)] := by kernel_rfl
theorem zN.r8  : zI Try.prog O false (.region 8 (reg Try.f29 8) true) ([x0,x1,x2,x3,a,x5,x6,x7,x8,x9,b,c,d,f,g,i,k,l,m,n,o,p,q,r,s,t,u,w,x,y,z,A,B,C,D,E,F,G,H,I,J,K,L,M,N,P,Q,R,U,V,W,X,Y]) S =
  WW (zW (jw Try.prog false 28 x8 S) (fun v0 Z => okK v0 ( zW (jJ Try.prog BinOp.eql 29 (dem x6) (Value.int IntKind.i64 0) Z) (fun v2 S2 => gdK (dem v2) true (ret x5) S2 (fun v4 S3 => gdK (dem v2) true (qM Try.prog 26 (dem v4)) S3 (fun v5 S4 => gdK (dem v2) true (jJ Try.prog BinOp.eql 3 v5 (Value.int IntKind.i64 0)) S4 (fun v6 S5 => zW (wZ (dem v2) v6 (Value.bool false) S5) (fun v7 S6 => gdK (dem v7) true (jw Try.prog false 28 x8) S6 (fun v9 S7 => gdK (dem v7) true ((jc Try.prog O) 31 [(dem v9)]) S7 (fun a1 S8 => zW (wZ (dem v7) a1 (Value.bool false) S8) (fun a0 S9 => okK a0 ( zW (yU Try.prog 28 x2 (dem v0) S9) (fun a5 a2 => ckK (qN x8 S S8 && (true)) (some ([x0,x1,x2,a0,a,x5,x6,x7,x8,x9,b,c,d,f,g,i,k,l,m,n,o,p,q,r,s,t,u,w,x,y,z,A,B,C,D,E,F,G,H,I,J,v0,dem x6,v2,dem v2,dem v4,v5,v6,v7,dem v7,v9,a1,dem a0], a2)) ()) ()) ()) ()) ()) ()) ()) ()) ()) ()) ()) ()) ()) := by
 rw [yj zN.d8 zN.ff8 zN.k8 zN.g8]
 refine congrArg WW ?_
 refine uDC Try.f29 8 0 (pe := x8) (fun v0 Z => ?_)
 refine uP Try.f29 8 1 (v := x6) (pe := undef) ?_
 refine uD Try.f29 8 2 (pe := undef) (fun v2 S2 => ?_)
 refine uP Try.f29 8 3 (v := v2) (pe := undef) ?_
 refine uG Try.f29 8 4 (j := 3) (pe := undef) (fun v4 S3 => ?_)
 refine uG Try.f29 8 5 (j := 3) (pe := undef) (fun v5 S4 => ?_)
 refine uG Try.f29 8 6 (j := 3) (pe := undef) (fun v6 S5 => ?_)
 refine uD Try.f29 8 7 (pe := undef) (fun v7 S6 => ?_)
 refine uP Try.f29 8 8 (v := v7) (pe := undef) ?_
 refine uG Try.f29 8 9 (j := 8) (pe := x8) (fun v9 S7 => ?_)
 refine uG Try.f29 8 10 (j := 8) (pe := undef) (fun a1 S8 => ?_)
 refine uDC Try.f29 8 11 (pe := undef) (fun a0 S9 => ?_)
 refine uD Try.f29 8 12 (pe := undef) (fun a5 a2 => ?_)
 refine uP Try.f29 8 13 (v := a0) (pe := undef) ?_
 kernel_rfl
theorem zN.rs : type_of% (And.intro @zN.r0 (And.intro @zN.r1 (And.intro @zN.r2 (And.intro @zN.r3 (And.intro @zN.r4 (And.intro @zN.r5 (And.intro @zN.r6 (And.intro @zN.r7 (@zN.r8))))))))) := And.intro @zN.r0 (And.intro @zN.r1 (And.intro @zN.r2 (And.intro @zN.r3 (And.intro @zN.r4 (And.intro @zN.r5 (And.intro @zN.r6 (And.intro @zN.r7 (@zN.r8))))))))
theorem zN.runs {x0 : Value} {S Z : zi} {e : AEx} {T : List Value} (h : zI Try.prog O false zN.code ([x0,undef,undef,undef,undef,undef,undef,undef,undef,undef,undef,undef,undef,undef,undef,undef,undef,undef,undef,undef,undef,undef,undef,undef,undef,undef,undef,undef,undef,undef,undef,undef,undef,undef,undef,undef,undef,undef,undef,undef,undef,undef,undef,undef,undef,undef,undef,undef,undef,undef,undef,undef,undef]) zi.empty = some (e, T, Z)) (he : e = .normal ∨ e = .ret) {w0 : Value} (c0 : jw Try.prog false 28 (T.getD 2 undef) Z = some (w0, Z)) (h0 : ji (w0) = true) (h1 : ji (T.getD 3 undef) = true) (hca : [x0].all (jy 16) = true) (hcv : jy 16 (Value.tuple #[w0, T.getD 3 undef]) = true) : jc Try.prog O 29 [x0] S = some (Value.tuple #[w0, T.getD 3 undef], S) :=
 qH rfl rfl Try.func29 (by decide) zN.body (by exact h) he ((wu ((show zV Try.prog T Z Try.f29.results.toList = zV Try.prog T Z [(ResultVar.cell 2 28), (ResultVar.tmp 3)] from by kernel_rfl).trans (by simp only [zV, c0])) (by kernel_rfl) (by simp only [List.all_cons, List.all_nil, h0, h1, Bool.and_true])).trans rfl) hca hcv
end Go.Proofs.Ytblpnklfimkfoaa
namespace Go.Proofs.Ytblpnklfimkfoaa
open Go.Abs
abbrev zB.id : FuncId := 9
noncomputable def zB.jh : Code := (Code.seq (Code.seq (Code.region 3 (reg Try.f9 3) false) (Code.cond (Operand.tmp 14) Code.skip (Code.exit 0))) (Code.block 1 (Code.seq (Code.region 4 (reg Try.f9 4) false) (Code.seq (Code.seq (Code.region 5 (reg Try.f9 5) false) (Code.cond (Operand.tmp 24) (Code.exit 0) Code.skip)) (Code.seq (Code.region 6 (reg Try.f9 6) false) (Code.seq (Code.seq (Code.region 7 (reg Try.f9 7) false) (Code.cond (Operand.tmp 31) (Code.exit 0) Code.skip)) (Code.seq (Code.region 8 (reg Try.f9 8) false) (Code.region 9 (reg Try.f9 9) false))))))))
noncomputable def zB.code : Code := (Code.seq (Code.region 0 (reg Try.f9 0) false) (Code.seq (Code.region 1 (reg Try.f9 1) false) (Code.seq (Code.region 2 (reg Try.f9 2) false) (Code.seq (Code.block 0 (Code.loop zB.jh)) (Code.seq (Code.region 10 (reg Try.f9 10) false) Code.ret)))))
theorem zB.body : Try.f9.body = some zB.code := by kernel_rfl
theorem zB.eta {T : List Value} (h : T.length = 43) : T = [T.getD 0 undef,T.getD 1 undef,T.getD 2 undef,T.getD 3 undef,T.getD 4 undef,T.getD 5 undef,T.getD 6 undef,T.getD 7 undef,T.getD 8 undef,T.getD 9 undef,T.getD 10 undef,T.getD 11 undef,T.getD 12 undef,T.getD 13 undef,T.getD 14 undef,T.getD 15 undef,T.getD 16 undef,T.getD 17 undef,T.getD 18 undef,T.getD 19 undef,T.getD 20 undef,T.getD 21 undef,T.getD 22 undef,T.getD 23 undef,T.getD 24 undef,T.getD 25 undef,T.getD 26 undef,T.getD 27 undef,T.getD 28 undef,T.getD 29 undef,T.getD 30 undef,T.getD 31 undef,T.getD 32 undef,T.getD 33 undef,T.getD 34 undef,T.getD 35 undef,T.getD 36 undef,T.getD 37 undef,T.getD 38 undef,T.getD 39 undef,T.getD 40 undef,T.getD 41 undef,T.getD 42 undef] := (wV T 43 h).trans (by kernel_rfl)
variable (b Q U V L K M N P R a c d f g i j k l m n o p q r s t u v w x y z A B C D E F G H I J : Value) (S : zi)
theorem zB.r0  : jl Try.prog ⟨false, false, false⟩ (jc Try.prog O) (reg Try.f9 0) (reg Try.f9 0).toList ([b,Q,U,V,L,K,M,N,P,R,a,c,d,f,g,i,j,k,l,m,n,o,p,q,r,s,t,u,v,w,x,y,z,A,B,C,D,E,F,G,H,I,J]) S =
  ( some ([b,Q,Value.slice none 0 0,Value.int IntKind.i64 0,L,K,M,N,P,R,a,c,d,f,g,i,j,k,l,m,n,o,p,q,r,s,t,u,v,w,x,y,z,A,B,C,D,E,F,G,H,I,J], S)) := by
 kernel_rfl
theorem zB.r1  : jl Try.prog ⟨false, false, false⟩ (jc Try.prog O) (reg Try.f9 1) (reg Try.f9 1).toList ([b,Q,U,V,L,K,M,N,P,R,a,c,d,f,g,i,j,k,l,m,n,o,p,q,r,s,t,u,v,w,x,y,z,A,B,C,D,E,F,G,H,I,J]) S =
  ( some ([b,Q,U,V,Value.slice none 0 0,K,M,N,P,R,a,c,d,f,g,i,j,k,l,m,n,o,p,q,r,s,t,u,v,w,x,y,z,A,B,C,D,E,F,G,H,I,J], S)) := by
 kernel_rfl
theorem zB.r2  : jl Try.prog ⟨false, false, false⟩ (jc Try.prog O) (reg Try.f9 2) (reg Try.f9 2).toList ([b,Q,U,V,L,K,M,N,P,R,a,c,d,f,g,i,j,k,l,m,n,o,p,q,r,s,t,u,v,w,x,y,z,A,B,C,D,E,F,G,H,I,J]) S =
  ( some ([b,Q,U,V,L,Value.int IntKind.i64 0,M,N,P,R,a,c,d,f,g,i,j,k,l,m,n,o,p,q,r,s,t,u,v,w,x,y,z,A,B,C,D,E,F,G,H,I,J], S)) := by
 kernel_rfl
theorem zB.r3  : jl Try.prog ⟨false, false, false⟩ (jc Try.prog O) (reg Try.f9 3) (reg Try.f9 3).toList ([b,Q,U,V,L,K,M,N,P,R,a,c,d,f,g,i,j,k,l,m,n,o,p,q,r,s,t,u,v,w,x,y,z,A,B,C,D,E,F,G,H,I,J]) S =
  (zW (qM Try.prog 26 (dem b) S) (fun v2 W => zW (jJ Try.prog BinOp.lss 3 (dem K) v2 W) (fun X Z => some ([b,Q,U,V,L,K,M,N,P,R,a,dem K,dem b,v2,X,i,j,k,l,m,n,o,p,q,r,s,t,u,v,w,x,y,z,A,B,C,D,E,F,G,H,I,J], Z)) ()) ()) := by
 kernel_rfl
theorem zB.r4  : jl Try.prog ⟨false, false, false⟩ (jc Try.prog O) (reg Try.f9 4) (reg Try.f9 4).toList ([b,Q,U,V,L,K,M,N,P,R,a,c,d,f,g,i,j,k,l,m,n,o,p,q,r,s,t,u,v,w,x,y,z,A,B,C,D,E,F,G,H,I,J]) S =
  (zW (wz Try.prog false 26 (dem b) (some (dem K)) none S) (fun v2 W => zW ((jc Try.prog O) 28 [(dem v2)] W) (fun X Z => zW (zL X 0 Z) (fun v5 S3 => zW (zL (zQ 0 X) 1 S3) (fun v6 S4 => zW (zL (zQ 1 (zQ 0 X)) 2 S4) (fun v7 S5 => some ([b,Q,U,V,L,K,v5,v6,v7,R,a,c,d,f,g,zQ 2 (zQ 1 (zQ 0 X)),dem b,dem K,v2,dem X,dem v5,dem v6,dem v7,q,r,s,t,u,v,w,x,y,z,A,B,C,D,E,F,G,H,I,J], S5)) ()) ()) ()) ()) ()) := by
 kernel_rfl
theorem zB.r5  : jl Try.prog ⟨false, false, false⟩ (jc Try.prog O) (reg Try.f9 5) (reg Try.f9 5).toList ([b,Q,U,V,L,K,M,N,P,R,a,c,d,f,g,i,j,k,l,m,n,o,p,q,r,s,t,u,v,w,x,y,z,A,B,C,D,E,F,G,H,I,J]) S =
  (zW (jJ Try.prog BinOp.neq 29 (dem P) (Value.int IntKind.i64 0) S) (fun Y W => some ([b,Q,U,V,L,K,M,N,P,R,a,c,d,f,g,i,j,k,l,m,n,o,p,dem P,Y,s,t,u,v,w,x,y,z,A,B,C,D,E,F,G,H,I,J], W)) ()) := by
 kernel_rfl
theorem zB.r6  : jl Try.prog ⟨false, false, false⟩ (jc Try.prog O) (reg Try.f9 6) (reg Try.f9 6).toList ([b,Q,U,V,L,K,M,N,P,R,a,c,d,f,g,i,j,k,l,m,n,o,p,q,r,s,t,u,v,w,x,y,z,A,B,C,D,E,F,G,H,I,J]) S =
  (zW ((jc Try.prog O) 29 [(dem (dem M))] S) (fun Y W => zW (zL Y 0 W) (fun X Z => zW (zL (zQ 0 Y) 1 Z) (fun v4 S3 => zW (qc Try.prog 28 S3) (fun v5 S4 => zW (yU Try.prog 28 v5 (dem X) S4) (fun v6 S5 => some ([b,Q,U,V,L,K,M,N,P,v5,v4,c,d,f,g,i,j,k,l,m,n,o,p,q,r,zQ 1 (zQ 0 Y),dem M,dem Y,X,dem v4,x,y,z,A,B,C,D,E,F,G,H,I,J], S5)) ()) ()) ()) ()) ()) := by
 kernel_rfl
theorem zB.r7  : jl Try.prog ⟨false, false, false⟩ (jc Try.prog O) (reg Try.f9 7) (reg Try.f9 7).toList ([b,Q,U,V,L,K,M,N,P,R,a,c,d,f,g,i,j,k,l,m,n,o,p,q,r,s,t,u,v,w,x,y,z,A,B,C,D,E,F,G,H,I,J]) S =
  (zW (aUn Try.prog UnOp.not (dem a) S) (fun Y W => some ([b,Q,U,V,L,K,M,N,P,R,a,c,d,f,g,i,j,k,l,m,n,o,p,q,r,s,t,u,v,w,dem a,Y,z,A,B,C,D,E,F,G,H,I,J], W)) ()) := by
 kernel_rfl
theorem zB.r8  : jl Try.prog ⟨false, false, false⟩ (jc Try.prog O) (reg Try.f9 8) (reg Try.f9 8).toList ([b,Q,U,V,L,K,M,N,P,R,a,c,d,f,g,i,j,k,l,m,n,o,p,q,r,s,t,u,v,w,x,y,z,A,B,C,D,E,F,G,H,I,J]) S =
  (zW (jw Try.prog false 28 R S) (fun Y W => zW (jg Try.prog 22 1 [(0, Y)] W) (fun v2 Z => zW (jB Try.prog 22 22 L v2 Z) (fun X S3 => some ([b,Q,U,V,X,K,M,N,P,R,a,c,d,f,g,i,j,k,l,m,n,o,p,q,r,s,t,u,v,w,x,y,dem L,Y,v2,dem X,D,E,F,G,H,I,J], S3)) ()) ()) ()) := by
 kernel_rfl
theorem zB.r9  : jl Try.prog ⟨false, false, false⟩ (jc Try.prog O) (reg Try.f9 9) (reg Try.f9 9).toList ([b,Q,U,V,L,K,M,N,P,R,a,c,d,f,g,i,j,k,l,m,n,o,p,q,r,s,t,u,v,w,x,y,z,A,B,C,D,E,F,G,H,I,J]) S =
  (zW (qM Try.prog 26 (dem b) S) (fun Y W => zW (qM Try.prog 26 (dem N) W) (fun X Z => zW (jJ Try.prog BinOp.sub 3 Y X Z) (fun v4 S3 => some ([b,Q,U,V,L,v4,M,N,P,R,a,c,d,f,g,i,j,k,l,m,n,o,p,q,r,s,t,u,v,w,x,y,z,A,B,C,dem b,Y,dem N,X,dem v4,I,J], S3)) ()) ()) ()) := by
 kernel_rfl
theorem zB.r10  : jl Try.prog ⟨false, false, false⟩ (jc Try.prog O) (reg Try.f9 10) (reg Try.f9 10).toList ([b,Q,U,V,L,K,M,N,P,R,a,c,d,f,g,i,j,k,l,m,n,o,p,q,r,s,t,u,v,w,x,y,z,A,B,C,D,E,F,G,H,I,J]) S =
  ( some ([b,Q,L,K,dem L,dem K,M,N,P,R,a,c,d,f,g,i,j,k,l,m,n,o,p,q,r,s,t,u,v,w,x,y,z,A,B,C,D,E,F,G,H,dem L,dem K], S)) := by
 kernel_rfl
theorem zB.rs : type_of% (And.intro @zB.r0 (And.intro @zB.r1 (And.intro @zB.r2 (And.intro @zB.r3 (And.intro @zB.r4 (And.intro @zB.r5 (And.intro @zB.r6 (And.intro @zB.r7 (And.intro @zB.r8 (And.intro @zB.r9 (@zB.r10))))))))))) := And.intro @zB.r0 (And.intro @zB.r1 (And.intro @zB.r2 (And.intro @zB.r3 (And.intro @zB.r4 (And.intro @zB.r5 (And.intro @zB.r6 (And.intro @zB.r7 (And.intro @zB.r8 (And.intro @zB.r9 (@zB.r10))))))))))
theorem zB.runs {b : Value} {S W : zi} {e : AEx} {T : List Value} (h : zI Try.prog O false zB.code ([b,undef,undef,undef,undef,undef,undef,undef,undef,undef,undef,undef,undef,undef,undef,undef,undef,undef,undef,undef,undef,undef,undef,undef,undef,undef,undef,undef,undef,undef,undef,undef,undef,undef,undef,undef,undef,undef,undef,undef,undef,undef,undef]) zi.empty = some (e, T, W)) (he : e = .normal ∨ e = .ret)  (h0 : ji (T.getD 2 undef) = true) (h1 : ji (T.getD 3 undef) = true) (hca : [b].all (jy 16) = true) (hcv : jy 16 (Value.tuple #[T.getD 2 undef, T.getD 3 undef]) = true) : jc Try.prog O 9 [b] S = some (Value.tuple #[T.getD 2 undef, T.getD 3 undef], S) :=
 qH rfl rfl Try.func9 (by decide) zB.body (by exact h) he ((wu ((show zV Try.prog T W Try.f9.results.toList = zV Try.prog T W [(ResultVar.tmp 2), (ResultVar.tmp 3)] from by kernel_rfl).trans (by simp only [zV])) (by kernel_rfl) (by simp only [List.all_cons, List.all_nil, h0, h1, Bool.and_true])).trans rfl) hca hcv
end Go.Proofs.Ytblpnklfimkfoaa
namespace Go.Proofs.Ytblpnklfimkfoaa
open Go.Abs
abbrev zC.id : FuncId := 31
noncomputable def zC.jh : Code := (Code.seq (Code.region 2 (reg Try.f31 2) false) (Code.seq (Code.cond (Operand.tmp 16) Code.skip (Code.exit 0)) (Code.seq (Code.block 1 (Code.seq (Code.region 3 (reg Try.f31 3) false) (Code.seq (Code.region 4 (reg Try.f31 4) false) (Code.cond (Operand.tmp 24) (Code.seq (Code.region 5 (reg Try.f31 5) false) Code.ret) Code.skip)))) (Code.region 6 (reg Try.f31 6) false))))
noncomputable def zC.code : Code := (Code.seq (Code.region 0 (reg Try.f31 0) false) (Code.seq (Code.seq (Code.region 1 (reg Try.f31 1) false) (Code.block 0 (Code.loop zC.jh))) (Code.seq (Code.region 7 (reg Try.f31 7) false) Code.ret)))
theorem zC.body : Try.f31.body = some zC.code := by kernel_rfl
theorem zC.eta {T : List Value} (h : T.length = 30) : T = [T.getD 0 undef,T.getD 1 undef,T.getD 2 undef,T.getD 3 undef,T.getD 4 undef,T.getD 5 undef,T.getD 6 undef,T.getD 7 undef,T.getD 8 undef,T.getD 9 undef,T.getD 10 undef,T.getD 11 undef,T.getD 12 undef,T.getD 13 undef,T.getD 14 undef,T.getD 15 undef,T.getD 16 undef,T.getD 17 undef,T.getD 18 undef,T.getD 19 undef,T.getD 20 undef,T.getD 21 undef,T.getD 22 undef,T.getD 23 undef,T.getD 24 undef,T.getD 25 undef,T.getD 26 undef,T.getD 27 undef,T.getD 28 undef,T.getD 29 undef] := (wV T 30 h).trans (by kernel_rfl)
variable (z A L D B F G H I J f g i c d b k l m n o p q r s t u w x y : Value) (S : zi)
theorem zC.r0  : jl Try.prog ⟨false, false, false⟩ (jc Try.prog O) (reg Try.f31 0) (reg Try.f31 0).toList ([z,A,L,D,B,F,G,H,I,J,f,g,i,c,d,b,k,l,m,n,o,p,q,r,s,t,u,w,x,y]) S =
  (zW (Xd (dem z) S) (fun K C => some ([z,K,Value.bool false,D,B,F,G,H,I,J,f,g,i,c,d,b,k,l,m,n,o,p,q,r,s,t,u,w,x,y], C)) ()) := by
 kernel_rfl
theorem zC.r1  : jl Try.prog ⟨false, false, false⟩ (jc Try.prog O) (reg Try.f31 1) (reg Try.f31 1).toList ([z,A,L,D,B,F,G,H,I,J,f,g,i,c,d,b,k,l,m,n,o,p,q,r,s,t,u,w,x,y]) S =
  (zW (jf Try.prog 28 A 0 S) (fun K C => zW (jw Try.prog false 3 K C) (fun E N => zW (jf Try.prog 28 A 1 N) (fun U P => zW (jw Try.prog false 3 U P) (fun M Q => zW (jf Try.prog 28 A 2 Q) (fun R S5 => zW (jw Try.prog false 3 R S5) (fun V S6 => zW (jf Try.prog 28 A 3 S6) (fun W S7 => zW (jw Try.prog false 3 W S7) (fun X S8 => zW (jg Try.prog 56 4 [(0, E), (1, M), (2, V), (3, X)] S8) (fun Y S9 => zW (qM Try.prog 56 Y S9) (fun v9 Z => some ([z,A,L,D,B,K,E,U,M,R,V,W,X,Y,v9,Value.int IntKind.i64 0,k,l,m,n,o,p,q,r,s,t,u,w,x,y], Z)) ()) ()) ()) ()) ()) ()) ()) ()) ()) ()) := by
 kernel_rfl
theorem zC.r2  : jl Try.prog ⟨false, false, false⟩ (jc Try.prog O) (reg Try.f31 2) (reg Try.f31 2).toList ([z,A,L,D,B,F,G,H,I,J,f,g,i,c,d,b,k,l,m,n,o,p,q,r,s,t,u,w,x,y]) S =
  (zW (jJ Try.prog BinOp.lss 3 b d S) (fun K C => some ([z,A,L,D,B,F,G,H,I,J,f,g,i,c,d,b,K,l,m,n,o,p,q,r,s,t,u,w,x,y], C)) ()) := by
 kernel_rfl
theorem zC.r3  : jl Try.prog ⟨false, false, false⟩ (jc Try.prog O) (reg Try.f31 3) (reg Try.f31 3).toList ([z,A,L,D,B,F,G,H,I,J,f,g,i,c,d,b,k,l,m,n,o,p,q,r,s,t,u,w,x,y]) S =
  (zW (jk Try.prog 56 c b S) (fun K C => zW (jw Try.prog false 3 K C) (fun E N => some ([z,A,L,D,E,F,G,H,I,J,f,g,i,c,d,b,k,K,dem E,n,o,p,q,r,s,t,u,w,x,y], N)) ()) ()) := by
 kernel_rfl
theorem zC.r4  : jl Try.prog ⟨false, false, false⟩ (jc Try.prog O) (reg Try.f31 4) (reg Try.f31 4).toList ([z,A,L,D,B,F,G,H,I,J,f,g,i,c,d,b,k,l,m,n,o,p,q,r,s,t,u,w,x,y]) S =
  (zW (jJ Try.prog BinOp.lss 3 (dem B) (Value.int IntKind.i64 (-1)) S) (fun E C => gdK (dem E) false (ret B) C (fun M N => gdK (dem E) false (jJ Try.prog BinOp.gtr 3 (dem M) (Value.int IntKind.i64 1073741824)) N (fun R P => zW (wZ (dem E) (Value.bool true) R P) (fun V Q => some ([z,A,L,D,B,F,G,H,I,J,f,g,i,c,d,b,k,l,m,dem B,E,dem E,dem M,R,V,t,u,w,x,y], Q)) ()) ()) ()) ()) := by
 refine sP Try.f31 4 0 (v := B) ?_
 refine sD Try.f31 4 1 (fun E C => ?_)
 refine sP Try.f31 4 2 (v := E) ?_
 refine sG Try.f31 4 3 (j := 2) (fun M N => ?_)
 refine sG Try.f31 4 4 (j := 2) (fun R P => ?_)
 refine sD Try.f31 4 5 (fun V Q => ?_)
 kernel_rfl
theorem zC.r5  : jl Try.prog ⟨false, false, false⟩ (jc Try.prog O) (reg Try.f31 5) (reg Try.f31 5).toList ([z,A,L,D,B,F,G,H,I,J,f,g,i,c,d,b,k,l,m,n,o,p,q,r,s,t,u,w,x,y]) S =
  ( some ([z,A,Value.bool false,D,B,F,G,H,I,J,f,g,i,c,d,b,k,l,m,n,o,p,q,r,s,t,u,w,x,y], S)) := by
 kernel_rfl
theorem zC.r6  : jl Try.prog ⟨false, false, false⟩ (jc Try.prog O) (reg Try.f31 6) (reg Try.f31 6).toList ([z,A,L,D,B,F,G,H,I,J,f,g,i,c,d,b,k,l,m,n,o,p,q,r,s,t,u,w,x,y]) S =
  (zW (jJ Try.prog BinOp.add 3 b (Value.int IntKind.i64 1) S) (fun K C => some ([z,A,L,D,B,F,G,H,I,J,f,g,i,c,d,dem K,k,l,m,n,o,p,q,r,s,K,u,w,x,y], C)) ()) := by
 kernel_rfl
theorem zC.r7  : jl Try.prog ⟨false, false, false⟩ (jc Try.prog O) (reg Try.f31 7) (reg Try.f31 7).toList ([z,A,L,D,B,F,G,H,I,J,f,g,i,c,d,b,k,l,m,n,o,p,q,r,s,t,u,w,x,y]) S =
  (zW (jf Try.prog 28 A 4 S) (fun K C => zW (jw Try.prog false 26 K C) (fun E N => zW (qM Try.prog 26 E N) (fun U P => zW (jJ Try.prog BinOp.leq 3 U (Value.int IntKind.i64 1024) P) (fun M Q => some ([z,A,M,D,B,F,G,H,I,J,f,g,i,c,d,b,k,l,m,n,o,p,q,r,s,t,K,E,U,dem M], Q)) ()) ()) ()) ()) := by
 kernel_rfl
theorem zC.rs : type_of% (And.intro @zC.r0 (And.intro @zC.r1 (And.intro @zC.r2 (And.intro @zC.r3 (And.intro @zC.r4 (And.intro @zC.r5 (And.intro @zC.r6 (@zC.r7)))))))) := And.intro @zC.r0 (And.intro @zC.r1 (And.intro @zC.r2 (And.intro @zC.r3 (And.intro @zC.r4 (And.intro @zC.r5 (And.intro @zC.r6 (@zC.r7)))))))
theorem zC.runs {z : Value} {S C : zi} {e : AEx} {T : List Value} (h : zI Try.prog O false zC.code ([z,undef,undef,undef,undef,undef,undef,undef,undef,undef,undef,undef,undef,undef,undef,undef,undef,undef,undef,undef,undef,undef,undef,undef,undef,undef,undef,undef,undef,undef]) zi.empty = some (e, T, C)) (he : e = .normal ∨ e = .ret) (hca : [z].all (jy 16) = true) (hcv : jy 16 (T.getD 2 undef) = true) : jc Try.prog O 31 [z] S = some (T.getD 2 undef, S) :=
 qH rfl rfl Try.func31 (by decide) zC.body (by exact h) he (qW (a := T.getD 2 undef) ((show zV Try.prog T C Try.f31.results.toList = zV Try.prog T C [(ResultVar.tmp 2)] from by kernel_rfl).trans (by simp only [zV])) (by kernel_rfl)) hca hcv
end Go.Proofs.Ytblpnklfimkfoaa
namespace Go.Proofs.Ytblpnklfimkfoaa
open Go.Abs
abbrev zZ.id : FuncId := 34
noncomputable def zZ.code : Code := (Code.seq (Code.region 0 (reg Try.f34 0) false) (Code.seq (Code.region 1 (reg Try.f34 1) false) Code.ret))
theorem zZ.body : Try.f34.body = some zZ.code := by kernel_rfl
variable (b f r i k l m n o : Value) (S : zi)
theorem zZ.r0  : jl Try.prog ⟨false, false, false⟩ (jc Try.prog O) (reg Try.f34 0) (reg Try.f34 0).toList ([b,f,r,i,k,l,m,n,o]) S =
  ( some ([b,f,Value.bool false,i,k,l,m,n,o], S)) := by
 kernel_rfl
theorem zZ.r1  : jl Try.prog ⟨false, false, false⟩ (jc Try.prog O) (reg Try.f34 1) (reg Try.f34 1).toList ([b,f,r,i,k,l,m,n,o]) S =
  (zW (jJ Try.prog BinOp.geq 3 (dem b) (Value.int IntKind.i64 (-1)) S) (fun c d => gdK (dem c) true (ret b) d (fun p s => gdK (dem c) true (jJ Try.prog BinOp.leq 3 (dem p) (Value.int IntKind.i64 1073741824)) s (fun q t => zW (wZ (dem c) q (Value.bool false) t) (fun g u => some ([b,f,g,dem b,c,dem c,dem p,q,dem g], u)) ()) ()) ()) ()) := by
 refine sP Try.f34 1 0 (v := b) ?_
 refine sD Try.f34 1 1 (fun c d => ?_)
 refine sP Try.f34 1 2 (v := c) ?_
 refine sG Try.f34 1 3 (j := 2) (fun p s => ?_)
 refine sG Try.f34 1 4 (j := 2) (fun q t => ?_)
 refine sD Try.f34 1 5 (fun g u => ?_)
 refine sP Try.f34 1 6 (v := g) ?_
 kernel_rfl
theorem zZ.rs : type_of% (And.intro @zZ.r0 (@zZ.r1)) := And.intro @zZ.r0 (@zZ.r1)
theorem zZ.runs {b : Value} {S d : zi} {e : AEx} {T : List Value} (h : zI Try.prog O false zZ.code ([b,undef,undef,undef,undef,undef,undef,undef,undef]) S = some (e, T, d)) (he : e = .normal ∨ e = .ret) : jc Try.prog O 34 [b] S = some (T.getD 2 undef, d) :=
 jU rfl rfl Try.func34 (by decide) zZ.body (by exact h) he (qW (a := T.getD 2 undef) ((show zV Try.prog T d Try.f34.results.toList = zV Try.prog T d [(ResultVar.tmp 2)] from by kernel_rfl).trans (by simp only [zV])) (by kernel_rfl))
end Go.Proofs.Ytblpnklfimkfoaa
namespace Go.Proofs.Ytblpnklfimkfoaa
open Go.Abs
abbrev zT.id : FuncId := 11
noncomputable def zT.code : Code := (Code.seq (Code.region 0 (reg Try.f11 0) false) (Code.seq (Code.seq (Code.region 1 (reg Try.f11 1) false) (Code.cond (Operand.tmp 12) (Code.seq (Code.region 2 (reg Try.f11 2) false) Code.ret) Code.skip)) (Code.seq (Code.region 3 (reg Try.f11 3) false) (Code.seq (Code.region 4 (reg Try.f11 4) false) (Code.seq (Code.region 5 (reg Try.f11 5) false) (Code.seq (Code.seq (Code.region 6 (reg Try.f11 6) false) (Code.cond (Operand.tmp 40) (Code.seq (Code.region 7 (reg Try.f11 7) false) Code.ret) Code.skip)) (Code.seq (Code.region 8 (reg Try.f11 8) false) Code.ret)))))))
theorem zT.body : Try.f11.body = some zT.code := by kernel_rfl
variable (I J U V K P L Q M N a b c d f g i j k l m n o p q r s t u v w x y z A B C D E F G H : Value) (S : zi)
theorem zT.r0  : jl Try.prog ⟨false, false, false⟩ (jc Try.prog O) (reg Try.f11 0) (reg Try.f11 0).toList ([I,J,U,V,K,P,L,Q,M,N,a,b,c,d,f,g,i,j,k,l,m,n,o,p,q,r,s,t,u,v,w,x,y,z,A,B,C,D,E,F,G,H]) S =
  (zW (Xd (dem I) S) (fun X R => some ([I,X,Value.slice none 0 0,Value.int IntKind.i64 0,K,P,L,Q,M,N,a,b,c,d,f,g,i,j,k,l,m,n,o,p,q,r,s,t,u,v,w,x,y,z,A,B,C,D,E,F,G,H], R)) ()) := by
 kernel_rfl
theorem zT.r1  : jl Try.prog ⟨false, false, false⟩ (jc Try.prog O) (reg Try.f11 1) (reg Try.f11 1).toList ([I,J,U,V,K,P,L,Q,M,N,a,b,c,d,f,g,i,j,k,l,m,n,o,p,q,r,s,t,u,v,w,x,y,z,A,B,C,D,E,F,G,H]) S =
  (zW (jw Try.prog false 28 J S) (fun X R => zW ((jc Try.prog O) 31 [(dem X)] R) (fun Y S2 => zW (aUn Try.prog UnOp.not Y S2) (fun W S3 => some ([I,J,U,V,K,P,L,Q,M,N,X,Y,W,d,f,g,i,j,k,l,m,n,o,p,q,r,s,t,u,v,w,x,y,z,A,B,C,D,E,F,G,H], S3)) ()) ()) ()) := by
 kernel_rfl
theorem zT.r2  : jl Try.prog ⟨false, false, false⟩ (jc Try.prog O) (reg Try.f11 2) (reg Try.f11 2).toList ([I,J,U,V,K,P,L,Q,M,N,a,b,c,d,f,g,i,j,k,l,m,n,o,p,q,r,s,t,u,v,w,x,y,z,A,B,C,D,E,F,G,H]) S =
  ( some ([I,J,Value.slice none 0 0,Value.int IntKind.i64 51,K,P,L,Q,M,N,a,b,c,d,f,g,i,j,k,l,m,n,o,p,q,r,s,t,u,v,w,x,y,z,A,B,C,D,E,F,G,H], S)) := by
 kernel_rfl
theorem zT.r3  : jl Try.prog ⟨false, false, false⟩ (jc Try.prog O) (reg Try.f11 3) (reg Try.f11 3).toList ([I,J,U,V,K,P,L,Q,M,N,a,b,c,d,f,g,i,j,k,l,m,n,o,p,q,r,s,t,u,v,w,x,y,z,A,B,C,D,E,F,G,H]) S =
  (zW (jf Try.prog 28 J 0 S) (fun X R => zW (jw Try.prog false 3 X R) (fun Y S2 => zW (jf Try.prog 28 J 1 S2) (fun W S3 => zW (jw Try.prog false 3 W S3) (fun v3 S4 => zW (jf Try.prog 28 J 2 S4) (fun v4 S5 => zW (jw Try.prog false 3 v4 S5) (fun Z S6 => zW (jf Try.prog 28 J 3 S6) (fun v6 S7 => zW (jw Try.prog false 3 v6 S7) (fun v7 S8 => zW (jg Try.prog 56 4 [(0, Y), (1, v3), (2, Z), (3, v7)] S8) (fun v8 S9 => zW ((jc Try.prog O) 32 [(dem v8)] S9) (fun v9 a2 => zW (zL v9 0 a2) (fun a0 a3 => zW (zL (zQ 0 v9) 1 a3) (fun a1 a4 => some ([I,J,U,V,a0,a1,L,Q,M,N,a,b,c,zQ 1 (zQ 0 v9),X,Y,W,v3,v4,Z,v6,v7,v8,dem v9,dem a0,dem a1,s,t,u,v,w,x,y,z,A,B,C,D,E,F,G,H], a4)) ()) ()) ()) ()) ()) ()) ()) ()) ()) ()) ()) ()) := by
 kernel_rfl
theorem zT.r4  : jl Try.prog ⟨false, false, false⟩ (jc Try.prog O) (reg Try.f11 4) (reg Try.f11 4).toList ([I,J,U,V,K,P,L,Q,M,N,a,b,c,d,f,g,i,j,k,l,m,n,o,p,q,r,s,t,u,v,w,x,y,z,A,B,C,D,E,F,G,H]) S =
  (zW (jf Try.prog 28 J 4 S) (fun X R => zW (jw Try.prog false 26 X R) (fun Y S2 => zW ((jc Try.prog O) 33 [(dem Y)] S2) (fun W S3 => zW (zL W 0 S3) (fun v4 S4 => zW (zL (zQ 0 W) 1 S4) (fun Z S5 => some ([I,J,U,V,K,P,v4,Z,M,N,a,b,c,d,f,g,i,j,k,l,m,n,o,p,q,r,zQ 1 (zQ 0 W),X,Y,dem W,dem v4,dem Z,y,z,A,B,C,D,E,F,G,H], S5)) ()) ()) ()) ()) ()) := by
 kernel_rfl
theorem zT.r5  : jl Try.prog ⟨false, false, false⟩ (jc Try.prog O) (reg Try.f11 5) (reg Try.f11 5).toList ([I,J,U,V,K,P,L,Q,M,N,a,b,c,d,f,g,i,j,k,l,m,n,o,p,q,r,s,t,u,v,w,x,y,z,A,B,C,D,E,F,G,H]) S =
  (zW (jB Try.prog 26 26 K (dem L) S) (fun W R => zW ((jc Try.prog O) 33 [(dem W)] R) (fun v3 S2 => zW (zL v3 0 S2) (fun Z S3 => zW (zL (zQ 0 v3) 1 S3) (fun v6 S4 => some ([I,J,U,V,dem K,P,L,Q,Z,v6,a,b,c,d,f,g,i,j,k,l,m,n,o,p,q,r,s,t,u,v,w,x,zQ 1 (zQ 0 v3),dem K,dem L,W,dem v3,dem Z,dem v6,F,G,H], S4)) ()) ()) ()) ()) := by
 kernel_rfl
theorem zT.r6  : jl Try.prog ⟨false, false, false⟩ (jc Try.prog O) (reg Try.f11 6) (reg Try.f11 6).toList ([I,J,U,V,K,P,L,Q,M,N,a,b,c,d,f,g,i,j,k,l,m,n,o,p,q,r,s,t,u,v,w,x,y,z,A,B,C,D,E,F,G,H]) S =
  (zW (jJ Try.prog BinOp.neq 29 (dem N) (Value.int IntKind.i64 0) S) (fun Y R => some ([I,J,U,V,K,P,L,Q,M,N,a,b,c,d,f,g,i,j,k,l,m,n,o,p,q,r,s,t,u,v,w,x,y,z,A,B,C,D,E,dem N,Y,H], R)) ()) := by
 kernel_rfl
theorem zT.r7  : jl Try.prog ⟨false, false, false⟩ (jc Try.prog O) (reg Try.f11 7) (reg Try.f11 7).toList ([I,J,U,V,K,P,L,Q,M,N,a,b,c,d,f,g,i,j,k,l,m,n,o,p,q,r,s,t,u,v,w,x,y,z,A,B,C,D,E,F,G,H]) S =
  ( some ([I,J,Value.slice none 0 0,Value.int IntKind.i64 51,K,P,L,Q,M,N,a,b,c,d,f,g,i,j,k,l,m,n,o,p,q,r,s,t,u,v,w,x,y,z,A,B,C,D,E,F,G,H], S)) := by
 kernel_rfl
theorem zT.r8  : jl Try.prog ⟨false, false, false⟩ (jc Try.prog O) (reg Try.f11 8) (reg Try.f11 8).toList ([I,J,U,V,K,P,L,Q,M,N,a,b,c,d,f,g,i,j,k,l,m,n,o,p,q,r,s,t,u,v,w,x,y,z,A,B,C,D,E,F,G,H]) S =
  ( some ([I,J,M,Value.int IntKind.i64 0,K,P,L,Q,dem M,N,a,b,c,d,f,g,i,j,k,l,m,n,o,p,q,r,s,t,u,v,w,x,y,z,A,B,C,D,E,F,G,dem M], S)) := by
 kernel_rfl
theorem zT.rs : type_of% (And.intro @zT.r0 (And.intro @zT.r1 (And.intro @zT.r2 (And.intro @zT.r3 (And.intro @zT.r4 (And.intro @zT.r5 (And.intro @zT.r6 (And.intro @zT.r7 (@zT.r8))))))))) := And.intro @zT.r0 (And.intro @zT.r1 (And.intro @zT.r2 (And.intro @zT.r3 (And.intro @zT.r4 (And.intro @zT.r5 (And.intro @zT.r6 (And.intro @zT.r7 (@zT.r8))))))))
theorem zT.runs {I : Value} {S R : zi} {e : AEx} {T : List Value} (h : zI Try.prog O false zT.code ([I,undef,undef,undef,undef,undef,undef,undef,undef,undef,undef,undef,undef,undef,undef,undef,undef,undef,undef,undef,undef,undef,undef,undef,undef,undef,undef,undef,undef,undef,undef,undef,undef,undef,undef,undef,undef,undef,undef,undef,undef,undef]) zi.empty = some (e, T, R)) (he : e = .normal ∨ e = .ret)  (h0 : ji (T.getD 2 undef) = true) (h1 : ji (T.getD 3 undef) = true) (hca : [I].all (jy 16) = true) (hcv : jy 16 (Value.tuple #[T.getD 2 undef, T.getD 3 undef]) = true) : jc Try.prog O 11 [I] S = some (Value.tuple #[T.getD 2 undef, T.getD 3 undef], S) :=
 qH rfl rfl Try.func11 (by decide) zT.body (by exact h) he ((wu ((show zV Try.prog T R Try.f11.results.toList = zV Try.prog T R [(ResultVar.tmp 2), (ResultVar.tmp 3)] from by kernel_rfl).trans (by simp only [zV])) (by kernel_rfl) (by simp only [List.all_cons, List.all_nil, h0, h1, Bool.and_true])).trans rfl) hca hcv
end Go.Proofs.Ytblpnklfimkfoaa
namespace Go.Proofs.Ytblpnklfimkfoaa
open Go.Abs
abbrev zF.id : FuncId := 12
noncomputable def zF.code : Code := (Code.seq (Code.region 0 (reg Try.f12 0) false) (Code.seq (Code.seq (Code.region 1 (reg Try.f12 1) false) (Code.cond (Operand.tmp 37) (Code.seq (Code.region 2 (reg Try.f12 2) false) Code.ret) Code.skip)) (Code.seq (Code.region 3 (reg Try.f12 3) false) (Code.seq (Code.region 4 (reg Try.f12 4) false) (Code.seq (Code.region 5 (reg Try.f12 5) false) (Code.seq (Code.region 6 (reg Try.f12 6) false) Code.ret))))))
theorem zF.body : Try.f12.body = some zF.code := by kernel_rfl
variable (x0 a x2 x3 x4 x5 x6 x7 x8 x9 b c d f g i k l m n o p q r s t u w x y z A B C D E F G H I J K L M N P Q R U V W X Y Z a0 a1 a2 a3 a4 a5 a6 a7 a8 a9 b0 : Value) (S : zi)
theorem zF.r0  : jl Try.prog ⟨false, false, false⟩ (jc Try.prog O) (reg Try.f12 0) (reg Try.f12 0).toList ([x0,a,x2,x3,x4,x5,x6,x7,x8,x9,b,c,d,f,g,i,k,l,m,n,o,p,q,r,s,t,u,w,x,y,z,A,B,C,D,E,F,G,H,I,J,K,L,M,N,P,Q,R,U,V,W,X,Y,Z,a0,a1,a2,a3,a4,a5,a6,a7,a8,a9,b0]) S =
  (zW (Xd (dem x0) S) (fun v0 S1 => some ([x0,v0,Value.slice none 0 0,Value.int IntKind.i64 0,x4,x5,x6,x7,x8,x9,b,c,d,f,g,i,k,l,m,n,o,p,q,r,s,t,u,w,x,y,z,A,B,C,D,E,F,G,H,I,J,K,L,M,N,P,Q,R,U,V,W,X,Y,Z,a0,a1,a2,a3,a4,a5,a6,a7,a8,a9,b0], S1)) ()) := by
 kernel_rfl
theorem zF.r1  : jl Try.prog ⟨false, false, false⟩ (jc Try.prog O) (reg Try.f12 1) (reg Try.f12 1).toList ([x0,a,x2,x3,x4,x5,x6,x7,x8,x9,b,c,d,f,g,i,k,l,m,n,o,p,q,r,s,t,u,w,x,y,z,A,B,C,D,E,F,G,H,I,J,K,L,M,N,P,Q,R,U,V,W,X,Y,Z,a0,a1,a2,a3,a4,a5,a6,a7,a8,a9,b0]) S =
  (zW (jf Try.prog 28 a 0 S) (fun v0 S1 => zW (jw Try.prog false 3 v0 S1) (fun v1 S2 => zW ((jc Try.prog O) 34 [(dem v1)] S2) (fun v2 S3 => zW (aUn Try.prog UnOp.not v2 S3) (fun v3 S4 => gdK (dem v3) false (jf Try.prog 28 a 1) S4 (fun v5 S5 => gdK (dem v3) false (jw Try.prog false 3 v5) S5 (fun v6 S6 => gdK (dem v3) false ((jc Try.prog O) 34 [(dem v6)]) S6 (fun v7 S7 => gdK (dem v3) false (aUn Try.prog UnOp.not v7) S7 (fun v8 S8 => zW (wZ (dem v3) (Value.bool true) v8 S8) (fun v9 S9 => gdK (dem v9) false (jf Try.prog 28 a 2) S9 (fun b3 b5 => gdK (dem v9) false (jw Try.prog false 3 b3) b5 (fun b4 b6 => gdK (dem v9) false ((jc Try.prog O) 34 [(dem b4)]) b6 (fun b8 b7 => gdK (dem v9) false (aUn Try.prog UnOp.not b8) b7 (fun b9 c8 => zW (wZ (dem v9) (Value.bool true) b9 c8) (fun b1 c9 => gdK (dem b1) false (jf Try.prog 28 a 3) c9 (fun c0 d0 => gdK (dem b1) false (jw Try.prog false 3 c0) d0 (fun c1 d1 => gdK (dem b1) false ((jc Try.prog O) 34 [(dem c1)]) d1 (fun c2 d2 => gdK (dem b1) false (aUn Try.prog UnOp.not c2) d2 (fun c3 d3 => zW (wZ (dem b1) (Value.bool true) c3 d3) (fun b2 d4 => gdK (dem b2) false (jf Try.prog 28 a 4) d4 (fun c4 d5 => gdK (dem b2) false (jw Try.prog false 26 c4) d5 (fun c5 d6 => gdK (dem b2) false (qM Try.prog 26 c5) d6 (fun c6 d7 => gdK (dem b2) false (jJ Try.prog BinOp.gtr 3 c6 (Value.int IntKind.i64 1024)) d7 (fun c7 d8 => zW (wZ (dem b2) (Value.bool true) c7 d8) (fun d9 f0 => some ([x0,a,x2,x3,x4,x5,x6,x7,x8,x9,v0,v1,v2,v3,dem v3,v5,v6,v7,v8,v9,dem v9,b3,b4,b8,b9,b1,dem b1,c0,c1,c2,c3,b2,dem b2,c4,c5,c6,c7,d9,H,I,J,K,L,M,N,P,Q,R,U,V,W,X,Y,Z,a0,a1,a2,a3,a4,a5,a6,a7,a8,a9,b0], f0)) ()) ()) ()) ()) ()) ()) ()) ()) ()) ()) ()) ()) ()) ()) ()) ()) ()) ()) ()) ()) ()) ()) ()) ()) := by
 refine sD Try.f12 1 0 (fun v0 S1 => ?_)
 refine sD Try.f12 1 1 (fun v1 S2 => ?_)
 refine sD Try.f12 1 2 (fun v2 S3 => ?_)
 refine sD Try.f12 1 3 (fun v3 S4 => ?_)
 refine sP Try.f12 1 4 (v := v3) ?_
 refine sG Try.f12 1 5 (j := 4) (fun v5 S5 => ?_)
 refine sG Try.f12 1 6 (j := 4) (fun v6 S6 => ?_)
 refine sG Try.f12 1 7 (j := 4) (fun v7 S7 => ?_)
 refine sG Try.f12 1 8 (j := 4) (fun v8 S8 => ?_)
 refine sD Try.f12 1 9 (fun v9 S9 => ?_)
 refine sP Try.f12 1 10 (v := v9) ?_
 refine sG Try.f12 1 11 (j := 10) (fun b3 b5 => ?_)
 refine sG Try.f12 1 12 (j := 10) (fun b4 b6 => ?_)
 refine sG Try.f12 1 13 (j := 10) (fun b8 b7 => ?_)
 refine sG Try.f12 1 14 (j := 10) (fun b9 c8 => ?_)
 refine sD Try.f12 1 15 (fun b1 c9 => ?_)
 refine sP Try.f12 1 16 (v := b1) ?_
 refine sG Try.f12 1 17 (j := 16) (fun c0 d0 => ?_)
 refine sG Try.f12 1 18 (j := 16) (fun c1 d1 => ?_)
 refine sG Try.f12 1 19 (j := 16) (fun c2 d2 => ?_)
 refine sG Try.f12 1 20 (j := 16) (fun c3 d3 => ?_)
 refine sD Try.f12 1 21 (fun b2 d4 => ?_)
 refine sP Try.f12 1 22 (v := b2) ?_
 refine sG Try.f12 1 23 (j := 22) (fun c4 d5 => ?_)
 refine sG Try.f12 1 24 (j := 22) (fun c5 d6 => ?_)
 refine sG Try.f12 1 25 (j := 22) (fun c6 d7 => ?_)
 refine sG Try.f12 1 26 (j := 22) (fun c7 d8 => ?_)
 refine sD Try.f12 1 27 (fun d9 f0 => ?_)
 kernel_rfl
theorem zF.r2  : jl Try.prog ⟨false, false, false⟩ (jc Try.prog O) (reg Try.f12 2) (reg Try.f12 2).toList ([x0,a,x2,x3,x4,x5,x6,x7,x8,x9,b,c,d,f,g,i,k,l,m,n,o,p,q,r,s,t,u,w,x,y,z,A,B,C,D,E,F,G,H,I,J,K,L,M,N,P,Q,R,U,V,W,X,Y,Z,a0,a1,a2,a3,a4,a5,a6,a7,a8,a9,b0]) S =
  ( some ([x0,a,Value.slice none 0 0,Value.int IntKind.i64 51,x4,x5,x6,x7,x8,x9,b,c,d,f,g,i,k,l,m,n,o,p,q,r,s,t,u,w,x,y,z,A,B,C,D,E,F,G,H,I,J,K,L,M,N,P,Q,R,U,V,W,X,Y,Z,a0,a1,a2,a3,a4,a5,a6,a7,a8,a9,b0], S)) := by
 kernel_rfl
theorem zF.r3  : jl Try.prog ⟨false, false, false⟩ (jc Try.prog O) (reg Try.f12 3) (reg Try.f12 3).toList ([x0,a,x2,x3,x4,x5,x6,x7,x8,x9,b,c,d,f,g,i,k,l,m,n,o,p,q,r,s,t,u,w,x,y,z,A,B,C,D,E,F,G,H,I,J,K,L,M,N,P,Q,R,U,V,W,X,Y,Z,a0,a1,a2,a3,a4,a5,a6,a7,a8,a9,b0]) S =
  (zW (jf Try.prog 28 a 0 S) (fun v0 S1 => zW (jw Try.prog false 3 v0 S1) (fun v1 S2 => zW (jf Try.prog 28 a 1 S2) (fun v2 S3 => zW (jw Try.prog false 3 v2 S3) (fun v3 S4 => zW (jf Try.prog 28 a 2 S4) (fun v4 S5 => zW (jw Try.prog false 3 v4 S5) (fun v5 S6 => zW (jf Try.prog 28 a 3 S6) (fun v6 S7 => zW (jw Try.prog false 3 v6 S7) (fun v7 S8 => zW (jg Try.prog 56 4 [(0, v1), (1, v3), (2, v5), (3, v7)] S8) (fun v8 S9 => zW ((jc Try.prog O) 35 [(dem v8)] S9) (fun v9 b5 => zW (zL v9 0 b5) (fun b3 b6 => zW (zL (zQ 0 v9) 1 b6) (fun b4 b7 => some ([x0,a,x2,x3,b3,b4,x6,x7,x8,x9,b,c,d,f,g,i,k,l,m,n,o,p,q,r,s,t,u,w,x,y,z,A,B,C,D,E,F,G,zQ 1 (zQ 0 v9),v0,v1,v2,v3,v4,v5,v6,v7,v8,dem v9,dem b3,dem b4,X,Y,Z,a0,a1,a2,a3,a4,a5,a6,a7,a8,a9,b0], b7)) ()) ()) ()) ()) ()) ()) ()) ()) ()) ()) ()) ()) := by
 kernel_rfl
theorem zF.r4  : jl Try.prog ⟨false, false, false⟩ (jc Try.prog O) (reg Try.f12 4) (reg Try.f12 4).toList ([x0,a,x2,x3,x4,x5,x6,x7,x8,x9,b,c,d,f,g,i,k,l,m,n,o,p,q,r,s,t,u,w,x,y,z,A,B,C,D,E,F,G,H,I,J,K,L,M,N,P,Q,R,U,V,W,X,Y,Z,a0,a1,a2,a3,a4,a5,a6,a7,a8,a9,b0]) S =
  (zW (jf Try.prog 28 a 4 S) (fun v0 S1 => zW (jw Try.prog false 26 v0 S1) (fun v1 S2 => zW ((jc Try.prog O) 36 [(dem v1)] S2) (fun v2 S3 => zW (zL v2 0 S3) (fun v4 S4 => zW (zL (zQ 0 v2) 1 S4) (fun v5 S5 => some ([x0,a,x2,x3,x4,x5,v4,v5,x8,x9,b,c,d,f,g,i,k,l,m,n,o,p,q,r,s,t,u,w,x,y,z,A,B,C,D,E,F,G,H,I,J,K,L,M,N,P,Q,R,U,V,W,zQ 1 (zQ 0 v2),v0,v1,dem v2,dem v4,dem v5,a3,a4,a5,a6,a7,a8,a9,b0], S5)) ()) ()) ()) ()) ()) := by
 kernel_rfl
theorem zF.r5  : jl Try.prog ⟨false, false, false⟩ (jc Try.prog O) (reg Try.f12 5) (reg Try.f12 5).toList ([x0,a,x2,x3,x4,x5,x6,x7,x8,x9,b,c,d,f,g,i,k,l,m,n,o,p,q,r,s,t,u,w,x,y,z,A,B,C,D,E,F,G,H,I,J,K,L,M,N,P,Q,R,U,V,W,X,Y,Z,a0,a1,a2,a3,a4,a5,a6,a7,a8,a9,b0]) S =
  (zW (jB Try.prog 26 26 x4 (dem x6) S) (fun v2 S1 => zW ((jc Try.prog O) 36 [(dem v2)] S1) (fun v3 S2 => zW (zL v3 0 S2) (fun v5 S3 => zW (zL (zQ 0 v3) 1 S3) (fun v6 S4 => some ([x0,a,x2,x3,dem x4,x5,x6,x7,v5,v6,b,c,d,f,g,i,k,l,m,n,o,p,q,r,s,t,u,w,x,y,z,A,B,C,D,E,F,G,H,I,J,K,L,M,N,P,Q,R,U,V,W,X,Y,Z,a0,a1,a2,zQ 1 (zQ 0 v3),dem x4,dem x6,v2,dem v3,dem v5,dem v6,b0], S4)) ()) ()) ()) ()) := by
 kernel_rfl
theorem zF.r6  : jl Try.prog ⟨false, false, false⟩ (jc Try.prog O) (reg Try.f12 6) (reg Try.f12 6).toList ([x0,a,x2,x3,x4,x5,x6,x7,x8,x9,b,c,d,f,g,i,k,l,m,n,o,p,q,r,s,t,u,w,x,y,z,A,B,C,D,E,F,G,H,I,J,K,L,M,N,P,Q,R,U,V,W,X,Y,Z,a0,a1,a2,a3,a4,a5,a6,a7,a8,a9,b0]) S =
  ( some ([x0,a,x8,Value.int IntKind.i64 0,x4,x5,x6,x7,dem x8,x9,b,c,d,f,g,i,k,l,m,n,o,p,q,r,s,t,u,w,x,y,z,A,B,C,D,E,F,G,H,I,J,K,L,M,N,P,Q,R,U,V,W,X,Y,Z,a0,a1,a2,a3,a4,a5,a6,a7,a8,a9,dem x8], S)) := by
 kernel_rfl
theorem zF.rs : type_of% (And.intro @zF.r0 (And.intro @zF.r1 (And.intro @zF.r2 (And.intro @zF.r3 (And.intro @zF.r4 (And.intro @zF.r5 (@zF.r6))))))) := And.intro @zF.r0 (And.intro @zF.r1 (And.intro @zF.r2 (And.intro @zF.r3 (And.intro @zF.r4 (And.intro @zF.r5 (@zF.r6))))))
theorem zF.runs {x0 : Value} {S S1 : zi} {e : AEx} {T : List Value} (h : zI Try.prog O false zF.code ([x0,undef,undef,undef,undef,undef,undef,undef,undef,undef,undef,undef,undef,undef,undef,undef,undef,undef,undef,undef,undef,undef,undef,undef,undef,undef,undef,undef,undef,undef,undef,undef,undef,undef,undef,undef,undef,undef,undef,undef,undef,undef,undef,undef,undef,undef,undef,undef,undef,undef,undef,undef,undef,undef,undef,undef,undef,undef,undef,undef,undef,undef,undef,undef,undef]) zi.empty = some (e, T, S1)) (he : e = .normal ∨ e = .ret)  (h0 : ji (T.getD 2 undef) = true) (h1 : ji (T.getD 3 undef) = true) (hca : [x0].all (jy 16) = true) (hcv : jy 16 (Value.tuple #[T.getD 2 undef, T.getD 3 undef]) = true) : jc Try.prog O 12 [x0] S = some (Value.tuple #[T.getD 2 undef, T.getD 3 undef], S) :=
 qH rfl rfl Try.func12 (by decide) zF.body (by exact h) he ((wu ((show zV Try.prog T S1 Try.f12.results.toList = zV Try.prog T S1 [(ResultVar.tmp 2), (ResultVar.tmp 3)] from by kernel_rfl).trans (by simp only [zV])) (by kernel_rfl) (by simp only [List.all_cons, List.all_nil, h0, h1, Bool.and_true])).trans rfl) hca hcv
end Go.Proofs.Ytblpnklfimkfoaa
