/-
The law GateNames returns true for every input, and leaves it as it was; no condition. Part 4 of 7 of the texts (put together by a program: own names are short, what isn't needed is left out).
-/
import Derived.Test.YtfjogganfjkckaaZGateNames3
import Derived.KernelRfl
import Derived.Test.YtfjogganfjkckaaChecked
set_option linter.unusedVariables false
set_option linter.unusedSimpArgs false
set_option maxRecDepth 100000
namespace Go.Abs
open Go.RowKit
def YZ (P : Program) (call : FuncId → List Value → M Value) : Prop := ∀ g args aargs S v S', call g args S = some (v, S') → ∀ μ H ω, GI μ S H → L0 μ H args aargs → Dom μ H ω → (∀ r s, ω r = some s → s = .ext) →
 ∃ a H' μ' ω', lim P g aargs H = some (a, H') ∧ GI μ' S' H' ∧ Later μ H μ' H' ∧ Kept ω H ω' H' ∧ Dom μ' H' ω' ∧ VV μ' H' ω' (some (.res none)) v a
section
variable {P : Program} {call : FuncId → List Value → M Value} {μ : Mu} {ω : Nat → Option kG} {S S' H : zi} {T A : List Value}
theorem af0 (hc : YZ P call) {g : FuncId} {args aargs : List Value} {v : Value} (hG : GI μ S H) (hT : TI μ H ω T A) (h : call g args S = some (v, S')) (ha : L0 μ H args aargs) : Out μ ω H A T S' v (lim P g aargs H) := by
 obtain ⟨a, H', μ', ω', h1, h2, h3, h4, h5, h6⟩ := hc g args aargs S v S' h μ H (fun r => (ω r).map fun _ => .ext) hG ha (fun r s hs => by
  cases hr : ω r with
  | none => simp [hr] at hs
  | some s0 => exact hT.dom r s0 hr) (fun r s hs => by
  cases hr : ω r with
  | none => simp [hr] at hs
  | some s0 => simp [hr] at hs; exact hs.symm)
 have kept : ∀ r s, ω r = some s → ω' r = some .ext ∧ H'.get r = H.get r := fun r s hs => h4 r (by dsimp only; rw [hs]; rfl)
 refine ⟨a, H', μ', fun r => match ω' r with | some .ext => ω r | some (.slot _ _) => none | x => x, h1, h2, h3, fun r hr => ?_, fun r s hs => ?_, hT.len, fun i => ?_, ?_⟩
 ·
  obtain ⟨k1, k2⟩ := kept r _ hr
  exact ⟨by (try dsimp only); rw [k1]; exact hr, k2⟩
 ·
  dsimp only at hs
  cases hr : ω' r with
  | none => rw [hr] at hs; cases hs
  | some s0 =>
   have := h5 r s0 hr
   exact this
 ·
  refine (hT.slots i).later h3 (K := fun _ => True) (fun _ _ _ _ _ => trivial) (fun r s _ hr => ?_) (fun _ _ => trivial)
  obtain ⟨k1, k2⟩ := kept r s hr
  exact ⟨by (try dsimp only); rw [k1]; exact hr, k2⟩
 ·
  refine h6.later (Later.refl _ _) (K := fun s => ∃ j, s = .res j) (fun s i t ⟨j, hj⟩ ht => by subst hj; cases j <;> cases ht; exact ⟨_, rfl⟩) (fun r s ⟨j, hj⟩ hr => ?_) (fun s hs => by cases hs; exact ⟨_, rfl⟩)
  subst hj
  exact ⟨by (try dsimp only); rw [hr], rfl⟩
def Yn (t : Nat) : kG → Option kG
 | .slot i j => if i = t then some (.res j) else some (.slot i j)
 | s => some s
def Qb (t k : Nat) : kG → Option kG
 | .slot i (some j) => if i = t ∧ j = k then some (.res none) else some (.slot i (some j))
 | s => some s
theorem abR {x : Operand} (hG : GI μ S H) (hT : TI μ H ω T A) (hx : xA x = true) : Out μ ω H A (qC T x) S (jQ T x) (some (jQ A x, H)) := by
 cases x with
 | const v => exact Out.same hG hT (VV.qK hx)
 | global g => cases hx
 | func f => exact Out.same hG hT (hT.eval (x := .func f) rfl)
 | tmp t =>
  refine ⟨_, H, μ, fun r => (ω r).bind (Yn t), rfl, hG, Later.refl μ H, fun r hr => ⟨by dsimp only; rw [hr]; rfl, rfl⟩, fun r s hs => ?_, by simp [qC, xq, hT.len], fun i => ?_, ?_⟩
  ·
   dsimp only at hs
   cases hr : ω r with
   | none => rw [hr] at hs; cases hs
   | some s0 => exact hT.dom r s0 hr
  ·
   dsimp only [qC, xq]
   rw [kE]
   by_cases hi : i = t
   ·
    subst hi
    by_cases hlt : i < T.length
    ·
     rw [if_pos ⟨rfl, hlt⟩]
     exact (hT.slots i).v0.at0
    ·
     rw [if_neg (fun h => hlt h.2)]
     rw [List.getD_eq_getElem?_getD, List.getElem?_eq_none (Nat.le_of_not_lt hlt), List.getD_eq_getElem?_getD, List.getElem?_eq_none (by rw [← hT.len]; omega)]
     exact .nores
   ·
    rw [if_neg (fun h => hi h.1)]
    refine (hT.slots i).Vz (fun _ => rfl) _ (fun s hs => ?_)
    cases hs
    refine ⟨_, rfl, by simp only [Yn]; rw [if_neg hi], fun k t' ht => ?_⟩
    cases ht
    exact ⟨_, rfl, by simp only [Yn]; rw [if_neg hi]⟩
  ·
   refine (hT.slots t).Vz (fun _ => rfl) _ (fun s hs => ?_)
   cases hs
   refine ⟨_, rfl, by simp only [Yn, if_true], fun k t' ht => ?_⟩
   cases ht
   exact ⟨_, rfl, by simp only [Yn, if_true]⟩
theorem getD_modify (vs : Array Value) (i k : Nat) (f : Value → Value) (hf : f undef = undef) : (vs.modify i f).getD k undef = if k = i then f (vs.getD k undef) else vs.getD k undef := by
 rw [Array.getD_eq_getD_getElem?, Array.getD_eq_getD_getElem?, Array.getElem?_modify]
 by_cases h : i = k
 ·
  subst h
  rw [if_pos rfl, if_pos rfl]
  cases vs[i]? with
  | none => exact hf.symm
  | some v => rfl
 ·
  rw [if_neg h, if_neg (fun e => h e.symm)]
theorem VV.part {ω' : Nat → Option kG} {ℓ ℓ' : Option kG} {v a : Value} (h : VV μ H ω ℓ v a) (hℓ : ∀ s, ℓ = some s → ∀ k, s.comp k = none) : VV μ H ω' ℓ' (Go.Abs.xH v) a := by
 by_cases ht : ∃ x, v = .tuple x
 ·
  obtain ⟨x, rfl⟩ := ht
  show VV μ H ω' ℓ' (.tuple x) a
  cases h with
  | sg hs => simp [Go.Abs.sg] at hs
  | nores => exact .nores
  | tuple hx hh =>
   refine .tuple hx fun i => ?_
   have := hh i
   cases ℓ with
   | none => exact this.at0
   | some s =>
    have e : (some s).bind (·.comp i) = none := hℓ s rfl i
    rw [e] at this
    exact this.at0
 ·
  have e : Go.Abs.dem v = Go.Abs.xH v := by
   cases v <;> first | rfl | exact absurd ⟨_, rfl⟩ ht
  rw [← e]
  exact h.v0.at0
def YB (T : List Value) (i : Nat) : Operand → List Value
 | .tmp t => T.set t (zV i (T.getD t undef))
 | _ => T
theorem aaQ {x : Operand} {i : Nat} {v : Value} (hG : GI μ S H) (hT : TI μ H ω T A) (hx : xA x = true) (h : zS (jQ T x) i S = some (v, S')) :
  Out μ ω H A (YB T i x) S' v (zS (jQ A x) i H) := by
 cases x with
 | const w =>
  exfalso
  unfold zS at h
  split at h
  ·
   rename_i vs he
   simp only [jQ] at he
   subst he
   simp [xA, ground, Go.Abs.sg] at hx
  ·
   cases h
 | global g => cases hx
 | func f => simp [jQ, zS] at h
 | tmp t =>
  simp only [jQ, YB] at h ⊢
  unfold zS at h
  split at h
  ·
   rename_i vs hvs
   split at h <;> first | (cases h; done) | skip
   rename_i w hw
   cases h
   have hs := hT.slots t
   rw [hvs] at hs
   have hil : i < vs.size := (Array.getElem?_eq_some_iff.1 hw).1
   have hlt : t < T.length := by
    rcases Nat.lt_or_ge t T.length with h | h
    ·
     exact h
    ·
     rw [List.getD_eq_getElem?_getD, List.getElem?_eq_none h] at hvs
     cases hvs
     simp at hil
   generalize hA : A.getD t undef = at' at hs
   cases hs with
   | sg hs => simp [Go.Abs.sg] at hs
   | nores => simp at hil
   | @tuple _ _ y hxs hxx =>
    have hiy : i < y.size := by rw [← hxs]; exact hil
    have hrun : zS (.tuple y) i H = some (y[i], H) := by simp only [zS, Array.getElem?_eq_getElem hiy]
    rw [hrun]
    have hcomp := hxx i
    rw [Array.getD_eq_getD_getElem?, hw, Array.getD_eq_getD_getElem?, Array.getElem?_eq_getElem hiy] at hcomp
    simp only [Option.getD_some] at hcomp
    refine ⟨_, H, μ, fun r => (ω r).bind (Qb t i), rfl, hG, Later.refl μ H, fun r hr => ⟨by dsimp only; rw [hr]; rfl, rfl⟩, fun r s hs => ?_, by simp [hT.len], fun k => ?_, ?_⟩
    ·
     dsimp only at hs
     cases hr : ω r with
     | none => rw [hr] at hs; cases hs
     | some s0 => exact hT.dom r s0 hr
    ·
     rw [kE]
     by_cases hk : k = t
     ·
      subst hk
      rw [if_pos ⟨rfl, hlt⟩, hA, hvs]
      simp only [zV]
      refine .tuple (by simpa using hxs) fun j => ?_
      rw [getD_modify _ _ _ _ rfl]
      by_cases hj : j = i
      ·
       subst hj
       rw [if_pos rfl]
       exact (hxx j).part (fun s hs k => by cases hs; rfl)
      ·
       rw [if_neg hj]
       refine (hxx j).Vz (fun _ => rfl) _ (fun s hs => ?_)
       cases hs
       refine ⟨_, rfl, by simp only [Qb]; rw [if_neg (fun e => hj e.2)], fun a b hb => by cases hb⟩
     ·
      rw [if_neg (fun e => hk e.1)]
      refine (hT.slots k).Vz (fun _ => rfl) _ (fun s hs => ?_)
      cases hs
      refine ⟨_, rfl, rfl, fun a b hb => ?_⟩
      cases hb
      exact ⟨_, rfl, by simp only [Qb]; rw [if_neg (fun e => hk e.1)]⟩
    ·
     refine hcomp.Vz (fun _ => rfl) _ (fun s hs => ?_)
     cases hs
     exact ⟨_, rfl, by simp [Qb], fun a b hb => by cases hb⟩
  ·
   cases h
theorem aiQ (hT : TI μ H ω T A) : ∀ (xs : List Operand), xs.all xA = true → L0 μ H (xs.map fun x => dem (jQ T x)) (xs.map (jQ A)) := by
 intro xs h
 exact LV.map fun x hx => hT.eval (List.all_eq_true.1 h x hx)
theorem Ko {xs : List Operand} (hT : TI μ H ω T A) (h : xs.all xA = true) (hg : (xs.map (jQ T)).all ground = true) : xs.map (jQ A) = xs.map (jQ T) := by
 apply List.map_congr_left
 intro x hx
 exact wI (hT.eval (List.all_eq_true.1 h x hx)) (List.all_eq_true.1 hg _ (List.mem_map.2 ⟨x, hx, rfl⟩))
theorem ag8 {o : Oper} (h : hands o = false) (hc : ∀ c, o.op ≠ .call c) : moved o T = T := by
 unfold moved
 unfold hands at h
 split <;> first | rfl | (rename_i he; exact absurd he (hc _)) | (rename_i he; rw [he] at h; cases h)
theorem agx {fx : Fx} (hc : YZ P call) {o : Oper} {v : Value} (hG : GI μ S H) (hT : TI μ H ω T A) (h : qF P fx call T o S = some (v, S')) : Out μ ω H A (moved o T) S' v (qM P (lim P) A o H) := by
 unfold qF at h
 split at h <;> first | (cases h; done) | skip
 rename_i hok
 unfold qM
 rw [if_pos hok]
 have hargs : o.op.operands.toList.all xA = true := hok
 have hev : ∀ x ∈ o.op.operands.toList, V0 μ H (dem (jQ T x)) (jQ A x) := fun x hx => hT.eval (List.all_eq_true.1 hargs x hx)
 have hoka : ∀ x ∈ o.op.operands.toList, xA x = true := fun x hx => List.all_eq_true.1 hargs x hx
 obtain ⟨dst, op, type, pos, after, guard⟩ := o
 by_cases hcall : ∃ c, op = .call c
 ·
  obtain ⟨c, rfl⟩ := hcall
  dsimp only at h hev hoka hargs ⊢
  have hcargs : c.args.toList.all xA = true := by
   rw [List.all_eq_true]
   intro x hx
   refine hoka x ?_
   simp only [Op.operands, Call.operands]
   cases c.callee <;> simp <;> first | exact .inr (by simpa using hx) | exact (by simpa using hx)
  cases hcal : c.callee with
  | value f =>
   rw [hcal] at h
   dsimp only at h ⊢
   have hf := hev f (by simp [Op.operands, Call.operands, hcal])
   split at h <;> first | (cases h; done) | skip
   rename_i g first captured hfe
   rw [hfe] at hf
   have hf : V0 μ H (.func (.func g) first captured) (jQ A f) := hf
   generalize hfa : jQ A f = fa at hf
   cases hf with
   | sg hs => simp [Go.Abs.sg] at hs
   | func _ hx hcs h1 h2 =>
    rename_i x' c'
    dsimp only
    have l1 : L0 μ H first.toList x'.toList := ⟨by simpa using hx, fun i => by rw [getD_toList, getD_toList]; exact h1 i⟩
    have l2 : L0 μ H captured.toList c'.toList := ⟨by simpa using hcs, fun i => by rw [getD_toList, getD_toList]; exact h2 i⟩
    have hm : moved ⟨dst, .call c, type, pos, after, guard⟩ T = T := by simp only [moved, hcal]
    rw [hm]
    exact af0 hc hG hT h ((l1.append (aiQ hT _ hcargs)).append l2)
  | invoke r m => rw [hcal] at h; cases h
  | builtin b =>
   rw [hcal] at h
   dsimp only at h ⊢
   unfold Vd at h
   unfold vO
   cases b <;> dsimp only at h ⊢ <;> first | (cases h; done) | skip
   case len =>
    split at h <;> first | (cases h; done) | skip
    rename_i t x0 ht ha
    obtain ⟨x, hx, rfl⟩ : ∃ x, c.args.toList = [x] ∧ jQ T x = x0 := by
     match hl : c.args.toList with
     | [] => rw [hl] at ha; cases ha
     | [y] => rw [hl] at ha; simp at ha; exact ⟨y, rfl, ha⟩
     | y :: z :: w => rw [hl] at ha; simp at ha
    have hm : moved ⟨dst, .call c, type, pos, after, guard⟩ T = T := by simp only [moved, hcal]
    rw [hm, ht, hx]
    rw [hx] at hcargs
    obtain ⟨rfl, a, h1, h2⟩ := afH h (hT.eval (List.all_eq_true.1 hcargs x (by simp)))
    simp only [List.map_cons, List.map_nil]
    rw [h1]
    exact Out.same hG hT h2
   case append =>
    split at h <;> first | (cases h; done) | skip
    rename_i t tx s0 x0 ht ha
    obtain ⟨so, x, hx, rfl, rfl⟩ : ∃ so x, c.args.toList = [so, x] ∧ jQ T so = s0 ∧ jQ T x = x0 := by
     match hl : c.args.toList with
     | [] => rw [hl] at ha; cases ha
     | [y] => rw [hl] at ha; simp at ha
     | [y, z] => rw [hl] at ha; simp at ha; exact ⟨y, z, rfl, ha.1, ha.2⟩
     | y :: z :: w :: u => rw [hl] at ha; simp at ha
    rw [hx] at hcargs
    have hso := List.all_eq_true.1 hcargs so (by simp)
    have hm : moved ⟨dst, .call c, type, pos, after, guard⟩ T = qC T so := by
     simp only [moved, hcal, hx]
     cases so <;> rfl
    rw [hm, ht, hx]
    exact adB hG hT hso h (hT.eval (List.all_eq_true.1 hcargs x (by simp)))
   case copy =>
    split at h <;> first | (cases h; done) | skip
    rename_i t tx s0 x0 ht ha
    obtain ⟨so, x, hx, rfl, rfl⟩ : ∃ so x, c.args.toList = [so, x] ∧ jQ T so = s0 ∧ jQ T x = x0 := by
     match hl : c.args.toList with
     | [] => rw [hl] at ha; cases ha
     | [y] => rw [hl] at ha; simp at ha
     | [y, z] => rw [hl] at ha; simp at ha; exact ⟨y, z, rfl, ha.1, ha.2⟩
     | y :: z :: w :: u => rw [hl] at ha; simp at ha
    rw [hx] at hcargs
    have hm : moved ⟨dst, .call c, type, pos, after, guard⟩ T = T := by simp only [moved, hcal]
    rw [hm, ht, hx]
    exact af2 hG hT h (hT.eval (List.all_eq_true.1 hcargs so (by simp))) (hT.eval (List.all_eq_true.1 hcargs x (by simp)))
   case clear =>
    split at h <;> first | (cases h; done) | skip
    rename_i t x0 ht ha
    obtain ⟨x, hx, rfl⟩ : ∃ x, c.args.toList = [x] ∧ jQ T x = x0 := by
     match hl : c.args.toList with
     | [] => rw [hl] at ha; cases ha
     | [y] => rw [hl] at ha; simp at ha; exact ⟨y, rfl, ha⟩
     | y :: z :: w => rw [hl] at ha; simp at ha
    have hm : moved ⟨dst, .call c, type, pos, after, guard⟩ T = T := by simp only [moved, hcal]
    rw [hm, ht, hx]
    rw [hx] at hcargs
    exact aeP hG hT h (hT.eval (List.all_eq_true.1 hcargs x (by simp)))
   case min =>
    obtain ⟨rfl, hg, hga, hh⟩ := qo (H := H) h
    have hm : moved ⟨dst, .call c, type, pos, after, guard⟩ T = T := by simp only [moved, hcal]
    rw [hm, Ko hT hcargs hga, hh]
    exact Out.same hG hT (V0.ground hg)
   case max =>
    obtain ⟨rfl, hg, hga, hh⟩ := qo (H := H) h
    have hm : moved ⟨dst, .call c, type, pos, after, guard⟩ T = T := by simp only [moved, hcal]
    rw [hm, Ko hT hcargs hga, hh]
    exact Out.same hG hT (V0.ground hg)
 ·
  have hnc : ∀ c, op ≠ .call c := fun c hc => hcall ⟨c, hc⟩
  have hV : vOp P fx (jQ T) ⟨dst, op, type, pos, after, guard⟩ S = some (v, S') := by
   cases op <;> first | exact h | exact absurd rfl (hnc _)
  suffices hs : Out μ ω H A (moved ⟨dst, op, type, pos, after, guard⟩ T) S' v (aOp P (jQ A) ⟨dst, op, type, pos, after, guard⟩ H) by
   cases op <;> first | exact hs | exact absurd rfl (hnc _)
  by_cases hh : hands ⟨dst, op, type, pos, after, guard⟩ = true
  ·
   cases op <;> first | (cases hh; done) | skip
   case move x =>
    cases hV
    have := abR hG hT (hoka x (by simp [Op.operands]))
    have hm : moved ⟨dst, .move x, type, pos, after, guard⟩ T = qC T x := by cases x <;> rfl
    rw [hm]; exact this
   case assign x =>
    cases hV
    have := abR hG hT (hoka x (by simp [Op.operands]))
    have hm : moved ⟨dst, .assign x, type, pos, after, guard⟩ T = qC T x := by cases x <;> rfl
    rw [hm]; exact this
   case extract x i =>
    have := aaQ hG hT (hoka x (by simp [Op.operands])) hV
    have hm : moved ⟨dst, .extract x i, type, pos, after, guard⟩ T = (YB T i x) := by cases x <;> rfl
    rw [hm]; exact this
  ·
   have hh : hands ⟨dst, op, type, pos, after, guard⟩ = false := by simpa using hh
   rw [ag8 hh hnc]
   by_cases hch : Jk P ⟨dst, op, type, pos, after, guard⟩ = false
   ·
    obtain ⟨rfl, a, h1, h2, h3⟩ := VK hV hch hev (.inr hG) (.inr hG)
    rw [h1]
    exact Out.same hG hT (h3 hh)
   ·
    unfold vOp at hV
    unfold aOp
    cases op <;> dsimp only at hV hev ⊢ <;> first | (cases hV; done) | (exact absurd rfl hch) | (cases hh; done) | skip
    case alloc e => exact aer hG hT hV
    case box x _ => exact ai5 hG hT hV (hev x (by simp [Op.operands]))
    case buildSlice t len parts _ =>
     have hps := aaC (μ := μ) (H := H) (parts := parts.toList) (ρ := jQ T) (ρA := jQ A) fun p hp => hev p.2 (by simp [Op.operands]; exact ⟨p.1, by simpa using hp⟩)
     split at hV
     ·
      exact aal hG hT hV hps
     ·
      exact KD hG hT hV hps
    case makeMap t r _ => exact aaN hG hT hV (fun h => by cases r <;> simp at h ⊢)
    case mapUpdate t x k w _ => exact Ve hG hT hV (hev x (by simp [Op.operands])) (hev k (by simp [Op.operands])) (hev w (by simp [Op.operands]))
    case store a x _ => exact afb hG hT hV (hev a (by simp [Op.operands])) (hev x (by simp [Op.operands]))
    case makeSlice l c _ =>
     split at hV
     ·
      exact abz hG hT hV (hev l (by simp [Op.operands])) (hev c (by simp [Op.operands]))
     ·
      exact Vj hG hT hV (hev l (by simp [Op.operands])) (hev c (by simp [Op.operands]))
    case convert dst' x _ =>
     have hd : ∃ e, P.underlying dst' = some (.slice e) := by
      unfold Jk at hch
      dsimp only at hch
      split at hch
      ·
       exact ⟨_, by assumption⟩
      ·
       exact absurd rfl hch
     obtain ⟨e, hd⟩ := hd
     cases x with
     | tmp t => exact Qu hG hT hV (hT.slots t) hd
     | const w => exact Qu hG hT hV (VV.qK (ℓ := none) (hoka (.const w) (by simp [Op.operands]))) hd
     | global g => have := hoka (.global g) (by simp [Op.operands]); cases this
     | func f => exact Qu hG hT hV (ℓ := none) ((hT.eval (x := .func f) rfl).at0) hd
theorem afw {ops : Array Oper} (hT : TI μ H ω T A) (j : Nat) : ynd ops T j = ynd ops A j := by
 unfold ynd
 cases hd : (ops[j]?).bind (·.dst) with
 | none => rfl
 | some d =>
  simp only [Option.bind_some]
  have := hT.slots d
  have e := hT.len
  by_cases hlt : d < T.length
  ·
   have hlt' : d < A.length := by rw [← e]; exact hlt
   simp only [List.getD_eq_getElem?_getD, List.getElem?_eq_getElem hlt, List.getElem?_eq_getElem hlt', Option.getD_some] at this
   rw [List.getElem?_eq_getElem hlt, List.getElem?_eq_getElem hlt']
   generalize T[d] = u at *
   generalize A[d] = u' at *
   cases this <;> rfl
  ·
   have hlt' : A.length ≤ d := by rw [← e]; exact Nat.le_of_not_lt hlt
   rw [List.getElem?_eq_none (Nat.le_of_not_lt hlt), List.getElem?_eq_none hlt']
theorem TI.moved (hT : TI μ H ω T A) (o : Oper) : TI μ H ω (moved o T) A := by
 have slot : ∀ t, TI μ H ω (xq T t) A := by
  intro t
  refine ⟨by simp [xq, hT.len], fun i => ?_, hT.dom, hT.nores⟩
  rw [xq, kE]
  split
  ·
   rename_i h; rw [h.1]; exact (hT.slots t).dem
  ·
   exact hT.slots i
 unfold Go.Abs.moved
 split
 ·
  exact slot _
 ·
  exact slot _
 ·
  rename_i t i _
  refine ⟨by simp [hT.len], fun k => ?_, hT.dom, hT.nores⟩
  rw [kE]
  split
  ·
   rename_i h
   rw [h.1]
   have := hT.slots t
   generalize T.getD t undef = w at this
   cases w with
   | tuple vs =>
    simp only [zV]
    generalize A.getD t undef = a at this
    cases this with
    | sg hs => simp [Go.Abs.sg] at hs
    | nores => rw [show (#[] : Array Value).modify i Go.Abs.xH = #[] by simp]; exact .nores
    | @tuple _ _ y hxs hxx =>
     refine .tuple (by simpa using hxs) fun j => ?_
     rw [getD_modify _ _ _ _ rfl]
     by_cases hj : j = i
     ·
      subst hj
      rw [if_pos rfl]
      exact (hxx j).part (fun s hs k => by cases hs; rfl)
     ·
      rw [if_neg hj]; exact hxx j
   | _ => exact this
  ·
   exact hT.slots k
 ·
  split
  ·
   exact slot _
  ·
   exact hT
 ·
  exact hT
def After (μ : Mu) (ω : Nat → Option kG) (H : zi) (T' : List Value) (S' : zi) (R : Option (List Value × zi)) : Prop :=
 ∃ A' H' μ' ω', R = some (A', H') ∧ GI μ' S' H' ∧ Later μ H μ' H' ∧ Kept ω H ω' H' ∧ TI μ' H' ω' T' A'
theorem acv {fx : Fx} (hc : YZ P call) {o : Oper} {rest : List Oper} {v : Value} (hG : GI μ S H) (hT : TI μ H ω T A) (h : qF P fx call T o S = some (v, S')) :
  ∃ a H' μ' ω', qM P (lim P) A o H = some (a, H') ∧ GI μ' S' H' ∧ Later μ H μ' H' ∧ Kept ω H ω' H' ∧ TI μ' H' ω' (Jc o rest T v) (Yi A o.dst a) := by
 unfold Jc
 split
 ·
  rename_i hl
  have hm : ∃ x, o.op = .move x := by
   unfold akq at hl
   split at hl
   ·
    rename_i x _ he _; exact ⟨x, he⟩
   ·
    cases hl
  obtain ⟨x, hx⟩ := hm
  unfold qF at h
  split at h <;> first | (cases h; done) | skip
  rename_i hok
  have hox : xA x = true := List.all_eq_true.1 (show o.op.operands.toList.all xA = true from hok) x (by rw [hx]; simp [Op.operands])
  rw [hx] at h
  dsimp only at h
  unfold vOp at h
  rw [hx] at h
  cases h
  have ha : qM P (lim P) A o H = some (jQ A x, H) := by
   unfold qM
   rw [if_pos hok, hx]
   dsimp only
   unfold aOp
   rw [hx]
   rfl
  rw [ha]
  exact (Out.same hG hT (hT.eval hox)).put o.dst
 ·
  exact (agx hc hG hT h).put o.dst
theorem YP {o : Oper} {rest : List Oper} (hG : GI μ S H) (hT : TI μ H ω T A) : ∃ μ' ω', GI μ' S H ∧ Later μ H μ' H ∧ Kept ω H ω' H ∧ TI μ' H ω' (Jc o rest T undef) (Yi A o.dst undef) := by
 unfold Jc
 split
 ·
  rw [show dem undef = undef from JC]
  obtain ⟨a, H1, μ1, ω1, h1, h2, h3, h4, h5⟩ := (Out.same hG hT (VV.undef)).put o.dst
  cases h1
  exact ⟨μ1, ω1, h2, h3, h4, h5⟩
 ·
  obtain ⟨a, H1, μ1, ω1, h1, h2, h3, h4, h5⟩ := (Out.same hG (hT.moved o) (VV.undef)).put o.dst
  cases h1
  exact ⟨μ1, ω1, h2, h3, h4, h5⟩
theorem aiO {fx : Fx} (hc : YZ P call) {ops : Array Oper} : ∀ (l : List Oper) (T T' A : List Value) (S S' H : zi) (μ : Mu) (ω : Nat → Option kG), jv P fx call ops l T S = some (T', S') → GI μ S H → TI μ H ω T A → After μ ω H T' S' (aaH P (lim P) ops l A H) := by
 intro l
 induction l with
 | nil =>
  intro T T' A S S' H μ ω h hG hT
  simp only [jv, Option.some.injEq, Prod.mk.injEq] at h
  obtain ⟨rfl, rfl⟩ := h
  exact ⟨A, H, μ, ω, rfl, hG, Later.refl _ _, Kept.refl _ _, hT⟩
 | cons o l ih =>
  intro T T' A S S' H μ ω h hG hT
  have hy : (ynd ops T) = ynd ops A := funext fun j => afw hT j
  simp only [jv] at h
  simp only [aaH, ← hy]
  split at h
  ·
   rename_i hw
   split at h
   ·
    rename_i v S1 hs
    obtain ⟨a, H1, μ1, ω1, h1, h2, h3, h4, h5⟩ := acv (rest := l) hc hG hT hs
    obtain ⟨A2, H2, μ2, ω2, k1, k2, k3, k4, k5⟩ := ih _ _ _ _ _ _ _ _ h h2 h5
    refine ⟨A2, H2, μ2, ω2, ?_, k2, h3.trans k3, h4.trans k4, k5⟩
    rw [if_pos hw, h1]
    exact k1
   ·
    cases h
  ·
   rename_i hw
   obtain ⟨μ1, ω1, h2, h3, h4, h5⟩ := YP (o := o) (rest := l) hG hT
   obtain ⟨A2, H2, μ2, ω2, k1, k2, k3, k4, k5⟩ := ih _ _ _ _ _ _ _ _ h h2 h5
   refine ⟨A2, H2, μ2, ω2, ?_, k2, h3.trans k3, h4.trans k4, k5⟩
   rw [if_neg hw]
   exact k1
end
end Go.Abs
namespace Go.Abs
open Go.RowKit
section
variable {P : Program} {call : FuncId → List Value → M Value} {μ μ2 : Mu} {S S' G H H2 : zi} {T A : List Value}
theorem Jj.two {s : M Value} (hs : Jj s) {a : Value} {G' : zi} (h : s G = some (a, G')) : ∀ H, s H = some (a, H) := by
 obtain ⟨o, ho⟩ := hs
 rw [ho] at h
 cases o with
 | none => cases h
 | some w =>
  simp only [Option.map_some, Option.some.injEq, Prod.mk.injEq] at h
  intro H
  rw [ho, h.1]; rfl
theorem aa4 {t : TypeId} {ps : List (Nat × Value)} : Jj (yu P t ps) := by
 refine ⟨(yu P t ps zi.empty).map (·.1), fun H => ?_⟩
 unfold yu
 split
 ·
  split
  ·
   split
   ·
    split
    ·
     split <;> rfl
    ·
     rfl
   ·
    split
    ·
     split <;> rfl
    ·
     rfl
   ·
    rfl
  ·
   rfl
 ·
  rfl
theorem KE {x : Value} : Jj (vT x) := by
 refine ⟨(vT x zi.empty).map (·.1), fun H => ?_⟩
 unfold vT
 split <;> rfl
theorem abu {t : TypeId} {x i : Value} : Jj (ZA P t x i) := by
 unfold ZA
 refine ⟨(ZA P t x i zi.empty).map (·.1), fun H => ?_⟩
 unfold ZA
 dsimp only
 split
 ·
  split
  ·
   split
   ·
    split <;> rfl
   ·
    rfl
  ·
   rfl
 ·
  obtain ⟨o, ho⟩ := qU (P := P) _ _
  rw [ho, ho]
  cases o <;> rfl
 ·
  rfl
theorem ae6 {t : TypeId} {x : Value} (hx : ∀ m, x ≠ .map m) : Jj (aaG P t x) := by
 refine ⟨(aaG P t x zi.empty).map (·.1), fun H => ?_⟩
 unfold aaG
 split <;> first | rfl | exact absurd rfl (hx _)
theorem Qi {d : Nat} {v : Value} (h : okq d v = true) : okq d (dem v) = true := by
 cases v with
 | iface k v => cases d <;> rfl
 | tuple vs => cases d <;> cases h
 | _ => exact h
theorem Qz : ∀ (d : Nat) {v a : Value}, okq d v = true → V0 μ H v a → adF d a a = true := by
 intro d
 induction d with
 | zero =>
  intro v a h hv
  cases hv <;> first | (cases h; done) | (simp [adF]; done) | skip
  rename_i hs
  cases v <;> first | (simp [adF]; done) | (simp [Go.Abs.sg] at hs; done) | skip
 | succ d ih =>
  intro v a h hv
  cases hv <;> first | (cases h; done) | (simp [adF]; done) | skip
  ·
   rename_i hs
   cases v <;> first | (simp [adF]; done) | (simp [Go.Abs.sg] at hs; done) | skip
  ·
   rename_i x x' hx hh
   unfold adF
   simp only [decide_true, Bool.true_and]
   rw [List.all_eq_true]
   intro p hp
   obtain ⟨i, hi, he⟩ := List.mem_iff_getElem.1 hp
   simp only [List.length_zip, Nat.min_self] at hi
   rw [List.getElem_zip] at he
   subst he
   have hi' : i < x'.size := by simpa using hi
   have hi2 : i < x.size := by rw [hx]; exact hi'
   have h2 := hh i
   rw [Array.getD_eq_getD_getElem?, Array.getElem?_eq_getElem hi2, Array.getD_eq_getD_getElem?, Array.getElem?_eq_getElem hi'] at h2
   have h3 : okq d x[i] = true := List.all_eq_true.1 (show x.toList.all (okq d) = true from h) _ (by simp)
   have := ih h3 h2
   simpa using this
theorem ach (x : Value) : aao (dem x) = aao x := by cases x <;> rfl
theorem ahT {fx : Fx} {o : Oper} {v : Value} (hdr : fx.dr = true) (h : qF P fx call T o S = some (v, S')) (hn : Jk P o = false) (hr : vS o = false) (ho : ∀ x ∈ o.op.operands.toList, V0 μ G (dem (jQ T x)) (jQ A x)) :
  ∃ a, V0 μ G (dem v) a ∧ ∀ H, aOp P (jQ A) o H = some (a, H) ∧ qM P (lim P) A o H = some (a, H) := by
 have hrm : xR o = false := by
  unfold vS at hr
  unfold xR
  split <;> simp_all
 unfold qF at h
 split at h <;> first | (cases h; done) | skip
 rename_i hok
 obtain ⟨dst, op, type, pos, after, guard⟩ := o
 by_cases hcall : ∃ c, op = .call c
 ·
  obtain ⟨c, rfl⟩ := hcall
  dsimp only at h ho
  unfold Jk at hn
  dsimp only at hn
  have hcargs : ∀ x ∈ c.args.toList, V0 μ G (dem (jQ T x)) (jQ A x) := by
   intro x hx
   refine ho x ?_
   simp only [Op.operands, Call.operands]
   cases c.callee <;> simp <;> first | exact .inr (by simpa using hx) | exact (by simpa using hx)
  have step : ∀ {b : Builtin} (a : Value), c.callee = .builtin b → (∀ H, vO P b c.argTypes type (c.args.toList.map (jQ A)) H = some (a, H)) → ∀ H, aOp P (jQ A) ⟨dst, .call c, type, pos, after, guard⟩ H = some (a, H) ∧ qM P (lim P) A ⟨dst, .call c, type, pos, after, guard⟩ H = some (a, H) := by
   intro b a hb hall H
   constructor
   ·
    unfold aOp; dsimp only; rw [hb]; exact hall H
   ·
    unfold qM; rw [if_pos hok]; dsimp only; rw [hb]; exact hall H
  cases hcal : c.callee with
  | value f => rw [hcal] at hn; cases hn
  | invoke r m => rw [hcal] at hn; cases hn
  | builtin b =>
   rw [hcal] at h
   dsimp only at h
   unfold Vd at h
   rw [hcal] at hn
   have gargs : (c.args.toList.map (jQ T)).all ground = true → c.args.toList.map (jQ A) = c.args.toList.map (jQ T) := by
    intro hg
    apply List.map_congr_left
    intro x hx
    exact wI (hcargs x hx) (List.all_eq_true.1 hg _ (List.mem_map.2 ⟨x, hx, rfl⟩))
   cases b <;> dsimp only at h hn <;> first | (cases h; done) | (cases hn; done) | skip
   case len =>
    split at h <;> first | (cases h; done) | skip
    rename_i t x0 ht ha
    obtain ⟨x, hx, rfl⟩ : ∃ x, c.args.toList = [x] ∧ jQ T x = x0 := by
     match hl : c.args.toList with
     | [] => rw [hl] at ha; cases ha
     | [y] => rw [hl] at ha; simp at ha; exact ⟨y, rfl, ha⟩
     | y :: z :: w => rw [hl] at ha; simp at ha
    have hxv := hcargs x (by rw [hx]; simp)
    obtain ⟨rfl, a, h1, h2⟩ := afH h hxv
    have hmap : ∀ m, jQ A x ≠ .map m := by
     intro m hm
     rw [hm] at hxv
     generalize hu : dem (jQ T x) = u at hxv
     have hum : ∃ m', u = .map m' := by cases hxv <;> exact ⟨_, rfl⟩
     obtain ⟨m', rfl⟩ := hum
     have : jQ T x = .map m' := by
      cases hv : jQ T x <;> rw [hv] at hu <;> simp [dem, xH] at hu <;> rw [hu]
     rw [this] at h
     simp [ZM] at h
    refine ⟨a, h2.dem, step a hcal fun H => ?_⟩
    unfold vO
    dsimp only
    rw [ht, hx]
    exact (ae6 hmap).two h1 H
   case min =>
    obtain ⟨rfl, hg, hga, hh⟩ := qo (H := G) h
    refine ⟨v, (V0.ground hg).dem, step v hcal fun H => ?_⟩
    unfold vO
    dsimp only
    rw [gargs hga]
    exact (qU _ _).two hh H
   case max =>
    obtain ⟨rfl, hg, hga, hh⟩ := qo (H := G) h
    refine ⟨v, (V0.ground hg).dem, step v hcal fun H => ?_⟩
    unfold vO
    dsimp only
    rw [gargs hga]
    exact (qU _ _).two hh H
 ·
  have hnc : ∀ c, op ≠ .call c := fun c hc => hcall ⟨c, hc⟩
  have hV : vOp P fx (jQ T) ⟨dst, op, type, pos, after, guard⟩ S = some (v, S') := by
   cases op <;> first | exact h | exact absurd rfl (hnc _)
  obtain ⟨rfl, a, h1, h2, h3⟩ := VK (ρA := jQ A) hV hn ho (.inl (Yt hrm)) (.inl hdr)
  have hA : ∀ H, qM P (lim P) A ⟨dst, op, type, pos, after, guard⟩ H = aOp P (jQ A) ⟨dst, op, type, pos, after, guard⟩ H := by
   intro H
   unfold qM
   rw [if_pos hok]
   cases op <;> first | rfl | exact absurd rfl (hnc _)
  refine ⟨a, h2, fun H => ?_⟩
  rw [hA]
  have key : aOp P (jQ A) ⟨dst, op, type, pos, after, guard⟩ H = some (a, H) := by
   have hf : Jj (aOp P (jQ A) ⟨dst, op, type, pos, after, guard⟩) := by
    unfold Jk at hn
    unfold vS at hr
    unfold aOp
    unfold vOp at hV
    cases op <;> dsimp only at hn hr hV ⊢ <;> first | (cases hn; done) | (cases hr; done) | (cases hV; done) | skip
    ·
     exact QG _
    ·
     exact QG _
    ·
     exact acO _ _ _
    ·
     exact aa4
    ·
     exact KE
    ·
     exact VG _ _ _ _
    ·
     exact afR _ _
    ·
     exact QG _
    ·
     exact QI _ _ _
    ·
     exact aa9 _ _ _
    ·
     exact Qe _ _ _
    ·
     exact abu
    ·
     exact Vq _ _
   exact hf.two h1 H
  exact ⟨key, key⟩
theorem aej {t : TypeId} {r o e : Nat} {l : List Value} {own own' : Own} {a : Value} (hg : G.get r = some (.cells l own e)) (hg' : H2.get r = some (.cells l own' e)) (h : kM P t (.pointer (some ⟨r, o, none⟩)) G = some (a, G)) :
  kM P t (.pointer (some ⟨r, o, none⟩)) H2 = some (a, H2) := by
 simp only [kM, hg] at h
 simp only [kM, hg']
 (repeat' split at h) <;> first | (cases h; done) | skip
 all_goals simp_all
theorem VV.backed {v : Value} {r o n c : Nat} (h : V0 μ G v (.slice (some ⟨r, o, none⟩) n c)) (hv : aao v = false) : ∃ l own e, r < G.next ∧ Kv μ r ∧ G.get r = some (.cells l own e) := by
 cases h with
 | sg hs => simp [Go.Abs.sg] at hs
 | slm hm => simp [aao] at hv
 | sl hr hp hg _ _ _ => exact ⟨_, _, _, hr, hp, hg⟩
theorem ac7 {x : Value} {n : Nat} {cs : List Value} (hx : ∀ r o n c, x = .slice (some ⟨r, o, none⟩) n c → ∃ l own own' e, G.get r = some (.cells l own e) ∧ H2.get r = some (.cells l own' e)) (h : kQ x n G = some cs) : kQ x n H2 = some cs := by
 unfold kQ at h ⊢
 split at h
 ·
  rename_i r o k c
  obtain ⟨l, own, own', e, hg, hg'⟩ := hx _ _ _ _ rfl
  rw [hg] at h
  rw [hg']
  exact h
 ·
  exact h
 ·
  exact h
 ·
  cases h
theorem adV {src dst : TypeId} {x a : Value} (hd : ∀ e, P.underlying dst ≠ some (.slice e)) (hx : ∀ r o n c, x = .slice (some ⟨r, o, none⟩) n c → ∃ l own own' e, G.get r = some (.cells l own e) ∧ H2.get r = some (.cells l own' e)) (h : qJ P src dst x G = some (a, G)) :
  qJ P src dst x H2 = some (a, H2) := by
 unfold qJ at h ⊢
 split at h
 ·
  rename_i b n c
  (try dsimp only)
  split at h
  ·
   rename_i e hs hdd
   split at h <;> first | (cases h; done) | skip
   rename_i he
   split at h <;> first | (cases h; done) | skip
   rename_i cs hcs
   rw [ac7 hx hcs]
   (try dsimp only)
   split at h <;> first | (cases h; done) | skip
   rename_i bs hbs
   (try rw [hbs])
   cases h
   rfl
  ·
   rename_i e0 e hs hdd
   exact absurd hdd (hd e)
  ·
   cases h
 ·
  rename_i s
  (try dsimp only)
  split at h
  ·
   rename_i d e hs hdd
   exact absurd hdd (hd e)
  ·
   exact (qU _ _).two h H2
 ·
  exact (qU _ _).two h H2
theorem acC {t : TypeId} {x a : Value} {lo hi : Option Value} (hx : ∀ r o n c, x = .slice (some ⟨r, o, none⟩) n c → ∃ l own own' e, G.get r = some (.cells l own e) ∧ H2.get r = some (.cells l own' e)) (h : vF P t x lo hi G = some (a, G)) :
  vF P t x lo hi H2 = some (a, H2) := by
 unfold vF at h ⊢
 split at h
 ·
  rename_i s hu
  exact (qU _ _).two h H2
 ·
  rename_i e b n c hu
  (try dsimp only)
  split at h <;> first | (cases h; done) | skip
  rename_i size l hh hs hl hhi
  (try simp only [hs, hl, hhi])
  split at h <;> first | (cases h; done) | skip
  rename_i c0
  split at h <;> first | (cases h; done) | skip
  rename_i c1
  split at h <;> first | (cases h; done) | skip
  rename_i c2
  rw [if_pos c0, if_pos c1, if_pos c2]
  split at h
  ·
   split at h <;> first | (cases h; done) | skip
   rename_i hn
   cases h
   rw [if_pos hn]
  ·
   rename_i r o
   obtain ⟨l2, own, own', e2, hg, hg'⟩ := hx _ _ _ _ rfl
   rw [hg] at h
   rw [hg']
   dsimp only at h ⊢
   split at h <;> first | (cases h; done) | skip
   rename_i he
   rw [if_pos he]
   cases h
   rfl
  ·
   split at h <;> first | (cases h; done) | skip
   rename_i hn
   cases h
   rw [if_pos hn]
  ·
   cases h
 ·
  cases h
theorem adk {t : TypeId} {r o : Nat} {a : Value} {G' : zi} (hg : H2.get r = G.get r) (h : kM P t (.pointer (some ⟨r, o, none⟩)) G = some (a, G')) : kM P t (.pointer (some ⟨r, o, none⟩)) H2 = some (a, H2) := by
 simp only [kM] at h ⊢
 rw [hg]
 (repeat' split at h) <;> first | (cases h; done) | skip
 all_goals simp_all
theorem aap {t : TypeId} {x k : Value} {ok : Bool} {a : Value} {G' : zi} (hg : ∀ r, x = .map (some r) → H2.get r = G.get r) (h : qh P t x k ok G = some (a, G')) : qh P t x k ok H2 = some (a, H2) := by
 have e : ∀ H : zi, qh P t x k ok H = (qh P t x k ok H).map (fun r => (r.1, H)) := by
  intro H
  unfold qh
  (try dsimp only)
  (repeat' split) <;> rfl
 have e2 : (qh P t x k ok H2).map (·.1) = (qh P t x k ok G).map (·.1) := by
  cases x with
  | map b =>
   cases b with
   | none => unfold qh; dsimp only; (repeat' split) <;> rfl
   | some r =>
    unfold qh
    dsimp only
    rw [hg r rfl]
    (repeat' split) <;> rfl
  | _ => unfold qh; (try dsimp only) <;> (try ((repeat' split) <;> rfl))
 rw [h] at e2
 rw [e H2]
 cases hh : qh P t x k ok H2 with
 | none => rw [hh] at e2; cases e2
 | some w =>
  rw [hh] at e2
  simp only [Option.map_some, Option.some.injEq] at e2 ⊢
  rw [e2]
theorem aiq {fx : Fx} {o : Oper} {v : Value} (hdr : fx.dr = true) (h : qF P fx call T o S = some (v, S')) (hn : Jk P o = false) (hm : Z8 (jQ T) o) (ho : ∀ x ∈ o.op.operands.toList, V0 μ G (dem (jQ T x)) (jQ A x)) (hL : Later μ G μ2 H2) :
  ∃ a, V0 μ G (dem v) a ∧ aOp P (jQ A) o G = some (a, G) ∧ aOp P (jQ A) o H2 = some (a, H2) ∧ qM P (lim P) A o G = some (a, G) ∧ qM P (lim P) A o H2 = some (a, H2) := by
 by_cases hr : vS o = false
 ·
  obtain ⟨a, h1, h2⟩ := ahT hdr h hn hr ho
  exact ⟨a, h1, (h2 G).1, (h2 H2).1, (h2 G).2, (h2 H2).2⟩
 ·
  unfold qF at h
  split at h <;> first | (cases h; done) | skip
  rename_i hok
  obtain ⟨dst, op, type, pos, after, guard⟩ := o
  unfold vS at hr
  cases op <;> dsimp only at h hr <;> first | (exact absurd rfl hr) | skip
  case load t addr =>
   obtain ⟨rfl, a, h1, h2, h3⟩ := VK (ρA := jQ A) h hn ho (.inl hm) (.inl hdr)
   have hA : ∀ H, qM P (lim P) A ⟨dst, .load t addr, type, pos, after, guard⟩ H = aOp P (jQ A) ⟨dst, .load t addr, type, pos, after, guard⟩ H := fun H => by unfold qM; rw [if_pos hok]
   have key : aOp P (jQ A) ⟨dst, .load t addr, type, pos, after, guard⟩ H2 = some (a, H2) := by
    have hx := ho addr (by simp [Op.operands])
    have h : zZ P fx.nm t (jQ T addr) S' = some (v, S') := h
    unfold aOp at h1 ⊢
    dsimp only at h1 ⊢
    unfold zZ at h
    split at h
    ·
     rename_i k cs he
     split at h <;> first | (cases h; done) | skip
     rename_i hk
     subst hk
     rw [he] at hx
     have hx : V0 μ G (.iface 3 (.agg cs)) (jQ A addr) := hx
     generalize hq : jQ A addr = q at hx h1 ⊢
     cases hx with
     | sg hs => simp [Go.Abs.sg] at hs
     | ep hr hp hg hl hc =>
      obtain ⟨own', hg'⟩ := hL.cells _ _ _ _ hr hp hg
      exact aej hg hg' h1
    ·
     rename_i ad he
     exact absurd he (hm ad)
    ·
     cases h
   exact ⟨a, h2, h1, key, by rw [hA]; exact h1, by rw [hA]; exact key⟩
  case convert src d x =>
   obtain ⟨rfl, a, h1, h2, h3⟩ := VK (ρA := jQ A) h hn ho (.inl hm) (.inl hdr)
   have hA : ∀ H, qM P (lim P) A ⟨dst, .convert src d x, type, pos, after, guard⟩ H = aOp P (jQ A) ⟨dst, .convert src d x, type, pos, after, guard⟩ H := fun H => by unfold qM; rw [if_pos hok]
   have key : aOp P (jQ A) ⟨dst, .convert src d x, type, pos, after, guard⟩ H2 = some (a, H2) := by
    have hx := ho x (by simp [Op.operands])
    unfold aOp at h1 ⊢
    dsimp only at h1 ⊢
    refine adV (fun e he => ?_) (fun r o n c hq => ?_) h1
    ·
     unfold Jk at hn
     dsimp only at hn
     rw [he] at hn; cases hn
    ·
     rw [hq] at hx
     have hh : aao (dem (jQ T x)) = false := by
      rw [ach]
      have h : qN P fx.hp fx.dr src d (jQ T x) S' = some (v, S') := h
      unfold qN at h
      split at h
      ·
       first | (cases h; done) | (rw [hdr] at h; simp at h)
      ·
       rename_i hh; simpa using hh
     obtain ⟨l, own, e, hr, hp, hg⟩ := hx.backed hh
     obtain ⟨own', hg'⟩ := hL.cells _ _ _ _ hr hp hg
     exact ⟨l, own, own', e, hg, hg'⟩
   exact ⟨a, h2, h1, key, by rw [hA]; exact h1, by rw [hA]; exact key⟩
  case slice t x lo hi mx =>
   obtain ⟨rfl, a, h1, h2, h3⟩ := VK (ρA := jQ A) h hn ho (.inl hm) (.inl hdr)
   have hA : ∀ H, qM P (lim P) A ⟨dst, .slice t x lo hi mx, type, pos, after, guard⟩ H = aOp P (jQ A) ⟨dst, .slice t x lo hi mx, type, pos, after, guard⟩ H := fun H => by unfold qM; rw [if_pos hok]
   have key : aOp P (jQ A) ⟨dst, .slice t x lo hi mx, type, pos, after, guard⟩ H2 = some (a, H2) := by
    have hx := ho x (by simp [Op.operands])
    unfold aOp at h1 ⊢
    cases mx with
    | some m => cases h1
    | none =>
     dsimp only at h1 ⊢
     refine acC (fun r o n c hq => ?_) h1
     rw [hq] at hx
     have hh : aao (dem (jQ T x)) = false := by
      rw [ach]
      have h : Zm P fx.dr t (jQ T x) (lo.map (jQ T)) (hi.map (jQ T)) S' = some (v, S') := h
      unfold Zm at h
      split at h
      ·
       first | (cases h; done) | (rw [hdr] at h; simp at h)
      ·
       rename_i hh; simpa using hh
     obtain ⟨l, own, e, hr, hp, hg⟩ := hx.backed hh
     obtain ⟨own', hg'⟩ := hL.cells _ _ _ _ hr hp hg
     exact ⟨l, own, own', e, hg, hg'⟩
   exact ⟨a, h2, h1, key, by rw [hA]; exact h1, by rw [hA]; exact key⟩
  case lookup t x k ok =>
   exact hm.elim
end
end Go.Abs
namespace Go.Abs
open Go.RowKit
structure Line (P : Program) (fx : Fx) (chk : List Nat) (call : FuncId → List Value → M Value) (ops : Array Oper) (k0 : Nat) (l : List Oper) (Ts As : Nat → List Value) (Ss Hs : Nat → zi) (μs : Nat → Mu) (ωs : Nat → Nat → Option kG) (vs zf : Nat → Value) : Prop where
  inv : ∀ k, k ≤ l.length → GI (μs k) (Ss k) (Hs k) ∧ TI (μs k) (Hs k) (ωs k) (Ts k) (As k)
  step : ∀ k o, l[k]? = some o → Later (μs k) (Hs k) (μs (k + 1)) (Hs (k + 1)) ∧ Kept (ωs k) (Hs k) (ωs (k + 1)) (Hs (k + 1)) ∧
    ((Region.wanted o (ynd ops (As k)) = true ∧ qF P fx call (Ts k) o (Ss k) = some (vs k, Ss (k + 1)) ∧ qM P (lim P) (As k) o (Hs k) = some (zf k, Hs (k + 1)) ∧
        Ts (k + 1) = Jc o (l.drop (k + 1)) (Ts k) (vs k) ∧ As (k + 1) = Yi (As k) o.dst (zf k) ∧ (chk.contains (k0 + k) = true → okq 3 (vs k) = true)) ∨
     (Region.wanted o (ynd ops (As k)) = false ∧ zf k = undef ∧ Ts (k + 1) = Jc o (l.drop (k + 1)) (Ts k) undef ∧ As (k + 1) = Yi (As k) o.dst undef ∧ Hs (k + 1) = Hs k))
section
variable {P : Program} {call : FuncId → List Value → M Value}
theorem aiz {fx : Fx} {chk : List Nat} {nl : List (Nat × Nat)} (hc : YZ P call) {ops : Array Oper} : ∀ (l : List Oper) (k0 : Nat) (hist : List (Value × zi)) (T T' A : List Value) (S S' H : zi) (μ : Mu) (ω : Nat → Option kG), qc P fx chk nl call ops k0 hist l T S = some (T', S') → GI μ S H → TI μ H ω T A →
    ∃ Ts As Ss Hs μs ωs vs zf tr, Line P fx chk call ops k0 l Ts As Ss Hs μs ωs vs zf ∧ Ts 0 = T ∧ As 0 = A ∧ Ss 0 = S ∧ Hs 0 = H ∧ μs 0 = μ ∧ ωs 0 = ω ∧ Ts l.length = T' ∧ Ss l.length = S' ∧
      xg P (lim P) ops l A H = some (tr, As l.length, Hs l.length) ∧ (∀ k, k < l.length → tr[k]? = some (As k, Hs k, zf k)) ∧ (∀ k, k ≤ l.length → (tr.map (·.2.1) ++ [Hs l.length])[k]? = some (Hs k)) ∧
      ∃ hs : List (Value × zi), hs.length = l.length ∧ (∀ k o, l[k]? = some o → hs[k]? = some (Zt (Ts k) o, Ss k)) ∧ (nl.isEmpty = false → nl.all (abT (hist ++ hs ++ [(undef, S')])) = true) := by
  intro l
  induction l with
  | nil =>
    intro k0 hist T T' A S S' H μ ω h hG hT
    simp only [qc] at h
    split at h <;> first | (cases h; done) | skip
    rename_i hst
    cases h
    refine ⟨fun _ => T, fun _ => A, fun _ => S, fun _ => H, fun _ => μ, fun _ => ω, fun _ => undef, fun _ => undef, [], ⟨fun k _ => ⟨hG, hT⟩, fun k o ho => by simp at ho⟩, rfl, rfl, rfl, rfl, rfl, rfl, rfl, rfl, rfl, fun k hk => by simp at hk, fun k hk => ?_, [], rfl, fun k o ho => by simp at ho, fun he => ?_⟩
    · have : k = 0 := by simpa using hk
      subst this
      rfl
    · simpa [Zd, he] using hst
  | cons o l ih =>
    intro k0 hist T T' A S S' H μ ω h hG hT
    have hy : (ynd ops T) = ynd ops A := funext fun j => afw hT j
    simp only [qc] at h
    have glue : ∀ (T1 A1 : List Value) (S1 H1 : zi) (μ1 : Mu) (ω1 : Nat → Option kG) (v a : Value), qc P fx chk nl call ops (k0 + 1) (Zd nl hist (Zt T o) S) l T1 S1 = some (T', S') → GI μ1 S1 H1 → TI μ1 H1 ω1 T1 A1 → Later μ H μ1 H1 → Kept ω H ω1 H1 →
        ((Region.wanted o (ynd ops A) = true ∧ qF P fx call T o S = some (v, S1) ∧ qM P (lim P) A o H = some (a, H1) ∧ T1 = Jc o l T v ∧ A1 = Yi A o.dst a ∧ (chk.contains k0 = true → okq 3 v = true)) ∨
         (Region.wanted o (ynd ops A) = false ∧ a = undef ∧ T1 = Jc o l T undef ∧ A1 = Yi A o.dst undef ∧ H1 = H)) →
        (∀ tr A2 H2, xg P (lim P) ops l A1 H1 = some (tr, A2, H2) → xg P (lim P) ops (o :: l) A H = some ((A, H, a) :: tr, A2, H2)) →
        ∃ Ts As Ss Hs μs ωs vs zf tr, Line P fx chk call ops k0 (o :: l) Ts As Ss Hs μs ωs vs zf ∧ Ts 0 = T ∧ As 0 = A ∧ Ss 0 = S ∧ Hs 0 = H ∧ μs 0 = μ ∧ ωs 0 = ω ∧ Ts (o :: l).length = T' ∧ Ss (o :: l).length = S' ∧
          xg P (lim P) ops (o :: l) A H = some (tr, As (o :: l).length, Hs (o :: l).length) ∧ (∀ k, k < (o :: l).length → tr[k]? = some (As k, Hs k, zf k)) ∧ (∀ k, k ≤ (o :: l).length → (tr.map (·.2.1) ++ [Hs (o :: l).length])[k]? = some (Hs k)) ∧
          ∃ hs : List (Value × zi), hs.length = (o :: l).length ∧ (∀ k o', (o :: l)[k]? = some o' → hs[k]? = some (Zt (Ts k) o', Ss k)) ∧ (nl.isEmpty = false → nl.all (abT (hist ++ hs ++ [(undef, S')])) = true) := by
      intro T1 A1 S1 H1 μ1 ω1 v a hrest hG1 hT1 hL hK hstep htr
      obtain ⟨Ts, As, Ss, Hs, μs, ωs, vs, zf, tr, hline, e1, e2, e3, e4, e5, e6, e7, e8, e9, e10, e11, hs, e12, e13, e14⟩ := ih _ _ _ _ _ _ _ _ _ _ hrest hG1 hT1
      refine ⟨fun k => match k with | 0 => T | k + 1 => Ts k, fun k => match k with | 0 => A | k + 1 => As k, fun k => match k with | 0 => S | k + 1 => Ss k, fun k => match k with | 0 => H | k + 1 => Hs k,
        fun k => match k with | 0 => μ | k + 1 => μs k, fun k => match k with | 0 => ω | k + 1 => ωs k, fun k => match k with | 0 => v | k + 1 => vs k, fun k => match k with | 0 => a | k + 1 => zf k, (A, H, a) :: tr,
        ⟨fun k hk => ?_, fun k o' ho => ?_⟩, rfl, rfl, rfl, rfl, rfl, rfl, e7, e8, htr _ _ _ e9, fun k hk => ?_, fun k hk => ?_, (Zt T o, S) :: hs, by simp [e12], fun k o' ho => ?_, fun he => ?_⟩
      · cases k with
        | zero => exact ⟨hG, hT⟩
        | succ k => exact hline.inv k (by simpa using hk)
      · cases k with
        | zero =>
          simp only [List.getElem?_cons_zero, Option.some.injEq] at ho
          subst ho
          dsimp only
          rw [e1, e2, e3, e4, e5, e6]
          exact ⟨hL, hK, hstep⟩
        | succ k =>
          have := hline.step k o' (by simpa using ho)
          rw [show k0 + 1 + k = k0 + (k + 1) by omega] at this
          exact this
      · cases k with
        | zero => rfl
        | succ k => simpa using e10 k (by simpa using hk)
      · cases k with
        | zero => rfl
        | succ k => simpa using e11 k (by simpa using hk)
      · cases k with
        | zero =>
          simp only [List.getElem?_cons_zero, Option.some.injEq] at ho
          subst ho
          rfl
        | succ k => simpa using e13 k o' (by simpa using ho)
      · have := e14 he
        rw [show Zd nl hist (Zt T o) S = hist ++ [(Zt T o, S)] by simp [Zd, he]] at this
        simpa using this
    split at h
    · rename_i hw
      split at h
      · rename_i v S1 hs
        split at h <;> first | (cases h; done) | skip
        rename_i hchk
        obtain ⟨a, H1, μ1, ω1, h1, h2, h3, h4, h5⟩ := acv (rest := l) hc hG hT hs
        have hw' : Region.wanted o (ynd ops A) = true := by rw [← hy]; exact hw
        refine glue _ _ _ H1 μ1 ω1 v a h h2 h5 h3 h4 (.inl ⟨hw', hs, h1, rfl, rfl, fun hk => ?_⟩) (fun tr A2 H2 ht => ?_)
        · rw [hk] at hchk; simpa using hchk
        · simp only [xg, hw', if_true, h1, ht]
      · cases h
    · rename_i hw
      obtain ⟨μ1, ω1, h2, h3, h4, h5⟩ := YP (o := o) (rest := l) hG hT
      have hw' : Region.wanted o (ynd ops A) = false := by rw [← hy]; simpa using hw
      refine glue _ _ _ H μ1 ω1 undef undef h h2 h5 h3 h4 (.inr ⟨hw', rfl, rfl, rfl, rfl⟩) (fun tr A2 H2 ht => ?_)
      simp only [xg, hw', ht]
      rfl
variable {fx : Fx} {chk : List Nat} {ops : Array Oper} {k0 : Nat} {l : List Oper} {Ts As : Nat → List Value} {Ss Hs : Nat → zi} {μs : Nat → Mu} {ωs : Nat → Nat → Option kG} {vs zf : Nat → Value}
theorem Line.later (hl : Line P fx chk call ops k0 l Ts As Ss Hs μs ωs vs zf) {i : Nat} : ∀ (d : Nat), i + d ≤ l.length → Later (μs i) (Hs i) (μs (i + d)) (Hs (i + d)) := by
 intro d
 induction d with
 | zero => intro _; exact Later.refl _ _
 | succ d ih =>
  intro hd
  have ho : l[i + d]? = some l[i + d] := List.getElem?_eq_getElem (by omega)
  exact (ih (by omega)).trans (hl.step (i + d) _ ho).1
theorem Line.kept (hl : Line P fx chk call ops k0 l Ts As Ss Hs μs ωs vs zf) : ∀ (d : Nat), d ≤ l.length → Kept (ωs 0) (Hs 0) (ωs d) (Hs d) := by
 intro d
 induction d with
 | zero => intro _; exact Kept.refl _ _
 | succ d ih =>
  intro hd
  have ho : l[d]? = some l[d] := List.getElem?_eq_getElem (by omega)
  exact (ih (by omega)).trans (hl.step d _ ho).2.1
theorem abG (i : Nat) (w : Value) : dem (zV i w) = dem w := by
 cases w with
 | tuple vs =>
  simp only [zV, dem]
  congr 1
  apply Array.ext (by simp)
  intro k h1 h2
  rw [Array.getElem_map, Array.getElem_map, Array.getElem_modify]
  split
  ·
   have : ∀ v, xH (xH v) = xH v := by
    intro v
    cases v with
    | iface k v =>
     simp only [xH]
     by_cases h : k = 2
     ·
      rw [if_pos h, if_neg (by decide)]
     ·
      rw [if_neg h, if_neg h]
    | _ => rfl
   exact this _
  ·
   rfl
 | _ => rfl
theorem VI (o : Oper) (T : List Value) (t : Nat) : dem ((moved o T).getD t undef) = dem (T.getD t undef) := by
 have slot : ∀ t', dem ((xq T t').getD t undef) = dem (T.getD t undef) := by
  intro t'
  rw [xq, kE]
  split
  ·
   rename_i h; rw [h.1, Xw]
  ·
   rfl
 unfold moved
 split
 ·
  exact slot _
 ·
  exact slot _
 ·
  rw [kE]
  split
  ·
   rename_i h; rw [h.1, abG]
  ·
   rfl
 ·
  split
  ·
   exact slot _
  ·
   rfl
 ·
  rfl
theorem moved_length (o : Oper) (T : List Value) : (moved o T).length = T.length := by
 unfold moved
 split <;> first | simp [xq] | rfl | skip
 split <;> first | simp [xq] | rfl
theorem aas {o : Oper} {rest : List Oper} {T : List Value} {v : Value} (hd : o.dst = none) (t : Nat) : dem ((Jc o rest T v).getD t undef) = dem (T.getD t undef) := by
 unfold Jc
 rw [hd]
 split
 ·
  rfl
 ·
  exact VI o T t
theorem aar {o : Oper} {rest : List Oper} {T : List Value} {v : Value} {d : Nat} (hd : o.dst = some d) (t : Nat) : dem ((Jc o rest T v).getD t undef) = if t = d ∧ d < T.length then dem v else dem (T.getD t undef) := by
 unfold Jc
 rw [hd]
 split
 ·
  simp only [Yi]
  rw [kE]
  split
  ·
   exact Xw v
  ·
   rfl
 ·
  simp only [Yi]
  rw [kE, moved_length]
  split
  ·
   rfl
  ·
   exact VI o T t
def Clear (μ : Mu) (G : zi) (bad : List Nat) (T A : List Value) : Prop := ∀ t, bad.contains t = false → V0 μ G (dem (T.getD t undef)) (A.getD t undef)
theorem Clear.operands {μ : Mu} {G : zi} {bad : List Nat} {T A : List Value} (h : Clear μ G bad T A) {o : Oper} (hok : ag2 o = true) (hc : kW bad o = true) : ∀ x ∈ o.op.operands.toList, V0 μ G (dem (jQ T x)) (jQ A x) := by
 intro x hx
 have h1 := List.all_eq_true.1 (show o.op.operands.toList.all xA = true from hok) x hx
 have h2 := List.all_eq_true.1 hc x hx
 cases x with
 | tmp t => exact h t (by simpa using h2)
 | const v => exact (VV.qK (μ := μ) (H := G) (ω := W0) (ℓ := none) h1).v0
 | global g => cases h1
 | func f =>
  have : V0 μ G (.func (.func f) #[] #[]) (.func (.func f) #[] #[]) := .func _ rfl rfl (fun i => by simpa using VV.undef) (fun i => by simpa using VV.undef)
  exact this
theorem JK {T : List Value} {o : Oper} {S S' : zi} {v : Value} (h : qF P fx call T o S = some (v, S')) : ag2 o = true := by
 unfold qF at h
 split at h
 ·
  assumption
 ·
  cases h
theorem acW {fx : Fx} {o : Oper} {T A : List Value} {v : Value} {S S' H : zi} {μ : Mu} (h : qF P fx call T o S = some (v, S')) (hnm : fx.nm = true) (hm : ¬ Z8 (jQ T) o) (hG : GI μ S H) (ho : ∀ x ∈ o.op.operands.toList, V0 μ H (dem (jQ T x)) (jQ A x)) :
  ground v = true ∧ ∃ a, qM P (lim P) A o H = some (a, H) ∧ a = v := by
 have hok := JK h
 unfold qF at h
 rw [if_pos hok] at h
 obtain ⟨dst, op, type, pos, after, guard⟩ := o
 unfold Z8 at hm
 cases op <;> dsimp only at h hm <;> first | (exact absurd True.intro hm) | skip
 case load t a =>
  have h : zZ P fx.nm t (jQ T a) S = some (v, S') := h
  obtain ⟨q, hq⟩ : ∃ q, jQ T a = .pointer q := Classical.byContradiction fun hn => hm fun q hq => hn ⟨q, hq⟩
  obtain ⟨rfl, w, k1, k2⟩ := Y8 h (ho a (by simp [Op.operands])) (.inr hG)
  rw [hnm] at h
  have hgr : ground v = true := by
   unfold zZ at h
   rw [hq] at h
   dsimp only at h
   split at h <;> first | (cases h; done) | skip
   ·
    split at h
    ·
     split at h <;> first | (cases h; done) | skip
     rename_i hg
     cases h
     exact hg
    ·
     rename_i hf; exact absurd rfl hf
   ·
    split at h
    ·
     split at h <;> first | (cases h; done) | skip
     rename_i hg
     cases h
     exact hg
    ·
     rename_i hf; exact absurd rfl hf
  refine ⟨hgr, w, ?_, k2.vU hgr⟩
  unfold qM
  rw [if_pos hok]
  exact k1
 case lookup t x k ok =>
  have h : xJ P fx.nm t (jQ T x) (jQ T k) ok S = some (v, S') := h
  unfold xJ at h
  rw [hnm] at h
  simp at h
theorem Line.clear (hdr : fx.dr = true) (hl : Line P fx chk call ops k0 l Ts As Ss Hs μs ωs vs zf) {j : Nat} (hj : j ≤ l.length) : ∀ (rest : List Oper) (bad : List Nat) (k : Nat), j ≤ k → l.drop k = rest → Clear (μs j) (Hs j) bad (Ts k) (As k) →
  ∀ d, d ≤ rest.length → Clear (μs j) (Hs j) ((afs P fx.nm rest bad).getD d []) (Ts (k + d)) (As (k + d)) := by
 intro rest
 induction rest with
 | nil =>
  intro bad k hjk hr hC d hd
  have : d = 0 := by simpa using hd
  subst this
  exact hC
 | cons o rest ih =>
  intro bad k hjk hr hC d hd
  have hkl : k < l.length := by
   have := congrArg List.length hr
   simp at this; omega
  have ho : l[k]? = some o := by
   have := congrArg (·[0]?) hr
   simpa [List.getElem?_drop] using this
  cases d with
  | zero => exact hC
  | succ d =>
   simp only [afs, List.getD_cons_succ]
   rw [show k + (d + 1) = k + 1 + d by omega]
   refine ih _ (k + 1) (by omega) ?_ ?_ d (by simpa using hd)
   ·
    rw [← List.drop_drop, hr]; rfl
   ·
    obtain ⟨hL, _, hor⟩ := hl.step k o ho
    obtain ⟨hG, hT⟩ := hl.inv k (by omega)
    have hlen := hT.len
    intro t ht
    cases hd : o.dst with
    | none =>
     rw [hd] at ht
     rcases hor with ⟨_, _, _, e1, e2, _⟩ | ⟨_, _, e1, e2, _⟩
     ·
      rw [e1, aas hd, e2, hd]; exact hC t ht
     ·
      rw [e1, aas hd, e2, hd]; exact hC t ht
    | some dd =>
     rw [hd] at ht
     dsimp only at ht
     have htb : bad.contains t = false := by
      split at ht
      ·
       simp only [List.contains_cons, Bool.or_eq_false_iff] at ht; exact ht.2
      ·
       exact ht
     rcases hor with ⟨hw, hv, ha, e1, e2, _⟩ | ⟨_, _, e1, e2, _⟩
     ·
      rw [e1, aar hd, e2, hd]
      simp only [Yi]
      rw [kE, hlen]
      by_cases hc : t = dd ∧ dd < (As k).length
      ·
       rw [if_pos hc, if_pos hc]
       have hcond : ¬ (Jk P o || !kW bad o || (xR o && !fx.nm)) = true := by
        intro hh
        rw [if_pos hh] at ht
        simp [hc.1] at ht
       simp only [Bool.or_eq_true, not_or, Bool.not_eq_true, Bool.not_eq_eq_eq_not, Bool.not_true, Bool.and_eq_true, not_and] at hcond
       obtain ⟨⟨q1, q2⟩, q3⟩ := hcond
       have q2' : kW bad o = true := by simpa using q2
       have hLj : Later (μs j) (Hs j) (μs k) (Hs k) := by
        have := hl.later (i := j) (k - j) (by omega)
        rwa [show j + (k - j) = k by omega] at this
       by_cases hm : Z8 (jQ (Ts k)) o
       ·
        obtain ⟨a, h1, _, _, _, h5⟩ := aiq hdr hv q1 hm (hC.operands (JK hv) q2') hLj
        rw [ha] at h5
        have e : zf k = a := by simpa using congrArg (Option.map Prod.fst) h5
        subst e
        exact h1
       ·
        have hrm : xR o = true := by
         cases hrm : xR o with
         | true => rfl
         | false => exact absurd (Yt hrm) hm
        have hnm : fx.nm = true := by have := q3 hrm; simpa using this
        obtain ⟨g1, a, g2, g3⟩ := acW hv hnm hm hG (fun x hx => hT.eval (List.all_eq_true.1 (show o.op.operands.toList.all xA = true from JK hv) x hx))
        rw [ha] at g2
        have e : zf k = a := by simpa using congrArg (Option.map Prod.fst) g2
        subst e
        rw [g3, KP g1]
        exact V0.ground g1
      ·
       rw [if_neg hc, if_neg hc]
       exact hC t htb
     ·
      rw [e1, aar hd, e2, hd]
      simp only [Yi]
      rw [kE, hlen]
      by_cases hc : t = dd ∧ dd < (As k).length
      ·
       rw [if_pos hc, if_pos hc, show dem undef = undef from JC]
       exact .nores
      ·
       rw [if_neg hc, if_neg hc]
       exact hC t htb
theorem afu {hp0 : Bool} (hc : YZ P call) {T T' A : List Value} {S S' H : zi} {μ : Mu} {ω : Nat → Option kG} (hd : kD P ops = true) (h : qc P ⟨hp0, !(checked P ops).isEmpty, fixed P ops⟩ (checked P ops) (again P ops) call ops 0 [] ops.toList T S = some (T', S')) (hG : GI μ S H) (hT : TI μ H ω T A) :
  After μ ω H T' S' (Jf P (lim P) ops A H) := by
 obtain ⟨Ts, As, Ss, Hs, μs, ωs, vs, zf, tr, hline, rfl, rfl, rfl, rfl, rfl, rfl, rfl, rfl, e9, e10, e11, hs, e12, e13, e14⟩ := aiz hc _ _ _ _ _ _ _ _ _ _ _ h hG hT
 obtain ⟨hGn, hTn⟩ := hline.inv ops.toList.length (Nat.le_refl _)
 have hLn := hline.later (i := 0) ops.toList.length (by omega)
 rw [Nat.zero_add] at hLn
 refine ⟨As ops.toList.length, Hs ops.toList.length, μs ops.toList.length, ωs ops.toList.length, ?_, hGn, hLn, hline.kept _ (Nat.le_refl _), hTn⟩
 simp only [kD, Vt, Bool.and_eq_true] at hd
 refine agY hd.1 e9 fun p hp => ?_
 have hchk : (checked P ops).contains p.1 = true := by
  unfold checked
  simp only [List.contains_eq_mem, decide_eq_true_eq]
  exact List.mem_map.2 ⟨p, hp, rfl⟩
 have hdr : (Fx.mk hp0 (!(checked P ops).isEmpty) (fixed P ops)).dr = true := by
  show (!(checked P ops).isEmpty) = true
  cases hl : checked P ops with
  | nil => rw [hl] at hchk; cases hchk
  | cons a b => rfl
 have hp2 := List.all_eq_true.1 hd.2 p hp
 have hp0 := hp
 unfold need at hp
 obtain ⟨i, hi, hp⟩ := List.mem_flatMap.1 hp
 obtain ⟨j, hj, hp⟩ := List.mem_filterMap.1 hp
 have hi : i < ops.toList.length := List.mem_range.1 hi
 have hj : j < ops.toList.length := List.mem_range.1 hj
 split at hp <;> first | (cases hp; done) | skip
 rename_i oi oj hoi hoj
 split at hp <;> first | (cases hp; done) | skip
 rename_i hcond
 cases hp
 simp only [Bool.and_eq_true, Bool.not_eq_true'] at hcond
 obtain ⟨⟨hni, hcj⟩, _⟩ := hcond
 dsimp only at hp2 hchk ⊢
 rw [hoi] at hp2
 dsimp only at hp2
 have hij : i ≠ j := by
  intro e; subst e
  rw [hoi] at hoj; cases hoj
  rw [hni] at hcj; cases hcj
 have hGj : (tr.map (·.2.1) ++ [Hs ops.toList.length])[if j < i then j else j + 1]? = some (Hs (if j < i then j else j + 1)) := e11 _ (by split <;> omega)
 unfold QJ
 rw [hoi, e10 i hi, hGj]
 dsimp only
 obtain ⟨_, _, hor⟩ := hline.step i oi hoi
 rcases hor with ⟨hw, hv, ha, heT, heA, hq⟩ | ⟨hw, _⟩
 ·
  rw [hw]
  simp only [Bool.not_true, Bool.false_or]
  obtain ⟨hGi, hTi⟩ := hline.inv i (by omega)
  have hops : ∀ x ∈ oi.op.operands.toList, V0 (μs i) (Hs i) (dem (jQ (Ts i) x)) (jQ (As i) x) := fun x hx => hTi.eval (List.all_eq_true.1 (show oi.op.operands.toList.all xA = true from JK hv) x hx)
  have hq3 : okq 3 (vs i) = true := hq (by rw [Nat.zero_add]; exact hchk)
  have same : ∃ G', aOp P (jQ (As i)) oi (Hs (if j < i then j else j + 1)) = some (zf i, G') ∧ adF 3 (zf i) (zf i) = true := by
   by_cases hm : Z8 (jQ (Ts i)) oi
   case neg =>
    have hrm : xR oi = true := by
     cases hrm : xR oi with
     | true => rfl
     | false => exact absurd (Yt hrm) hm
    have hin : (i, j) ∈ again P ops := List.mem_filter.2 ⟨hp0, by dsimp only; rw [hoi]; exact hrm⟩
    have hne : (again P ops).isEmpty = false := by
     cases hl : again P ops with
     | nil => rw [hl] at hin; cases hin
     | cons a b => rfl
    have hst := List.all_eq_true.1 (e14 hne) _ hin
    rw [List.nil_append] at hst
    have hi1 : (hs ++ [(undef, Ss ops.toList.length)])[i]? = some (Zt (Ts i) oi, Ss i) := by
     rw [List.getElem?_append_left (by omega)]; exact e13 i oi hoi
    have hj1 : ∃ p2, (hs ++ [(undef, Ss ops.toList.length)])[if j < i then j else j + 1]? = some (p2, Ss (if j < i then j else j + 1)) := by
     by_cases hjl : (if j < i then j else j + 1) < ops.toList.length
     ·
      rw [List.getElem?_append_left (by omega)]
      exact ⟨_, e13 _ _ (List.getElem?_eq_getElem hjl)⟩
     ·
      have : (if j < i then j else j + 1) = ops.toList.length := by split at hjl <;> (rename_i hh; simp only [hh, if_true, if_false]; omega)
      rw [this, List.getElem?_append_right (by omega), e12, Nat.sub_self]
      exact ⟨_, rfl⟩
    obtain ⟨p2, hj1⟩ := hj1
    unfold abT at hst
    dsimp only at hst
    rw [hi1, hj1] at hst
    dsimp only at hst
    have obj : ∀ q r b, μs i q = some (r, b) → (∀ Sa Sb, ku (Zt (Ts i) oi) Sa Sb = true → (∃ o, Sa.get q = some o ∧ o.alive = true) ∧ q ∉ Sb.log.take (Sb.log.length - Sa.log.length)) → (Hs (if j < i then j else j + 1)).get r = (Hs i).get r := by
     intro q r b hq hQ
     by_cases hji : j < i
     ·
      rw [if_pos hji] at hst ⊢
      rw [if_pos hji] at hst
      obtain ⟨⟨o1, g1, g2⟩, g3⟩ := hQ _ _ hst
      obtain ⟨hGj3, _⟩ := hline.inv j (by omega)
      obtain ⟨r0, _, g4, _⟩ := hGj3.obj q o1 g1 g2
      have hL := hline.later (i := j) (i - j) (by omega)
      rw [show j + (i - j) = i by omega] at hL
      obtain ⟨b', hb'⟩ := hL.mu q r0 true g4
      rw [hq] at hb'
      cases hb'
      obtain ⟨new, n1, n2⟩ := hL.still
      rw [hGj3.log, hGi.log] at n1
      rw [n1] at g3
      simp only [List.length_append, Nat.add_sub_cancel, List.take_left] at g3
      exact (n2 q r g4 g3).2.symm
     ·
      rw [if_neg hji] at hst ⊢
      rw [if_neg hji] at hst
      obtain ⟨⟨o1, g1, g2⟩, g3⟩ := hQ _ _ hst
      have hb := hGi.at hq g1 g2
      subst hb
      have hL := hline.later (i := i) (j + 1 - i) (by omega)
      rw [show i + (j + 1 - i) = j + 1 by omega] at hL
      obtain ⟨hGj3, _⟩ := hline.inv (j + 1) (by omega)
      obtain ⟨new, n1, n2⟩ := hL.still
      rw [hGj3.log, hGi.log] at n1
      rw [n1] at g3
      simp only [List.length_append, Nat.add_sub_cancel, List.take_left] at g3
      exact (n2 q r hq g3).2
    clear hst hi1 hj1
    have hok := JK hv
    have hvo := hv
    unfold qF at hv
    rw [if_pos hok] at hv
    obtain ⟨dst, op, type, pos, after, guard⟩ := oi
    unfold Z8 at hm
    cases op <;> dsimp only at hv hm <;> first | (exact absurd True.intro hm) | skip
    case load t a =>
     have hv : zZ P (fixed P ops) t (jQ (Ts i) a) (Ss i) = some (vs i, Ss (i + 1)) := hv
     obtain ⟨ad, hq⟩ : ∃ q, jQ (Ts i) a = .pointer q := Classical.byContradiction fun hn => hm fun q hq => hn ⟨q, hq⟩
     have hx := hops a (by simp [Op.operands])
     obtain ⟨_, w, k1, k2⟩ := Y8 hv hx (.inr hGi)
     have hA : qM P (lim P) (As i) ⟨dst, .load t a, type, pos, after, guard⟩ (Hs i) = kM P t (jQ (As i) a) (Hs i) := by unfold qM; rw [if_pos hok]; rfl
     rw [hA, k1] at ha
     have e : w = zf i := by simpa using congrArg (Option.map Prod.fst) ha
     subst e
     rw [hq] at hx
     have hx : V0 (μs i) (Hs i) (.pointer ad) (jQ (As i) a) := hx
     generalize hpa : jQ (As i) a = pa at hx k1
     have hres : kM P t pa (Hs (if j < i then j else j + 1)) = some (zf i, Hs (if j < i then j else j + 1)) := by
      cases hx with
      | sg hs =>
       cases ad with
       | none => simp [kM] at k1
       | some ad => simp [Go.Abs.sg] at hs
      | @ptr _ q o r b hmq =>
       refine adk (obj q r b hmq fun Sa Sb hQ => ?_) k1
       have hQ : ku (jQ (Ts i) a) Sa Sb = true := hQ
       rw [hq] at hQ
       simp only [ku, Bool.and_eq_true, Bool.not_eq_true', List.contains_eq_mem, decide_eq_false_iff_not] at hQ
       refine ⟨?_, hQ.2⟩
       have h1 := hQ.1
       split at h1 <;> first | (cases h1; done) | skip
       rename_i hsa
       exact ⟨_, hsa, rfl⟩
     rw [← hpa] at hres
     exact ⟨_, hres, Qz 3 (Qi hq3) k2.dem⟩
    case lookup t x k ok =>
     have hv : xJ P (fixed P ops) t (jQ (Ts i) x) (jQ (Ts i) k) ok (Ss i) = some (vs i, Ss (i + 1)) := hv
     have hx := hops x (by simp [Op.operands])
     obtain ⟨_, w, k1, k2⟩ := KL hv hx (hops k (by simp [Op.operands])) (.inr hGi)
     have hA : qM P (lim P) (As i) ⟨dst, .lookup t x k ok, type, pos, after, guard⟩ (Hs i) = qh P t (jQ (As i) x) (jQ (As i) k) ok (Hs i) := by unfold qM; rw [if_pos hok]; rfl
     rw [hA, k1] at ha
     have e : w = zf i := by simpa using congrArg (Option.map Prod.fst) ha
     subst e
     have hres : qh P t (jQ (As i) x) (jQ (As i) k) ok (Hs (if j < i then j else j + 1)) = some (zf i, Hs (if j < i then j else j + 1)) := by
      refine aap (fun r hr => ?_) k1
      rw [hr] at hx
      generalize hu : dem (jQ (Ts i) x) = u at hx
      have hum : ∃ q b, u = .map (some q) ∧ μs i q = some (r, b) := by
       cases hx with
       | sg hs => simp [Go.Abs.sg] at hs
       | map hmq => exact ⟨_, _, rfl, hmq⟩
      obtain ⟨q, b, rfl, hmq⟩ := hum
      have hxe : jQ (Ts i) x = .map (some q) := by
       cases hvx : jQ (Ts i) x <;> rw [hvx] at hu <;> simp [dem, xH] at hu <;> rw [hu]
      refine obj q r b hmq fun Sa Sb hQ => ?_
      have hQ : ku (jQ (Ts i) x) Sa Sb = true := hQ
      rw [hxe] at hQ
      simp only [ku, Bool.and_eq_true, Bool.not_eq_true', List.contains_eq_mem, decide_eq_false_iff_not] at hQ
      refine ⟨?_, hQ.2⟩
      have h1 := hQ.1
      split at h1 <;> first | (cases h1; done) | skip
      rename_i hsa
      exact ⟨_, hsa, rfl⟩
     exact ⟨_, hres, Qz 3 (Qi hq3) k2.dem⟩
   by_cases hrd : vS oi = false
   ·
    obtain ⟨a, h1, h2⟩ := ahT hdr hv hni hrd hops
    have h3 := (h2 (Hs i)).2
    rw [ha] at h3
    have e : zf i = a := by simpa using congrArg (Option.map Prod.fst) h3
    subst e
    exact ⟨_, (h2 _).1, Qz 3 (Qi hq3) h1⟩
   ·
    have hrd : vS oi = true := by simpa using hrd
    by_cases hlt : i < j
    ·
     rw [if_neg (by omega)]
     have hL := hline.later (i := i) (j + 1 - i) (by omega)
     rw [show i + (j + 1 - i) = j + 1 by omega] at hL
     obtain ⟨a, h1, _, h3, h4, _⟩ := aiq hdr hv hni hm hops hL
     rw [ha] at h4
     have e : zf i = a := by simpa using congrArg (Option.map Prod.fst) h4
     subst e
     exact ⟨_, h3, Qz 3 (Qi hq3) h1⟩
    ·
     rw [if_pos (by omega)]
     rw [hrd] at hp2
     have hcl : kW ((afs P (fixed P ops) (ops.toList.drop j) []).getD (i - j) []) oi = true := by
      simpa [hlt] using hp2
     obtain ⟨hGj2, hTj⟩ := hline.inv j (by omega)
     have hC0 : Clear (μs j) (Hs j) [] (Ts j) (As j) := fun t _ => (hTj.slots t).v0
     have hC := hline.clear hdr (j := j) (by omega) _ [] j (Nat.le_refl _) rfl hC0 (i - j) (by rw [List.length_drop]; omega)
     rw [show j + (i - j) = i by omega] at hC
     have hL := hline.later (i := j) (i - j) (by omega)
     rw [show j + (i - j) = i by omega] at hL
     obtain ⟨a, h1, h2, _, _, h5⟩ := aiq hdr hv hni hm (hC.operands (JK hv) hcl) hL
     rw [ha] at h5
     have e : zf i = a := by simpa using congrArg (Option.map Prod.fst) h5
     subst e
     exact ⟨_, h2, Qz 3 (Qi hq3) h1⟩
  obtain ⟨G', h1, h2⟩ := same
  unfold recheck
  rw [h1]
  exact h2
 ·
  rw [hw]
  rfl
end
end Go.Abs
namespace Go.Abs
open Go.RowKit
section
variable {P : Program} {call : FuncId → List Value → M Value}
def aho (μ : Mu) (ω : Nat → Option kG) (H : zi) (e : AEx) (T' : List Value) (S' : zi) (R : St) : Prop :=
 ∃ A' H' μ' ω', R = some (e, A', H') ∧ GI μ' S' H' ∧ Later μ H μ' H' ∧ Kept ω H ω' H' ∧ TI μ' H' ω' T' A'
theorem afS {hp : Bool} (hc : YZ P call) (fuel : Nat) : ∀ (c : Code) (T T' A : List Value) (S S' H : zi) (μ : Mu) (ω : Nat → Option kG) (e : AEx), qW P hp call fuel c T S = some (e, T', S') → GI μ S H → TI μ H ω T A → aho μ ω H e T' S' (qR P c A H) := by
 intro c
 induction c with
 | skip =>
  intro T T' A S S' H μ ω e h hG hT
  simp only [qW, Option.some.injEq, Prod.mk.injEq] at h
  obtain ⟨rfl, rfl, rfl⟩ := h
  exact ⟨A, H, μ, ω, rfl, hG, Later.refl _ _, Kept.refl _ _, hT⟩
 | exit id =>
  intro T T' A S S' H μ ω e h hG hT
  simp only [qW, Option.some.injEq, Prod.mk.injEq] at h
  obtain ⟨rfl, rfl, rfl⟩ := h
  exact ⟨A, H, μ, ω, rfl, hG, Later.refl _ _, Kept.refl _ _, hT⟩
 | ret =>
  intro T T' A S S' H μ ω e h hG hT
  simp only [qW, Option.some.injEq, Prod.mk.injEq] at h
  obtain ⟨rfl, rfl, rfl⟩ := h
  exact ⟨A, H, μ, ω, rfl, hG, Later.refl _ _, Kept.refl _ _, hT⟩
 | region i ops d =>
  intro T T' A S S' H μ ω e h hG hT
  cases d with
  | false =>
   simp only [qW] at h
   split at h <;> first | (cases h; done) | skip
   rename_i T1 S1 ho
   cases h
   obtain ⟨A', H', μ', ω', h1, h2, h3, h4, h5⟩ := aiO hc _ _ _ _ _ _ _ _ _ ho hG hT
   exact ⟨A', H', μ', ω', by simp only [qR, h1], h2, h3, h4, h5⟩
  | true =>
   simp only [qW] at h
   split at h <;> first | (cases h; done) | skip
   rename_i hd
   split at h <;> first | (cases h; done) | skip
   rename_i T1 S1 ho
   cases h
   obtain ⟨A', H', μ', ω', h1, h2, h3, h4, h5⟩ := afu hc hd ho hG hT
   exact ⟨A', H', μ', ω', by simp only [qR, h1], h2, h3, h4, h5⟩
 | seq x y ihx ihy =>
  intro T T' A S S' H μ ω e h hG hT
  simp only [qW] at h
  split at h
  ·
   rename_i T1 S1 hx
   obtain ⟨A1, H1, μ1, ω1, h1, h2, h3, h4, h5⟩ := ihx _ _ _ _ _ _ _ _ _ hx hG hT
   obtain ⟨A2, H2, μ2, ω2, k1, k2, k3, k4, k5⟩ := ihy _ _ _ _ _ _ _ _ _ h h2 h5
   exact ⟨A2, H2, μ2, ω2, by simp only [qR, h1]; exact k1, k2, h3.trans k3, h4.trans k4, k5⟩
  ·
   rename_i hne
   obtain ⟨A1, H1, μ1, ω1, h1, h2, h3, h4, h5⟩ := ihx _ _ _ _ _ _ _ _ _ h hG hT
   refine ⟨A1, H1, μ1, ω1, ?_, h2, h3, h4, h5⟩
   simp only [qR, h1]
   cases e with
   | normal => exact absurd h (hne _ _)
   | exit id => rfl
   | ret => rfl
 | cond c x y ihx ihy =>
  intro T T' A S S' H μ ω e h hG hT
  simp only [qW] at h
  split at h <;> first | (cases h; done) | skip
  rename_i hok
  have hv := hT.eval hok
  split at h
  ·
   rename_i hb
   have : jQ A c = .bool true := wI hv (by rw [hb]; rfl) |>.trans hb
   obtain ⟨A1, H1, μ1, ω1, h1, h2, h3, h4, h5⟩ := ihx _ _ _ _ _ _ _ _ _ h hG hT
   exact ⟨A1, H1, μ1, ω1, by simp only [qR, hok, if_true, this]; exact h1, h2, h3, h4, h5⟩
  ·
   rename_i hb
   have : jQ A c = .bool false := wI hv (by rw [hb]; rfl) |>.trans hb
   obtain ⟨A1, H1, μ1, ω1, h1, h2, h3, h4, h5⟩ := ihy _ _ _ _ _ _ _ _ _ h hG hT
   exact ⟨A1, H1, μ1, ω1, by simp only [qR, hok, if_true, this]; exact h1, h2, h3, h4, h5⟩
  ·
   cases h
 | block id c ih =>
  intro T T' A S S' H μ ω e h hG hT
  simp only [qW] at h
  split at h
  ·
   rename_i id' T1 S1 hx
   obtain ⟨A1, H1, μ1, ω1, h1, h2, h3, h4, h5⟩ := ih _ _ _ _ _ _ _ _ _ hx hG hT
   by_cases hid : id' = id
   ·
    rw [if_pos hid] at h
    cases h
    exact ⟨A1, H1, μ1, ω1, by simp only [qR, h1, if_pos hid], h2, h3, h4, h5⟩
   ·
    rw [if_neg hid] at h
    cases h
    exact ⟨A1, H1, μ1, ω1, by simp only [qR, h1, if_neg hid], h2, h3, h4, h5⟩
  ·
   rename_i hne
   obtain ⟨A1, H1, μ1, ω1, h1, h2, h3, h4, h5⟩ := ih _ _ _ _ _ _ _ _ _ h hG hT
   refine ⟨A1, H1, μ1, ω1, ?_, h2, h3, h4, h5⟩
   simp only [qR, h1]
   cases e with
   | normal => rfl
   | exit id' => exact absurd h (hne _ _ _)
   | ret => rfl
 | loop c ih =>
  have key : ∀ (n : Nat) (T T' A : List Value) (S S' H : zi) (μ : Mu) (ω : Nat → Option kG) (e : AEx), kT n (qW P hp call fuel c) T S = some (e, T', S') → GI μ S H → TI μ H ω T A → aho μ ω H e T' S' (qI (qR P c) A H) := by
   intro n
   induction n with
   | zero => intro T T' A S S' H μ ω e h; cases h
   | succ n ihn =>
    intro T T' A S S' H μ ω e h hG hT
    simp only [kT] at h
    split at h
    ·
     rename_i T1 S1 hx
     obtain ⟨A1, H1, μ1, ω1, h1, h2, h3, h4, h5⟩ := ih _ _ _ _ _ _ _ _ _ hx hG hT
     obtain ⟨A2, H2, μ2, ω2, k1, k2, k3, k4, k5⟩ := ihn _ _ _ _ _ _ _ _ _ h h2 h5
     exact ⟨A2, H2, μ2, ω2, by rw [yR h1]; exact k1, k2, h3.trans k3, h4.trans k4, k5⟩
    ·
     rename_i hne
     obtain ⟨A1, H1, μ1, ω1, h1, h2, h3, h4, h5⟩ := ih _ _ _ _ _ _ _ _ _ h hG hT
     exact ⟨A1, H1, μ1, ω1, wz h1 (fun he => by subst he; exact hne _ _ h), h2, h3, h4, h5⟩
  intro T T' A S S' H μ ω e h hG hT
  simp only [qW] at h
  obtain ⟨A1, H1, μ1, ω1, h1, h2⟩ := key fuel _ _ _ _ _ _ _ _ _ h hG hT
  exact ⟨A1, H1, μ1, ω1, by simp only [qR]; exact h1, h2⟩
 | _ => intro T T' A S S' H μ ω e h; simp only [qW] at h; cases h
theorem VV.ajC {μ : Mu} {H : zi} {ω ω' : Nat → Option kG} {f : kG → Option kG} (hω : ∀ r, ω' r = (ω r).bind f) {s s' : kG} (hs : f s = some s') {v a : Value} (h : VV μ H ω (some s) v a) (hv : jY v = true) : VV μ H ω' (some s') v a := by
 cases h with
 | sg h => exact .sg h
 | ptr h => exact .ptr h
 | map h => exact .map h
 | slm h => exact .slm h
 | slE => exact .slE
 | sl hr hp hg hl hl' hc => exact .sl hr hp hg hl hl' (fun i hi => (hc i hi).at0)
 | so h hr hp hg hl hl' hc => exact .so (by rw [hω, h]; exact hs) hr hp hg hl hl' (fun i hi => (hc i hi).at0)
 | ep hr hp hg hl hc => exact .ep hr hp hg hl (fun i hi => (hc i hi).at0)
 | func fn hx hc h1 h2 => exact .func fn hx hc (fun i => (h1 i).at0) (fun i => (h2 i).at0)
 | agg hx hh => exact .agg hx (fun i => (hh i).at0)
 | nores => exact .nores
 | @tuple _ x x' hx hh =>
  have h0 : x.size = 0 := by simpa [jY] using hv
  have e1 : x = #[] := Array.eq_empty_of_size_eq_zero h0
  have e2 : x' = #[] := Array.eq_empty_of_size_eq_zero (by rw [← hx]; exact h0)
  subst e1 e2
  exact .nores
def place (rs : List ResultVar) : kG → Option kG
 | .ext => some .ext
 | .res _ => none
 | .slot i j => match rs with
  | [.tmp t] => if i = t then some (.res j) else none
  | _ => match j with
   | none => (rs.findIdx? (agu i)).map fun k => .res (some k)
   | some _ => none
theorem acP {rs : List ResultVar} {i : Nat} (h : ∀ t, rs ≠ [.tmp t]) : place rs (.slot i none) = (rs.findIdx? (agu i)).map fun k => .res (some k) := by
 match rs, h with
 | [], _ => rfl
 | [.tmp t], h => exact absurd rfl (h t)
 | [.cell _ _], _ => rfl
 | .tmp _ :: _ :: _, _ => rfl
 | .cell _ _ :: _ :: _, _ => rfl
theorem aa2 {μ : Mu} {ω : Nat → Option kG} {S H : zi} {T A : List Value} (hG : GI μ S H) (hT : TI μ H ω T A) : ∀ (l : List ResultVar) (vs : List Value), zG P T S l = some vs →
  ∃ zf, ZI P A H l = some zf ∧ vs.length = l.length ∧ zf.length = l.length ∧ ∀ i : Nat, match (l[i]? : Option ResultVar) with
   | some (.tmp t) => vs.getD i undef = T.getD t undef ∧ zf.getD i undef = A.getD t undef
   | _ => V0 μ H (vs.getD i undef) (zf.getD i undef) := by
 intro l
 induction l with
 | nil =>
  intro vs h
  simp only [zG, Option.some.injEq] at h
  subst h
  exact ⟨[], rfl, rfl, rfl, fun i => by simpa using VV.undef⟩
 | cons x l ih =>
  intro vs h
  cases x with
  | tmp t =>
   simp only [zG] at h
   split at h <;> first | (cases h; done) | skip
   rename_i vs' hr
   cases h
   obtain ⟨zf, h1, h2, h3, h4⟩ := ih _ hr
   refine ⟨A.getD t undef :: zf, by simp only [ZI, h1], by simp [h2], by simp [h3], fun i => ?_⟩
   cases i with
   | zero => exact ⟨rfl, rfl⟩
   | succ i => simpa using h4 i
  | cell a t =>
   simp only [zG] at h
   split at h <;> first | (cases h; done) | skip
   rename_i v S1 vs' hl hr
   cases h
   obtain ⟨zf, h1, h2, h3, h4⟩ := ih _ hr
   obtain ⟨_, w, k1, k2⟩ := Y8 hl (hT.slots a).v0 (.inr hG)
   refine ⟨w :: zf, by simp only [ZI, k1, h1], by simp [h2], by simp [h3], fun i => ?_⟩
   cases i with
   | zero => exact k2
   | succ i => simpa using h4 i
theorem aiZ {μ : Mu} {ω : Nat → Option kG} {S S' H : zi} {T A : List Value} {fn : Func} {v : Value} (hG : GI μ S H) (hT : TI μ H ω T A) (h : aeZ P fn T S = some (v, S')) :
  S' = S ∧ ∃ a, agc P fn A H = some (a, H) ∧ VV μ H (fun r => (ω r).bind (place fn.results.toList)) (some (.res none)) v a := by
 unfold aeZ at h
 split at h <;> first | (cases h; done) | skip
 rename_i vs hvs
 split at h <;> first | (cases h; done) | skip
 rename_i hok
 obtain ⟨zf, h1, h2, h3, h4⟩ := aa2 hG hT _ _ hvs
 generalize hrs : fn.results.toList = rs at *
 split at h
 ·
  rename_i v1
  cases h
  obtain ⟨a, rfl⟩ : ∃ a, zf = [a] := by
   match zf, h3.trans h2.symm with
   | [a], _ => exact ⟨a, rfl⟩
  refine ⟨rfl, a, by simp only [agc, hrs, h1], ?_⟩
  match rs, h2 with
  | [x], _ =>
   have := h4 0
   cases x with
   | tmp t =>
    simp only [List.getElem?_cons_zero, List.getD_cons_zero] at this
    obtain ⟨rfl, rfl⟩ := this
    refine (hT.slots t).Vz (fun _ => rfl) _ (fun s hs => ?_)
    cases hs
    refine ⟨_, rfl, by simp only [place, if_true], fun k t' ht => ?_⟩
    cases ht
    exact ⟨_, rfl, by simp only [place, if_true]⟩
   | cell b t => exact (show V0 μ H v a from this).at0
 ·
  rename_i hne
  split at h <;> first | (cases h; done) | skip
  rename_i hnt
  cases h
  refine ⟨rfl, .tuple zf.toArray, ?_, .tuple (by simp [h2, h3]) fun i => ?_⟩
  ·
   simp only [agc, hrs, h1]
   match zf, vs, h3.trans h2.symm, hne with
   | [], _, _, _ => rfl
   | [a], [v], _, hne => exact absurd rfl (hne v)
   | a :: b :: c, _, _, _ => rfl
  ·
   have e1 : vs.toArray.getD i undef = vs.getD i undef := by rw [← getD_toList, List.toList_toArray]
   have e2 : zf.toArray.getD i undef = zf.getD i undef := by rw [← getD_toList, List.toList_toArray]
   rw [e1, e2]
   have h5 := h4 i
   cases hx : rs[i]? with
   | none => rw [hx] at h5; exact (show V0 μ H _ _ from h5).at0
   | some x =>
    rw [hx] at h5
    cases x with
    | cell b t => exact (show V0 μ H _ _ from h5).at0
    | tmp t =>
     dsimp only at h5
     have hi : i < rs.length := (List.getElem?_eq_some_iff.1 hx).1
     have hid : rs.findIdx? (agu t) = some i := by
      have := List.all_eq_true.1 hok i (List.mem_range.2 hi)
      rw [hx] at this
      simpa using this
     have hnt2 : jY (T.getD t undef) = true := by
      rw [← h5.1, List.getD_eq_getElem?_getD, List.getElem?_eq_getElem (by omega)]
      exact List.all_eq_true.1 hnt _ (List.getElem_mem _)
     rw [h5.1, h5.2]
     refine (hT.slots t).ajC (fun _ => rfl) (s' := .res (some i)) ?_ hnt2
     have hne1 : ∀ t', rs ≠ [.tmp t'] := by
      intro t' e
      rw [e] at h2
      match vs, h2 with
      | [v], _ => exact hne v rfl
     rw [acP hne1, hid]; rfl
def afi (P : Program) (O : Ora) : Prop := ∀ f q, O.fn f = some q → YZ P (fun g args => if g = f then q args else fun _ => none)
open Classical in
noncomputable def abm (μ μ1 : Mu) (ω : Nat → Option kG) : Nat → Option kG := fun r => if ∃ q, μ q = some (r, true) ∧ ¬ μ1 q = some (r, true) then some .ext else ω r
theorem agP {call : FuncId → List Value → M Value} (hc : YZ P call) {hps : FuncId → Bool} {hp : Bool} : YZ P (ZK hps hp call) := by
 cases hp with
 | false => exact hc
 | true =>
  intro g args aargs S v S' h μ H ω hG hA hD hE
  unfold ZK at h
  dsimp only at h
  split at h
  ·
   exact hc g args aargs S v S' h μ H ω hG hA hD hE
  ·
   split at h <;> first | (cases h; done) | skip
   rename_i m S1 hf
   obtain ⟨μ1, h1, h2, h3⟩ := abj _ _ _ _ _ _ hf hG hA
   split at h <;> first | (cases h; done) | skip
   rename_i r0 hr0
   obtain ⟨v0, S2⟩ := r0
   simp only [Option.some.injEq] at h
   unfold aeQ at h
   dsimp only at h
   split at h
   ·
    rename_i hb
    cases h
    simp only [Bool.and_eq_true, beq_iff_eq] at hb
    obtain ⟨⟨_, hgr⟩, hlog⟩ := hb
    have hlent : ∀ q r, μ q = some (r, true) → ¬ μ1 q = some (r, true) → r < H.next ∧ Kv μ1 r := fun q r hq hn =>
     ⟨hG.lt q r _ hq, fun q' hq' => by
      rcases h2.new q' r hq' with h5 | h5
      ·
       have := hG.inj q q' r hq h5
       subst this
       exact hn hq'
      ·
       have := hG.lt q r _ hq; omega, by rw [h2.hid]; exact hG.vis q r hq⟩
    have hDL : Dom μ1 H (abm μ μ1 ω) := fun r s hs => by
     unfold abm at hs
     split at hs
     ·
      rename_i hx
      obtain ⟨q, hq, hn⟩ := hx
      exact hlent q r hq hn
     ·
      exact ⟨(hD r s hs).1, h2.priv (hD r s hs).1 (hD r s hs).2⟩
    have hEL : ∀ r s, abm μ μ1 ω r = some s → s = .ext := fun r s hs => by
     unfold abm at hs
     split at hs
     ·
      cases hs; rfl
     ·
      exact hE r s hs
    obtain ⟨a, H', μ', ω', k1, k2, k3, k4, k5, k6⟩ := hc g m aargs S1 v S2 hr0 μ1 H (abm μ μ1 ω) h1 h3 hDL hEL
    have hsame : ∀ q r, μ q = some (r, true) → H'.get r = H.get r := fun q r hq => by
     by_cases hn : μ1 q = some (r, true)
     ·
      obtain ⟨new, e1, e2⟩ := k3.still
      have : new = [] := by
       rw [k2.log, h1.log, hlog] at e1
       exact List.append_cancel_right (bs := S1.log) (by rw [← e1]; rfl)
      subst this
      exact (e2 q r hn (by simp)).2
     ·
      exact (k4 r (by unfold abm; rw [if_pos ⟨q, hq, hn⟩])).2
    have hL : Later μ H μ H' := ⟨fun _ _ b h => ⟨b, h⟩, k3.next, fun _ _ h => .inl h, rfl, fun r hr hh => k3.same r hr (by rw [h2.hid]; exact hh), ⟨[], rfl, fun q r hq _ => ⟨hq, hsame q r hq⟩⟩,
     fun r l own e hr hp hg => k3.cells r l own e hr (h2.priv hr hp) hg⟩
    refine ⟨a, H', μ, ω, k1, hG.later hL rfl hsame, hL, fun r hr => ⟨hr, (k4 r ?_).2⟩, fun r s hs => ⟨Nat.lt_of_lt_of_le (hD r s hs).1 k3.next, (hD r s hs).2⟩, ?_⟩
    ·
     unfold abm
     split
     ·
      rfl
     ·
      exact hr
    ·
     rw [VV.vU hgr k6]
     exact VV.qK hgr
   ·
    cases h
    obtain ⟨a, H', μ', ω', k1, k2, k3, k4, k5, k6⟩ := hc g m aargs S1 v S' hr0 μ1 H ω h1 h3 (fun r s hs => ⟨(hD r s hs).1, h2.priv (hD r s hs).1 (hD r s hs).2⟩) hE
    exact ⟨a, H', μ', ω', k1, k2, h2.trans k3, k4, k5, k6⟩
theorem VV.clean {μ μ' : Mu} {H : zi} {ω : Nat → Option kG} (hp : ∀ r, Kv μ r → Kv μ' r) {ℓ : Option kG} {v a : Value} (h : VV μ H ω ℓ v a) : ∀ d, jH d v = true → VV μ' H ω ℓ v a := by
 induction h with
 | sg h => exact fun _ _ => .sg h
 | ptr h => intro d hc; cases d <;> simp [jH] at hc
 | map h => intro d hc; cases d <;> simp [jH] at hc
 | slm h => intro d hc; cases d <;> simp [jH] at hc
 | slE => exact fun _ _ => .slE
 | sl hr hpr hg hl hn hc ih =>
  intro d hcl
  obtain ⟨d, rfl⟩ : ∃ k, d = k + 4 := by
   match d, hcl with
   | 0, h => cases h
   | 1, h => simp [jH] at h
   | 2, h => simp [jH] at h
   | 3, h => simp [jH] at h
   | k + 4, _ => exact ⟨k, rfl⟩
  simp only [jH] at hcl
  refine .sl hr (hp _ hpr) hg hl hn (fun i hi => ih i hi d ?_)
  rw [List.getD_eq_getElem?_getD, List.getElem?_eq_getElem (by omega)]
  exact List.all_eq_true.1 hcl _ (List.getElem_mem _)
 | so hω hr hpr hg hl hn hc ih =>
  intro d hcl
  obtain ⟨d, rfl⟩ : ∃ k, d = k + 4 := by
   match d, hcl with
   | 0, h => cases h
   | 1, h => simp [jH] at h
   | 2, h => simp [jH] at h
   | 3, h => simp [jH] at h
   | k + 4, _ => exact ⟨k, rfl⟩
  simp only [jH] at hcl
  refine .so hω hr (hp _ hpr) hg hl hn (fun i hi => ih i hi d ?_)
  rw [List.getD_eq_getElem?_getD, List.getElem?_eq_getElem (by omega)]
  exact List.all_eq_true.1 hcl _ (List.getElem_mem _)
 | ep hr hpr hg hl hc ih =>
  intro d hcl
  obtain ⟨d, rfl⟩ : ∃ k, d = k + 2 := by
   match d, hcl with
   | 0, h => cases h
   | 1, h => simp [jH] at h
   | k + 2, _ => exact ⟨k, rfl⟩
  simp only [jH] at hcl
  refine .ep hr (hp _ hpr) hg hl (fun i hi => ih i hi d ?_)
  rw [List.getD_eq_getElem?_getD, List.getElem?_eq_getElem hi]
  exact List.all_eq_true.1 hcl _ (List.getElem_mem _)
 | func fn hx hc h1 h2 => intro d hc; cases d <;> simp [jH] at hc
 | @agg ℓ x x' hx hh ih =>
  intro d hcl
  obtain ⟨d, rfl⟩ : ∃ k, d = k + 1 := by
   match d, hcl with
   | 0, h => cases h
   | k + 1, _ => exact ⟨k, rfl⟩
  simp only [jH] at hcl
  refine .agg hx (fun i => ?_)
  by_cases hi : i < x.size
  ·
   refine ih i d ?_
   rw [Array.getD_eq_getD_getElem?, Array.getElem?_eq_getElem hi]
   exact List.all_eq_true.1 hcl _ (by simp)
  ·
   rw [Array.getD_eq_getD_getElem?, Array.getElem?_eq_none (Nat.le_of_not_lt hi), Array.getD_eq_getD_getElem?, Array.getElem?_eq_none (by omega)]
   exact .nores
 | nores => exact fun _ _ => .nores
 | @tuple ℓ x x' hx hh ih =>
  intro d hcl
  obtain ⟨d, rfl⟩ : ∃ k, d = k + 1 := by
   match d, hcl with
   | 0, h => cases h
   | k + 1, _ => exact ⟨k, rfl⟩
  simp only [jH] at hcl
  refine .tuple hx (fun i => ?_)
  by_cases hi : i < x.size
  ·
   refine ih i d ?_
   rw [Array.getD_eq_getD_getElem?, Array.getElem?_eq_getElem hi]
   exact List.all_eq_true.1 hcl _ (by simp)
  ·
   rw [Array.getD_eq_getD_getElem?, Array.getElem?_eq_none (Nat.le_of_not_lt hi), Array.getD_eq_getD_getElem?, Array.getElem?_eq_none (by omega)]
   exact .nores
open Classical in
noncomputable def JA (μ : Mu) : Mu := ⟨fun _ => none, fun r => μ.hid r || decide (∃ q, μ q = some (r, true)), []⟩
theorem QZ {μ : Mu} {r : Nat} (h : Kv μ r) : Kv (JA μ) r := ⟨fun q hq => (by cases hq), by
 simp only [JA, h.2, Bool.false_or, decide_eq_false_iff_not]
 rintro ⟨q, hq⟩
 exact h.1 q hq⟩
theorem afa {μ : Mu} {r : Nat} (h : (JA μ).hid r = false) : Kv μ r := by
 simp only [JA, Bool.or_eq_false_iff, decide_eq_false_iff_not] at h
 exact ⟨fun q hq => h.2 ⟨q, hq⟩, h.1⟩
def aj2 (P : Program) (g : FuncId) (args : List Value) (run : M Value) : Prop := ∀ aargs S v S', run S = some (v, S') → ∀ μ H ω, GI μ S H → L0 μ H args aargs → Dom μ H ω → (∀ r s, ω r = some s → s = .ext) →
 ∃ a H' μ' ω', lim P g aargs H = some (a, H') ∧ GI μ' S' H' ∧ Later μ H μ' H' ∧ Kept ω H ω' H' ∧ Dom μ' H' ω' ∧ VV μ' H' ω' (some (.res none)) v a
theorem af5 {g : FuncId} {args : List Value} {run : M Value} (hr : aj2 P g args run) : aj2 P g args (aeB run args) := by
 intro aargs S v S' h μ H ω hG hA hD hE
 unfold aeB at h
 split at h <;> first | (cases h; done) | skip
 rename_i hca
 split at h <;> first | (cases h; done) | skip
 rename_i w S1 hrun
 split at h <;> first | (cases h; done) | skip
 rename_i hcw
 cases h
 have hG0 : GI (JA μ) zi.empty H := ⟨fun q o h => (by cases h), fun q q' r h => (by cases h), fun q r b h => (by cases h), fun q _ => rfl, fun q r h => (by cases h), fun r h => by
  simp only [JA, Bool.or_eq_true, decide_eq_true_eq] at h
  rcases h with h | ⟨q, hq⟩
  ·
   exact hG.hlt r h
  ·
   exact hG.lt q r _ hq, rfl, fun q cs anc e h => (by cases h)⟩
 have hA0 : L0 (JA μ) H args aargs := ⟨hA.1, fun i => by
  by_cases hi : i < args.length
  ·
   refine (hA.2 i).clean (fun r h => QZ h) 16 ?_
   rw [List.getD_eq_getElem?_getD, List.getElem?_eq_getElem hi]
   exact List.all_eq_true.1 hca _ (List.getElem_mem _)
  ·
   rw [List.getD_eq_getElem?_getD, List.getElem?_eq_none (Nat.le_of_not_lt hi), List.getD_eq_getElem?_getD, List.getElem?_eq_none (by rw [← hA.1]; omega)]
   exact .nores⟩
 obtain ⟨a, H1, μ1, ω1, k1, k2, k3, k4, k5, k6⟩ := hr aargs _ _ _ hrun (JA μ) H ω hG0 hA0 (fun r s h => ⟨(hD r s h).1, QZ (hD r s h).2⟩) hE
 have hp1 : ∀ r, Kv μ1 r → Kv μ r := fun r h => afa (by rw [← k3.hid]; exact h.2)
 have hL : Later μ H μ H1 := ⟨fun _ _ b h => ⟨b, h⟩, k3.next, fun _ _ h => .inl h, rfl, fun r hr hh => k3.same r hr (by simp only [JA, hh, Bool.true_or]), ⟨[], rfl, fun q r hq _ => ⟨hq, k3.same r (hG.lt q r _ hq) (by
  simp only [JA, Bool.or_eq_true, decide_eq_true_eq]
  exact .inr ⟨q, hq⟩)⟩⟩, fun r l own e hr hp hg => k3.cells r l own e hr (QZ hp) hg⟩
 refine ⟨a, H1, μ, ω1, k1, ?_, hL, k4, fun r s h => ⟨(k5 r s h).1, hp1 r (k5 r s h).2⟩, k6.clean hp1 16 hcw⟩
 exact hG.later hL rfl fun q r hq => k3.same r (hG.lt q r _ hq) (by
  simp only [JA, Bool.or_eq_true, decide_eq_true_eq]
  exact .inr ⟨q, hq⟩)
theorem agZ {O : Ora} (hO : afi P O) : ∀ n, YZ P (ZR P O n) := by
 intro n
 induction n with
 | zero => intro g args aargs S v S' h; cases h
 | succ n ih =>
  intro g args aargs S v S' h μ H ω hG hA hD hE
  simp only [ZR] at h
  cases ho : O.fn g with
  | some q =>
   rw [ho] at h
   exact hO g q ho g args aargs S v S' (by simpa using h) μ H ω hG hA hD hE
  | none =>
   rw [ho] at h
   dsimp only at h
   cases hf : P.funcs[g]? with
   | none => rw [hf] at h; cases h
   | some fn =>
    rw [hf] at h
    dsimp only at h
    split at h <;> first | (cases h; done) | skip
    rename_i hn
    cases hb : fn.body with
    | none => rw [hb] at h; cases h
    | some c =>
     rw [hb] at h
     dsimp only at h
     have hrun : aj2 P g args (afO P (O.hp g) (ZK O.hp (O.hp g) (ZR P O n)) n fn c args) := by
      intro aargs S v S' h μ H ω hG hA hD hE
      have hT0 : TI μ H ω (args ++ List.replicate (fn.ntmps - args.length) undef) (aargs ++ List.replicate (fn.ntmps - aargs.length) undef) := by
       have hl : L0 μ H (args ++ List.replicate (fn.ntmps - args.length) undef) (aargs ++ List.replicate (fn.ntmps - aargs.length) undef) := by
        refine hA.append (VL.ofRange (by rw [hA.1]) fun i hi => ?_)
        have hi2 : i < fn.ntmps - args.length := by simpa using hi
        rw [List.getD_eq_getElem?_getD, List.getElem?_replicate, if_pos hi2, List.getD_eq_getElem?_getD, List.getElem?_replicate, if_pos (by rw [← hA.1]; exact hi2)]
        exact .nores
       exact ⟨hl.1, fun i => (hl.2 i).at0, hD, fun r j hr => by have := hE r _ hr; cases this⟩
      have fin : ∀ (e : AEx) (T1 : List Value) (S1 : zi), (e = .normal ∨ e = .ret) → qW P (O.hp g) (ZK O.hp (O.hp g) (ZR P O n)) n c (args ++ List.replicate (fn.ntmps - args.length) undef) S = some (e, T1, S1) → aeZ P fn T1 S1 = some (v, S') →
        ∃ a H' μ' ω', lim P g aargs H = some (a, H') ∧ GI μ' S' H' ∧ Later μ H μ' H' ∧ Kept ω H ω' H' ∧ Dom μ' H' ω' ∧ VV μ' H' ω' (some (.res none)) v a := by
       intro e T1 S1 he hcode hres
       obtain ⟨A1, H1, μ1, ω1, h1, h2, h3, h4, h5⟩ := afS (agP ih) n c _ _ _ _ _ _ _ _ _ hcode hG hT0
       obtain ⟨rfl, a, k1, k2⟩ := aiZ (P := P) h2 h5 hres
       refine ⟨a, H1, μ1, fun r => (ω1 r).bind (place fn.results.toList), agK hf hn hb h1 he k1, h2, h3, fun r hr => ?_, fun r s hs => ?_, k2⟩
       ·
        obtain ⟨q1, q2⟩ := h4 r hr
        exact ⟨by simp [q1, place], q2⟩
       ·
        cases hr : ω1 r with
        | none => simp [hr] at hs
        | some s0 => exact h5.dom r s0 hr
      unfold afO at h
      split at h
      ·
       rename_i T1 S1 hx; exact fin .normal _ _ (.inl rfl) hx h
      ·
       rename_i T1 S1 hx; exact fin .ret _ _ (.inr rfl) hx h
      ·
       cases h
     split at h
     ·
      exact af5 hrun aargs S v S' h μ H ω hG hA hD hE
     ·
      exact hrun aargs S v S' h μ H ω hG hA hD hE
end
end Go.Abs
namespace Go.Abs
open Go.RowKit
open Classical
noncomputable def zQ (P : Program) (O : Ora) (g : FuncId) (args : List Value) : M Value := fun S =>
 if h : ∃ r, ∃ k0, ∀ k, k0 ≤ k → ZR P O k g args S = some r then some (Classical.choose h) else none
section
variable {P : Program} {O : Ora}
theorem VE {g : FuncId} {args : List Value} {S : zi} {r : Value × zi} (h : zQ P O g args S = some r) : ∃ k0, ∀ k, k0 ≤ k → ZR P O k g args S = some r := by
 unfold zQ at h
 split at h
 ·
  rename_i hx
  have := Classical.choose_spec hx
  cases h
  exact this
 ·
  cases h
theorem abl {g : FuncId} {args : List Value} {S : zi} {r : Value × zi} (h : ∃ k0, ∀ k, k0 ≤ k → ZR P O k g args S = some r) : zQ P O g args S = some r := by
 have hx : ∃ r, ∃ k0, ∀ k, k0 ≤ k → ZR P O k g args S = some r := ⟨r, h⟩
 unfold zQ
 rw [dif_pos hx]
 obtain ⟨k0, h0⟩ := h
 obtain ⟨k1, h1⟩ := Classical.choose_spec hx
 have e0 := h0 (max k0 k1) (Nat.le_max_left _ _)
 have e1 := h1 (max k0 k1) (Nat.le_max_right _ _)
 rw [e0] at e1
 exact e1.symm
theorem aiP (hO : afi P O) : YZ P (zQ P O) := by
 intro g args aargs S v S' h
 obtain ⟨k, hk⟩ := VE h
 exact agZ hO k g args aargs S v S' (hk k (Nat.le_refl k))
def aje (c : FuncId → List Value → M Value) (ck : Nat → FuncId → List Value → M Value) : Prop := ∀ g args S r, c g args S = some r → ∃ k0, ∀ k, k0 ≤ k → ck k g args S = some r
theorem V5 : aje (zQ P O) (fun k => ZR P O k) := fun g args S r h => VE h
theorem KY {c : FuncId → List Value → M Value} {ck : Nat → FuncId → List Value → M Value} (hl : aje c ck) {hps : FuncId → Bool} {hp : Bool} : aje (ZK hps hp c) (fun k => ZK hps hp (ck k)) := by
 cases hp with
 | false => exact hl
 | true =>
  intro g args S r h
  unfold ZK at h
  dsimp only at h
  split at h
  ·
   rename_i hg
   obtain ⟨k0, h0⟩ := hl _ _ _ _ h
   exact ⟨k0, fun k hk => by unfold ZK; dsimp only; rw [if_pos hg]; exact h0 k hk⟩
  ·
   rename_i hg
   split at h <;> first | (cases h; done) | skip
   rename_i m S1 hf
   split at h <;> first | (cases h; done) | skip
   rename_i r0 hr0
   obtain ⟨k0, h0⟩ := hl _ _ _ _ hr0
   exact ⟨k0, fun k hk => by unfold ZK; dsimp only; rw [if_neg hg, hf]; dsimp only; rw [h0 k hk]; exact h⟩
section
variable {c : FuncId → List Value → M Value} {ck : Nat → FuncId → List Value → M Value}
theorem VF (hl : aje c ck) {fx : Fx} {T : List Value} {o : Oper} {S : zi} {r : Value × zi} (h : qF P fx c T o S = some r) : ∃ k0, ∀ k, k0 ≤ k → qF P fx (ck k) T o S = some r := by
 unfold qF at h
 split at h
 ·
  rename_i hok
  split at h
  ·
   rename_i q0 hop
   split at h
   ·
    rename_i f hf
    split at h
    ·
     rename_i g first captured hev
     obtain ⟨k0, hk⟩ := hl _ _ _ _ h
     refine ⟨k0, fun k hkk => ?_⟩
     unfold qF
     rw [if_pos hok]
     simp only [hop, hf, hev]
     exact hk k hkk
    ·
     cases h
   ·
    rename_i b hb
    refine ⟨0, fun k _ => ?_⟩
    unfold qF
    rw [if_pos hok]
    simp only [hop, hb]
    exact h
   ·
    cases h
  ·
   rename_i hop
   refine ⟨0, fun k _ => ?_⟩
   unfold qF
   rw [if_pos hok]
   split
   ·
    rename_i q0 hc; exact absurd hc (hop q0)
   ·
    exact h
 ·
  cases h
theorem agh (hl : aje c ck) {fx : Fx} {ops : Array Oper} : ∀ (l : List Oper) (T : List Value) (S : zi) (r : List Value × zi), jv P fx c ops l T S = some r → ∃ k0, ∀ k, k0 ≤ k → jv P fx (ck k) ops l T S = some r := by
 intro l
 induction l with
 | nil => intro T S r h; exact ⟨0, fun k _ => h⟩
 | cons o l ih =>
  intro T S r h
  simp only [jv] at h
  split at h
  ·
   rename_i hw
   split at h
   ·
    rename_i v S' hs
    obtain ⟨k1, h1⟩ := VF hl hs
    obtain ⟨k2, h2⟩ := ih _ _ _ h
    refine ⟨max k1 k2, fun k hk => ?_⟩
    simp only [jv, hw, if_true, h1 k (by omega)]
    exact h2 k (by omega)
   ·
    cases h
  ·
   rename_i hw
   obtain ⟨k2, h2⟩ := ih _ _ _ h
   refine ⟨k2, fun k hk => ?_⟩
   simp only [jv, hw, if_false]
   exact h2 k hk
theorem adM (hl : aje c ck) {fx : Fx} {chk : List Nat} {nl : List (Nat × Nat)} {ops : Array Oper} : ∀ (l : List Oper) (i : Nat) (hist : List (Value × zi)) (T : List Value) (S : zi) (r : List Value × zi), qc P fx chk nl c ops i hist l T S = some r → ∃ k0, ∀ k, k0 ≤ k → qc P fx chk nl (ck k) ops i hist l T S = some r := by
 intro l
 induction l with
 | nil => intro i hist T S r h; exact ⟨0, fun k _ => h⟩
 | cons o l ih =>
  intro i hist T S r h
  simp only [qc] at h
  split at h
  ·
   rename_i hw
   split at h
   ·
    rename_i v S' hs
    split at h
    ·
     rename_i hq
     obtain ⟨k1, h1⟩ := VF hl hs
     obtain ⟨k2, h2⟩ := ih _ _ _ _ _ h
     refine ⟨max k1 k2, fun k hk => ?_⟩
     simp only [qc, hw, if_true, h1 k (by omega), hq]
     exact h2 k (by omega)
    ·
     cases h
   ·
    cases h
  ·
   rename_i hw
   obtain ⟨k2, h2⟩ := ih _ _ _ _ _ h
   refine ⟨k2, fun k hk => ?_⟩
   simp only [qc, hw, if_false]
   exact h2 k hk
end
noncomputable def zA (P : Program) (O : Ora) (hp : Bool) : Code → List Value → zi → St
 | .skip, T, H => some (.normal, T, H)
 | .region _ ops false, T, H => match jv P ⟨hp, false, false⟩ (ZK O.hp hp (zQ P O)) ops ops.toList T H with
  | some (T1, H1) => some (.normal, T1, H1)
  | none => none
 | .region _ ops true, T, H => if kD P ops then match qc P ⟨hp, !(checked P ops).isEmpty, fixed P ops⟩ (checked P ops) (again P ops) (ZK O.hp hp (zQ P O)) ops 0 [] ops.toList T H with
  | some (T1, H1) => some (.normal, T1, H1)
  | none => none
  else none
 | .seq x y, T, H => match zA P O hp x T H with
  | some (.normal, T1, H1) => zA P O hp y T1 H1
  | r => r
 | .cond c x y, T, H => if xA c then
   match jQ T c with
   | .bool true => zA P O hp x T H
   | .bool false => zA P O hp y T H
   | _ => none
  else none
 | .block id c, T, H => match zA P O hp c T H with
  | some (.exit id', T1, H1) => if id' = id then some (.normal, T1, H1) else some (.exit id', T1, H1)
  | r => r
 | .loop c, T, H => qI (zA P O hp c) T H
 | .exit id, T, H => some (.exit id, T, H)
 | .ret, T, H => some (.ret, T, H)
 | _, _, _ => none
theorem KG {hp : Bool} : ∀ (c : Code) (T : List Value) (H : zi) (r), zA P O hp c T H = some r → ∃ k0, ∀ k fuel, k0 ≤ k → k0 ≤ fuel → qW P hp (ZK O.hp hp (ZR P O k)) fuel c T H = some r := by
 intro c
 induction c with
 | skip => intro T H r h; exact ⟨0, fun k fuel _ _ => h⟩
 | region i ops d =>
  intro T H r h
  cases d with
  | false =>
   simp only [zA] at h
   split at h
   ·
    rename_i T1 H1 ho
    obtain ⟨k0, h0⟩ := agh (KY V5) _ _ _ _ ho
    exact ⟨k0, fun k fuel hk _ => by simp only [qW, h0 k hk]; exact h⟩
   ·
    cases h
  | true =>
   simp only [zA] at h
   split at h
   ·
    rename_i hd
    split at h
    ·
     rename_i T1 H1 ho
     obtain ⟨k0, h0⟩ := adM (KY V5) _ _ _ _ _ _ ho
     exact ⟨k0, fun k fuel hk _ => by simp only [qW, hd, if_true, h0 k hk]; exact h⟩
    ·
     cases h
   ·
    cases h
 | seq x y ihx ihy =>
  intro T H r h
  simp only [zA] at h
  split at h
  ·
   rename_i T1 H1 hx
   obtain ⟨k1, h1⟩ := ihx _ _ _ hx
   obtain ⟨k2, h2⟩ := ihy _ _ _ h
   exact ⟨max k1 k2, fun k fuel hk hf => by simp only [qW, h1 k fuel (by omega) (by omega)]; exact h2 k fuel (by omega) (by omega)⟩
  ·
   rename_i hne
   obtain ⟨k1, h1⟩ := ihx _ _ _ h
   refine ⟨k1, fun k fuel hk hf => ?_⟩
   simp only [qW, h1 k fuel hk hf]
   split
   ·
    rename_i T1 H1 he; exact absurd (h.trans he) (hne T1 H1)
   ·
    rfl
 | cond c x y ihx ihy =>
  intro T H r h
  simp only [zA] at h
  split at h
  ·
   rename_i hok
   split at h
   ·
    rename_i hb
    obtain ⟨k1, h1⟩ := ihx _ _ _ h
    exact ⟨k1, fun k fuel hk hf => by simp only [qW, hok, if_true, hb]; exact h1 k fuel hk hf⟩
   ·
    rename_i hb
    obtain ⟨k1, h1⟩ := ihy _ _ _ h
    exact ⟨k1, fun k fuel hk hf => by simp only [qW, hok, if_true, hb]; exact h1 k fuel hk hf⟩
   ·
    cases h
  ·
   cases h
 | block id c ih =>
  intro T H r h
  simp only [zA] at h
  split at h
  ·
   rename_i id' T1 H1 hc
   obtain ⟨k1, h1⟩ := ih _ _ _ hc
   exact ⟨k1, fun k fuel hk hf => by simp only [qW, h1 k fuel hk hf]; exact h⟩
  ·
   rename_i hne
   obtain ⟨k1, h1⟩ := ih _ _ _ h
   refine ⟨k1, fun k fuel hk hf => ?_⟩
   simp only [qW, h1 k fuel hk hf]
   split
   ·
    rename_i id' T1 H1 he; exact absurd (h.trans he) (hne id' T1 H1)
   ·
    rfl
 | loop c ih =>
  intro T H r h
  simp only [zA] at h
  obtain ⟨n, hn⟩ := JR h
  have key : ∀ (n : Nat) (T : List Value) (H : zi), kT n (zA P O hp c) T H = some r → ∃ k0, ∀ k fuel, k0 ≤ k → k0 ≤ fuel → ∀ j, n ≤ j → kT j (qW P hp (ZK O.hp hp (ZR P O k)) fuel c) T H = some r := by
   intro n
   induction n with
   | zero => intro T H h; cases h
   | succ n ihn =>
    intro T H h
    simp only [kT] at h
    split at h
    ·
     rename_i T1 H1 hf
     obtain ⟨k1, h1⟩ := ih _ _ _ hf
     obtain ⟨k2, h2⟩ := ihn _ _ h
     refine ⟨max k1 k2, fun k fuel hk hfu j hj => ?_⟩
     obtain ⟨j, rfl⟩ : ∃ i, j = i + 1 := ⟨j - 1, by omega⟩
     simp only [kT, h1 k fuel (by omega) (by omega)]
     exact h2 k fuel (by omega) (by omega) j (by omega)
    ·
     rename_i hne
     obtain ⟨k1, h1⟩ := ih _ _ _ h
     refine ⟨k1, fun k fuel hk hfu j hj => ?_⟩
     obtain ⟨j, rfl⟩ : ∃ i, j = i + 1 := ⟨j - 1, by omega⟩
     simp only [kT, h1 k fuel hk hfu]
     split
     ·
      rename_i T1 H1 he; exact absurd (h.trans he) (hne T1 H1)
     ·
      rfl
  obtain ⟨k0, h0⟩ := key n T H hn
  exact ⟨max k0 n, fun k fuel hk hf => by simp only [qW]; exact h0 k fuel (by omega) (by omega) fuel (by omega)⟩
 | exit id => intro T H r h; exact ⟨0, fun k fuel _ _ => h⟩
 | ret => intro T H r h; exact ⟨0, fun k fuel _ _ => h⟩
 | _ => intro T H r h; simp only [zA] at h; cases h
theorem yB {f : FuncId} {fn : Func} {c : Code} {args : List Value} {H H1 H' : zi} {e : AEx} {T : List Value} {v : Value} (ho : O.fn f = none) (hpu : O.pu f = false) (hf : P.funcs[f]? = some fn) (hn : fn.name ≠ "runtime.NumGoroutine") (hb : fn.body = some c)
  (h : zA P O (O.hp f) c (args ++ List.replicate (fn.ntmps - args.length) undef) H = some (e, T, H1)) (he : e = .normal ∨ e = .ret) (hres : aeZ P fn T H1 = some (v, H')) : zQ P O f args H = some (v, H') := by
 obtain ⟨k0, h0⟩ := KG _ _ _ _ h
 refine abl ⟨k0 + 1, fun k hk => ?_⟩
 obtain ⟨k, rfl⟩ : ∃ i, k = i + 1 := ⟨k - 1, by omega⟩
 simp only [ZR, ho, hf, if_neg hn, hb, hpu, Bool.false_eq_true, if_false, afO, h0 k k (by omega) (by omega)]
 rcases he with rfl | rfl <;> exact hres
theorem wZ {f : FuncId} {fn : Func} {c : Code} {args : List Value} {S H1 H' : zi} {e : AEx} {T : List Value} {v : Value} (ho : O.fn f = none) (hpu : O.pu f = true) (hf : P.funcs[f]? = some fn) (hn : fn.name ≠ "runtime.NumGoroutine") (hb : fn.body = some c)
  (h : zA P O (O.hp f) c (args ++ List.replicate (fn.ntmps - args.length) undef) zi.empty = some (e, T, H1)) (he : e = .normal ∨ e = .ret) (hres : aeZ P fn T H1 = some (v, H')) (hca : args.all (jH 16) = true) (hcv : jH 16 v = true) : zQ P O f args S = some (v, S) := by
 obtain ⟨k0, h0⟩ := KG _ _ _ _ h
 refine abl ⟨k0 + 1, fun k hk => ?_⟩
 obtain ⟨k, rfl⟩ : ∃ i, k = i + 1 := ⟨k - 1, by omega⟩
 have hr : afO P (O.hp f) (ZK O.hp (O.hp f) (ZR P O k)) k fn c args zi.empty = some (v, H') := by
  simp only [afO, h0 k k (by omega) (by omega)]
  rcases he with rfl | rfl <;> exact hres
 simp only [ZR, ho, hf, if_neg hn, hb, hpu, if_true, aeB, if_pos hca, hr, if_pos hcv]
def Ty.acs : (t : Ty) → t.Val → List Value
 | .int k, n => [.int k n]
 | .bool, b => [.bool b]
 | .str, s => [.string s]
 | .slc _ e, l => match l with
  | none => [.slice none 0 0]
  | some l => [SL 1 e.sz l.length (l.flatMap e.acs)]
 | .pair a b, (x, y) => a.acs x ++ b.acs y
 | .unit, _ => []
theorem Ty.aaT : ∀ (t : Ty) (x : t.Val), (t.acs x).length = t.sz := by
 intro t
 induction t with
 | pair a b iha ihb => rintro ⟨x, y⟩; simp [Ty.acs, Ty.sz, iha, ihb]
 | slc bytes e ih => intro x; cases x <;> rfl
 | _ => intro x; rfl
theorem YJ {e : Ty} (l : List e.Val) : (l.flatMap e.acs).length = l.length * e.sz := by
 induction l with
 | nil => simp
 | cons x l ih => simp [List.flatMap_cons, Ty.aaT, ih, Nat.add_mul]; omega
def M0 : Mu := ⟨fun _ => none, fun _ => false, []⟩
theorem GI.none {H : zi} : GI M0 zi.empty H := ⟨(fun q o h => by cases h), (fun q q' r h => by cases h), (fun q r b h => by cases h), (fun q _ => rfl), (fun q r h => by cases h), (fun r h => by cases h), rfl, (fun q cs anc e h => by cases h)⟩
theorem Ty.XV : ∀ (t : Ty) (x : t.Val) (H : zi), Later M0 H M0 (t.place x H).2 ∧ L0 M0 (t.place x H).2 (t.acs x) (t.place x H).1 := by
 intro t
 induction t with
 | int k => intro x H; exact ⟨Later.refl _ _, VL.cons (.sg rfl) VL.nil⟩
 | bool => intro x H; exact ⟨Later.refl _ _, VL.cons (.sg rfl) VL.nil⟩
 | str => intro x H; exact ⟨Later.refl _ _, VL.cons (.sg rfl) VL.nil⟩
 | unit => intro x H; exact ⟨Later.refl _ _, VL.nil⟩
 | pair a b iha ihb =>
  rintro ⟨x, y⟩ H
  obtain ⟨h1, h2⟩ := iha x H
  obtain ⟨h3, h4⟩ := ihb y (a.place x H).2
  exact ⟨h1.trans h3, (h2.later h3).append h4⟩
 | slc bytes e ih =>
  intro x H
  match x with
  | none => exact ⟨Later.refl _ _, VL.cons (.sg rfl) VL.nil⟩
  | some [] => exact ⟨Later.refl _ _, VL.cons (.slE (e := e.sz)) VL.nil⟩
  | some (x :: l) =>
   have key : ∀ (l : List e.Val) (H : zi), Later M0 H M0 (qw e.place l H).2 ∧ L0 M0 (qw e.place l H).2 (l.flatMap e.acs) (qw e.place l H).1 := by
    intro l
    induction l with
    | nil => intro H; exact ⟨Later.refl _ _, VL.nil⟩
    | cons x l ihl =>
     intro H
     obtain ⟨h1, h2⟩ := ih x H
     obtain ⟨h3, h4⟩ := ihl (e.place x H).2
     exact ⟨h1.trans h3, (h2.later h3).append h4⟩
   obtain ⟨h1, h2⟩ := key (x :: l) H
   have hL : Later M0 (qw e.place (x :: l) H).2 M0 ((qw e.place (x :: l) H).2.push (.cells (qw e.place (x :: l) H).1 .ro e.sz)) := KH (fun q r h => by cases h) _
   refine ⟨h1.trans hL, VL.cons ?_ VL.nil⟩
   have hlen : (qw e.place (x :: l) H).1.length = (l.length + 1) * e.sz := by rw [← h2.1, YJ]; rfl
   show V0 M0 ((qw e.place (x :: l) H).2.push (.cells (qw e.place (x :: l) H).1 .ro e.sz)) (SL 1 e.sz (l.length + 1) ((x :: l).flatMap e.acs)) (.slice (some ⟨(qw e.place (x :: l) H).2.next, 0, none⟩) (l.length + 1) (l.length + 1))
   refine VV.sl (o := 0) (l := (qw e.place (x :: l) H).1) (own := .ro) (by simp) ⟨fun q h => (by cases h), rfl⟩ (by rw [zi.yg, if_pos rfl]) (by omega) (by rw [List.toList_toArray, YJ]; rfl) (fun i hi => ?_)
   rw [Nat.zero_add, List.toList_toArray]
   exact (h2.2 i).ZP hL
def Args.acs : (l : List (Bool × Ty)) → Args l → List Value
 | [], _ => []
 | (b, c) :: l, (x, xs) => Wx b (c.acs x) :: Args.acs l xs
theorem agQ {H : zi} {b : Bool} {cs cs' : List Value} (h : L0 M0 H cs cs') : V0 M0 H (Wx b cs) (Wx b cs') := by
 unfold Wx
 split
 ·
  exact Qp h
 ·
  rw [JH, JH]; exact h.2 0
theorem Args.XV : ∀ (l : List (Bool × Ty)) (x : Args l) (H : zi), Later M0 H M0 (Args.place l x H).2 ∧ L0 M0 (Args.place l x H).2 (Args.acs l x) (Args.place l x H).1 := by
 intro l
 induction l with
 | nil => intro x H; exact ⟨Later.refl _ _, VL.nil⟩
 | cons p l ih =>
  obtain ⟨b, c⟩ := p
  rintro ⟨x, xs⟩ H
  obtain ⟨h1, h2⟩ := c.XV x H
  obtain ⟨h3, h4⟩ := ih xs (c.place x H).2
  exact ⟨h1.trans h3, VL.cons ((agQ h2).ZP h3) h4⟩
theorem aaW (hO : afi P O) {f : FuncId} {codes : List (Bool × Ty)} {x : Args codes} {S' : zi} (h : zQ P O f (Args.acs codes x) zi.empty = some (.bool true, S')) :
  ∃ k, (ZO P k f (Args.place codes x zi.empty).1 (Args.place codes x zi.empty).2).map (·.1) = some (.bool true) := by
 obtain ⟨h1, h2⟩ := Args.XV codes x zi.empty
 obtain ⟨a, H', μ', ω', k1, k2, k3, k4, k5, k6⟩ := aiP hO f _ _ _ _ _ h M0 _ W0 GI.none h2 (fun r s hs => by cases hs) (fun r s hs => by cases hs)
 have : a = .bool true := wI (k6.v0) rfl
 subst this
 exact adb k1
theorem agb {hps pus : FuncId → Bool} : afi P ⟨fun _ => none, hps, pus⟩ := fun f q h => by cases h
end
end Go.Abs
namespace Go.Abs
open Go.RowKit
section
variable {R : Type} {P : Program} {O : Ora} {fx : Fx} {hp nm : Bool} {chk : List Nat} {call : FuncId → List Value → M Value} {ops : Array Oper}
def okC (v : Value) (r : Option R) : Option R := if okq 3 v = true then r else none
@[simp] theorem ab1 (b : Bool) (r : Option R) : okC (.bool b) r = r := Eq.trans rfl rfl
@[simp] theorem aeK (k : IntKind) (n : Int) (r : Option R) : okC (.int k n) r = r := Eq.trans rfl rfl
@[simp] theorem Xe (s : ByteArray) (r : Option R) : okC (.string s) r = r := Eq.trans rfl rfl
@[simp] theorem aaw (a : Option Addr) (n c : Nat) (r : Option R) : okC (.slice a n c) r = r := Eq.trans rfl rfl
@[simp] theorem aan (k : Nat) (v : Value) (r : Option R) : okC (.iface k v) r = r := Eq.trans rfl rfl
@[simp] theorem aiG (a : Option Addr) (r : Option R) : okC (.pointer a) r = r := Eq.trans rfl rfl
def gdC (v : Value) (b : Bool) (s : M Value) (S : zi) (K : Value → zi → Option R) : Option R :=
 if (vb v == some b) = true then andThen (s S) (fun v S1 => okC v (K v S1)) else K undef S
@[simp] theorem ahH (s : M Value) (H : zi) (K : Value → zi → Option R) : gdC (.bool true) true s H K = andThen (s H) (fun v S1 => okC v (K v S1)) := Eq.trans rfl rfl
@[simp] theorem ahh (s : M Value) (H : zi) (K : Value → zi → Option R) : gdC (.bool false) false s H K = andThen (s H) (fun v S1 => okC v (K v S1)) := Eq.trans rfl rfl
@[simp] theorem ahF (s : M Value) (H : zi) (K : Value → zi → Option R) : gdC (.bool true) false s H K = K undef H := Eq.trans rfl rfl
@[simp] theorem ahU (s : M Value) (H : zi) (K : Value → zi → Option R) : gdC (.bool false) true s H K = K undef H := Eq.trans rfl rfl
@[simp] theorem ahz (s : M Value) (b : Bool) (H : zi) (K : Value → zi → Option R) : gdC undef b s H K = K undef H := Eq.trans rfl rfl
abbrev vC {α : Type} (a : α) : Type := Unit
def zF (s : Option (Value × zi)) (K : Value → zi → Option R) (p : vC K) : Option R := andThen s K
def gdK (v : Value) (b : Bool) (s : M Value) (S : zi) (K : Value → zi → Option R) (p : vC K) : Option R := gd v b s S K
def agn (v : Value) (b : Bool) (s : M Value) (S : zi) (K : Value → zi → Option R) (p : vC K) : Option R := gdC v b s S K
def okK (v : Value) (r : Option R) (p : vC r) : Option R := okC v r
@[simp] theorem Qd (v : Value) (H : zi) (K : Value → zi → Option R) (p : vC K) : zF (some (v, H)) K p = K v H := Eq.trans rfl rfl
@[simp] theorem ahB (s : M Value) (H : zi) (K : Value → zi → Option R) (p : vC K) : gdK (.bool true) true s H K p = zF (s H) K p := Eq.trans rfl rfl
@[simp] theorem ahV (s : M Value) (H : zi) (K : Value → zi → Option R) (p : vC K) : gdK (.bool false) false s H K p = zF (s H) K p := Eq.trans rfl rfl
@[simp] theorem ahv (s : M Value) (H : zi) (K : Value → zi → Option R) (p : vC K) : gdK (.bool true) false s H K p = K undef H := Eq.trans rfl rfl
@[simp] theorem ahm (s : M Value) (H : zi) (K : Value → zi → Option R) (p : vC K) : gdK (.bool false) true s H K p = K undef H := Eq.trans rfl rfl
@[simp] theorem ahp (s : M Value) (b : Bool) (H : zi) (K : Value → zi → Option R) (p : vC K) : gdK undef b s H K p = K undef H := Eq.trans rfl rfl
@[simp] theorem abe (s : M Value) (H : zi) (K : Value → zi → Option R) (p : vC K) : agn (.bool true) true s H K p = zF (s H) (fun v S1 => okK v (K v S1) ()) () := Eq.trans rfl rfl
@[simp] theorem aa0 (s : M Value) (H : zi) (K : Value → zi → Option R) (p : vC K) : agn (.bool false) false s H K p = zF (s H) (fun v S1 => okK v (K v S1) ()) () := Eq.trans rfl rfl
@[simp] theorem afI (s : M Value) (H : zi) (K : Value → zi → Option R) (p : vC K) : agn (.bool true) false s H K p = K undef H := Eq.trans rfl rfl
@[simp] theorem ae8 (s : M Value) (H : zi) (K : Value → zi → Option R) (p : vC K) : agn (.bool false) true s H K p = K undef H := Eq.trans rfl rfl
@[simp] theorem aeb (s : M Value) (b : Bool) (H : zi) (K : Value → zi → Option R) (p : vC K) : agn undef b s H K p = K undef H := Eq.trans rfl rfl
@[simp] theorem ab6 (b : Bool) (r : Option R) (p : vC r) : okK (.bool b) r p = r := Eq.trans rfl rfl
@[simp] theorem Zf (k : IntKind) (n : Int) (r : Option R) (p : vC r) : okK (.int k n) r p = r := Eq.trans rfl rfl
@[simp] theorem Xa (s : ByteArray) (r : Option R) (p : vC r) : okK (.string s) r p = r := Eq.trans rfl rfl
@[simp] theorem aag (a : Option Addr) (n c : Nat) (r : Option R) (p : vC r) : okK (.slice a n c) r p = r := Eq.trans rfl rfl
@[simp] theorem QY (a : Option Addr) (r : Option R) (p : vC r) : okK (.pointer a) r p = r := Eq.trans rfl rfl
theorem Wj {v : Value} (h : okq 3 v = true) (r : Option R) (p : vC r) : okK v r p = r := if_pos h
theorem aeY {l rest : List Oper} {o : Oper} {T : List Value} {T1 : Value → List Value} {S : zi} {v : Value} {r : Option (List Value × zi)} (hl : l = o :: rest) (hg : o.guard = none) (hm : ∀ v, Jc o rest T v = T1 v)
  (hs : qF P fx call T o S = some (v, S)) (hK : jv P fx call ops rest (T1 v) S = r) : jv P fx call ops l T S = r := by
 subst hl
 simp only [jv, Region.wanted, hg, if_true, hs, hm]
 exact hK
theorem ai6 {l rest : List Oper} {o : Oper} {T : List Value} {T1 : Value → List Value} {S : zi} {s : Option (Value × zi)} {K : Value → zi → Option (List Value × zi)} (hl : l = o :: rest) (hg : o.guard = none) (hm : ∀ v, Jc o rest T v = T1 v)
  (hs : qF P fx call T o S = s) (hK : ∀ v S1, jv P fx call ops rest (T1 v) S1 = K v S1) : jv P fx call ops l T S = zF s K () := by
 show _ = andThen s K
 subst hl hs
 simp only [jv, Region.wanted, hg, if_true, hm, hK]
 rfl
theorem aiL {l rest : List Oper} {o : Oper} {T : List Value} {T1 : Value → List Value} {S : zi} {j : Nat} {b : Bool} {g : Value} {s : M Value} {K : Value → zi → Option (List Value × zi)} (hl : l = o :: rest) (hg : o.guard = some (j, b)) (hm : ∀ v, Jc o rest T v = T1 v)
  (hy : ynd ops T j = vb g) (hs : qF P fx call T o S = s S) (hK : ∀ v S1, jv P fx call ops rest (T1 v) S1 = K v S1) : jv P fx call ops l T S = gdK g b s S K () := by
 show _ = gd g b s S K
 subst hl
 simp only [jv, Region.wanted, hg, hy, hs, hm, hK, gd]
 rfl
theorem agI {l rest : List Oper} {o : Oper} {T : List Value} {T1 : Value → List Value} {S : zi} {k : Nat} {s : Option (Value × zi)} {K : Value → zi → Option (List Value × zi)} (hc : chk.contains k = false) (hl : l = o :: rest) (hg : o.guard = none) (hm : ∀ v, Jc o rest T v = T1 v)
  (hs : qF P fx call T o S = s) (hK : ∀ v S1, qc P fx chk [] call ops (k + 1) [] rest (T1 v) S1 = K v S1) : qc P fx chk [] call ops k [] l T S = zF s K () := by
 show _ = andThen s K
 subst hl hs
 simp only [qc, Zd, List.isEmpty_nil, if_true, Region.wanted, hg, if_true, hm, hK, hc, Bool.not_false, Bool.true_or]
 rfl
theorem ada {l rest : List Oper} {o : Oper} {T : List Value} {T1 : Value → List Value} {S : zi} {k : Nat} {v : Value} {r : Option (List Value × zi)} (hc : chk.contains k = false) (hl : l = o :: rest) (hg : o.guard = none) (hm : ∀ v, Jc o rest T v = T1 v)
  (hs : qF P fx call T o S = some (v, S)) (hK : qc P fx chk [] call ops (k + 1) [] rest (T1 v) S = r) : qc P fx chk [] call ops k [] l T S = r := by
 subst hl
 simp only [qc, Zd, List.isEmpty_nil, if_true, Region.wanted, hg, if_true, hs, hm, hc, Bool.not_false, Bool.true_or]
 exact hK
theorem agd {l rest : List Oper} {o : Oper} {T : List Value} {T1 : Value → List Value} {S : zi} {k : Nat} {s : Option (Value × zi)} {K : Value → zi → Option (List Value × zi)} (hc : chk.contains k = false) {x : Nat × Nat} {nl : List (Nat × Nat)} {hist : List (Value × zi)} {pe : Value} (hpe : Zt T o = pe) (hl : l = o :: rest) (hg : o.guard = none) (hm : ∀ v, Jc o rest T v = T1 v)
  (hs : qF P fx call T o S = s) (hK : ∀ v S1, qc P fx chk (x :: nl) call ops (k + 1) (hist ++ [(pe, S)]) rest (T1 v) S1 = K v S1) : qc P fx chk (x :: nl) call ops k hist l T S = zF s K () := by
 show _ = andThen s K
 subst hl hs
 simp only [qc, Zd, List.isEmpty_cons, Bool.false_eq_true, if_false, hpe, Region.wanted, hg, if_true, hm, hK, hc, Bool.not_false, Bool.true_or]
 rfl
theorem aea {l rest : List Oper} {o : Oper} {T : List Value} {T1 : Value → List Value} {S : zi} {k : Nat} {s : Option (Value × zi)} {K : Value → zi → Option (List Value × zi)} (hc : chk.contains k = true) {x : Nat × Nat} {nl : List (Nat × Nat)} {hist : List (Value × zi)} {pe : Value} (hpe : Zt T o = pe) (hl : l = o :: rest) (hg : o.guard = none) (hm : ∀ v, Jc o rest T v = T1 v)
  (hs : qF P fx call T o S = s) (hK : ∀ v S1, qc P fx chk (x :: nl) call ops (k + 1) (hist ++ [(pe, S)]) rest (T1 v) S1 = K v S1) : qc P fx chk (x :: nl) call ops k hist l T S = zF s (fun v S1 => okK v (K v S1) ()) () := by
 show _ = andThen s (fun v S1 => okC v (K v S1))
 subst hl hs
 simp only [qc, Zd, List.isEmpty_cons, Bool.false_eq_true, if_false, hpe, Region.wanted, hg, if_true, hm, hK, hc, Bool.not_true, Bool.false_or]
 rfl
theorem adw {l rest : List Oper} {o : Oper} {T : List Value} {T1 : Value → List Value} {S : zi} {k : Nat} {v : Value} {r : Option (List Value × zi)} (hc : chk.contains k = false) {x : Nat × Nat} {nl : List (Nat × Nat)} {hist : List (Value × zi)} {pe : Value} (hpe : Zt T o = pe) (hl : l = o :: rest) (hg : o.guard = none) (hm : ∀ v, Jc o rest T v = T1 v)
  (hs : qF P fx call T o S = some (v, S)) (hK : qc P fx chk (x :: nl) call ops (k + 1) (hist ++ [(pe, S)]) rest (T1 v) S = r) : qc P fx chk (x :: nl) call ops k hist l T S = r := by
 subst hl
 simp only [qc, Zd, List.isEmpty_cons, Bool.false_eq_true, if_false, hpe, Region.wanted, hg, if_true, hs, hm, hc, Bool.not_false, Bool.true_or]
 exact hK
theorem aaS {l rest : List Oper} {o : Oper} {T : List Value} {T1 : Value → List Value} {S : zi} {k : Nat} {v : Value} {r : Option (List Value × zi)} (hc : chk.contains k = true) {x : Nat × Nat} {nl : List (Nat × Nat)} {hist : List (Value × zi)} {pe : Value} (hpe : Zt T o = pe) (hl : l = o :: rest) (hg : o.guard = none) (hm : ∀ v, Jc o rest T v = T1 v)
  (hs : qF P fx call T o S = some (v, S)) (hK : qc P fx chk (x :: nl) call ops (k + 1) (hist ++ [(pe, S)]) rest (T1 v) S = r) : qc P fx chk (x :: nl) call ops k hist l T S = okK v r () := by
 show _ = okC v r
 subst hl
 simp only [qc, Zd, List.isEmpty_cons, Bool.false_eq_true, if_false, hpe, Region.wanted, hg, if_true, hs, hm, hc, Bool.not_true, Bool.false_or]
 rw [← hK]
 rfl
theorem agz {l rest : List Oper} {o : Oper} {T : List Value} {T1 : Value → List Value} {S : zi} {j k : Nat} {b : Bool} {g : Value} {s : M Value} {K : Value → zi → Option (List Value × zi)} (hc : chk.contains k = false) {x : Nat × Nat} {nl : List (Nat × Nat)} {hist : List (Value × zi)} {pe : Value} (hpe : Zt T o = pe) (hl : l = o :: rest) (hg : o.guard = some (j, b)) (hm : ∀ v, Jc o rest T v = T1 v)
  (hy : ynd ops T j = vb g) (hs : qF P fx call T o S = s S) (hK : ∀ v S1, qc P fx chk (x :: nl) call ops (k + 1) (hist ++ [(pe, S)]) rest (T1 v) S1 = K v S1) : qc P fx chk (x :: nl) call ops k hist l T S = gdK g b s S K () := by
 show _ = gd g b s S K
 subst hl
 simp only [qc, Zd, List.isEmpty_cons, Bool.false_eq_true, if_false, hpe, Region.wanted, hg, hy, hs, hm, hK, gd, hc, Bool.not_false, Bool.true_or, if_true]
 rfl
theorem aeG {l rest : List Oper} {o : Oper} {T : List Value} {T1 : Value → List Value} {S : zi} {j k : Nat} {b : Bool} {g : Value} {s : M Value} {K : Value → zi → Option (List Value × zi)} (hc : chk.contains k = true) {x : Nat × Nat} {nl : List (Nat × Nat)} {hist : List (Value × zi)} {pe : Value} (hpe : Zt T o = pe) (hl : l = o :: rest) (hg : o.guard = some (j, b)) (hm : ∀ v, Jc o rest T v = T1 v)
  (hy : ynd ops T j = vb g) (hs : qF P fx call T o S = s S) (hK : ∀ v S1, qc P fx chk (x :: nl) call ops (k + 1) (hist ++ [(pe, S)]) rest (T1 v) S1 = K v S1) : qc P fx chk (x :: nl) call ops k hist l T S = agn g b s S K () := by
 show _ = gdC g b s S K
 subst hl
 simp only [qc, Zd, List.isEmpty_cons, Bool.false_eq_true, if_false, hpe, Region.wanted, hg, hy, hs, hm, hK, gdC, hc, Bool.not_true, Bool.false_or]
 rfl
def ckK (c : Bool) (r : Option R) (p : vC r) : Option R := if c then r else none
@[simp] theorem acn (r : Option R) (p : vC r) : ckK true r p = r := Eq.trans rfl rfl
noncomputable def ai1 (P : Program) (O : Ora) (hp : Bool) (v : Value) (x y : Code) (T : List Value) (S : zi) : St := agl v (zA P O hp x T S) (zA P O hp y T S)
@[simp] theorem Xd (x y : Code) (T : List Value) (S : zi) : ai1 P O hp (.bool true) x y T S = zA P O hp x T S := Eq.trans rfl rfl
@[simp] theorem Qk (x y : Code) (T : List Value) (S : zi) : ai1 P O hp (.bool false) x y T S = zA P O hp y T S := Eq.trans rfl rfl
@[simp] theorem Qx (T : List Value) (H : zi) : zA P O hp .skip T H = some (.normal, T, H) := Eq.trans rfl rfl
@[simp] theorem Xi (T : List Value) (H : zi) : zA P O hp .ret T H = some (.ret, T, H) := Eq.trans rfl rfl
@[simp] theorem Ql (i : Nat) (T : List Value) (H : zi) : zA P O hp (.exit i) T H = some (.exit i, T, H) := Eq.trans rfl rfl
@[simp] theorem Yq (i : Nat) (ops : Array Oper) (T : List Value) (H : zi) : zA P O false (.region i ops false) T H = JE (jv P ⟨false, false, false⟩ (zQ P O) ops ops.toList T H) := Eq.trans rfl rfl
@[simp] theorem J6 (i : Nat) (ops : Array Oper) (T : List Value) (H : zi) : zA P O true (.region i ops false) T H = JE (jv P ⟨true, false, false⟩ (ZK O.hp true (zQ P O)) ops ops.toList T H) := Eq.trans rfl rfl
theorem yQ {i : Nat} {ops : Array Oper} (hd : kD P ops = true) (hf : fixed P ops = nm) (hc : checked P ops = chk) {nl : List (Nat × Nat)} (hn : again P ops = nl) (T : List Value) (H : zi) : zA P O false (.region i ops true) T H = JE (qc P ⟨false, !chk.isEmpty, nm⟩ chk nl (zQ P O) ops 0 [] ops.toList T H) := by
 subst hf hc hn
 simp only [zA, hd, if_true, ZK]
 rfl
@[simp] theorem KT (x y : Code) (T : List Value) (H : zi) : zA P O hp (.seq x y) T H = ajp (zA P O hp x T H) (zA P O hp y) := Eq.trans rfl rfl
@[simp] theorem YR (i : Nat) (c : Code) (T : List Value) (H : zi) : zA P O hp (.block i c) T H = aaz i (zA P O hp c T H) := Eq.trans rfl rfl
@[simp] theorem QU (c : Code) (T : List Value) (H : zi) : zA P O hp (.loop c) T H = qI (zA P O hp c) T H := Eq.trans rfl rfl
@[simp] theorem Qv (t : Tmp) (x y : Code) (T : List Value) (H : zi) : zA P O hp (.cond (.tmp t) x y) T H = ai1 P O hp (T.getD t undef) x y T H := by
 simp only [zA, xA, if_true, jQ]
 rfl
@[simp] theorem Q9 : dem undef = undef := JC
@[simp] theorem afB (k : IntKind) (n : Int) : dem (.int k n) = .int k n := Eq.trans rfl rfl
@[simp] theorem acu (b : Bool) : dem (.bool b) = .bool b := Eq.trans rfl rfl
@[simp] theorem Xm (s : ByteArray) : dem (.string s) = .string s := Eq.trans rfl rfl
@[simp] theorem aeO : dem (.slice none 0 0) = .slice none 0 0 := Eq.trans rfl rfl
@[simp] theorem aeC (x : Array Value) : dem (.agg x) = .agg x := Eq.trans rfl rfl
@[simp] theorem abI (f : Fn) (x c : Array Value) : dem (.func f x c) = .func f x c := Eq.trans rfl rfl
@[simp] theorem QA (a : Option Addr) : dem (.pointer a) = .pointer a := Eq.trans rfl rfl
@[simp] theorem akf (e n : Nat) (cs : List Value) : dem (SL 1 e n cs) = SL 1 e n cs := Eq.trans rfl rfl
@[simp] theorem akb (e n : Nat) (cs : List Value) : dem (SL 2 e n cs) = SL 1 e n cs := Eq.trans rfl rfl
@[simp] theorem ahx (k e n : Nat) (cs : List Value) (r : Option R) (p : vC r) : okK (SL k e n cs) r p = r := Eq.trans rfl rfl
@[simp] theorem ahX (cs : List Value) (r : Option R) (p : vC r) : okK (EP cs) r p = r := Eq.trans rfl rfl
@[simp] theorem akp (k e n : Nat) (cs : List Value) (r : Option R) : okC (SL k e n cs) r = r := Eq.trans rfl rfl
@[simp] theorem ahD (cs : List Value) (r : Option R) : okC (EP cs) r = r := Eq.trans rfl rfl
def sv (k e n : Nat) (cs : List Value) : Value := if k = 0 then .slice none 0 0 else SL k e n cs
structure Okv (k n : Nat) (cs : List Value) : Prop where
 le : k ≤ 2
 nil : k = 0 → n = 0 ∧ cs = []
theorem sv0 {e n : Nat} {cs : List Value} : sv 0 e n cs = .slice none 0 0 := rfl
theorem sv2 {e n : Nat} {cs : List Value} : sv 2 e n cs = SL 2 e n cs := rfl
@[simp] theorem aci (k e n : Nat) (cs : List Value) : dem (sv k e n cs) = sv (if k = 2 then 1 else k) e n cs := by
 unfold sv
 by_cases h0 : k = 0
 ·
  subst h0; rfl
 ·
  by_cases h2 : k = 2
  ·
   subst h2; rfl
  ·
   rw [if_neg h0, if_neg h2, if_neg h0]
   simp only [SL, dem, xH, if_neg h2]
@[simp] theorem VJ (k e n : Nat) (cs : List Value) (r : Option R) : okC (sv k e n cs) r = r := by
 unfold sv; split <;> rfl
@[simp] theorem aht (k e n : Nat) (cs : List Value) (r : Option R) (p : vC r) : okK (sv k e n cs) r p = r := VJ k e n cs r
theorem afr {k e n : Nat} {cs : List Value} (h : Okv k n cs) : ∃ e', vSl (sv k e n cs) = some (e', n, cs) ∧ (e' = e ∨ n = 0 ∧ cs = []) := by
 unfold sv
 by_cases h0 : k = 0
 ·
  obtain ⟨rfl, rfl⟩ := h.nil h0
  rw [if_pos h0]
  exact ⟨0, rfl, .inr ⟨rfl, rfl⟩⟩
 ·
  rw [if_neg h0]
  have : k = 1 ∨ k = 2 := by have := h.le; omega
  exact ⟨e, by simp [SL, vSl, this], .inl rfl⟩
theorem ah4 {t te : TypeId} {k e n : Nat} {cs : List Value} {S : zi} (ht : P.underlying t = some (.slice te)) (h : Okv k n cs) : ZM P t (sv k e n cs) S = some (goInt n, S) := by
 by_cases h0 : k = 0
 ·
  obtain ⟨rfl, rfl⟩ := h.nil h0
  subst h0
  simp only [sv0, ZM, aaG, ht]
 ·
  obtain ⟨e', h1, _⟩ := afr (e := e) h
  simp only [sv, if_neg h0] at h1 ⊢
  simp only [SL] at h1 ⊢
  simp only [ZM, ht, h1]
theorem Yc {t te : TypeId} {k e n : Nat} {cs : List Value} {S : zi} {ki : IntKind} {i : Int} (ht : P.underlying t = some (.slice te)) (he : Zo P te = some e) (h : Okv k n cs) (h0 : 0 ≤ i) (hi : i < n) :
  jB P t (sv k e n cs) (.int ki i) S = some (EP ((cs.drop (i.toNat * e)).take e), S) := by
 have hk : k ≠ 0 := fun e => by have := (h.nil e).1; omega
 have hk2 : k = 1 ∨ k = 2 := by have := h.le; omega
 have h1 : vSl (SL k e n cs) = some (e, n, cs) := by simp [SL, vSl, hk2]
 simp only [sv, if_neg hk]
 simp only [SL] at h1 ⊢
 simp only [jB, ht, h1, he, if_true]
 rw [if_pos ⟨h0, hi⟩]
@[simp] theorem Q8 {t : TypeId} {v : Value} {S : zi} (ht : kS P t = some false) : zZ P nm t (EP [v]) S = some (v, S) := by
 simp [EP, zZ, ht]
theorem aeI {t : TypeId} {n : Nat} {cs : List Value} {S : zi} (ht : kS P t = some true) (hn : Zo P t = some n) (hc : cs.length = n) : zZ P nm t (EP cs) S = some (.agg cs.toArray, S) := by
 simp only [EP, zZ, ht, hn, if_true, List.toList_toArray]
 rw [if_pos (by omega), ← hc, List.take_length]
theorem aeR {t te : TypeId} {k e n : Nat} {cs : List Value} {S : zi} {lo hi : Option Value} {i j : Int} (ht : P.underlying t = some (.slice te)) (he : Zo P te = some e) (h : Okv k n cs) (hlo : vM 0 lo = some i) (hhi : vM n hi = some j)
  (h0 : 0 ≤ i) (hij : i ≤ j) (hj : j ≤ n) : Zu P t (sv k e n cs) lo hi S = some (sv (if k = 2 then 1 else k) e (j.toNat - i.toNat) ((cs.drop (i.toNat * e)).take ((j.toNat - i.toNat) * e)), S) := by
 by_cases hk : k = 0
 ·
  obtain ⟨rfl, rfl⟩ := h.nil hk
  subst hk
  simp only [sv0, Zu, ht, vSl, he, hlo, hhi, if_pos h0, if_pos hij, if_pos hj]
  rfl
 ·
  have hk2 : k = 1 ∨ k = 2 := by have := h.le; omega
  have h1 : vSl (SL k e n cs) = some (e, n, cs) := by simp [SL, vSl, hk2]
  have h3 : (if k = 2 then 1 else k) = 1 := by rcases hk2 with rfl | rfl <;> rfl
  rw [h3]
  simp only [sv, if_neg hk]
  simp only [SL] at h1 ⊢
  simp only [Zu, ht, h1, he, hlo, hhi, if_pos h0, if_pos hij, if_pos hj, if_true]
  rfl
theorem agr {t te : TypeId} {k e n : Nat} {cs : List Value} {S : zi} (ht : P.underlying t = some (.slice te)) (h : Okv k n cs) : jX P .eql t (sv k e n cs) (.slice none 0 0) S = some (.bool (decide (k = 0)), S) := by
 by_cases hk : k = 0
 ·
  subst hk
  simp only [sv0, jX, Jd, xw, ht, Ji]
  rfl
 ·
  have hk2 : k = 1 ∨ k = 2 := by have := h.le; omega
  have h1 : vSl (SL k e n cs) = some (e, n, cs) := by simp [SL, vSl, hk2]
  simp only [sv, if_neg hk]
  simp only [SL] at h1 ⊢
  simp only [jX, ht, h1]
  simp [hk]
@[simp] theorem Vm (k e n : Nat) (cs : List Value) : aao (sv k e n cs) = false := by unfold sv; split <;> rfl
@[simp] theorem Yu (dr : Bool) (t : TypeId) (k e n : Nat) (cs : List Value) (lo hi : Option Value) (S : zi) : Zm P dr t (sv k e n cs) lo hi S = Zu P t (sv k e n cs) lo hi S := by
 unfold Zm; rw [Vm]; rfl
@[simp] theorem J9 (dr : Bool) (t : TypeId) (s : ByteArray) (lo hi : Option Value) (S : zi) : Zm P dr t (.string s) lo hi S = Zu P t (.string s) lo hi S := Eq.trans rfl rfl
@[simp] theorem QT (hp dr : Bool) (src dst : TypeId) (k e n : Nat) (cs : List Value) (S : zi) : qN P hp dr src dst (sv k e n cs) S = Jz P src dst (sv k e n cs) S := by
 unfold qN
 rw [Vm]
 have : ∀ s, sv k e n cs ≠ .string s := by intro s; unfold sv; split <;> (intro h; cases h)
 cases hp <;> simp only [Bool.false_eq_true, if_false] <;> (split <;> first | rfl | (rename_i h; exact absurd h (this _)) | skip)
@[simp] theorem KQ (hp dr : Bool) (src dst : TypeId) (k : IntKind) (n : Int) (S : zi) : qN P hp dr src dst (.int k n) S = Jz P src dst (.int k n) S := by cases hp <;> rfl
@[simp] theorem Yh (dr : Bool) (src dst : TypeId) (s : ByteArray) (S : zi) : qN P false dr src dst (.string s) S = Jz P src dst (.string s) S := Eq.trans rfl rfl
@[simp] theorem Wh (dr : Bool) (src dst : TypeId) (s : ByteArray) (S : zi) : qN P true dr src dst (.string s) S = qJ P src dst (.string s) S := Eq.trans rfl rfl
theorem acT {t te tx tex : TypeId} {k e n j m bytes : Nat} {cs ds : List Value} {z : Value} {S : zi} (ht : P.underlying t = some (.slice te)) (he : Zo P te = some e) (hz : zeroOf P te = some z) (hzs : z.cells.size = e) (hb : bytesOf P te = some bytes) (hp : 0 < e)
  (htx : P.underlying tx = some (.slice tex)) (h : Okv k n cs) (hk : k ≠ 1) (hx : Okv j m ds) (hn : cs.length = n * e) (hm : ds.length = m * e) (h1 : cs.all (·.oneCell') = true) (h2 : ds.all (·.oneCell') = true) (hl : (n + m) * bytes ≤ 140737488355328) (hmax : n + m ≤ 4611686018427387903) :
  yj P t tx (sv k e n cs) (sv j e m ds) S = some (sv (if k = 0 ∧ m = 0 then 0 else 2) e (n + m) (cs ++ ds), S) := by
 have hel : vW P t = some te := by simp only [vW, ht]
 have hsrc : ajY P tx e (sv j e m ds) = some (m, ds) := by
  obtain ⟨e', q1, q2⟩ := afr (e := e) hx
  have hns : ∀ s, sv j e m ds ≠ .string s := by intro s; unfold sv; split <;> (intro h; cases h)
  have hcond : m = 0 ∨ e' = e := q2.elim .inr fun h => .inl h.1
  unfold ajY
  split
  ·
   rename_i s hs; exact absurd hs (hns s)
  ·
   simp only [htx, q1, if_pos hcond, if_pos hm, h2, if_true]
 have hsrc : adH P tx e (sv j e m ds) S = some (m, ds) := by
  unfold adH
  rw [Vm]
  exact hsrc
 by_cases hk0 : k = 0
 ·
  obtain ⟨rfl, rfl⟩ := h.nil hk0
  subst hk0
  simp only [sv0, yj, JI, hel, he, hz, hb, if_pos hp, if_pos hzs, hsrc]
  by_cases hm0 : m = 0
  ·
   subst hm0
   simp [sv0]
  ·
   rw [Nat.zero_add] at hl hmax
   rw [if_neg hm0, if_pos hl, if_pos hmax, if_neg Bool.false_ne_true, if_neg (fun h => hm0 h.2), sv2, Nat.zero_add, List.nil_append]
 ·
  have hk2 : k = 2 := by have := h.le; omega
  subst hk2
  rw [if_neg (fun h => hk0 h.1)]
  have h1' : cs.toArray.toList.all (·.oneCell') = true := by simpa using h1
  simp only [sv2, SL, yj, JI, hel, he, hz, hb, if_pos hp, if_pos hzs, hsrc, if_true, if_pos hl, if_pos hmax, h1']
@[simp] theorem acw (op : BinOp) (t : TypeId) (k k' : IntKind) (a b : Int) (S : zi) : jX P op t (.int k a) (.int k' b) S = Jd P op t (.int k a) (.int k' b) S := Eq.trans rfl rfl
@[simp] theorem Kq (op : BinOp) (t : TypeId) (a b : ByteArray) (S : zi) : jX P op t (.string a) (.string b) S = Jd P op t (.string a) (.string b) S := Eq.trans rfl rfl
@[simp] theorem aak (op : BinOp) (t : TypeId) (a b : Bool) (S : zi) : jX P op t (.bool a) (.bool b) S = Jd P op t (.bool a) (.bool b) S := Eq.trans rfl rfl
@[simp] theorem abP (op : BinOp) (t : TypeId) (a b : Array Value) (S : zi) : jX P op t (.agg a) (.agg b) S = Jd P op t (.agg a) (.agg b) S := Eq.trans rfl rfl
@[simp] theorem KR (b : Bool) (x y : Value) (S : zi) : wP (.bool b) x y S = some (if b then dem x else dem y, S) := Eq.trans rfl rfl
@[simp] theorem V9 {src dst : TypeId} (k : IntKind) (n : Int) (S : zi) : Jz P src dst (.int k n) S = qJ P src dst (.int k n) S := Eq.trans rfl rfl
@[simp] theorem Wp (vs : List Value) (i : Nat) (S : zi) : zS (.tuple vs.toArray) i S = (vs[i]?).map (·, S) := by
 simp only [zS, List.getElem?_toArray]
 cases vs[i]? <;> rfl
end
end Go.Abs
namespace Go.Abs
theorem ql {P : Program} {fn : Func} {a b : Value} {r : List Value} {T : List Value} {S : zi} (h : zG P T S fn.results.toList = some (a :: b :: r)) (hn : ai7 fn.results.toList = true) (hall : (a :: b :: r).all jY = true) :
  aeZ P fn T S = some (.tuple (a :: b :: r).toArray, S) := by
 unfold aeZ
 rw [h]
 dsimp only
 rw [if_pos hn, if_pos hall]
theorem wV {P : Program} {fn : Func} {a : Value} {T : List Value} {S : zi} (h : zG P T S fn.results.toList = some [a]) (hn : ai7 fn.results.toList = true) : aeZ P fn T S = some (a, S) := by
 unfold aeZ
 rw [h]
 dsimp only
 rw [if_pos hn]
@[simp] theorem wo (k : IntKind) (n : Int) : jY (.int k n) = true := rfl
@[simp] theorem jU (b : Bool) : jY (.bool b) = true := rfl
@[simp] theorem aaV (k e n : Nat) (cs : List Value) : jY (sv k e n cs) = true := by unfold sv; split <;> rfl
@[simp] theorem jZ (x : Array Value) : jY (.agg x) = true := rfl
@[simp] theorem jM (a : Option Addr) (n c : Nat) : jY (.slice a n c) = true := rfl
end Go.Abs
namespace Go.Abs
open Go.RowKit
def vs {α : Type} (f : α → List Value) (e k : Nat) (l : List α) : Value := sv k e l.length (l.flatMap f)
structure Okl {α : Type} (k : Nat) (l : List α) : Prop where
 le : k ≤ 2
 nil : k = 0 → l = []
theorem Okl.own {α : Type} {l : List α} : Okl 2 l := ⟨Nat.le_refl 2, (fun h => by cases h)⟩
theorem Okl.read {α : Type} {l : List α} : Okl 1 l := ⟨by omega, (fun h => by cases h)⟩
theorem Okl.none {α : Type} : Okl 0 ([] : List α) := ⟨by omega, fun _ => rfl⟩
theorem Okl.dem {α : Type} {k : Nat} {l : List α} (h : Okl k l) : Okl (if k = 2 then 1 else k) l := ⟨by have := h.le; split <;> omega, fun hk => h.nil (by split at hk <;> omega)⟩
def cb (b : UInt8) : List Value := [.int .u8 b.toNat]
def ci (n : Int) : List Value := [.int .i64 n]
section
variable {R α : Type} {P : Program} {f : α → List Value} {e k j : Nat} {l m : List α} {t te tx tex : TypeId} {S : zi}
theorem Okl.okv (h : Okl k l) : Okv k l.length (l.flatMap f) := ⟨h.le, fun h0 => by rw [h.nil h0]; exact ⟨rfl, rfl⟩⟩
theorem Ws (hf : ∀ x, (f x).length = e) (l : List α) : (l.flatMap f).length = l.length * e := by
 induction l with
 | nil => simp
 | cons x l ih => simp only [List.flatMap_cons, List.length_append, hf, ih, List.length_cons, Nat.add_mul]; omega
theorem YU (hf : ∀ x, (f x).length = e) (l : List α) : ∀ (i : Nat), (l.flatMap f).drop (i * e) = (l.drop i).flatMap f := by
 induction l with
 | nil => intro i; simp
 | cons x l ih =>
  intro i
  cases i with
  | zero => simp
  | succ i =>
   rw [List.flatMap_cons, List.drop_succ_cons, ← ih i, List.drop_append, List.drop_eq_nil_of_le (by rw [hf, Nat.add_mul]; omega), List.nil_append, hf]
   congr 1
   rw [Nat.add_mul]; omega
theorem YN (hf : ∀ x, (f x).length = e) (l : List α) : ∀ (i : Nat), (l.flatMap f).take (i * e) = (l.take i).flatMap f := by
 induction l with
 | nil => intro i; simp
 | cons x l ih =>
  intro i
  cases i with
  | zero => simp
  | succ i =>
   rw [List.flatMap_cons, List.take_succ_cons, List.flatMap_cons, ← ih i, List.take_append, List.take_of_length_le (by rw [hf, Nat.add_mul]; omega), hf]
   congr 2
   rw [Nat.add_mul]; omega
@[simp] theorem Xj : dem (vs f e k l) = vs f e (if k = 2 then 1 else k) l := aci _ _ _ _
@[simp] theorem ahC (r : Option R) : okC (vs f e k l) r = r := VJ _ _ _ _ _
@[simp] theorem ahW (r : Option R) (p : vC r) : okK (vs f e k l) r p = r := VJ _ _ _ _ _
@[simp] theorem akh : aao (vs f e k l) = false := Vm _ _ _ _
@[simp] theorem KW (dr : Bool) (lo hi : Option Value) : Zm P dr t (vs f e k l) lo hi S = Zu P t (vs f e k l) lo hi S := Yu _ _ _ _ _ _ _ _ _
@[simp] theorem Yg (hp dr : Bool) (src dst : TypeId) : qN P hp dr src dst (vs f e k l) S = Jz P src dst (vs f e k l) S := QT _ _ _ _ _ _ _ _ _
@[simp] theorem wB : jY (vs f e k l) = true := aaV _ _ _ _
theorem ae7 (ht : P.underlying t = some (.slice te)) (h : Okl k l) : ZM P t (vs f e k l) S = some (goInt l.length, S) := ah4 ht h.okv
theorem abL (ht : P.underlying t = some (.slice te)) (h : Okl k l) : jX P .eql t (vs f e k l) (.slice none 0 0) S = some (.bool (decide (k = 0)), S) := agr ht h.okv
theorem aio {ki : IntKind} {i : Int} (ht : P.underlying t = some (.slice te)) (he : Zo P te = some e) (hf : ∀ x, (f x).length = e) (h : Okl k l) (h0 : 0 ≤ i) (hi : i < l.length) :
  jB P t (vs f e k l) (.int ki i) S = some (EP (f (l[i.toNat]'(by omega))), S) := by
 unfold vs
 rw [Yc ht he h.okv h0 hi, YU hf]
 have hlt : i.toNat < l.length := by omega
 have := YN hf (l.drop i.toNat) 1
 rw [Nat.one_mul] at this
 rw [this, List.drop_eq_getElem_cons hlt, List.take_succ_cons, List.take_zero, List.flatMap_cons, List.flatMap_nil, List.append_nil]
theorem abH {lo hi : Option Value} {i j : Int} (ht : P.underlying t = some (.slice te)) (he : Zo P te = some e) (hf : ∀ x, (f x).length = e) (h : Okl k l) (hlo : vM 0 lo = some i) (hhi : vM l.length hi = some j) (h0 : 0 ≤ i) (hij : i ≤ j) (hj : j ≤ l.length) :
  Zu P t (vs f e k l) lo hi S = some (vs f e (if k = 2 then 1 else k) ((l.drop i.toNat).take (j.toNat - i.toNat)), S) := by
 unfold vs
 rw [aeR ht he h.okv hlo hhi h0 hij hj, YU hf, YN hf]
 congr 3
 simp; omega
theorem QX {bytes : Nat} {z : Value} (ht : P.underlying t = some (.slice te)) (he : Zo P te = some e) (hz : zeroOf P te = some z) (hzs : z.cells.size = e) (hb : bytesOf P te = some bytes) (hp : 0 < e) (htx : P.underlying tx = some (.slice tex))
  (hf : ∀ x, (f x).length = e) (h1 : ∀ x, (f x).all (·.oneCell') = true) (h : Okl k l) (hk : k ≠ 1) (hm : Okl j m) (hl : (l.length + m.length) * bytes ≤ 140737488355328) (hmax : l.length + m.length ≤ 4611686018427387903) :
  yj P t tx (vs f e k l) (vs f e j m) S = some (vs f e (if k = 0 ∧ m.length = 0 then 0 else 2) (l ++ m), S) := by
 have hone : ∀ l : List α, (l.flatMap f).all (·.oneCell') = true := by
  intro l
  rw [List.all_flatMap, List.all_eq_true]
  exact fun x _ => h1 x
 unfold vs
 rw [acT ht he hz hzs hb hp htx h.okv hk hm.okv (Ws hf l) (Ws hf m) (hone l) (hone m) hl hmax, List.flatMap_append, List.length_append]
theorem abY (x : UInt8) : (cb x).length = 1 := rfl
theorem ajP (x : UInt8) : (cb x).all (·.oneCell') = true := rfl
theorem ahf (x : Int) : (ci x).length = 1 := rfl
theorem ajW (x : Int) : (ci x).all (·.oneCell') = true := rfl
theorem agt (l : List UInt8) : qV (l.flatMap cb) = some l := by
 induction l with
 | nil => rfl
 | cons b l ih =>
  have : (b :: l).flatMap cb = .int .u8 b.toNat :: l.flatMap cb := rfl
  rw [this]
  simp only [qV, Qs, ih]
  simp
theorem wO {v : Value} {i j : Nat} {S : zi} (h : j ≠ i) : zS (zV j v) i S = zS v i S := by
 cases v with
 | tuple vs => simp only [zV, zS, Array.getElem?_modify, if_neg h]
 | _ => rfl
theorem aen {v : Value} {S : zi} : zS (zV 0 v) 1 S = zS v 1 S := wO (by decide)
theorem afk {v : Value} {S : zi} : zS (zV 0 v) 2 S = zS v 2 S := wO (by decide)
theorem adK {v : Value} {S : zi} : zS (zV 1 v) 2 S = zS v 2 S := wO (by decide)
theorem aft {v : Value} {S : zi} : zS (zV 0 v) 3 S = zS v 3 S := wO (by decide)
theorem aec {v : Value} {S : zi} : zS (zV 1 v) 3 S = zS v 3 S := wO (by decide)
theorem adI {v : Value} {S : zi} : zS (zV 2 v) 3 S = zS v 3 S := wO (by decide)
theorem ae9 {v : Value} {S : zi} : zS (zV 0 v) 4 S = zS v 4 S := wO (by decide)
theorem adW {v : Value} {S : zi} : zS (zV 1 v) 4 S = zS v 4 S := wO (by decide)
theorem afG {v : Value} {S : zi} : zS (zV 2 v) 4 S = zS v 4 S := wO (by decide)
theorem afo {v : Value} {S : zi} : zS (zV 3 v) 4 S = zS v 4 S := wO (by decide)
theorem afj {v : Value} {S : zi} : zS (zV 0 v) 5 S = zS v 5 S := wO (by decide)
theorem aed {v : Value} {S : zi} : zS (zV 1 v) 5 S = zS v 5 S := wO (by decide)
theorem aeg {v : Value} {S : zi} : zS (zV 2 v) 5 S = zS v 5 S := wO (by decide)
theorem afd {v : Value} {S : zi} : zS (zV 3 v) 5 S = zS v 5 S := wO (by decide)
theorem aeM {v : Value} {S : zi} : zS (zV 4 v) 5 S = zS v 5 S := wO (by decide)
abbrev by_ (k : Nat) (l : List UInt8) : Value := vs cb 1 k l
abbrev iz (k : Nat) (l : List Int) : Value := vs ci 1 k l
theorem ad7 {src dst : TypeId} {k : Nat} {l : List UInt8} (hs : P.underlying src = some (.slice te)) (he : P.underlying te = some (.int .u8)) (hd : P.underlying dst = some .string) (h : Okl k l) : Jz P src dst (by_ k l) S = some (.string ⟨l.toArray⟩, S) := by
 obtain ⟨e', h1, _⟩ := afr (e := 1) (h.okv (f := cb))
 have hlen : (l.flatMap cb).length = l.length := by rw [Ws abY]; omega
 have hns : ∀ s, by_ k l ≠ .string s := by intro s; unfold by_ vs sv; split <;> (intro h; cases h)
 unfold Jz
 split
 ·
  rename_i s hs; exact absurd hs (hns s)
 ·
  unfold by_ vs
  rw [h1]
  simp only [hs, hd, he, if_pos hlen, agt]
end
end Go.Abs
namespace Go.Abs
open Go.RowKit
def CLe (c d : FuncId → List Value → M Value) : Prop := ∀ g a S r, c g a S = some r → d g a S = some r
section
variable {P : Program} {O : Ora} {c d : FuncId → List Value → M Value}
theorem Xn (h : CLe c d) {fx : Fx} {T : List Value} {o : Oper} {S : zi} {r : Value × zi} (hs : qF P fx c T o S = some r) : qF P fx d T o S = some r := by
 unfold qF at hs ⊢
 split at hs
 ·
  rename_i hok
  rw [if_pos hok]
  cases hop : o.op with
  | call q =>
   rw [hop] at hs
   dsimp only at hs ⊢
   cases hcal : q.callee with
   | value f =>
    rw [hcal] at hs
    dsimp only at hs ⊢
    split at hs
    ·
     rename_i g first captured hev
     exact h _ _ _ _ hs
    ·
     cases hs
   | builtin b => rw [hcal] at hs; exact hs
   | invoke a b => rw [hcal] at hs; cases hs
  | _ => rw [hop] at hs; exact hs
 ·
  cases hs
theorem aeh (h : CLe c d) {fx : Fx} {ops : Array Oper} : ∀ (l : List Oper) (T : List Value) (S : zi) (r : List Value × zi), jv P fx c ops l T S = some r → jv P fx d ops l T S = some r := by
 intro l
 induction l with
 | nil => intro T S r hs; exact hs
 | cons o l ih =>
  intro T S r hs
  simp only [jv] at hs ⊢
  split at hs
  ·
   rename_i hw
   rw [if_pos hw]
   split at hs
   ·
    rename_i v S' he
    rw [Xn h he]
    exact ih _ _ _ hs
   ·
    cases hs
  ·
   rename_i hw
   rw [if_neg hw]
   exact ih _ _ _ hs
theorem adC (h : CLe c d) {fx : Fx} {chk : List Nat} {nl : List (Nat × Nat)} {ops : Array Oper} : ∀ (l : List Oper) (i : Nat) (hist : List (Value × zi)) (T : List Value) (S : zi) (r : List Value × zi), qc P fx chk nl c ops i hist l T S = some r → qc P fx chk nl d ops i hist l T S = some r := by
 intro l
 induction l with
 | nil => intro i hist T S r hs; exact hs
 | cons o l ih =>
  intro i hist T S r hs
  simp only [qc] at hs ⊢
  split at hs
  ·
   rename_i hw
   rw [if_pos hw]
   split at hs
   ·
    rename_i v S' he
    rw [Xn h he]
    dsimp only
    split at hs
    ·
     rename_i hq
     rw [if_pos hq]
     exact ih _ _ _ _ _ hs
    ·
     cases hs
   ·
    cases hs
  ·
   rename_i hw
   rw [if_neg hw]
   exact ih _ _ _ _ _ hs
theorem Xf (h : CLe c d) {hp : Bool} {n m : Nat} (hn : n ≤ m) : ∀ (q : Code) (T : List Value) (S : zi) (r), qW P hp c n q T S = some r → qW P hp d m q T S = some r := by
 intro q
 induction q with
 | skip => intro T S r hs; exact hs
 | exit id => intro T S r hs; exact hs
 | ret => intro T S r hs; exact hs
 | region i ops dr =>
  intro T S r hs
  cases dr with
  | false =>
   simp only [qW] at hs ⊢
   split at hs
   ·
    rename_i T1 S1 ho
    rw [aeh h _ _ _ _ ho]; exact hs
   ·
    cases hs
  | true =>
   simp only [qW] at hs ⊢
   split at hs
   ·
    rename_i hd
    rw [if_pos hd]
    split at hs
    ·
     rename_i T1 S1 ho
     rw [adC h _ _ _ _ _ _ ho]; exact hs
    ·
     cases hs
   ·
    cases hs
 | seq x y ihx ihy =>
  intro T S r hs
  simp only [qW] at hs ⊢
  split at hs
  ·
   rename_i T1 S1 hx
   rw [ihx _ _ _ hx]
   exact ihy _ _ _ hs
  ·
   rename_i hne
   rw [ihx _ _ _ hs]
   split
   ·
    rename_i T1 S1 he; exact absurd (hs.trans he) (hne T1 S1)
   ·
    rfl
 | cond x y z ihy ihz =>
  intro T S r hs
  simp only [qW] at hs ⊢
  split at hs
  ·
   rename_i hok
   rw [if_pos hok]
   split at hs
   ·
    rename_i hb; exact ihy _ _ _ hs
   ·
    rename_i hb; exact ihz _ _ _ hs
   ·
    cases hs
  ·
   cases hs
 | block id x ih =>
  intro T S r hs
  simp only [qW] at hs ⊢
  split at hs
  ·
   rename_i id' T1 S1 hx
   rw [ih _ _ _ hx]; exact hs
  ·
   rename_i hne
   rw [ih _ _ _ hs]
   split
   ·
    rename_i id' T1 S1 he; exact absurd (hs.trans he) (hne id' T1 S1)
   ·
    rfl
 | loop x ih =>
  intro T S r hs
  simp only [qW] at hs ⊢
  have key : ∀ (n : Nat) (T : List Value) (S : zi), ∀ k, kT k (qW P hp c n x) T S = some r → (∀ T S r, qW P hp c n x T S = some r → qW P hp d m x T S = some r) → kT k (qW P hp d m x) T S = some r := by
   intro n T S k hk hx
   induction k generalizing T S with
   | zero => cases hk
   | succ k ihk =>
    simp only [kT] at hk ⊢
    split at hk
    ·
     rename_i T1 S1 h1
     rw [hx _ _ _ h1]
     exact ihk _ _ hk
    ·
     rename_i hne
     rw [hx _ _ _ hk]
     split
     ·
      rename_i T1 S1 he; exact absurd (hk.trans he) (hne T1 S1)
     ·
      rfl
  exact XJ hn (key n T S n hs ih)
 | _ => intro T S r hs; simp only [qW] at hs; cases hs
theorem adv {hps : FuncId → Bool} {hp : Bool} (h : CLe c d) : CLe (ZK hps hp c) (ZK hps hp d) := by
 cases hp with
 | false => exact h
 | true =>
  intro g a S r hs
  unfold ZK at hs ⊢
  dsimp only at hs ⊢
  split at hs
  ·
   rename_i hg; rw [if_pos hg]; exact h _ _ _ _ hs
  ·
   rename_i hg
   rw [if_neg hg]
   split at hs <;> first | (cases hs; done) | skip
   rename_i m S1 hf
   split at hs <;> first | (cases hs; done) | skip
   rename_i r0 hr0
   (try rw [hf])
   (try dsimp only)
   rw [h _ _ _ _ hr0]
   exact hs
theorem aax (h : CLe c d) {hp : Bool} {n m : Nat} (hn : n ≤ m) {fn : Func} {q : Code} {a : List Value} {S : zi} {r : Value × zi} (hs : afO P hp c n fn q a S = some r) : afO P hp d m fn q a S = some r := by
 unfold afO at hs ⊢
 split at hs
 ·
  rename_i T1 S1 hx
  rw [Xf h hn _ _ _ _ hx]; exact hs
 ·
  rename_i T1 S1 hx
  rw [Xf h hn _ _ _ _ hx]; exact hs
 ·
  cases hs
theorem af8 : ∀ (n m : Nat), n ≤ m → CLe (ZR P O n) (ZR P O m) := by
 intro n
 induction n with
 | zero => intro m _ g a S r h; cases h
 | succ n ih =>
  intro m hm g a S r h
  obtain ⟨m, rfl⟩ : ∃ k, m = k + 1 := ⟨m - 1, by omega⟩
  simp only [ZR] at h ⊢
  cases ho : O.fn g with
  | some q => rw [ho] at h; exact h
  | none =>
   rw [ho] at h
   dsimp only at h ⊢
   cases hf : P.funcs[g]? with
   | none => rw [hf] at h; cases h
   | some fn =>
    rw [hf] at h
    dsimp only at h ⊢
    split at h
    ·
     cases h
    ·
     rename_i hn
     rw [if_neg hn]
     cases hb : fn.body with
     | none => rw [hb] at h; cases h
     | some q =>
      rw [hb] at h
      dsimp only at h ⊢
      have hc := adv (hps := O.hp) (hp := O.hp g) (ih m (by omega))
      split at h
      ·
       rename_i hpu
       rw [if_pos hpu]
       unfold aeB at h ⊢
       split at h <;> first | (cases h; done) | skip
       rename_i hca
       rw [if_pos hca]
       split at h <;> first | (cases h; done) | skip
       rename_i v1 S1 hr
       rw [aax hc (by omega) hr]
       exact h
      ·
       rename_i hpu
       rw [if_neg hpu]
       exact aax hc (by omega) h
theorem Z9 {n : Nat} {g : FuncId} {args : List Value} {S : zi} {r : Value × zi} (h : ZR P O n g args S = some r) : zQ P O g args S = some r :=
 abl ⟨n, fun k hk => af8 n k hk _ _ _ _ h⟩
end
end Go.Abs
namespace Go.Abs
open Go.RowKit
def af7 (call : FuncId → List Value → M Value) (g : FuncId) (args : List Value) : M Value := fun S => match YD args S with
 | some (m, S1) => match call g m S1 with
  | some r => some (aeQ S S1 args r)
  | none => none
 | none => none
end Go.Abs
namespace Go.Abs
open Go.RowKit
section
variable {P : Program} {μ μ1 : Mu} {S S1 H H1 : zi} {ω ω1 : Nat → Option kG}
structure Ext (S S1 : zi) : Prop where
 next : S.next ≤ S1.next
 get : ∀ k, k < S.next → S1.get k = S.get k
 log : ∃ new, S1.log = new ++ S.log ∧ ∀ k ∈ new, S.next ≤ k
theorem Ext.refl (S : zi) : Ext S S := ⟨Nat.le_refl _, fun _ _ => rfl, [], rfl, fun k h => by cases h⟩
theorem Ext.trans {S2 : zi} (h : Ext S S1) (k : Ext S1 S2) : Ext S S2 := ⟨Nat.le_trans h.1 k.1, fun q hq => (k.2 q (Nat.lt_of_lt_of_le hq h.1)).trans (h.2 q hq), by
 obtain ⟨n1, e1, f1⟩ := h.log
 obtain ⟨n2, e2, f2⟩ := k.log
 refine ⟨n2 ++ n1, by rw [e2, e1, List.append_assoc], fun q hq => ?_⟩
 rcases List.mem_append.1 hq with hq | hq
 ·
  exact Nat.le_trans h.1 (f2 q hq)
 ·
  exact f1 q hq⟩
theorem Ext.push (S : zi) (o : xk) : Ext S (S.push o) := ⟨by simp, fun k hk => by rw [zi.yg, if_neg (by omega)], [], rfl, fun k h => by cases h⟩
theorem Ext.set {S S1 : zi} (h : Ext S S1) {r : Nat} (hr : S.next ≤ r) (o : xk) : Ext S (S1.set r o) := ⟨by simpa using h.1, fun k hk => by rw [zi.yT, if_neg (by omega)]; exact h.2 k hk, by
 obtain ⟨n1, e1, f1⟩ := h.log
 refine ⟨r :: n1, by rw [zi.Xr, e1]; rfl, fun q hq => ?_⟩
 rcases List.mem_cons.1 hq with rfl | hq
 ·
  exact hr
 ·
  exact f1 q hq⟩
inductive Lower (S : zi) (v1 : Value) (S1 : zi) : Value → Prop
 | same (h : ground v1 = true) : Lower S v1 S1 v1
 | own {r n e : Nat} {cs : List Value} (hv : v1 = .slice (some ⟨r, 0, none⟩) n n) (hr : S.next ≤ r) (hg : S1.get r = some (.cells cs (.own []) e)) (hn : cs.length = n * e) (hs : cs.all sg = true) : Lower S v1 S1 (SL 2 e n cs)
end
end Go.Abs
namespace Go.Abs
open Go.RowKit
section
variable {P : Program} {S : zi} {t te tx tex : TypeId} {q o n c e i r : Nat} {cs : List Value} {own : Own} {anc : List Nat} {v x : Value} {hp : Bool}
theorem qB (a : Addr) (S : zi) : qZ (.pointer (some a)) S = some (.pointer (some a), S) := Eq.trans rfl rfl
theorem Y2 (h : S.get q = some (.cells cs own e)) (ha : kS P t = some false) (hv : cs[o]? = some v) (hn : ∀ l, v ≠ .agg l) : zZ P false t (.pointer (some ⟨q, o, none⟩)) S = some (dem v, S) := by
 unfold zZ
 simp only [Bool.false_eq_true, if_false]
 have : kM P t (.pointer (some ⟨q, o, none⟩)) S = some (v, S) := by simp only [kM, h, ha, hv]
 rw [this]
 split
 ·
  rename_i l S2 he; cases he; exact absurd rfl (hn _)
 ·
  rename_i v2 S2 _ he; cases he; rfl
 ·
  rename_i he; cases he
theorem qp {k : IntKind} {m : Int} (h : S.get q = some (.cells cs own e)) (ha : kS P t = some false) (hv : cs[o]? = some (.int k m)) : zZ P false t (.pointer (some ⟨q, o, none⟩)) S = some (.int k m, S) :=
 Y2 h ha hv (fun l h => by cases h)
theorem Y5 {a : Option Nat} (h : S.get q = some (.cells cs own e)) (ha : kS P t = some false) (hv : cs[o]? = some (.map a)) : zZ P false t (.pointer (some ⟨q, o, none⟩)) S = some (.map a, S) :=
 Y2 h ha hv (fun l h => by cases h)
theorem WR (h : S.get q = some (.cells cs own e)) (ha : kS P t = some true) (hs : Zo P t = some n) (hle : o + n ≤ cs.length) : zZ P false t (.pointer (some ⟨q, o, none⟩)) S = some (.agg (((cs.drop o).take n).toArray.map xH), S) := by
 unfold zZ
 simp only [Bool.false_eq_true, if_false]
 have : kM P t (.pointer (some ⟨q, o, none⟩)) S = some (.agg ((cs.drop o).take n).toArray, S) := by simp only [kM, h, ha, hs, if_pos hle]
 rw [this]
theorem xZ (h : S.get q = some (.cells cs (.own anc) e)) (hs : Zo P t = some n) (hx : x.cells.size = n) (h1 : x.cells.toList.all (·.oneCell') = true) (hle : o + n ≤ cs.length) :
  wU P t (.pointer (some ⟨q, o, none⟩)) x S = some (undef, (S.kills anc).set q (.cells (splice cs o x.cells.toList) (.own []) e)) := by
 simp only [wU, J8, h, hs, if_pos hx, if_pos h1, if_pos hle]
end
theorem Zx {α : Type} {f : α → List Value} {e k d : Nat} {l : List α} (hk : k ≤ 2) (h : ∀ x ∈ l, (f x).all (jH d) = true) : jH (d + 4) (vs f e k l) = true := by
 unfold vs sv
 split
 ·
  rfl
 ·
  show ((l.flatMap f).toArray.toList.all (jH d)) = true
  rw [List.toList_toArray, List.all_flatMap, List.all_eq_true]
  exact h
theorem qL {k d : Nat} {l : List UInt8} (hk : k ≤ 2) : jH (d + 5) (by_ k l) = true := Zx hk (fun _ _ => rfl)
theorem aaq {l : List Value} {d : Nat} (h : l.all (jH d) = true) : jH (d + 1) (.agg l.toArray) = true := by
 show l.toArray.toList.all (jH d) = true
 simpa using h
theorem yP {l : List Value} {d : Nat} (h : l.all (jH d) = true) : jH (d + 1) (.tuple l.toArray) = true := by
 show l.toArray.toList.all (jH d) = true
 simpa using h
theorem all1 {p : Value → Bool} {a : Value} (h : p a = true) : [a].all p = true := by simp [h]
theorem all2 {p : Value → Bool} {a b : Value} (h : p a = true) (k : p b = true) : [a, b].all p = true := by simp [h, k]
theorem akw {p : Value → Bool} {a b c : Value} (h : p a = true) (k : p b = true) (j : p c = true) : [a, b, c].all p = true := by simp [h, k, j]
theorem agM {k e n : Nat} {cs : List Value} : (sv k e n cs).cells = #[sv k e n cs] := by unfold sv; split <;> rfl
theorem Qa {α : Type} {f : α → List Value} {e k : Nat} {l : List α} : (vs f e k l).cells = #[vs f e k l] := agM
theorem ah6 {k e n : Nat} {cs : List Value} : xH (sv k e n cs) = sv (if k = 2 then 1 else k) e n cs := by rw [← aci]; unfold sv; split <;> rfl
theorem abr {α : Type} {f : α → List Value} {e k : Nat} {l : List α} : xH (vs f e k l) = vs f e (if k = 2 then 1 else k) l := ah6
theorem xP {k : IntKind} {n : Int} : xH (.int k n) = .int k n := rfl
theorem qm {x : Array Value} : (Value.agg x).cells = x := rfl
theorem kJ {k : IntKind} {n : Int} : (Value.int k n).cells = #[.int k n] := rfl
@[simp] theorem VW (a : Option Addr) (n c : Nat) : dem (.slice a n c) = .slice a n c := Eq.trans rfl rfl
@[simp] theorem adG (a : Option Nat) : dem (.map a) = .map a := Eq.trans rfl rfl
theorem wrap_i64 {n : Int} (h0 : -9223372036854775808 ≤ n) (h : n < 9223372036854775808) : IntKind.i64.wrap n = n := by
 simp [IntKind.wrap, IntKind.bits, IntKind.signed]
 split <;> omega
theorem Qy {l pre suf : List Int} {n : Int} (hl : l = pre ++ n :: suf) (h : Int.toNat (pre.length : Int) < l.length) : l[Int.toNat (pre.length : Int)] = n := by
 subst hl; simp
theorem acg {α : Type} {l pre suf : List α} {n : α} (hl : l = pre ++ n :: suf) (h : Int.toNat (pre.length : Int) < l.length) : l[Int.toNat (pre.length : Int)] = n := by
 subst hl; simp
theorem ahn (k : Nat) : (if (if k = 2 then 1 else k) = 2 then 1 else if k = 2 then 1 else k) = if k = 2 then 1 else k := by split <;> simp_all
theorem QD (k : Nat) : (if k = 2 then 1 else k) ≠ 2 := by split <;> omega
theorem YK (Sa Sb : zi) : ku undef Sa Sb = true := rfl
theorem aaB (cs : List Value) (Sa Sb : zi) : ku (EP cs) Sa Sb = true := rfl
theorem yO {q o e : Nat} {cs : List Value} {own : Own} {S : zi} (h : S.get q = some (.cells cs own e)) : ku (.pointer (some ⟨q, o, none⟩)) S S = true := by
 simp only [ku, h, Nat.sub_self, List.take_zero, List.contains_nil, Bool.not_false, Bool.and_self]
end Go.Abs
namespace Go.Abs
open Go.RowKit
section
variable {P : Program} {fx : Fx} {chk : List Nat} {call : FuncId → List Value → M Value} {ops : Array Oper}
theorem sP (f : Func) (i n : Nat) {l : List Oper} {T : List Value} {T1 : Value → List Value} {S : zi} {v : Value} {r : Option (List Value × zi)} (hK : jv P fx call ops ((reg f i).toList.drop (n + 1)) (T1 v) S = r) (hl : l = (opAt f i n) :: ((reg f i).toList.drop (n + 1)) := by kernel_rfl) (hg : (opAt f i n).guard = none := by kernel_rfl) (hm : ∀ v, Jc (opAt f i n) ((reg f i).toList.drop (n + 1)) T v = T1 v := by exact fun _ => rfl) (hs : qF P fx call T (opAt f i n) S = some (v, S) := by kernel_rfl) : jv P fx call ops l T S = r :=
 aeY hl hg hm hs hK
theorem sD (f : Func) (i n : Nat) {l : List Oper} {T : List Value} {T1 : Value → List Value} {S : zi} {s : Option (Value × zi)} {K : Value → zi → Option (List Value × zi)} (hK : ∀ v S1, jv P fx call ops ((reg f i).toList.drop (n + 1)) (T1 v) S1 = K v S1) (hl : l = (opAt f i n) :: ((reg f i).toList.drop (n + 1)) := by kernel_rfl) (hg : (opAt f i n).guard = none := by kernel_rfl) (hm : ∀ v, Jc (opAt f i n) ((reg f i).toList.drop (n + 1)) T v = T1 v := by exact fun _ => rfl) (hs : qF P fx call T (opAt f i n) S = s := by kernel_rfl) : jv P fx call ops l T S = zF s K () :=
 ai6 hl hg hm hs hK
theorem sG (f : Func) (i n : Nat) {l : List Oper} {T : List Value} {T1 : Value → List Value} {S : zi} {j : Nat} {b : Bool} {g : Value} {s : M Value} {K : Value → zi → Option (List Value × zi)} (hK : ∀ v S1, jv P fx call ops ((reg f i).toList.drop (n + 1)) (T1 v) S1 = K v S1) (hl : l = (opAt f i n) :: ((reg f i).toList.drop (n + 1)) := by kernel_rfl) (hg : (opAt f i n).guard = some (j, b) := by kernel_rfl) (hm : ∀ v, Jc (opAt f i n) ((reg f i).toList.drop (n + 1)) T v = T1 v := by exact fun _ => rfl) (hy : ynd ops T j = vb g := by kernel_rfl) (hs : qF P fx call T (opAt f i n) S = s S := by kernel_rfl) : jv P fx call ops l T S = gdK g b s S K () :=
 aiL hl hg hm hy hs hK
theorem tD (f : Func) (i n : Nat) {l : List Oper} {T : List Value} {T1 : Value → List Value} {S : zi} {k : Nat} {s : Option (Value × zi)} {K : Value → zi → Option (List Value × zi)} (hK : ∀ v S1, qc P fx chk [] call ops (k + 1) [] ((reg f i).toList.drop (n + 1)) (T1 v) S1 = K v S1) (hc : chk.contains k = false := by kernel_rfl) (hl : l = (opAt f i n) :: ((reg f i).toList.drop (n + 1)) := by kernel_rfl) (hg : (opAt f i n).guard = none := by kernel_rfl) (hm : ∀ v, Jc (opAt f i n) ((reg f i).toList.drop (n + 1)) T v = T1 v := by exact fun _ => rfl) (hs : qF P fx call T (opAt f i n) S = s := by kernel_rfl) : qc P fx chk [] call ops k [] l T S = zF s K () :=
 agI hc hl hg hm hs hK
theorem tP (f : Func) (i n : Nat) {l : List Oper} {T : List Value} {T1 : Value → List Value} {S : zi} {k : Nat} {v : Value} {r : Option (List Value × zi)} (hK : qc P fx chk [] call ops (k + 1) [] ((reg f i).toList.drop (n + 1)) (T1 v) S = r) (hc : chk.contains k = false := by kernel_rfl) (hl : l = (opAt f i n) :: ((reg f i).toList.drop (n + 1)) := by kernel_rfl) (hg : (opAt f i n).guard = none := by kernel_rfl) (hm : ∀ v, Jc (opAt f i n) ((reg f i).toList.drop (n + 1)) T v = T1 v := by exact fun _ => rfl) (hs : qF P fx call T (opAt f i n) S = some (v, S) := by kernel_rfl) : qc P fx chk [] call ops k [] l T S = r :=
 ada hc hl hg hm hs hK
theorem uD (f : Func) (i n : Nat) {l : List Oper} {T : List Value} {T1 : Value → List Value} {S : zi} {k : Nat} {s : Option (Value × zi)} {K : Value → zi → Option (List Value × zi)} {x : Nat × Nat} {nl : List (Nat × Nat)} {hist : List (Value × zi)} {pe : Value} (hK : ∀ v S1, qc P fx chk (x :: nl) call ops (k + 1) (hist ++ [(pe, S)]) ((reg f i).toList.drop (n + 1)) (T1 v) S1 = K v S1) (hc : chk.contains k = false := by kernel_rfl) (hpe : Zt T (opAt f i n) = pe := by kernel_rfl) (hl : l = (opAt f i n) :: ((reg f i).toList.drop (n + 1)) := by kernel_rfl) (hg : (opAt f i n).guard = none := by kernel_rfl) (hm : ∀ v, Jc (opAt f i n) ((reg f i).toList.drop (n + 1)) T v = T1 v := by exact fun _ => rfl) (hs : qF P fx call T (opAt f i n) S = s := by kernel_rfl) : qc P fx chk (x :: nl) call ops k hist l T S = zF s K () :=
 agd hc hpe hl hg hm hs hK
theorem uDC (f : Func) (i n : Nat) {l : List Oper} {T : List Value} {T1 : Value → List Value} {S : zi} {k : Nat} {s : Option (Value × zi)} {K : Value → zi → Option (List Value × zi)} {x : Nat × Nat} {nl : List (Nat × Nat)} {hist : List (Value × zi)} {pe : Value} (hK : ∀ v S1, qc P fx chk (x :: nl) call ops (k + 1) (hist ++ [(pe, S)]) ((reg f i).toList.drop (n + 1)) (T1 v) S1 = K v S1) (hc : chk.contains k = true := by kernel_rfl) (hpe : Zt T (opAt f i n) = pe := by kernel_rfl) (hl : l = (opAt f i n) :: ((reg f i).toList.drop (n + 1)) := by kernel_rfl) (hg : (opAt f i n).guard = none := by kernel_rfl) (hm : ∀ v, Jc (opAt f i n) ((reg f i).toList.drop (n + 1)) T v = T1 v := by exact fun _ => rfl) (hs : qF P fx call T (opAt f i n) S = s := by kernel_rfl) : qc P fx chk (x :: nl) call ops k hist l T S = zF s (fun v S1 => okK v (K v S1) ()) () :=
 aea hc hpe hl hg hm hs hK
theorem uP (f : Func) (i n : Nat) {l : List Oper} {T : List Value} {T1 : Value → List Value} {S : zi} {k : Nat} {v : Value} {r : Option (List Value × zi)} {x : Nat × Nat} {nl : List (Nat × Nat)} {hist : List (Value × zi)} {pe : Value} (hK : qc P fx chk (x :: nl) call ops (k + 1) (hist ++ [(pe, S)]) ((reg f i).toList.drop (n + 1)) (T1 v) S = r) (hc : chk.contains k = false := by kernel_rfl) (hpe : Zt T (opAt f i n) = pe := by kernel_rfl) (hl : l = (opAt f i n) :: ((reg f i).toList.drop (n + 1)) := by kernel_rfl) (hg : (opAt f i n).guard = none := by kernel_rfl) (hm : ∀ v, Jc (opAt f i n) ((reg f i).toList.drop (n + 1)) T v = T1 v := by exact fun _ => rfl) (hs : qF P fx call T (opAt f i n) S = some (v, S) := by kernel_rfl) : qc P fx chk (x :: nl) call ops k hist l T S = r :=
 adw hc hpe hl hg hm hs hK
theorem uPC (f : Func) (i n : Nat) {l : List Oper} {T : List Value} {T1 : Value → List Value} {S : zi} {k : Nat} {v : Value} {r : Option (List Value × zi)} {x : Nat × Nat} {nl : List (Nat × Nat)} {hist : List (Value × zi)} {pe : Value} (hK : qc P fx chk (x :: nl) call ops (k + 1) (hist ++ [(pe, S)]) ((reg f i).toList.drop (n + 1)) (T1 v) S = r) (hc : chk.contains k = true := by kernel_rfl) (hpe : Zt T (opAt f i n) = pe := by kernel_rfl) (hl : l = (opAt f i n) :: ((reg f i).toList.drop (n + 1)) := by kernel_rfl) (hg : (opAt f i n).guard = none := by kernel_rfl) (hm : ∀ v, Jc (opAt f i n) ((reg f i).toList.drop (n + 1)) T v = T1 v := by exact fun _ => rfl) (hs : qF P fx call T (opAt f i n) S = some (v, S) := by kernel_rfl) : qc P fx chk (x :: nl) call ops k hist l T S = okK v r () :=
 aaS hc hpe hl hg hm hs hK
theorem uG (f : Func) (i n : Nat) {l : List Oper} {T : List Value} {T1 : Value → List Value} {S : zi} {j k : Nat} {b : Bool} {g : Value} {s : M Value} {K : Value → zi → Option (List Value × zi)} {x : Nat × Nat} {nl : List (Nat × Nat)} {hist : List (Value × zi)} {pe : Value} (hK : ∀ v S1, qc P fx chk (x :: nl) call ops (k + 1) (hist ++ [(pe, S)]) ((reg f i).toList.drop (n + 1)) (T1 v) S1 = K v S1) (hc : chk.contains k = false := by kernel_rfl) (hpe : Zt T (opAt f i n) = pe := by kernel_rfl) (hl : l = (opAt f i n) :: ((reg f i).toList.drop (n + 1)) := by kernel_rfl) (hg : (opAt f i n).guard = some (j, b) := by kernel_rfl) (hm : ∀ v, Jc (opAt f i n) ((reg f i).toList.drop (n + 1)) T v = T1 v := by exact fun _ => rfl) (hy : ynd ops T j = vb g := by kernel_rfl) (hs : qF P fx call T (opAt f i n) S = s S := by kernel_rfl) : qc P fx chk (x :: nl) call ops k hist l T S = gdK g b s S K () :=
 agz hc hpe hl hg hm hy hs hK
theorem uGC (f : Func) (i n : Nat) {l : List Oper} {T : List Value} {T1 : Value → List Value} {S : zi} {j k : Nat} {b : Bool} {g : Value} {s : M Value} {K : Value → zi → Option (List Value × zi)} {x : Nat × Nat} {nl : List (Nat × Nat)} {hist : List (Value × zi)} {pe : Value} (hK : ∀ v S1, qc P fx chk (x :: nl) call ops (k + 1) (hist ++ [(pe, S)]) ((reg f i).toList.drop (n + 1)) (T1 v) S1 = K v S1) (hc : chk.contains k = true := by kernel_rfl) (hpe : Zt T (opAt f i n) = pe := by kernel_rfl) (hl : l = (opAt f i n) :: ((reg f i).toList.drop (n + 1)) := by kernel_rfl) (hg : (opAt f i n).guard = some (j, b) := by kernel_rfl) (hm : ∀ v, Jc (opAt f i n) ((reg f i).toList.drop (n + 1)) T v = T1 v := by exact fun _ => rfl) (hy : ynd ops T j = vb g := by kernel_rfl) (hs : qF P fx call T (opAt f i n) S = s S := by kernel_rfl) : qc P fx chk (x :: nl) call ops k hist l T S = agn g b s S K () :=
 aeG hc hpe hl hg hm hy hs hK
end
end Go.Abs
namespace Go.Proofs.Ytfjogganfjkckaa
open Go.Abs
def O : Ora := ⟨fun _ => none, fun f => ([] : List Nat).contains f, fun f => ([9, 13, 14, 15, 16, 17, 18, 19, 22, 23, 24, 26, 27, 30, 31, 32, 34, 36, 37, 42, 45, 46, 48, 50, 52, 56, 57, 58, 62, 64, 65, 66, 67, 68, 69, 70, 71, 73] : List Nat).contains f⟩
theorem ajz : afi Try.prog O := agb
end Go.Proofs.Ytfjogganfjkckaa
namespace Go.Proofs.Ytfjogganfjkckaa
open Go.Abs
noncomputable def jw.code : Code := (Code.seq (Code.region 0 (reg Try.f3 0) false) (Code.seq (Code.region 1 (reg Try.f3 1) false) (Code.seq (Code.region 2 (reg Try.f3 2) false) Code.ret)))
theorem jw.body : Try.f3.body = some jw.code := by kernel_rfl
variable (x n o p q r s t u w d f g i k : Value) (S : zi)
theorem jw.r0  : jv Try.prog ⟨false, false, false⟩ (zQ Try.prog O) (reg Try.f3 0) (reg Try.f3 0).toList ([x,n,o,p,q,r,s,t,u,w,d,f,g,i,k]) S =
  ( some ([Value.bool false,n,o,p,q,r,s,t,u,w,d,f,g,i,k], S)) := by
 kernel_rfl
theorem jw.r1  : jv Try.prog ⟨false, false, false⟩ (zQ Try.prog O) (reg Try.f3 1) (reg Try.f3 1).toList ([x,n,o,p,q,r,s,t,u,w,d,f,g,i,k]) S =
  (zF (jR Try.prog 24 1 [(0, (Value.int IntKind.i64 0))] S) (fun b c => zF ((zQ Try.prog O) 8 [(dem b)] c) (fun F y => some ([x,F,b,dem F,q,r,s,t,u,w,d,f,g,i,k], y)) ()) ()) := by
 kernel_rfl
theorem jw.r2  : jv Try.prog ⟨false, false, false⟩ (zQ Try.prog O) (reg Try.f3 2) (reg Try.f3 2).toList ([x,n,o,p,q,r,s,t,u,w,d,f,g,i,k]) S =
  (zF ((zQ Try.prog O) 9 [] S) (fun b c => gdK (dem b) true (ret n) c (fun z y => gdK (dem b) true ((zQ Try.prog O) 10 [(dem (dem z)), (Value.slice none 0 0)]) y (fun A G => gdK (dem b) true (aUn Try.prog UnOp.not A) G (fun B H => zF (wP (dem b) B (Value.bool false) H) (fun l I => gdK (dem l) true ((zQ Try.prog O) 8 [(Value.slice none 0 0)]) I (fun C J => gdK (dem l) true ((zQ Try.prog O) 11 [(dem C), (Value.int IntKind.i64 0)]) J (fun D K => gdK (dem l) true (aUn Try.prog UnOp.not D) K (fun E L => zF (wP (dem l) E (Value.bool false) L) (fun m M => some ([m,n,o,p,b,dem b,dem z,A,B,l,dem l,C,D,E,dem m], M)) ()) ()) ()) ()) ()) ()) ()) ()) ()) := by
 refine sD Try.f3 2 0 (fun b c => ?_)
 refine sP Try.f3 2 1 (v := b) ?_
 refine sG Try.f3 2 2 (j := 1) (fun z y => ?_)
 refine sG Try.f3 2 3 (j := 1) (fun A G => ?_)
 refine sG Try.f3 2 4 (j := 1) (fun B H => ?_)
 refine sD Try.f3 2 5 (fun l I => ?_)
 refine sP Try.f3 2 6 (v := l) ?_
 refine sG Try.f3 2 7 (j := 6) (fun C J => ?_)
 refine sG Try.f3 2 8 (j := 6) (fun D K => ?_)
 refine sG Try.f3 2 9 (j := 6) (fun E L => ?_)
 refine sD Try.f3 2 10 (fun m M => ?_)
 refine sP Try.f3 2 11 (v := m) ?_
 kernel_rfl
theorem jw.rs : type_of% (And.intro @jw.r0 (And.intro @jw.r1 (@jw.r2))) := And.intro @jw.r0 (And.intro @jw.r1 (@jw.r2))
theorem jw.runs {S c : zi} {e : AEx} {T : List Value} (h : zA Try.prog O false jw.code ([undef,undef,undef,undef,undef,undef,undef,undef,undef,undef,undef,undef,undef,undef,undef]) S = some (e, T, c)) (he : e = .normal ∨ e = .ret) : zQ Try.prog O 3 [] S = some (T.getD 0 undef, c) :=
 yB rfl rfl Try.func3 (by decide) jw.body (by exact h) he (wV (a := T.getD 0 undef) ((show zG Try.prog T c Try.f3.results.toList = zG Try.prog T c [(ResultVar.tmp 0)] from by kernel_rfl).trans (by simp only [zG])) (by kernel_rfl))
end Go.Proofs.Ytfjogganfjkckaa
namespace Go.Proofs.Ytfjogganfjkckaa
open Go.Abs
abbrev jA.id : FuncId := 21
noncomputable def jA.code : Code := (Code.seq (Code.region 0 (reg Try.f21 0) false) (Code.seq (Code.region 1 (reg Try.f21 1) false) (Code.seq (Code.region 2 (reg Try.f21 2) false) Code.ret)))
theorem jA.body : Try.f21.body = some jA.code := by kernel_rfl
variable (b c m n s l o p q r d f g i j : Value) (S : zi)
theorem jA.r0  : jv Try.prog ⟨false, false, false⟩ (zQ Try.prog O) (reg Try.f21 0) (reg Try.f21 0).toList ([b,c,m,n,s,l,o,p,q,r,d,f,g,i,j]) S =
  (zF (Jo (dem c) S) (fun y k => some ([b,c,m,y,Value.slice none 0 0,l,o,p,q,r,d,f,g,i,j], k)) ()) := by
 kernel_rfl
theorem jA.r1  : jv Try.prog ⟨false, false, false⟩ (zQ Try.prog O) (reg Try.f21 1) (reg Try.f21 1).toList ([b,c,m,n,s,l,o,p,q,r,d,f,g,i,j]) S =
  (zF (zZ Try.prog false 46 n S) (fun u k => zF (yu Try.prog 48 [(0, (Value.int IntKind.i64 1)), (1, (dem (dem b))), (7, (dem u))] k) (fun v z => zF ((zQ Try.prog O) 19 [(dem v)] z) (fun t A => zF (zS t 0 A) (fun w B => zF (zS (zV 0 t) 1 B) (fun x C => some ([b,c,m,n,s,w,x,zV 1 (zV 0 t),dem b,u,v,dem t,dem w,dem x,j], C)) ()) ()) ()) ()) ()) := by
 kernel_rfl
theorem jA.r2  : jv Try.prog ⟨false, false, false⟩ (zQ Try.prog O) (reg Try.f21 2) (reg Try.f21 2).toList ([b,c,m,n,s,l,o,p,q,r,d,f,g,i,j]) S =
  ( some ([b,c,m,n,l,dem l,o,p,q,r,d,f,g,i,dem l], S)) := by
 kernel_rfl
theorem jA.rs : type_of% (And.intro @jA.r0 (And.intro @jA.r1 (@jA.r2))) := And.intro @jA.r0 (And.intro @jA.r1 (@jA.r2))
theorem jA.runs {b c : Value} {S k : zi} {e : AEx} {T : List Value} (h : zA Try.prog O false jA.code ([b,c,undef,undef,undef,undef,undef,undef,undef,undef,undef,undef,undef,undef,undef]) S = some (e, T, k)) (he : e = .normal ∨ e = .ret) : zQ Try.prog O 21 [b, c] S = some (T.getD 4 undef, k) :=
 yB rfl rfl Try.func21 (by decide) jA.body (by exact h) he (wV (a := T.getD 4 undef) ((show zG Try.prog T k Try.f21.results.toList = zG Try.prog T k [(ResultVar.tmp 4)] from by kernel_rfl).trans (by simp only [zG])) (by kernel_rfl))
end Go.Proofs.Ytfjogganfjkckaa
namespace Go.Proofs.Ytfjogganfjkckaa
open Go.Abs
abbrev zL.id : FuncId := 9
noncomputable def zL.code : Code := (Code.seq (Code.region 0 (reg Try.f9 0) false) (Code.seq (Code.region 1 (reg Try.f9 1) false) (Code.seq (Code.seq (Code.region 2 (reg Try.f9 2) false) (Code.cond (Operand.tmp 8) (Code.seq (Code.region 3 (reg Try.f9 3) false) Code.ret) Code.skip)) (Code.seq (Code.region 4 (reg Try.f9 4) false) (Code.seq (Code.region 5 (reg Try.f9 5) false) (Code.seq (Code.region 6 (reg Try.f9 6) false) (Code.seq (Code.region 7 (reg Try.f9 7) false) Code.ret)))))))
theorem zL.body : Try.f9.body = some zL.code := by kernel_rfl
variable (x0 b x2 x3 x4 x5 x6 x7 x8 x9 c d f g i k l m n o p q r s t u w x y z A B C D E F G H I J K L M N P Q R U V W X Y Z a0 a1 a2 a3 a4 : Value) (S : zi)
theorem zL.r0  : jv Try.prog ⟨false, false, false⟩ (zQ Try.prog O) (reg Try.f9 0) (reg Try.f9 0).toList ([x0,b,x2,x3,x4,x5,x6,x7,x8,x9,c,d,f,g,i,k,l,m,n,o,p,q,r,s,t,u,w,x,y,z,A,B,C,D,E,F,G,H,I,J,K,L,M,N,P,Q,R,U,V,W,X,Y,Z,a0,a1,a2,a3,a4]) S =
  ( some ([Value.bool false,b,x2,x3,x4,x5,x6,x7,x8,x9,c,d,f,g,i,k,l,m,n,o,p,q,r,s,t,u,w,x,y,z,A,B,C,D,E,F,G,H,I,J,K,L,M,N,P,Q,R,U,V,W,X,Y,Z,a0,a1,a2,a3,a4], S)) := by
 kernel_rfl
theorem zL.r1  : jv Try.prog ⟨false, false, false⟩ (zQ Try.prog O) (reg Try.f9 1) (reg Try.f9 1).toList ([x0,b,x2,x3,x4,x5,x6,x7,x8,x9,c,d,f,g,i,k,l,m,n,o,p,q,r,s,t,u,w,x,y,z,A,B,C,D,E,F,G,H,I,J,K,L,M,N,P,Q,R,U,V,W,X,Y,Z,a0,a1,a2,a3,a4]) S =
  (zF (jR Try.prog 24 1 [(0, (Value.int IntKind.i64 2))] S) (fun v0 S1 => zF ((zQ Try.prog O) 8 [(dem v0)] S1) (fun v1 S2 => some ([x0,v1,x2,x3,x4,v0,dem v1,x7,x8,x9,c,d,f,g,i,k,l,m,n,o,p,q,r,s,t,u,w,x,y,z,A,B,C,D,E,F,G,H,I,J,K,L,M,N,P,Q,R,U,V,W,X,Y,Z,a0,a1,a2,a3,a4], S2)) ()) ()) := by
 kernel_rfl
theorem zL.r2  : jv Try.prog ⟨false, false, false⟩ (zQ Try.prog O) (reg Try.f9 2) (reg Try.f9 2).toList ([x0,b,x2,x3,x4,x5,x6,x7,x8,x9,c,d,f,g,i,k,l,m,n,o,p,q,r,s,t,u,w,x,y,z,A,B,C,D,E,F,G,H,I,J,K,L,M,N,P,Q,R,U,V,W,X,Y,Z,a0,a1,a2,a3,a4]) S =
  (zF (jX Try.prog BinOp.eql 22 (dem b) (Value.pointer none) S) (fun v1 S1 => some ([x0,b,x2,x3,x4,x5,x6,dem b,v1,x9,c,d,f,g,i,k,l,m,n,o,p,q,r,s,t,u,w,x,y,z,A,B,C,D,E,F,G,H,I,J,K,L,M,N,P,Q,R,U,V,W,X,Y,Z,a0,a1,a2,a3,a4], S1)) ()) := by
 kernel_rfl
theorem zL.r3  : jv Try.prog ⟨false, false, false⟩ (zQ Try.prog O) (reg Try.f9 3) (reg Try.f9 3).toList ([x0,b,x2,x3,x4,x5,x6,x7,x8,x9,c,d,f,g,i,k,l,m,n,o,p,q,r,s,t,u,w,x,y,z,A,B,C,D,E,F,G,H,I,J,K,L,M,N,P,Q,R,U,V,W,X,Y,Z,a0,a1,a2,a3,a4]) S =
  ( some ([Value.bool false,b,x2,x3,x4,x5,x6,x7,x8,x9,c,d,f,g,i,k,l,m,n,o,p,q,r,s,t,u,w,x,y,z,A,B,C,D,E,F,G,H,I,J,K,L,M,N,P,Q,R,U,V,W,X,Y,Z,a0,a1,a2,a3,a4], S)) := by
 kernel_rfl
theorem zL.r4  : jv Try.prog ⟨false, false, false⟩ (zQ Try.prog O) (reg Try.f9 4) (reg Try.f9 4).toList ([x0,b,x2,x3,x4,x5,x6,x7,x8,x9,c,d,f,g,i,k,l,m,n,o,p,q,r,s,t,u,w,x,y,z,A,B,C,D,E,F,G,H,I,J,K,L,M,N,P,Q,R,U,V,W,X,Y,Z,a0,a1,a2,a3,a4]) S =
  (zF (yu Try.prog 46 [(0, (Value.int IntKind.i64 1)), (1, (Value.int IntKind.i64 1))] S) (fun v0 S1 => zF (yu Try.prog 43 [(0, (Value.int IntKind.i64 1))] S1) (fun v1 S2 => zF (jR Try.prog 44 1 [(0, v1)] S2) (fun v2 S3 => zF (yu Try.prog 46 [(0, (Value.int IntKind.i64 1)), (1, (Value.int IntKind.i64 1)), (4, (dem v2))] S3) (fun v3 S4 => zF (yJ Try.prog 46 S4) (fun v4 S5 => zF (yJ Try.prog 46 S5) (fun v5 S6 => zF (wU Try.prog 46 v4 (dem v0) S6) (fun v6 S7 => zF (wU Try.prog 46 v5 (dem v3) S7) (fun v7 S8 => some ([x0,b,v4,v5,x4,x5,x6,x7,x8,v0,v1,v2,v3,g,i,k,l,m,n,o,p,q,r,s,t,u,w,x,y,z,A,B,C,D,E,F,G,H,I,J,K,L,M,N,P,Q,R,U,V,W,X,Y,Z,a0,a1,a2,a3,a4], S8)) ()) ()) ()) ()) ()) ()) ()) ()) := by
 kernel_rfl
theorem zL.r5  : jv Try.prog ⟨false, false, false⟩ (zQ Try.prog O) (reg Try.f9 5) (reg Try.f9 5).toList ([x0,b,x2,x3,x4,x5,x6,x7,x8,x9,c,d,f,g,i,k,l,m,n,o,p,q,r,s,t,u,w,x,y,z,A,B,C,D,E,F,G,H,I,J,K,L,M,N,P,Q,R,U,V,W,X,Y,Z,a0,a1,a2,a3,a4]) S =
  (zF (zZ Try.prog false 46 x2 S) (fun v1 S1 => zF ((zQ Try.prog O) 21 [(Value.int IntKind.i64 2), (dem v1)] S1) (fun v2 S2 => zF ((zQ Try.prog O) 10 [(dem (dem b)), (dem v2)] S2) (fun v3 S3 => some ([x0,b,x2,x3,v3,x5,x6,x7,x8,x9,c,d,f,dem b,v1,v2,dem v3,m,n,o,p,q,r,s,t,u,w,x,y,z,A,B,C,D,E,F,G,H,I,J,K,L,M,N,P,Q,R,U,V,W,X,Y,Z,a0,a1,a2,a3,a4], S3)) ()) ()) ()) := by
 kernel_rfl
theorem zL.r6  : jv Try.prog ⟨false, false, false⟩ (zQ Try.prog O) (reg Try.f9 6) (reg Try.f9 6).toList ([x0,b,x2,x3,x4,x5,x6,x7,x8,x9,c,d,f,g,i,k,l,m,n,o,p,q,r,s,t,u,w,x,y,z,A,B,C,D,E,F,G,H,I,J,K,L,M,N,P,Q,R,U,V,W,X,Y,Z,a0,a1,a2,a3,a4]) S =
  (zF (zZ Try.prog false 46 x2 S) (fun v1 S1 => zF ((zQ Try.prog O) 21 [(Value.int IntKind.i64 1), (dem v1)] S1) (fun v2 S2 => zF ((zQ Try.prog O) 12 [(dem (dem b)), (dem v2)] S2) (fun v3 S3 => some ([x0,b,x2,x3,x4,x5,x6,x7,x8,x9,c,d,f,g,i,k,l,dem b,v1,v2,v3,q,r,s,t,u,w,x,y,z,A,B,C,D,E,F,G,H,I,J,K,L,M,N,P,Q,R,U,V,W,X,Y,Z,a0,a1,a2,a3,a4], S3)) ()) ()) ()) := by
 kernel_rfl
theorem zL.r7  : jv Try.prog ⟨false, false, false⟩ (zQ Try.prog O) (reg Try.f9 7) (reg Try.f9 7).toList ([x0,b,x2,x3,x4,x5,x6,x7,x8,x9,c,d,f,g,i,k,l,m,n,o,p,q,r,s,t,u,w,x,y,z,A,B,C,D,E,F,G,H,I,J,K,L,M,N,P,Q,R,U,V,W,X,Y,Z,a0,a1,a2,a3,a4]) S =
  (zF (aUn Try.prog UnOp.not (dem x4) S) (fun v1 S1 => gdK (dem v1) true (ret b) S1 (fun v3 S2 => gdK (dem v1) true (zZ Try.prog false 46 x2) S2 (fun v4 S3 => gdK (dem v1) true ((zQ Try.prog O) 21 [(Value.int IntKind.i64 2), (dem v4)]) S3 (fun v5 S4 => gdK (dem v1) true ((zQ Try.prog O) 10 [(dem (dem v3)), (dem v5)]) S4 (fun v6 S5 => zF (wP (dem v1) v6 (Value.bool false) S5) (fun v7 S6 => gdK (dem v7) true (ret b) S6 (fun v9 S7 => gdK (dem v7) true (zZ Try.prog false 46 x3) S7 (fun b0 S8 => gdK (dem v7) true ((zQ Try.prog O) 21 [(Value.int IntKind.i64 2), (dem b0)]) S8 (fun b1 S9 => gdK (dem v7) true ((zQ Try.prog O) 10 [(dem (dem v9)), (dem b1)]) S9 (fun b2 c8 => gdK (dem v7) true (aUn Try.prog UnOp.not b2) c8 (fun b3 c9 => zF (wP (dem v7) b3 (Value.bool false) c9) (fun a5 d0 => gdK (dem a5) true (ret b) d0 (fun b4 d1 => gdK (dem a5) true (zZ Try.prog false 46 x2) d1 (fun b5 d2 => gdK (dem a5) true ((zQ Try.prog O) 21 [(Value.int IntKind.i64 3), (dem b5)]) d2 (fun b6 d3 => gdK (dem a5) true ((zQ Try.prog O) 10 [(dem (dem b4)), (dem b6)]) d3 (fun b7 d4 => gdK (dem a5) true (aUn Try.prog UnOp.not b7) d4 (fun b8 d5 => zF (wP (dem a5) b8 (Value.bool false) d5) (fun a6 d6 => gdK (dem a6) true (ret b) d6 (fun b9 d7 => gdK (dem a6) true (zZ Try.prog false 46 x2) d7 (fun c0 d8 => gdK (dem a6) true ((zQ Try.prog O) 21 [(Value.int IntKind.i64 1), (dem c0)]) d8 (fun c1 d9 => gdK (dem a6) true ((zQ Try.prog O) 10 [(dem (dem b9)), (dem c1)]) d9 (fun c2 f0 => zF (wP (dem a6) c2 (Value.bool false) f0) (fun a8 f1 => gdK (dem a8) true (ret b) f1 (fun c3 f2 => gdK (dem a8) true ((zQ Try.prog O) 11 [(dem (dem c3)), (Value.int IntKind.i64 2)]) f2 (fun c4 f3 => zF (wP (dem a8) c4 (Value.bool false) f3) (fun a7 f4 => gdK (dem a7) true (ret b) f4 (fun c5 f5 => gdK (dem a7) true ((zQ Try.prog O) 11 [(dem (dem c5)), (Value.int IntKind.i64 1)]) f5 (fun c6 f6 => gdK (dem a7) true (aUn Try.prog UnOp.not c6) f6 (fun c7 f7 => zF (wP (dem a7) c7 (Value.bool false) f7) (fun a9 f8 => some ([a9,b,x2,x3,x4,x5,x6,x7,x8,x9,c,d,f,g,i,k,l,m,n,o,p,dem x4,v1,dem v1,dem v3,v4,v5,v6,v7,dem v7,dem v9,b0,b1,b2,b3,a5,dem a5,dem b4,b5,b6,b7,b8,a6,dem a6,dem b9,c0,c1,c2,a8,dem a8,dem c3,c4,a7,dem a7,dem c5,c6,c7,dem a9], f8)) ()) ()) ()) ()) ()) ()) ()) ()) ()) ()) ()) ()) ()) ()) ()) ()) ()) ()) ()) ()) ()) ()) ()) ()) ()) ()) ()) ()) ()) ()) := by
 refine sP Try.f9 7 0 (v := x4) ?_
 refine sD Try.f9 7 1 (fun v1 S1 => ?_)
 refine sP Try.f9 7 2 (v := v1) ?_
 refine sG Try.f9 7 3 (j := 2) (fun v3 S2 => ?_)
 refine sG Try.f9 7 4 (j := 2) (fun v4 S3 => ?_)
 refine sG Try.f9 7 5 (j := 2) (fun v5 S4 => ?_)
 refine sG Try.f9 7 6 (j := 2) (fun v6 S5 => ?_)
 refine sD Try.f9 7 7 (fun v7 S6 => ?_)
 refine sP Try.f9 7 8 (v := v7) ?_
 refine sG Try.f9 7 9 (j := 8) (fun v9 S7 => ?_)
 refine sG Try.f9 7 10 (j := 8) (fun b0 S8 => ?_)
 refine sG Try.f9 7 11 (j := 8) (fun b1 S9 => ?_)
 refine sG Try.f9 7 12 (j := 8) (fun b2 c8 => ?_)
 refine sG Try.f9 7 13 (j := 8) (fun b3 c9 => ?_)
 refine sD Try.f9 7 14 (fun a5 d0 => ?_)
 refine sP Try.f9 7 15 (v := a5) ?_
 refine sG Try.f9 7 16 (j := 15) (fun b4 d1 => ?_)
 refine sG Try.f9 7 17 (j := 15) (fun b5 d2 => ?_)
 refine sG Try.f9 7 18 (j := 15) (fun b6 d3 => ?_)
 refine sG Try.f9 7 19 (j := 15) (fun b7 d4 => ?_)
 refine sG Try.f9 7 20 (j := 15) (fun b8 d5 => ?_)
 refine sD Try.f9 7 21 (fun a6 d6 => ?_)
 refine sP Try.f9 7 22 (v := a6) ?_
 refine sG Try.f9 7 23 (j := 22) (fun b9 d7 => ?_)
 refine sG Try.f9 7 24 (j := 22) (fun c0 d8 => ?_)
 refine sG Try.f9 7 25 (j := 22) (fun c1 d9 => ?_)
 refine sG Try.f9 7 26 (j := 22) (fun c2 f0 => ?_)
 refine sD Try.f9 7 27 (fun a8 f1 => ?_)
 refine sP Try.f9 7 28 (v := a8) ?_
 refine sG Try.f9 7 29 (j := 28) (fun c3 f2 => ?_)
 refine sG Try.f9 7 30 (j := 28) (fun c4 f3 => ?_)
 refine sD Try.f9 7 31 (fun a7 f4 => ?_)
 refine sP Try.f9 7 32 (v := a7) ?_
 refine sG Try.f9 7 33 (j := 32) (fun c5 f5 => ?_)
 refine sG Try.f9 7 34 (j := 32) (fun c6 f6 => ?_)
 refine sG Try.f9 7 35 (j := 32) (fun c7 f7 => ?_)
 refine sD Try.f9 7 36 (fun a9 f8 => ?_)
 refine sP Try.f9 7 37 (v := a9) ?_
 kernel_rfl
theorem zL.rs : type_of% (And.intro @zL.r0 (And.intro @zL.r1 (And.intro @zL.r2 (And.intro @zL.r3 (And.intro @zL.r4 (And.intro @zL.r5 (And.intro @zL.r6 (@zL.r7)))))))) := And.intro @zL.r0 (And.intro @zL.r1 (And.intro @zL.r2 (And.intro @zL.r3 (And.intro @zL.r4 (And.intro @zL.r5 (And.intro @zL.r6 (@zL.r7)))))))
theorem zL.runs {S S1 : zi} {e : AEx} {T : List Value} (h : zA Try.prog O false zL.code ([undef,undef,undef,undef,undef,undef,undef,undef,undef,undef,undef,undef,undef,undef,undef,undef,undef,undef,undef,undef,undef,undef,undef,undef,undef,undef,undef,undef,undef,undef,undef,undef,undef,undef,undef,undef,undef,undef,undef,undef,undef,undef,undef,undef,undef,undef,undef,undef,undef,undef,undef,undef,undef,undef,undef,undef,undef,undef]) zi.empty = some (e, T, S1)) (he : e = .normal ∨ e = .ret) (hca : [].all (jH 16) = true) (hcv : jH 16 (T.getD 0 undef) = true) : zQ Try.prog O 9 [] S = some (T.getD 0 undef, S) :=
 wZ rfl rfl Try.func9 (by decide) zL.body (by exact h) he (wV (a := T.getD 0 undef) ((show zG Try.prog T S1 Try.f9.results.toList = zG Try.prog T S1 [(ResultVar.tmp 0)] from by kernel_rfl).trans (by simp only [zG])) (by kernel_rfl)) hca hcv
end Go.Proofs.Ytfjogganfjkckaa
namespace Go.Proofs.Ytfjogganfjkckaa
open Go.Abs
abbrev zX.id : FuncId := 12
noncomputable def zX.code : Code := (Code.seq (Code.region 0 (reg Try.f12 0) true) (Code.seq (Code.region 1 (reg Try.f12 1) false) (Code.seq (Code.seq (Code.region 2 (reg Try.f12 2) false) (Code.cond (Operand.tmp 26) Code.ret Code.skip)) (Code.seq (Code.region 3 (reg Try.f12 3) false) (Code.seq (Code.region 4 (reg Try.f12 4) false) (Code.seq (Code.region 5 (reg Try.f12 5) false) (Code.cond (Operand.tmp 40) (Code.region 6 (reg Try.f12 6) true) Code.skip)))))))
theorem zX.body : Try.f12.body = some zX.code := by kernel_rfl
variable (b c x2 x3 x4 x5 Y x7 x8 x9 d f g i k l m n o p q r s t u w x y z A B C D E F G H I J K L M N P Q R U V W : Value) (S : zi)
theorem zX.d0 : kD Try.prog (reg Try.f12 0) = true := by kernel_rfl
theorem zX.ff0 : fixed Try.prog (reg Try.f12 0) = false := by kernel_rfl
theorem zX.k0 : checked Try.prog (reg Try.f12 0) = [] := by kernel_rfl
theorem zX.g0 : again Try.prog (reg Try.f12 0) = [] := by kernel_rfl
theorem zX.r0  : zA Try.prog O false (.region 0 (reg Try.f12 0) true) ([b,c,x2,x3,x4,x5,Y,x7,x8,x9,d,f,g,i,k,l,m,n,o,p,q,r,s,t,u,w,x,y,z,A,B,C,D,E,F,G,H,I,J,K,L,M,N,P,Q,R,U,V,W]) S =
  JE (zF (qZ (dem b) S) (fun a Z => zF (zo Try.prog 62 a 1 Z) (fun v2 S2 => zF (zZ Try.prog false 59 v2 S2) (fun v3 S3 => zF (qN Try.prog false false 33 9 (dem c) S3) (fun X S4 => zF (yL Try.prog 59 v3 X (Value.bool true) S4) (fun v6 S5 => some ([b,c,x2,x3,x4,x5,Y,x7,x8,dem b,a,v2,v3,dem c,X,l,m,n,o,p,q,r,s,t,u,w,x,y,z,A,B,C,D,E,F,G,H,I,J,K,L,M,N,P,Q,R,U,V,W], S5)) ()) ()) ()) ()) ()) := by
 rw [yQ zX.d0 zX.ff0 zX.k0 zX.g0]
 refine congrArg JE ?_
 refine tP Try.f12 0 0 (v := b) ?_
 refine tD Try.f12 0 1 (fun a Z => ?_)
 refine tD Try.f12 0 2 (fun v2 S2 => ?_)
 refine tD Try.f12 0 3 (fun v3 S3 => ?_)
 refine tP Try.f12 0 4 (v := c) ?_
 refine tD Try.f12 0 5 (fun X S4 => ?_)
 refine tD Try.f12 0 6 (fun v6 S5 => ?_)
 kernel_rfl
theorem zX.r1  : jv Try.prog ⟨false, false, false⟩ (zQ Try.prog O) (reg Try.f12 1) (reg Try.f12 1).toList ([b,c,x2,x3,x4,x5,Y,x7,x8,x9,d,f,g,i,k,l,m,n,o,p,q,r,s,t,u,w,x,y,z,A,B,C,D,E,F,G,H,I,J,K,L,M,N,P,Q,R,U,V,W]) S =
  (zF ((zQ Try.prog O) 22 [(dem (dem c))] S) (fun a Z => zF (zS a 0 Z) (fun v3 S2 => zF (zS (zV 0 a) 1 S2) (fun v4 S3 => zF (yJ Try.prog 48 S3) (fun X S4 => zF (wU Try.prog 48 X (dem v3) S4) (fun v6 S5 => some ([b,c,x2,x3,X,v4,Y,x7,x8,x9,d,f,g,i,k,zV 1 (zV 0 a),dem c,dem a,v3,dem v4,q,r,s,t,u,w,x,y,z,A,B,C,D,E,F,G,H,I,J,K,L,M,N,P,Q,R,U,V,W], S5)) ()) ()) ()) ()) ()) := by
 kernel_rfl
theorem zX.r2  : jv Try.prog ⟨false, false, false⟩ (zQ Try.prog O) (reg Try.f12 2) (reg Try.f12 2).toList ([b,c,x2,x3,x4,x5,Y,x7,x8,x9,d,f,g,i,k,l,m,n,o,p,q,r,s,t,u,w,x,y,z,A,B,C,D,E,F,G,H,I,J,K,L,M,N,P,Q,R,U,V,W]) S =
  (zF (jX Try.prog BinOp.neq 64 (dem x5) (Value.int IntKind.i64 0) S) (fun a Z => gdK (dem a) false (zo Try.prog 48 x4 0) Z (fun v3 S2 => gdK (dem a) false (zZ Try.prog false 3 v3) S2 (fun v4 S3 => gdK (dem a) false (jX Try.prog BinOp.neq 3 v4 (Value.int IntKind.i64 1)) S3 (fun X S4 => zF (wP (dem a) (Value.bool true) X S4) (fun v6 S5 => some ([b,c,x2,x3,x4,x5,Y,x7,x8,x9,d,f,g,i,k,l,m,n,o,p,dem x5,a,dem a,v3,v4,X,v6,y,z,A,B,C,D,E,F,G,H,I,J,K,L,M,N,P,Q,R,U,V,W], S5)) ()) ()) ()) ()) ()) := by
 refine sP Try.f12 2 0 (v := x5) ?_
 refine sD Try.f12 2 1 (fun a Z => ?_)
 refine sP Try.f12 2 2 (v := a) ?_
 refine sG Try.f12 2 3 (j := 2) (fun v3 S2 => ?_)
 refine sG Try.f12 2 4 (j := 2) (fun v4 S3 => ?_)
 refine sG Try.f12 2 5 (j := 2) (fun X S4 => ?_)
 refine sD Try.f12 2 6 (fun v6 S5 => ?_)
 kernel_rfl
theorem zX.r3  : jv Try.prog ⟨false, false, false⟩ (zQ Try.prog O) (reg Try.f12 3) (reg Try.f12 3).toList ([b,c,x2,x3,x4,x5,Y,x7,x8,x9,d,f,g,i,k,l,m,n,o,p,q,r,s,t,u,w,x,y,z,A,B,C,D,E,F,G,H,I,J,K,L,M,N,P,Q,R,U,V,W]) S =
  (zF (zo Try.prog 48 x4 7 S) (fun v0 Z => zF (zZ Try.prog false 46 v0 Z) (fun a S2 => zF ((zQ Try.prog O) 23 [(dem a)] S2) (fun v2 S3 => some ([b,c,x2,x3,x4,x5,v2,x7,x8,x9,d,f,g,i,k,l,m,n,o,p,q,r,s,t,u,w,x,v0,a,dem v2,B,C,D,E,F,G,H,I,J,K,L,M,N,P,Q,R,U,V,W], S3)) ()) ()) ()) := by
 kernel_rfl
theorem zX.r4  : jv Try.prog ⟨false, false, false⟩ (zQ Try.prog O) (reg Try.f12 4) (reg Try.f12 4).toList ([b,c,x2,x3,x4,x5,Y,x7,x8,x9,d,f,g,i,k,l,m,n,o,p,q,r,s,t,u,w,x,y,z,A,B,C,D,E,F,G,H,I,J,K,L,M,N,P,Q,R,U,V,W]) S =
  (zF (qZ (dem b) S) (fun a Z => zF (zo Try.prog 62 a 2 Z) (fun v2 S2 => zF (zZ Try.prog false 60 v2 S2) (fun v3 S3 => zF (xJ Try.prog false 60 v3 (dem Y) true S3) (fun X S4 => zF (zS X 0 S4) (fun v7 S5 => zF (zS (zV 0 X) 1 S5) (fun v8 S6 => some ([b,c,x2,x3,x4,x5,Y,v7,v8,x9,d,f,g,i,k,l,m,n,o,p,q,r,s,t,u,w,x,y,z,A,zV 1 (zV 0 X),dem b,a,v2,v3,dem Y,dem X,dem v7,dem v8,K,L,M,N,P,Q,R,U,V,W], S6)) ()) ()) ()) ()) ()) ()) := by
 kernel_rfl
theorem zX.r5  : jv Try.prog ⟨false, false, false⟩ (zQ Try.prog O) (reg Try.f12 5) (reg Try.f12 5).toList ([b,c,x2,x3,x4,x5,Y,x7,x8,x9,d,f,g,i,k,l,m,n,o,p,q,r,s,t,u,w,x,y,z,A,B,C,D,E,F,G,H,I,J,K,L,M,N,P,Q,R,U,V,W]) S =
  (zF (aUn Try.prog UnOp.not (dem x8) S) (fun a Z => some ([b,c,x2,x3,x4,x5,Y,x7,x8,x9,d,f,g,i,k,l,m,n,o,p,q,r,s,t,u,w,x,y,z,A,B,C,D,E,F,G,H,I,J,dem x8,a,M,N,P,Q,R,U,V,W], Z)) ()) := by
 kernel_rfl
theorem zX.d6 : kD Try.prog (reg Try.f12 6) = true := by kernel_rfl
theorem zX.ff6 : fixed Try.prog (reg Try.f12 6) = false := by kernel_rfl
theorem zX.k6 : checked Try.prog (reg Try.f12 6) = [0, 1, 2, 3, 4] := by kernel_rfl
theorem zX.g6 : again Try.prog (reg Try.f12 6) = [(3, 7)] := by kernel_rfl
theorem zX.r6  : zA Try.prog O false (.region 6 (reg Try.f12 6) true) ([b,c,x2,x3,x4,x5,Y,x7,x8,x9,d,f,g,i,k,l,m,n,o,p,q,r,s,t,u,w,x,y,z,A,B,C,D,E,F,G,H,I,J,K,L,M,N,P,Q,R,U,V,W]) S =
  JE (okK b ( zF (qZ (dem b) S) (fun a Z => okK a ( zF (zo Try.prog 62 a 2 Z) (fun v2 S2 => okK v2 ( zF (zZ Try.prog false 60 v2 S2) (fun v3 S3 => okK v3 ( okK Y ( zF (zo Try.prog 48 x4 7 S3) (fun X S4 => zF (zZ Try.prog false 46 X S4) (fun v6 S5 => zF ((zQ Try.prog O) 24 [(dem v6)] S5) (fun v7 S6 => zF (yL Try.prog 60 v3 (dem Y) (dem v7) S6) (fun v8 S7 => ckK (ku v2 S2 S6 && (true)) (some ([b,c,x2,x3,x4,x5,Y,x7,x8,x9,d,f,g,i,k,l,m,n,o,p,q,r,s,t,u,w,x,y,z,A,B,C,D,E,F,G,H,I,J,K,L,dem b,a,v2,v3,dem Y,X,v6,v7], S7)) ()) ()) ()) ()) ()) ()) ()) ()) ()) ()) ()) ()) ()) := by
 rw [yQ zX.d6 zX.ff6 zX.k6 zX.g6]
 refine congrArg JE ?_
 refine uPC Try.f12 6 0 (v := b) (pe := undef) ?_
 refine uDC Try.f12 6 1 (pe := undef) (fun a Z => ?_)
 refine uDC Try.f12 6 2 (pe := undef) (fun v2 S2 => ?_)
 refine uDC Try.f12 6 3 (pe := v2) (fun v3 S3 => ?_)
 refine uPC Try.f12 6 4 (v := Y) (pe := undef) ?_
 refine uD Try.f12 6 5 (pe := undef) (fun X S4 => ?_)
 refine uD Try.f12 6 6 (pe := X) (fun v6 S5 => ?_)
 refine uD Try.f12 6 7 (pe := undef) (fun v7 S6 => ?_)
 refine uD Try.f12 6 8 (pe := undef) (fun v8 S7 => ?_)
 kernel_rfl
theorem zX.rs : type_of% (And.intro @zX.r0 (And.intro @zX.r1 (And.intro @zX.r2 (And.intro @zX.r3 (And.intro @zX.r4 (And.intro @zX.r5 (@zX.r6))))))) := And.intro @zX.r0 (And.intro @zX.r1 (And.intro @zX.r2 (And.intro @zX.r3 (And.intro @zX.r4 (And.intro @zX.r5 (@zX.r6))))))
theorem zX.runs {b c : Value} {S Z : zi} {e : AEx} {T : List Value} (h : zA Try.prog O false zX.code ([b,c,undef,undef,undef,undef,undef,undef,undef,undef,undef,undef,undef,undef,undef,undef,undef,undef,undef,undef,undef,undef,undef,undef,undef,undef,undef,undef,undef,undef,undef,undef,undef,undef,undef,undef,undef,undef,undef,undef,undef,undef,undef,undef,undef,undef,undef,undef,undef]) S = some (e, T, Z)) (he : e = .normal ∨ e = .ret) : zQ Try.prog O 12 [b, c] S = some (Value.tuple #[], Z) :=
 yB rfl rfl Try.func12 (by decide) zX.body (by exact h) he rfl
end Go.Proofs.Ytfjogganfjkckaa
namespace Go.Proofs.Ytfjogganfjkckaa
open Go.Abs
abbrev zy.id : FuncId := 10
noncomputable def zy.code : Code := (Code.seq (Code.region 0 (reg Try.f10 0) false) (Code.seq (Code.region 1 (reg Try.f10 1) false) (Code.seq (Code.block 0 (Code.seq (Code.region 2 (reg Try.f10 2) false) (Code.cond (Operand.tmp 15) (Code.seq (Code.region 3 (reg Try.f10 3) false) Code.ret) (Code.seq (Code.region 4 (reg Try.f10 4) true) (Code.cond (Operand.tmp 18) (Code.seq (Code.region 5 (reg Try.f10 5) false) Code.ret) (Code.seq (Code.region 6 (reg Try.f10 6) false) (Code.cond (Operand.tmp 26) (Code.seq (Code.region 7 (reg Try.f10 7) false) Code.ret) (Code.seq (Code.region 8 (reg Try.f10 8) false) (Code.cond (Operand.tmp 32) (Code.seq (Code.region 9 (reg Try.f10 9) false) Code.ret) Code.skip))))))))) (Code.seq (Code.region 10 (reg Try.f10 10) false) (Code.seq (Code.region 11 (reg Try.f10 11) false) (Code.seq (Code.seq (Code.region 12 (reg Try.f10 12) false) (Code.cond (Operand.tmp 48) (Code.seq (Code.region 13 (reg Try.f10 13) false) Code.ret) Code.skip)) (Code.seq (Code.seq (Code.region 14 (reg Try.f10 14) false) (Code.cond (Operand.tmp 59) (Code.seq (Code.region 15 (reg Try.f10 15) false) Code.ret) Code.skip)) (Code.seq (Code.region 16 (reg Try.f10 16) true) (Code.seq (Code.region 17 (reg Try.f10 17) false) Code.ret)))))))))
theorem zy.body : Try.f10.body = some zy.code := by kernel_rfl
variable (x0 x1 x2 x3 x4 x5 x6 x7 x8 x9 b c d f g i j k l m n o p q r s t u w x y z A B C D E F G H I J K L M N P Q R U V W X Y Z a0 a1 a2 a3 a4 a5 a6 a7 a8 a9 b0 b1 b2 : Value) (S : zi)
theorem zy.r0  : jv Try.prog ⟨false, false, false⟩ (zQ Try.prog O) (reg Try.f10 0) (reg Try.f10 0).toList ([x0,x1,x2,x3,x4,x5,x6,x7,x8,x9,b,c,d,f,g,i,j,k,l,m,n,o,p,q,r,s,t,u,w,x,y,z,A,B,C,D,E,F,G,H,I,J,K,L,M,N,P,Q,R,U,V,W,X,Y,Z,a0,a1,a2,a3,a4,a5,a6,a7,a8,a9,b0,b1,b2]) S =
  ( some ([x0,x1,x2,x3,Value.bool false,x5,x6,x7,x8,x9,b,c,d,f,g,i,j,k,l,m,n,o,p,q,r,s,t,u,w,x,y,z,A,B,C,D,E,F,G,H,I,J,K,L,M,N,P,Q,R,U,V,W,X,Y,Z,a0,a1,a2,a3,a4,a5,a6,a7,a8,a9,b0,b1,b2], S)) := by
 kernel_rfl
theorem zy.r1  : jv Try.prog ⟨false, false, false⟩ (zQ Try.prog O) (reg Try.f10 1) (reg Try.f10 1).toList ([x0,x1,x2,x3,x4,x5,x6,x7,x8,x9,b,c,d,f,g,i,j,k,l,m,n,o,p,q,r,s,t,u,w,x,y,z,A,B,C,D,E,F,G,H,I,J,K,L,M,N,P,Q,R,U,V,W,X,Y,Z,a0,a1,a2,a3,a4,a5,a6,a7,a8,a9,b0,b1,b2]) S =
  (zF ((zQ Try.prog O) 22 [(dem (dem x1))] S) (fun v1 S1 => zF (zS v1 0 S1) (fun v3 S2 => zF (zS (zV 0 v1) 1 S2) (fun v4 S3 => zF (yJ Try.prog 48 S3) (fun v5 S4 => zF (wU Try.prog 48 v5 (dem v3) S4) (fun v6 S5 => some ([x0,x1,x2,x3,x4,v5,v4,x7,x8,x9,zV 1 (zV 0 v1),dem x1,dem v1,v3,dem v4,i,j,k,l,m,n,o,p,q,r,s,t,u,w,x,y,z,A,B,C,D,E,F,G,H,I,J,K,L,M,N,P,Q,R,U,V,W,X,Y,Z,a0,a1,a2,a3,a4,a5,a6,a7,a8,a9,b0,b1,b2], S5)) ()) ()) ()) ()) ()) := by
 kernel_rfl
theorem zy.r2  : jv Try.prog ⟨false, false, false⟩ (zQ Try.prog O) (reg Try.f10 2) (reg Try.f10 2).toList ([x0,x1,x2,x3,x4,x5,x6,x7,x8,x9,b,c,d,f,g,i,j,k,l,m,n,o,p,q,r,s,t,u,w,x,y,z,A,B,C,D,E,F,G,H,I,J,K,L,M,N,P,Q,R,U,V,W,X,Y,Z,a0,a1,a2,a3,a4,a5,a6,a7,a8,a9,b0,b1,b2]) S =
  (zF (jX Try.prog BinOp.neq 64 (dem x6) (Value.int IntKind.i64 0) S) (fun v1 S1 => some ([x0,x1,x2,x3,x4,x5,x6,x7,x8,x9,b,c,d,f,g,v1,dem x6,dem v1,l,m,n,o,p,q,r,s,t,u,w,x,y,z,A,B,C,D,E,F,G,H,I,J,K,L,M,N,P,Q,R,U,V,W,X,Y,Z,a0,a1,a2,a3,a4,a5,a6,a7,a8,a9,b0,b1,b2], S1)) ()) := by
 kernel_rfl
theorem zy.r3  : jv Try.prog ⟨false, false, false⟩ (zQ Try.prog O) (reg Try.f10 3) (reg Try.f10 3).toList ([x0,x1,x2,x3,x4,x5,x6,x7,x8,x9,b,c,d,f,g,i,j,k,l,m,n,o,p,q,r,s,t,u,w,x,y,z,A,B,C,D,E,F,G,H,I,J,K,L,M,N,P,Q,R,U,V,W,X,Y,Z,a0,a1,a2,a3,a4,a5,a6,a7,a8,a9,b0,b1,b2]) S =
  ( some ([x0,x1,x2,x3,Value.bool false,x5,x6,x7,x8,x9,b,c,d,f,g,i,j,k,l,m,n,o,p,q,r,s,t,u,w,x,y,z,A,B,C,D,E,F,G,H,I,J,K,L,M,N,P,Q,R,U,V,W,X,Y,Z,a0,a1,a2,a3,a4,a5,a6,a7,a8,a9,b0,b1,b2], S)) := by
 kernel_rfl
theorem zy.d4 : kD Try.prog (reg Try.f10 4) = true := by kernel_rfl
theorem zy.ff4 : fixed Try.prog (reg Try.f10 4) = false := by kernel_rfl
theorem zy.k4 : checked Try.prog (reg Try.f10 4) = [] := by kernel_rfl
theorem zy.g4 : again Try.prog (reg Try.f10 4) = [] := by kernel_rfl
theorem zy.r4  : zA Try.prog O false (.region 4 (reg Try.f10 4) true) ([x0,x1,x2,x3,x4,x5,x6,x7,x8,x9,b,c,d,f,g,i,j,k,l,m,n,o,p,q,r,s,t,u,w,x,y,z,A,B,C,D,E,F,G,H,I,J,K,L,M,N,P,Q,R,U,V,W,X,Y,Z,a0,a1,a2,a3,a4,a5,a6,a7,a8,a9,b0,b1,b2]) S =
  JE (zF (qZ (dem x0) S) (fun v1 S1 => zF (zo Try.prog 62 v1 1 S1) (fun v2 S2 => zF (zZ Try.prog false 59 v2 S2) (fun v3 S3 => zF (qN Try.prog false false 33 9 (dem x1) S3) (fun v5 S4 => zF (xJ Try.prog false 59 v3 v5 false S4) (fun v6 S5 => some ([x0,x1,x2,x3,x4,x5,x6,x7,x8,x9,b,c,d,f,g,i,j,k,v6,dem x0,v1,v2,v3,dem x1,v5,dem v6,t,u,w,x,y,z,A,B,C,D,E,F,G,H,I,J,K,L,M,N,P,Q,R,U,V,W,X,Y,Z,a0,a1,a2,a3,a4,a5,a6,a7,a8,a9,b0,b1,b2], S5)) ()) ()) ()) ()) ()) := by
 rw [yQ zy.d4 zy.ff4 zy.k4 zy.g4]
 refine congrArg JE ?_
 refine tP Try.f10 4 0 (v := x0) ?_
 refine tD Try.f10 4 1 (fun v1 S1 => ?_)
 refine tD Try.f10 4 2 (fun v2 S2 => ?_)
 refine tD Try.f10 4 3 (fun v3 S3 => ?_)
 refine tP Try.f10 4 4 (v := x1) ?_
 refine tD Try.f10 4 5 (fun v5 S4 => ?_)
 refine tD Try.f10 4 6 (fun v6 S5 => ?_)
 refine tP Try.f10 4 7 (v := v6) ?_
 kernel_rfl
theorem zy.r5  : jv Try.prog ⟨false, false, false⟩ (zQ Try.prog O) (reg Try.f10 5) (reg Try.f10 5).toList ([x0,x1,x2,x3,x4,x5,x6,x7,x8,x9,b,c,d,f,g,i,j,k,l,m,n,o,p,q,r,s,t,u,w,x,y,z,A,B,C,D,E,F,G,H,I,J,K,L,M,N,P,Q,R,U,V,W,X,Y,Z,a0,a1,a2,a3,a4,a5,a6,a7,a8,a9,b0,b1,b2]) S =
  ( some ([x0,x1,x2,x3,Value.bool true,x5,x6,x7,x8,x9,b,c,d,f,g,i,j,k,l,m,n,o,p,q,r,s,t,u,w,x,y,z,A,B,C,D,E,F,G,H,I,J,K,L,M,N,P,Q,R,U,V,W,X,Y,Z,a0,a1,a2,a3,a4,a5,a6,a7,a8,a9,b0,b1,b2], S)) := by
 kernel_rfl
theorem zy.r6  : jv Try.prog ⟨false, false, false⟩ (zQ Try.prog O) (reg Try.f10 6) (reg Try.f10 6).toList ([x0,x1,x2,x3,x4,x5,x6,x7,x8,x9,b,c,d,f,g,i,j,k,l,m,n,o,p,q,r,s,t,u,w,x,y,z,A,B,C,D,E,F,G,H,I,J,K,L,M,N,P,Q,R,U,V,W,X,Y,Z,a0,a1,a2,a3,a4,a5,a6,a7,a8,a9,b0,b1,b2]) S =
  (zF (zo Try.prog 48 x5 1 S) (fun v1 S1 => zF (zZ Try.prog false 3 v1 S1) (fun v2 S2 => zF ((zQ Try.prog O) 11 [(dem (dem x0)), (dem v2)] S2) (fun v3 S3 => zF (aUn Try.prog UnOp.not v3 S3) (fun v4 S4 => some ([x0,x1,x2,x3,x4,x5,x6,x7,x8,x9,b,c,d,f,g,i,j,k,l,m,n,o,p,q,r,s,v4,dem x0,v1,v2,v3,dem v4,A,B,C,D,E,F,G,H,I,J,K,L,M,N,P,Q,R,U,V,W,X,Y,Z,a0,a1,a2,a3,a4,a5,a6,a7,a8,a9,b0,b1,b2], S4)) ()) ()) ()) ()) := by
 kernel_rfl
theorem zy.r7  : jv Try.prog ⟨false, false, false⟩ (zQ Try.prog O) (reg Try.f10 7) (reg Try.f10 7).toList ([x0,x1,x2,x3,x4,x5,x6,x7,x8,x9,b,c,d,f,g,i,j,k,l,m,n,o,p,q,r,s,t,u,w,x,y,z,A,B,C,D,E,F,G,H,I,J,K,L,M,N,P,Q,R,U,V,W,X,Y,Z,a0,a1,a2,a3,a4,a5,a6,a7,a8,a9,b0,b1,b2]) S =
  ( some ([x0,x1,x2,x3,Value.bool false,x5,x6,x7,x8,x9,b,c,d,f,g,i,j,k,l,m,n,o,p,q,r,s,t,u,w,x,y,z,A,B,C,D,E,F,G,H,I,J,K,L,M,N,P,Q,R,U,V,W,X,Y,Z,a0,a1,a2,a3,a4,a5,a6,a7,a8,a9,b0,b1,b2], S)) := by
 kernel_rfl
theorem zy.r8  : jv Try.prog ⟨false, false, false⟩ (zQ Try.prog O) (reg Try.f10 8) (reg Try.f10 8).toList ([x0,x1,x2,x3,x4,x5,x6,x7,x8,x9,b,c,d,f,g,i,j,k,l,m,n,o,p,q,r,s,t,u,w,x,y,z,A,B,C,D,E,F,G,H,I,J,K,L,M,N,P,Q,R,U,V,W,X,Y,Z,a0,a1,a2,a3,a4,a5,a6,a7,a8,a9,b0,b1,b2]) S =
  (zF (zo Try.prog 48 x5 0 S) (fun v0 S1 => zF (zZ Try.prog false 3 v0 S1) (fun v1 S2 => zF (jX Try.prog BinOp.neq 3 v1 (Value.int IntKind.i64 1) S2) (fun v2 S3 => some ([x0,x1,x2,x3,x4,x5,x6,x7,x8,x9,b,c,d,f,g,i,j,k,l,m,n,o,p,q,r,s,t,u,w,x,y,z,v2,v0,v1,dem v2,E,F,G,H,I,J,K,L,M,N,P,Q,R,U,V,W,X,Y,Z,a0,a1,a2,a3,a4,a5,a6,a7,a8,a9,b0,b1,b2], S3)) ()) ()) ()) := by
 kernel_rfl
theorem zy.r9  : jv Try.prog ⟨false, false, false⟩ (zQ Try.prog O) (reg Try.f10 9) (reg Try.f10 9).toList ([x0,x1,x2,x3,x4,x5,x6,x7,x8,x9,b,c,d,f,g,i,j,k,l,m,n,o,p,q,r,s,t,u,w,x,y,z,A,B,C,D,E,F,G,H,I,J,K,L,M,N,P,Q,R,U,V,W,X,Y,Z,a0,a1,a2,a3,a4,a5,a6,a7,a8,a9,b0,b1,b2]) S =
  ( some ([x0,x1,x2,x3,Value.bool true,x5,x6,x7,x8,x9,b,c,d,f,g,i,j,k,l,m,n,o,p,q,r,s,t,u,w,x,y,z,A,B,C,D,E,F,G,H,I,J,K,L,M,N,P,Q,R,U,V,W,X,Y,Z,a0,a1,a2,a3,a4,a5,a6,a7,a8,a9,b0,b1,b2], S)) := by
 kernel_rfl
theorem zy.r10  : jv Try.prog ⟨false, false, false⟩ (zQ Try.prog O) (reg Try.f10 10) (reg Try.f10 10).toList ([x0,x1,x2,x3,x4,x5,x6,x7,x8,x9,b,c,d,f,g,i,j,k,l,m,n,o,p,q,r,s,t,u,w,x,y,z,A,B,C,D,E,F,G,H,I,J,K,L,M,N,P,Q,R,U,V,W,X,Y,Z,a0,a1,a2,a3,a4,a5,a6,a7,a8,a9,b0,b1,b2]) S =
  (zF (zo Try.prog 48 x5 7 S) (fun v0 S1 => zF (zZ Try.prog false 46 v0 S1) (fun v1 S2 => zF ((zQ Try.prog O) 23 [(dem v1)] S2) (fun v2 S3 => some ([x0,x1,x2,x3,x4,x5,x6,v2,x8,x9,b,c,d,f,g,i,j,k,l,m,n,o,p,q,r,s,t,u,w,x,y,z,A,B,C,D,v0,v1,dem v2,H,I,J,K,L,M,N,P,Q,R,U,V,W,X,Y,Z,a0,a1,a2,a3,a4,a5,a6,a7,a8,a9,b0,b1,b2], S3)) ()) ()) ()) := by
 kernel_rfl
theorem zy.r11  : jv Try.prog ⟨false, false, false⟩ (zQ Try.prog O) (reg Try.f10 11) (reg Try.f10 11).toList ([x0,x1,x2,x3,x4,x5,x6,x7,x8,x9,b,c,d,f,g,i,j,k,l,m,n,o,p,q,r,s,t,u,w,x,y,z,A,B,C,D,E,F,G,H,I,J,K,L,M,N,P,Q,R,U,V,W,X,Y,Z,a0,a1,a2,a3,a4,a5,a6,a7,a8,a9,b0,b1,b2]) S =
  (zF (qZ (dem x0) S) (fun v1 S1 => zF (zo Try.prog 62 v1 2 S1) (fun v2 S2 => zF (zZ Try.prog false 60 v2 S2) (fun v3 S3 => zF (xJ Try.prog false 60 v3 (dem x7) true S3) (fun v5 S4 => zF (zS v5 0 S4) (fun v7 S5 => zF (zS (zV 0 v5) 1 S5) (fun v8 S6 => some ([x0,x1,x2,x3,x4,x5,x6,x7,v7,v8,b,c,d,f,g,i,j,k,l,m,n,o,p,q,r,s,t,u,w,x,y,z,A,B,C,D,E,F,G,zV 1 (zV 0 v5),dem x0,v1,v2,v3,dem x7,dem v5,dem v7,dem v8,R,U,V,W,X,Y,Z,a0,a1,a2,a3,a4,a5,a6,a7,a8,a9,b0,b1,b2], S6)) ()) ()) ()) ()) ()) ()) := by
 kernel_rfl
theorem zy.r12  : jv Try.prog ⟨false, false, false⟩ (zQ Try.prog O) (reg Try.f10 12) (reg Try.f10 12).toList ([x0,x1,x2,x3,x4,x5,x6,x7,x8,x9,b,c,d,f,g,i,j,k,l,m,n,o,p,q,r,s,t,u,w,x,y,z,A,B,C,D,E,F,G,H,I,J,K,L,M,N,P,Q,R,U,V,W,X,Y,Z,a0,a1,a2,a3,a4,a5,a6,a7,a8,a9,b0,b1,b2]) S =
  ( some ([x0,x1,x2,x3,x4,x5,x6,x7,x8,x9,b,c,d,f,g,i,j,k,l,m,n,o,p,q,r,s,t,u,w,x,y,z,A,B,C,D,E,F,G,H,I,J,K,L,M,N,P,Q,dem x9,U,V,W,X,Y,Z,a0,a1,a2,a3,a4,a5,a6,a7,a8,a9,b0,b1,b2], S)) := by
 kernel_rfl
theorem zy.r13  : jv Try.prog ⟨false, false, false⟩ (zQ Try.prog O) (reg Try.f10 13) (reg Try.f10 13).toList ([x0,x1,x2,x3,x4,x5,x6,x7,x8,x9,b,c,d,f,g,i,j,k,l,m,n,o,p,q,r,s,t,u,w,x,y,z,A,B,C,D,E,F,G,H,I,J,K,L,M,N,P,Q,R,U,V,W,X,Y,Z,a0,a1,a2,a3,a4,a5,a6,a7,a8,a9,b0,b1,b2]) S =
  (zF (zo Try.prog 48 x5 7 S) (fun v1 S1 => zF (zZ Try.prog false 46 v1 S1) (fun v2 S2 => zF ((zQ Try.prog O) 24 [(dem v2)] S2) (fun v3 S3 => zF (jX Try.prog BinOp.eql 9 (dem x8) v3 S3) (fun v4 S4 => some ([x0,x1,x2,x3,v4,x5,x6,x7,x8,x9,b,c,d,f,g,i,j,k,l,m,n,o,p,q,r,s,t,u,w,x,y,z,A,B,C,D,E,F,G,H,I,J,K,L,M,N,P,Q,R,dem x8,v1,v2,v3,dem v4,Z,a0,a1,a2,a3,a4,a5,a6,a7,a8,a9,b0,b1,b2], S4)) ()) ()) ()) ()) := by
 kernel_rfl
theorem zy.r14  : jv Try.prog ⟨false, false, false⟩ (zQ Try.prog O) (reg Try.f10 14) (reg Try.f10 14).toList ([x0,x1,x2,x3,x4,x5,x6,x7,x8,x9,b,c,d,f,g,i,j,k,l,m,n,o,p,q,r,s,t,u,w,x,y,z,A,B,C,D,E,F,G,H,I,J,K,L,M,N,P,Q,R,U,V,W,X,Y,Z,a0,a1,a2,a3,a4,a5,a6,a7,a8,a9,b0,b1,b2]) S =
  (zF (zo Try.prog 48 x5 7 S) (fun v1 S1 => zF (zo Try.prog 46 v1 1 S1) (fun v2 S2 => zF (zZ Try.prog false 3 v2 S2) (fun v3 S3 => zF ((zQ Try.prog O) 11 [(dem (dem x0)), (dem v3)] S3) (fun v4 S4 => zF (aUn Try.prog UnOp.not v4 S4) (fun v5 S5 => some ([x0,x1,x2,x3,x4,x5,x6,x7,x8,x9,b,c,d,f,g,i,j,k,l,m,n,o,p,q,r,s,t,u,w,x,y,z,A,B,C,D,E,F,G,H,I,J,K,L,M,N,P,Q,R,U,V,W,X,Y,dem x0,v1,v2,v3,v4,v5,a5,a6,a7,a8,a9,b0,b1,b2], S5)) ()) ()) ()) ()) ()) := by
 kernel_rfl
theorem zy.r15  : jv Try.prog ⟨false, false, false⟩ (zQ Try.prog O) (reg Try.f10 15) (reg Try.f10 15).toList ([x0,x1,x2,x3,x4,x5,x6,x7,x8,x9,b,c,d,f,g,i,j,k,l,m,n,o,p,q,r,s,t,u,w,x,y,z,A,B,C,D,E,F,G,H,I,J,K,L,M,N,P,Q,R,U,V,W,X,Y,Z,a0,a1,a2,a3,a4,a5,a6,a7,a8,a9,b0,b1,b2]) S =
  ( some ([x0,x1,x2,x3,Value.bool false,x5,x6,x7,x8,x9,b,c,d,f,g,i,j,k,l,m,n,o,p,q,r,s,t,u,w,x,y,z,A,B,C,D,E,F,G,H,I,J,K,L,M,N,P,Q,R,U,V,W,X,Y,Z,a0,a1,a2,a3,a4,a5,a6,a7,a8,a9,b0,b1,b2], S)) := by
 kernel_rfl
theorem zy.d16 : kD Try.prog (reg Try.f10 16) = true := by kernel_rfl
theorem zy.aku : fixed Try.prog (reg Try.f10 16) = false := by kernel_rfl
theorem zy.k16 : checked Try.prog (reg Try.f10 16) = [0, 1, 2, 3, 4] := by kernel_rfl
theorem zy.g16 : again Try.prog (reg Try.f10 16) = [(3, 7)] := by kernel_rfl
theorem zy.r16  : zA Try.prog O false (.region 16 (reg Try.f10 16) true) ([x0,x1,x2,x3,x4,x5,x6,x7,x8,x9,b,c,d,f,g,i,j,k,l,m,n,o,p,q,r,s,t,u,w,x,y,z,A,B,C,D,E,F,G,H,I,J,K,L,M,N,P,Q,R,U,V,W,X,Y,Z,a0,a1,a2,a3,a4,a5,a6,a7,a8,a9,b0,b1,b2]) S =
  JE (okK x0 ( zF (qZ (dem x0) S) (fun v1 S1 => okK v1 ( zF (zo Try.prog 62 v1 2 S1) (fun v2 S2 => okK v2 ( zF (zZ Try.prog false 60 v2 S2) (fun v3 S3 => okK v3 ( okK x7 ( zF (zo Try.prog 48 x5 7 S3) (fun v5 S4 => zF (zZ Try.prog false 46 v5 S4) (fun v6 S5 => zF ((zQ Try.prog O) 24 [(dem v6)] S5) (fun v7 S6 => zF (yL Try.prog 60 v3 (dem x7) (dem v7) S6) (fun v8 S7 => ckK (ku v2 S2 S6 && (true)) (some ([x0,x1,x2,x3,x4,x5,x6,x7,x8,x9,b,c,d,f,g,i,j,k,l,m,n,o,p,q,r,s,t,u,w,x,y,z,A,B,C,D,E,F,G,H,I,J,K,L,M,N,P,Q,R,U,V,W,X,Y,Z,a0,a1,a2,a3,a4,dem x0,v1,v2,v3,dem x7,v5,v6,v7], S7)) ()) ()) ()) ()) ()) ()) ()) ()) ()) ()) ()) ()) ()) := by
 rw [yQ zy.d16 zy.aku zy.k16 zy.g16]
 refine congrArg JE ?_
 refine uPC Try.f10 16 0 (v := x0) (pe := undef) ?_
 refine uDC Try.f10 16 1 (pe := undef) (fun v1 S1 => ?_)
 refine uDC Try.f10 16 2 (pe := undef) (fun v2 S2 => ?_)
 refine uDC Try.f10 16 3 (pe := v2) (fun v3 S3 => ?_)
 refine uPC Try.f10 16 4 (v := x7) (pe := undef) ?_
 refine uD Try.f10 16 5 (pe := undef) (fun v5 S4 => ?_)
 refine uD Try.f10 16 6 (pe := v5) (fun v6 S5 => ?_)
 refine uD Try.f10 16 7 (pe := undef) (fun v7 S6 => ?_)
 refine uD Try.f10 16 8 (pe := undef) (fun v8 S7 => ?_)
 kernel_rfl
theorem zy.r17  : jv Try.prog ⟨false, false, false⟩ (zQ Try.prog O) (reg Try.f10 17) (reg Try.f10 17).toList ([x0,x1,x2,x3,x4,x5,x6,x7,x8,x9,b,c,d,f,g,i,j,k,l,m,n,o,p,q,r,s,t,u,w,x,y,z,A,B,C,D,E,F,G,H,I,J,K,L,M,N,P,Q,R,U,V,W,X,Y,Z,a0,a1,a2,a3,a4,a5,a6,a7,a8,a9,b0,b1,b2]) S =
  ( some ([x0,x1,x2,x3,Value.bool true,x5,x6,x7,x8,x9,b,c,d,f,g,i,j,k,l,m,n,o,p,q,r,s,t,u,w,x,y,z,A,B,C,D,E,F,G,H,I,J,K,L,M,N,P,Q,R,U,V,W,X,Y,Z,a0,a1,a2,a3,a4,a5,a6,a7,a8,a9,b0,b1,b2], S)) := by
 kernel_rfl
theorem zy.rs : type_of% (And.intro @zy.r0 (And.intro @zy.r1 (And.intro @zy.r2 (And.intro @zy.r3 (And.intro @zy.r4 (And.intro @zy.r5 (And.intro @zy.r6 (And.intro @zy.r7 (And.intro @zy.r8 (And.intro @zy.r9 (And.intro @zy.r10 (And.intro @zy.r11 (And.intro @zy.r12 (And.intro @zy.r13 (And.intro @zy.r14 (And.intro @zy.r15 (And.intro @zy.r16 (@zy.r17)))))))))))))))))) := And.intro @zy.r0 (And.intro @zy.r1 (And.intro @zy.r2 (And.intro @zy.r3 (And.intro @zy.r4 (And.intro @zy.r5 (And.intro @zy.r6 (And.intro @zy.r7 (And.intro @zy.r8 (And.intro @zy.r9 (And.intro @zy.r10 (And.intro @zy.r11 (And.intro @zy.r12 (And.intro @zy.r13 (And.intro @zy.r14 (And.intro @zy.r15 (And.intro @zy.r16 (@zy.r17)))))))))))))))))
theorem zy.runs {x0 x1 : Value} {S S1 : zi} {e : AEx} {T : List Value} (h : zA Try.prog O false zy.code ([x0,x1,undef,undef,undef,undef,undef,undef,undef,undef,undef,undef,undef,undef,undef,undef,undef,undef,undef,undef,undef,undef,undef,undef,undef,undef,undef,undef,undef,undef,undef,undef,undef,undef,undef,undef,undef,undef,undef,undef,undef,undef,undef,undef,undef,undef,undef,undef,undef,undef,undef,undef,undef,undef,undef,undef,undef,undef,undef,undef,undef,undef,undef,undef,undef,undef,undef,undef]) S = some (e, T, S1)) (he : e = .normal ∨ e = .ret) : zQ Try.prog O 10 [x0, x1] S = some (T.getD 4 undef, S1) :=
 yB rfl rfl Try.func10 (by decide) zy.body (by exact h) he (wV (a := T.getD 4 undef) ((show zG Try.prog T S1 Try.f10.results.toList = zG Try.prog T S1 [(ResultVar.tmp 4)] from by kernel_rfl).trans (by simp only [zG])) (by kernel_rfl))
end Go.Proofs.Ytfjogganfjkckaa
namespace Go.Proofs.Ytfjogganfjkckaa
open Go.Abs
abbrev yY.id : FuncId := 8
noncomputable def yY.code : Code := (Code.seq (Code.region 0 (reg Try.f8 0) false) (Code.seq (Code.region 1 (reg Try.f8 1) false) Code.ret))
theorem yY.body : Try.f8.body = some yY.code := by kernel_rfl
variable (b d m f g i j k l : Value) (S : zi)
theorem yY.r0  : jv Try.prog ⟨false, false, false⟩ (zQ Try.prog O) (reg Try.f8 0) (reg Try.f8 0).toList ([b,d,m,f,g,i,j,k,l]) S =
  ( some ([b,d,Value.pointer none,f,g,i,j,k,l], S)) := by
 kernel_rfl
theorem yY.r1  : jv Try.prog ⟨false, false, false⟩ (zQ Try.prog O) (reg Try.f8 1) (reg Try.f8 1).toList ([b,d,m,f,g,i,j,k,l]) S =
  (zF ((zQ Try.prog O) 20 [(dem (dem b))] S) (fun n c => zF (xY Try.prog 59 none c) (fun o s => zF (xY Try.prog 60 none s) (fun p t => zF (yu Try.prog 62 [(0, (dem n)), (1, (dem o)), (2, (dem p))] t) (fun q u => zF (Jo (dem q) u) (fun r v => some ([b,d,r,dem b,n,o,p,q,dem r], v)) ()) ()) ()) ()) ()) := by
 kernel_rfl
theorem yY.rs : type_of% (And.intro @yY.r0 (@yY.r1)) := And.intro @yY.r0 (@yY.r1)
theorem yY.runs {b : Value} {S c : zi} {e : AEx} {T : List Value} (h : zA Try.prog O false yY.code ([b,undef,undef,undef,undef,undef,undef,undef,undef]) S = some (e, T, c)) (he : e = .normal ∨ e = .ret) : zQ Try.prog O 8 [b] S = some (T.getD 2 undef, c) :=
 yB rfl rfl Try.func8 (by decide) yY.body (by exact h) he (wV (a := T.getD 2 undef) ((show zG Try.prog T c Try.f8.results.toList = zG Try.prog T c [(ResultVar.tmp 2)] from by kernel_rfl).trans (by simp only [zG])) (by kernel_rfl))
end Go.Proofs.Ytfjogganfjkckaa
namespace Go.Proofs.Ytfjogganfjkckaa
open Go.Abs
abbrev jV.id : FuncId := 11
noncomputable def jV.code : Code := (Code.seq (Code.region 0 (reg Try.f11 0) false) (Code.seq (Code.region 1 (reg Try.f11 1) false) Code.ret))
theorem jV.body : Try.f11.body = some jV.code := by kernel_rfl
variable (b c g i o j k l m n f : Value) (S : zi)
theorem jV.r0  : jv Try.prog ⟨false, false, false⟩ (zQ Try.prog O) (reg Try.f11 0) (reg Try.f11 0).toList ([b,c,g,i,o,j,k,l,m,n,f]) S =
  ( some ([b,c,g,i,Value.bool false,j,k,l,m,n,f], S)) := by
 kernel_rfl
theorem jV.r1  : jv Try.prog ⟨false, false, false⟩ (zQ Try.prog O) (reg Try.f11 1) (reg Try.f11 1).toList ([b,c,g,i,o,j,k,l,m,n,f]) S =
  (zF (qZ (dem b) S) (fun p d => zF (zo Try.prog 62 p 0 d) (fun q t => zF (zZ Try.prog false 24 q t) (fun r u => zF ((zQ Try.prog O) 25 [(dem r), (dem (dem c))] u) (fun s v => some ([b,c,g,i,s,dem b,p,q,r,dem c,dem s], v)) ()) ()) ()) ()) := by
 kernel_rfl
theorem jV.rs : type_of% (And.intro @jV.r0 (@jV.r1)) := And.intro @jV.r0 (@jV.r1)
theorem jV.runs {b c : Value} {S d : zi} {e : AEx} {T : List Value} (h : zA Try.prog O false jV.code ([b,c,undef,undef,undef,undef,undef,undef,undef,undef,undef]) S = some (e, T, d)) (he : e = .normal ∨ e = .ret) : zQ Try.prog O 11 [b, c] S = some (T.getD 4 undef, d) :=
 yB rfl rfl Try.func11 (by decide) jV.body (by exact h) he (wV (a := T.getD 4 undef) ((show zG Try.prog T d Try.f11.results.toList = zG Try.prog T d [(ResultVar.tmp 4)] from by kernel_rfl).trans (by simp only [zG])) (by kernel_rfl))
end Go.Proofs.Ytfjogganfjkckaa
namespace Go.Proofs.Ytfjogganfjkckaa
open Go.Abs
abbrev yE.id : FuncId := 24
noncomputable def yE.code : Code := (Code.seq (Code.region 0 (reg Try.f24 0) false) (Code.seq (Code.region 1 (reg Try.f24 1) false) (Code.seq (Code.region 2 (reg Try.f24 2) false) Code.ret)))
theorem yE.body : Try.f24.body = some yE.code := by kernel_rfl
variable (b j q g k l m n o p d f : Value) (S : zi)
theorem yE.r0  : jv Try.prog ⟨false, false, false⟩ (zQ Try.prog O) (reg Try.f24 0) (reg Try.f24 0).toList ([b,j,q,g,k,l,m,n,o,p,d,f]) S =
  (zF (Jo (dem b) S) (fun r c => some ([b,r,Value.string { data := #[] },g,k,l,m,n,o,p,d,f], c)) ()) := by
 kernel_rfl
theorem yE.r1  : jv Try.prog ⟨false, false, false⟩ (zQ Try.prog O) (reg Try.f24 1) (reg Try.f24 1).toList ([b,j,q,g,k,l,m,n,o,p,d,f]) S =
  (zF (zZ Try.prog false 46 j S) (fun r c => zF ((zQ Try.prog O) 46 [(dem r)] c) (fun i u => zF (zS i 0 u) (fun s v => zF (zS (zV 0 i) 1 v) (fun t w => some ([b,j,q,s,t,zV 1 (zV 0 i),r,dem i,dem s,dem t,d,f], w)) ()) ()) ()) ()) := by
 kernel_rfl
theorem yE.r2  : jv Try.prog ⟨false, false, false⟩ (zQ Try.prog O) (reg Try.f24 2) (reg Try.f24 2).toList ([b,j,q,g,k,l,m,n,o,p,d,f]) S =
  (zF (qN Try.prog false false 33 9 (dem g) S) (fun i c => some ([b,j,i,g,k,l,m,n,o,p,dem g,dem i], c)) ()) := by
 kernel_rfl
theorem yE.rs : type_of% (And.intro @yE.r0 (And.intro @yE.r1 (@yE.r2))) := And.intro @yE.r0 (And.intro @yE.r1 (@yE.r2))
theorem yE.runs {b : Value} {S c : zi} {e : AEx} {T : List Value} (h : zA Try.prog O false yE.code ([b,undef,undef,undef,undef,undef,undef,undef,undef,undef,undef,undef]) zi.empty = some (e, T, c)) (he : e = .normal ∨ e = .ret) (hca : [b].all (jH 16) = true) (hcv : jH 16 (T.getD 2 undef) = true) : zQ Try.prog O 24 [b] S = some (T.getD 2 undef, S) :=
 wZ rfl rfl Try.func24 (by decide) yE.body (by exact h) he (wV (a := T.getD 2 undef) ((show zG Try.prog T c Try.f24.results.toList = zG Try.prog T c [(ResultVar.tmp 2)] from by kernel_rfl).trans (by simp only [zG])) (by kernel_rfl)) hca hcv
end Go.Proofs.Ytfjogganfjkckaa
namespace Go.Proofs.Ytfjogganfjkckaa
open Go.Abs
abbrev jS.id : FuncId := 20
noncomputable def jS.code : Code := (Code.seq (Code.region 0 (reg Try.f20 0) false) (Code.seq (Code.seq (Code.region 1 (reg Try.f20 1) false) (Code.cond (Operand.tmp 4) (Code.seq (Code.region 2 (reg Try.f20 2) false) Code.ret) Code.skip)) (Code.seq (Code.region 3 (reg Try.f20 3) false) Code.ret)))
theorem jS.body : Try.f20.body = some jS.code := by kernel_rfl
variable (b c l f g i j k : Value) (S : zi)
theorem jS.r0  : jv Try.prog ⟨false, false, false⟩ (zQ Try.prog O) (reg Try.f20 0) (reg Try.f20 0).toList ([b,c,l,f,g,i,j,k]) S =
  ( some ([b,c,Value.slice none 0 0,f,g,i,j,k], S)) := by
 kernel_rfl
theorem jS.r1  : jv Try.prog ⟨false, false, false⟩ (zQ Try.prog O) (reg Try.f20 1) (reg Try.f20 1).toList ([b,c,l,f,g,i,j,k]) S =
  (zF (jX Try.prog BinOp.eql 24 (dem b) (Value.slice none 0 0) S) (fun o d => some ([b,c,l,dem b,o,i,j,k], d)) ()) := by
 kernel_rfl
theorem jS.r2  : jv Try.prog ⟨false, false, false⟩ (zQ Try.prog O) (reg Try.f20 2) (reg Try.f20 2).toList ([b,c,l,f,g,i,j,k]) S =
  ( some ([b,c,Value.slice none 0 0,f,g,i,j,k], S)) := by
 kernel_rfl
theorem jS.r3  : jv Try.prog ⟨false, false, false⟩ (zQ Try.prog O) (reg Try.f20 3) (reg Try.f20 3).toList ([b,c,l,f,g,i,j,k]) S =
  (zF (jR Try.prog 24 0 [] S) (fun m d => zF (yj Try.prog 24 24 m (dem b) d) (fun n p => some ([b,c,n,f,g,dem m,dem b,dem n], p)) ()) ()) := by
 kernel_rfl
theorem jS.rs : type_of% (And.intro @jS.r0 (And.intro @jS.r1 (And.intro @jS.r2 (@jS.r3)))) := And.intro @jS.r0 (And.intro @jS.r1 (And.intro @jS.r2 (@jS.r3)))
theorem jS.runs {b : Value} {S d : zi} {e : AEx} {T : List Value} (h : zA Try.prog O false jS.code ([b,undef,undef,undef,undef,undef,undef,undef]) S = some (e, T, d)) (he : e = .normal ∨ e = .ret) : zQ Try.prog O 20 [b] S = some (T.getD 2 undef, d) :=
 yB rfl rfl Try.func20 (by decide) jS.body (by exact h) he (wV (a := T.getD 2 undef) ((show zG Try.prog T d Try.f20.results.toList = zG Try.prog T d [(ResultVar.tmp 2)] from by kernel_rfl).trans (by simp only [zG])) (by kernel_rfl))
end Go.Proofs.Ytfjogganfjkckaa
namespace Go.Abs
variable {K : Type}
def MapAt (enc : K → Value) (S : zi) (q : Nat) (m : List (K × Value)) : Prop :=
 ∃ es c, S.get q = some (.map es c) ∧ es.map (fun e => (e.key, e.val)) = m.map fun p => (enc p.1, p.2)
theorem aa6 {P : Program} {t : TypeId} (enc : K → Value) (S : zi) : ∃ S2, xY P t none S = some (.map (some S.next), S2) ∧ MapAt enc S2 S.next [] ∧ S2.next = S.next + 1 ∧ (∀ j, j < S.next → S2.get j = S.get j) ∧ Ext S S2 :=
 ⟨_, rfl, ⟨[], 0, by rw [zi.yg, if_pos rfl], rfl⟩, by simp, fun j hj => by rw [zi.yg, if_neg (by omega)], Ext.push _ _⟩
theorem MapAt.keep {enc : K → Value} {S : zi} {q : Nat} {m : List (K × Value)} {S2 : zi} (h : MapAt enc S q m) (hg : S2.get q = S.get q) : MapAt enc S2 q m := by
 obtain ⟨es, c, h1, h2⟩ := h
 exact ⟨es, c, hg.trans h1, h2⟩
variable [DecidableEq K]
def KI : List (K × Value) → K → Option Value
 | [], _ => none
 | (a, v) :: m, k => if a = k then some v else KI m k
def midx : List (K × Value) → K → Nat
 | [], _ => 0
 | (a, _) :: m, k => if a = k then 0 else midx m k + 1
def agO : List (K × Value) → K → Value → List (K × Value)
 | [], k, x => [(k, x)]
 | (a, v) :: m, k, x => if a = k then (k, x) :: m else (a, v) :: agO m k x
theorem Xx {m : List (K × Value)} {k : K} {x : Value} (h : KI m k = none) : agO m k x = m ++ [(k, x)] := by
 induction m with
 | nil => rfl
 | cons p m ih =>
  obtain ⟨a, v⟩ := p
  unfold KI at h
  split at h
  ·
   cases h
  ·
   rename_i hn
   simp only [agO, if_neg hn, ih h, List.cons_append]
structure ac3 (enc : K → Value) (kd : TypeDesc) : Prop where
 kind : ∀ k, Wy kd (enc k) = true
 same : ∀ a b, Instr.sameNow kd (enc a) (enc b) = some (decide (a = b))
theorem QW : ac3 (fun n : Int => Value.int .i64 n) (.int .i64) := ⟨fun _ => rfl, fun a b => by
 show (if IntKind.i64 = IntKind.i64 then some (a == b) else none) = _
 rw [if_pos rfl]; by_cases h : a = b <;> simp [h]⟩
theorem WB {enc : K → Value} {kd : TypeDesc} (hK : ac3 enc kd) (k : K) : ∀ (es : List MapEntry) (m : List (K × Value)) (i : Nat), es.map (fun e => (e.key, e.val)) = m.map (fun p => (enc p.1, p.2)) →
  Instr.findNow kd (enc k) es i = some ((KI m k).map fun v => (i + midx m k, v)) := by
 intro es
 induction es with
 | nil =>
  intro m i h
  cases m with
  | nil => rfl
  | cons p m => simp at h
 | cons e es ih =>
  intro m i h
  cases m with
  | nil => simp at h
  | cons p m =>
   obtain ⟨a, v⟩ := p
   simp only [List.map_cons, List.cons.injEq, Prod.mk.injEq] at h
   obtain ⟨⟨h1, h2⟩, h3⟩ := h
   simp only [Instr.findNow, h1, hK.same, KI, midx]
   by_cases hk : k = a
   ·
    simp [hk, h2]
   ·
    rw [decide_eq_false hk, if_neg (fun h => hk h.symm), if_neg (fun h => hk h.symm)]
    simp only []
    rw [ih m (i + 1) h3]
    congr 2
    funext x
    congr 1
    omega
theorem aep {enc : K → Value} {k : K} {x : Value} : ∀ (es : List MapEntry) (m : List (K × Value)), es.map (fun e => (e.key, e.val)) = m.map (fun p => (enc p.1, p.2)) → KI m k ≠ none →
  (es.modify (midx m k) fun e => { e with key := enc k, val := x }).map (fun e => (e.key, e.val)) = (agO m k x).map fun p => (enc p.1, p.2) := by
 intro es
 induction es with
 | nil =>
  intro m h hn
  cases m with
  | nil => exact absurd rfl hn
  | cons p m => simp at h
 | cons e es ih =>
  intro m h hn
  cases m with
  | nil => simp at h
  | cons p m =>
   obtain ⟨a, v⟩ := p
   simp only [List.map_cons, List.cons.injEq, Prod.mk.injEq] at h
   obtain ⟨⟨h1, h2⟩, h3⟩ := h
   simp only [midx, agO]
   by_cases hk : a = k
   ·
    simp [hk, h3]
   ·
    rw [if_neg hk, if_neg hk, List.modify_succ_cons]
    have hn' : KI m k ≠ none := by unfold KI at hn; rwa [if_neg hk] at hn
    simp only [List.map_cons, ih m h3 hn', h1, h2]
variable {P : Program} {t kt et : TypeId} {kd : TypeDesc} {z : Value} {enc : K → Value} {S S0 : zi} {q : Nat} {m : List (K × Value)}
theorem afn (hK : ac3 enc kd) (hm : MapAt enc S q m) (ht : P.underlying t = some (.map kt et)) (hk : P.underlying kt = some kd) (hz : zeroOf P et = some z) (hg : ground z = true) (k : K) :
  xJ P false t (.map (some q)) (enc k) false S = some ((KI m k).getD z, S) := by
 obtain ⟨es, c, h1, h2⟩ := hm
 unfold xJ qh
 simp only [Bool.false_eq_true, if_false, ht, hk, hK.kind, if_true, h1, WB hK k es m 0 h2]
 cases KI m k with
 | none => simp [hz, hg]
 | some v => simp
theorem abM (hK : ac3 enc kd) (hm : MapAt enc S q m) (ht : P.underlying t = some (.map kt et)) (hk : P.underlying kt = some kd) (hz : zeroOf P et = some z) (hg : ground z = true) (k : K) :
  xJ P false t (.map (some q)) (enc k) true S = some (.tuple #[(KI m k).getD z, .bool (KI m k).isSome], S) := by
 obtain ⟨es, c, h1, h2⟩ := hm
 unfold xJ qh
 simp only [Bool.false_eq_true, if_false, ht, hk, hK.kind, if_true, h1, WB hK k es m 0 h2]
 cases KI m k with
 | none => simp [hz, hg]
 | some v => simp
theorem aaX (hK : ac3 enc kd) (hm : MapAt enc S q m) (ht : P.underlying t = some (.map kt et)) (hk : P.underlying kt = some kd) (k : K) (x : Value) :
  ∃ S2, yL P t (.map (some q)) (enc k) x S = some (undef, S2) ∧ MapAt enc S2 q (agO m k x) ∧ S2.next = S.next ∧ (∀ j, j ≠ q → S2.get j = S.get j) ∧ (∀ S0, Ext S0 S → S0.next ≤ q → Ext S0 S2) := by
 obtain ⟨es, c, h1, h2⟩ := hm
 unfold yL
 simp only [ht, hk, hK.kind, if_true, h1, WB hK k es m 0 h2]
 cases hg : KI m k with
 | none =>
  refine ⟨_, rfl, ⟨es ++ [{ key := enc k, val := x, born := c }], c + 1, by rw [zi.yT, if_pos rfl], ?_⟩, by simp, fun j hj => by rw [zi.yT, if_neg hj], fun S0 hE hq => hE.set hq _⟩
  rw [Xx hg]
  simp [h2]
 | some v =>
  refine ⟨_, rfl, ⟨_, c, by simp only [Option.map_some, Nat.zero_add, zi.yT, if_true], aep es m h2 (by rw [hg]; simp)⟩, by simp, fun j hj => by rw [zi.yT, if_neg hj], fun S0 hE hq => hE.set hq _⟩
end Go.Abs
namespace Go.Proofs.Ytfjogganfjkckaa
open Go.Abs
abbrev slices_Index.id : FuncId := 47
noncomputable def slices_Index.jP : Code := (Code.seq (Code.region 2 (reg Try.f47 2) false) (Code.seq (Code.cond (Operand.tmp 9) Code.skip (Code.exit 0)) (Code.seq (Code.block 1 (Code.seq (Code.region 3 (reg Try.f47 3) false) (Code.seq (Code.region 4 (reg Try.f47 4) false) (Code.cond (Operand.tmp 16) (Code.seq (Code.region 5 (reg Try.f47 5) false) Code.ret) Code.skip)))) (Code.region 6 (reg Try.f47 6) false))))
noncomputable def slices_Index.code : Code := (Code.seq (Code.region 0 (reg Try.f47 0) false) (Code.seq (Code.seq (Code.region 1 (reg Try.f47 1) false) (Code.block 0 (Code.loop slices_Index.jP))) (Code.seq (Code.region 7 (reg Try.f47 7) false) Code.ret)))
theorem slices_Index.body : Try.f47.body = some slices_Index.code := by kernel_rfl
theorem slices_Index.eta {T : List Value} (h : T.length = 19) : T = [T.getD 0 undef,T.getD 1 undef,T.getD 2 undef,T.getD 3 undef,T.getD 4 undef,T.getD 5 undef,T.getD 6 undef,T.getD 7 undef,T.getD 8 undef,T.getD 9 undef,T.getD 10 undef,T.getD 11 undef,T.getD 12 undef,T.getD 13 undef,T.getD 14 undef,T.getD 15 undef,T.getD 16 undef,T.getD 17 undef,T.getD 18 undef] := (qG T 19 h).trans (by kernel_rfl)
variable (b n q r v o t s p u c d f g i j k l m : Value) (S : zi)
theorem slices_Index.r0  : jv Try.prog ⟨false, false, false⟩ (zQ Try.prog O) (reg Try.f47 0) (reg Try.f47 0).toList ([b,n,q,r,v,o,t,s,p,u,c,d,f,g,i,j,k,l,m]) S =
  ( some ([b,n,q,r,Value.int IntKind.i64 0,o,t,s,p,u,c,d,f,g,i,j,k,l,m], S)) := by
 kernel_rfl
theorem slices_Index.r1  : jv Try.prog ⟨false, false, false⟩ (zQ Try.prog O) (reg Try.f47 1) (reg Try.f47 1).toList ([b,n,q,r,v,o,t,s,p,u,c,d,f,g,i,j,k,l,m]) S =
  (zF (ZM Try.prog 24 (dem b) S) (fun A w => some ([b,n,q,r,v,o,dem b,A,Value.int IntKind.i64 0,u,c,d,f,g,i,j,k,l,m], w)) ()) := by
 kernel_rfl
theorem slices_Index.r2  : jv Try.prog ⟨false, false, false⟩ (zQ Try.prog O) (reg Try.f47 2) (reg Try.f47 2).toList ([b,n,q,r,v,o,t,s,p,u,c,d,f,g,i,j,k,l,m]) S =
  (zF (jX Try.prog BinOp.lss 3 p s S) (fun x w => some ([b,n,q,r,v,o,t,s,p,x,c,d,f,g,i,j,k,l,m], w)) ()) := by
 kernel_rfl
theorem slices_Index.r3  : jv Try.prog ⟨false, false, false⟩ (zQ Try.prog O) (reg Try.f47 3) (reg Try.f47 3).toList ([b,n,q,r,v,o,t,s,p,u,c,d,f,g,i,j,k,l,m]) S =
  ( some ([b,n,q,r,v,p,t,s,dem p,u,dem p,d,f,g,i,j,k,l,m], S)) := by
 kernel_rfl
theorem slices_Index.r4  : jv Try.prog ⟨false, false, false⟩ (zQ Try.prog O) (reg Try.f47 4) (reg Try.f47 4).toList ([b,n,q,r,v,o,t,s,p,u,c,d,f,g,i,j,k,l,m]) S =
  (zF (jB Try.prog 24 (dem b) (dem o) S) (fun y w => zF (zZ Try.prog false 3 y w) (fun z B => zF (jX Try.prog BinOp.eql 3 (dem n) z B) (fun C D => some ([b,n,q,r,v,o,t,s,p,u,c,dem n,dem b,dem o,y,z,C,l,m], D)) ()) ()) ()) := by
 kernel_rfl
theorem slices_Index.r5  : jv Try.prog ⟨false, false, false⟩ (zQ Try.prog O) (reg Try.f47 5) (reg Try.f47 5).toList ([b,n,q,r,v,o,t,s,p,u,c,d,f,g,i,j,k,l,m]) S =
  ( some ([b,n,q,r,o,dem o,t,s,p,u,c,d,f,g,i,j,k,dem o,m], S)) := by
 kernel_rfl
theorem slices_Index.r6  : jv Try.prog ⟨false, false, false⟩ (zQ Try.prog O) (reg Try.f47 6) (reg Try.f47 6).toList ([b,n,q,r,v,o,t,s,p,u,c,d,f,g,i,j,k,l,m]) S =
  (zF (jX Try.prog BinOp.add 3 p (Value.int IntKind.i64 1) S) (fun x w => some ([b,n,q,r,v,o,t,s,dem x,u,c,d,f,g,i,j,k,l,x], w)) ()) := by
 kernel_rfl
theorem slices_Index.r7  : jv Try.prog ⟨false, false, false⟩ (zQ Try.prog O) (reg Try.f47 7) (reg Try.f47 7).toList ([b,n,q,r,v,o,t,s,p,u,c,d,f,g,i,j,k,l,m]) S =
  ( some ([b,n,q,r,Value.int IntKind.i64 (-1),o,t,s,p,u,c,d,f,g,i,j,k,l,m], S)) := by
 kernel_rfl
theorem slices_Index.rs : type_of% (And.intro @slices_Index.r0 (And.intro @slices_Index.r1 (And.intro @slices_Index.r2 (And.intro @slices_Index.r3 (And.intro @slices_Index.r4 (And.intro @slices_Index.r5 (And.intro @slices_Index.r6 (@slices_Index.r7)))))))) := And.intro @slices_Index.r0 (And.intro @slices_Index.r1 (And.intro @slices_Index.r2 (And.intro @slices_Index.r3 (And.intro @slices_Index.r4 (And.intro @slices_Index.r5 (And.intro @slices_Index.r6 (@slices_Index.r7)))))))
theorem slices_Index.runs {b n : Value} {S w : zi} {e : AEx} {T : List Value} (h : zA Try.prog O false slices_Index.code ([b,n,undef,undef,undef,undef,undef,undef,undef,undef,undef,undef,undef,undef,undef,undef,undef,undef,undef]) S = some (e, T, w)) (he : e = .normal ∨ e = .ret) : zQ Try.prog O 47 [b, n] S = some (T.getD 4 undef, w) :=
 yB rfl rfl Try.func47 (by decide) slices_Index.body (by exact h) he (wV (a := T.getD 4 undef) ((show zG Try.prog T w Try.f47.results.toList = zG Try.prog T w [(ResultVar.tmp 4)] from by kernel_rfl).trans (by simp only [zG])) (by kernel_rfl))
end Go.Proofs.Ytfjogganfjkckaa
namespace Go.Proofs.Ytfjogganfjkckaa
open Go.Abs
abbrev slices_Contains.id : FuncId := 25
noncomputable def slices_Contains.code : Code := (Code.seq (Code.region 0 (reg Try.f25 0) false) (Code.seq (Code.region 1 (reg Try.f25 1) false) Code.ret))
theorem slices_Contains.body : Try.f25.body = some slices_Contains.code := by kernel_rfl
variable (b c f g m i j k l : Value) (S : zi)
theorem slices_Contains.r0  : jv Try.prog ⟨false, false, false⟩ (zQ Try.prog O) (reg Try.f25 0) (reg Try.f25 0).toList ([b,c,f,g,m,i,j,k,l]) S =
  ( some ([b,c,f,g,Value.bool false,i,j,k,l], S)) := by
 kernel_rfl
theorem slices_Contains.r1  : jv Try.prog ⟨false, false, false⟩ (zQ Try.prog O) (reg Try.f25 1) (reg Try.f25 1).toList ([b,c,f,g,m,i,j,k,l]) S =
  (zF ((zQ Try.prog O) 47 [(dem (dem b)), (dem (dem c))] S) (fun n d => zF (jX Try.prog BinOp.geq 3 n (Value.int IntKind.i64 0) d) (fun o p => some ([b,c,f,g,o,dem b,dem c,n,dem o], p)) ()) ()) := by
 kernel_rfl
theorem slices_Contains.rs : type_of% (And.intro @slices_Contains.r0 (@slices_Contains.r1)) := And.intro @slices_Contains.r0 (@slices_Contains.r1)
theorem slices_Contains.runs {b c : Value} {S d : zi} {e : AEx} {T : List Value} (h : zA Try.prog O false slices_Contains.code ([b,c,undef,undef,undef,undef,undef,undef,undef]) S = some (e, T, d)) (he : e = .normal ∨ e = .ret) : zQ Try.prog O 25 [b, c] S = some (T.getD 4 undef, d) :=
 yB rfl rfl Try.func25 (by decide) slices_Contains.body (by exact h) he (wV (a := T.getD 4 undef) ((show zG Try.prog T d Try.f25.results.toList = zG Try.prog T d [(ResultVar.tmp 4)] from by kernel_rfl).trans (by simp only [zG])) (by kernel_rfl))
end Go.Proofs.Ytfjogganfjkckaa
namespace Go.Proofs.Ytfjogganfjkckaa
open Go.Abs
theorem aaE : Try.prog.underlying 3 = some (TypeDesc.int IntKind.i64) := by kernel_rfl
theorem acQ : Zo Try.prog 3 = some 1 := by kernel_rfl
theorem ake : bytesOf Try.prog 3 = some 8 := by kernel_rfl
theorem aj3 : zeroOf Try.prog 3 = (some (Value.int IntKind.i64 0)) := by kernel_rfl
theorem Zr : kS Try.prog 3 = some false := by kernel_rfl
theorem ahu : zeroOf Try.prog 4 = (some (Value.bool false)) := by kernel_rfl
theorem XB : Try.prog.underlying 5 = some (TypeDesc.int IntKind.u8) := by kernel_rfl
theorem abn : Zo Try.prog 5 = some 1 := by kernel_rfl
theorem aii : bytesOf Try.prog 5 = some 1 := by kernel_rfl
theorem aiN : zeroOf Try.prog 5 = (some (Value.int IntKind.u8 0)) := by kernel_rfl
theorem aiK : kS Try.prog 5 = some false := by kernel_rfl
theorem XC : Try.prog.underlying 9 = some TypeDesc.string := by kernel_rfl
theorem ab2 : zeroOf Try.prog 9 = (some (Value.string { data := #[] })) := by kernel_rfl
theorem Qj : Try.prog.underlying 24 = some (TypeDesc.slice 3) := by kernel_rfl
theorem ah9 : kS Try.prog 24 = some false := by kernel_rfl
theorem aaL : Try.prog.underlying 29 = some (TypeDesc.slice 33) := by kernel_rfl
theorem Ze : Try.prog.underlying 33 = some (TypeDesc.slice 5) := by kernel_rfl
theorem aex : Zo Try.prog 33 = some 1 := by kernel_rfl
theorem aei : kS Try.prog 33 = some false := by kernel_rfl
theorem agV : Try.prog.underlying 43 = some (TypeDesc.struct #[{ name := "ID", type := 3, offset := 0, embedded := false, tag := "", pkgPath := "", byteOffset := 0 }, { name := "Fee", type := 3, offset := 1, embedded := false, tag := "", pkgPath := "", byteOffset := 8 }]) := by kernel_rfl
theorem vY : Zo Try.prog 43 = some 2 := by kernel_rfl
theorem ag7 : bytesOf Try.prog 43 = some 16 := by kernel_rfl
theorem afX : zeroOf Try.prog 43 = (some (Value.agg #[(Value.int IntKind.i64 0), (Value.int IntKind.i64 0)])) := by kernel_rfl
theorem X0 : kS Try.prog 43 = some true := by kernel_rfl
theorem ZV : Try.prog.underlying 44 = some (TypeDesc.slice 43) := by kernel_rfl
theorem acG : kS Try.prog 44 = some false := by kernel_rfl
theorem Zg : Zo Try.prog 46 = some 5 := by kernel_rfl
theorem Qm : kS Try.prog 46 = some true := by kernel_rfl
theorem Kt : Zo Try.prog 48 = some 13 := by kernel_rfl
theorem adJ : kS Try.prog 48 = some true := by kernel_rfl
theorem Jr : Try.prog.underlying 59 = some (TypeDesc.map 9 4) := by kernel_rfl
theorem Ju : kS Try.prog 59 = some false := by kernel_rfl
theorem ZJ : Try.prog.underlying 60 = some (TypeDesc.map 3 9) := by kernel_rfl
theorem J4 : kS Try.prog 60 = some false := by kernel_rfl
theorem Y3 : Try.prog.underlying 73 = some (TypeDesc.int IntKind.u64) := by kernel_rfl
theorem YS : Try.prog.underlying 126 = some (TypeDesc.map 3 4) := by kernel_rfl
theorem kF (q o : Nat) (S : zi) : zo Try.prog 43 (.pointer (some ⟨q, o, none⟩)) 0 S = some (.pointer (some ⟨q, o + 0, none⟩), S) := by kernel_rfl
theorem Zn (q o : Nat) (S : zi) : zo Try.prog 43 (.pointer (some ⟨q, o, none⟩)) 1 S = some (.pointer (some ⟨q, o + 1, none⟩), S) := by kernel_rfl
theorem jE (q o : Nat) (S : zi) : zo Try.prog 46 (.pointer (some ⟨q, o, none⟩)) 0 S = some (.pointer (some ⟨q, o + 0, none⟩), S) := by kernel_rfl
theorem jC (q o : Nat) (S : zi) : zo Try.prog 46 (.pointer (some ⟨q, o, none⟩)) 1 S = some (.pointer (some ⟨q, o + 1, none⟩), S) := by kernel_rfl
theorem jD (q o : Nat) (S : zi) : zo Try.prog 46 (.pointer (some ⟨q, o, none⟩)) 2 S = some (.pointer (some ⟨q, o + 2, none⟩), S) := by kernel_rfl
theorem jG (q o : Nat) (S : zi) : zo Try.prog 46 (.pointer (some ⟨q, o, none⟩)) 3 S = some (.pointer (some ⟨q, o + 3, none⟩), S) := by kernel_rfl
theorem jF (q o : Nat) (S : zi) : zo Try.prog 46 (.pointer (some ⟨q, o, none⟩)) 4 S = some (.pointer (some ⟨q, o + 4, none⟩), S) := by kernel_rfl
theorem zB (q o : Nat) (S : zi) : zo Try.prog 48 (.pointer (some ⟨q, o, none⟩)) 0 S = some (.pointer (some ⟨q, o + 0, none⟩), S) := by kernel_rfl
theorem zJ (q o : Nat) (S : zi) : zo Try.prog 48 (.pointer (some ⟨q, o, none⟩)) 1 S = some (.pointer (some ⟨q, o + 1, none⟩), S) := by kernel_rfl
theorem zM (q o : Nat) (S : zi) : zo Try.prog 48 (.pointer (some ⟨q, o, none⟩)) 2 S = some (.pointer (some ⟨q, o + 2, none⟩), S) := by kernel_rfl
theorem zO (q o : Nat) (S : zi) : zo Try.prog 48 (.pointer (some ⟨q, o, none⟩)) 3 S = some (.pointer (some ⟨q, o + 3, none⟩), S) := by kernel_rfl
theorem zI (q o : Nat) (S : zi) : zo Try.prog 48 (.pointer (some ⟨q, o, none⟩)) 4 S = some (.pointer (some ⟨q, o + 4, none⟩), S) := by kernel_rfl
theorem zU (q o : Nat) (S : zi) : zo Try.prog 48 (.pointer (some ⟨q, o, none⟩)) 5 S = some (.pointer (some ⟨q, o + 5, none⟩), S) := by kernel_rfl
theorem zT (q o : Nat) (S : zi) : zo Try.prog 48 (.pointer (some ⟨q, o, none⟩)) 6 S = some (.pointer (some ⟨q, o + 6, none⟩), S) := by kernel_rfl
theorem zN (q o : Nat) (S : zi) : zo Try.prog 48 (.pointer (some ⟨q, o, none⟩)) 7 S = some (.pointer (some ⟨q, o + 8, none⟩), S) := by kernel_rfl
theorem Kw (q o : Nat) (S : zi) : zo Try.prog 62 (.pointer (some ⟨q, o, none⟩)) 0 S = some (.pointer (some ⟨q, o + 0, none⟩), S) := by kernel_rfl
theorem y8 (q o : Nat) (S : zi) : zo Try.prog 62 (.pointer (some ⟨q, o, none⟩)) 1 S = some (.pointer (some ⟨q, o + 1, none⟩), S) := by kernel_rfl
theorem xB (q o : Nat) (S : zi) : zo Try.prog 62 (.pointer (some ⟨q, o, none⟩)) 2 S = some (.pointer (some ⟨q, o + 2, none⟩), S) := by kernel_rfl
theorem kH {fx : Bool} {x0 x1 : Value} {S : zi} : zZ Try.prog fx 43 (EP [x0, x1]) S = some (.agg [x0, x1].toArray, S) := aeI X0 vY rfl
theorem Qg {q : Nat} {x0 x1 : Value} {own : Own} {e : Nat} {S : zi} (h : S.get q = some (.cells [x0, x1] own e)) : zZ Try.prog false 43 (.pointer (some ⟨q, 0, none⟩)) S = some (.agg [xH x0, xH x1].toArray, S) := (WR (o := 0) h X0 vY (by simp)).trans (by simp)
theorem VH {q : Nat} {x0 x1 x2 x3 x4 : Value} {own : Own} {e : Nat} {S : zi} (h : S.get q = some (.cells [x0, x1, x2, x3, x4] own e)) : zZ Try.prog false 46 (.pointer (some ⟨q, 0, none⟩)) S = some (.agg [xH x0, xH x1, xH x2, xH x3, xH x4].toArray, S) := (WR (o := 0) h Qm Zg (by simp)).trans (by simp)
theorem adp {q : Nat} {x0 x1 x2 x3 x4 x5 x6 x7 x8 x9 x10 x11 x12 : Value} {own : Own} {e : Nat} {S : zi} (h : S.get q = some (.cells [x0, x1, x2, x3, x4, x5, x6, x7, x8, x9, x10, x11, x12] own e)) : zZ Try.prog false 48 (.pointer (some ⟨q, 0, none⟩)) S = some (.agg [xH x0, xH x1, xH x2, xH x3, xH x4, xH x5, xH x6, xH x7, xH x8, xH x9, xH x10, xH x11, xH x12].toArray, S) := (WR (o := 0) h adJ Kt (by simp)).trans (by simp)
theorem jO  (S : zi) : yu Try.prog 43 [] S = some (.agg [(Value.int IntKind.i64 0), (Value.int IntKind.i64 0)].toArray, S) := by
 kernel_rfl
theorem abA {y0 : Value} (h0 : y0.cells = #[y0]) (S : zi) : yu Try.prog 43 [(0, y0)] S = some (.agg [y0, (Value.int IntKind.i64 0)].toArray, S) := by
 rw [show yu Try.prog 43 [(0, y0)] S = (match xC ([(0, 1), (1, 1)][·]?) [(Value.int IntKind.i64 0), (Value.int IntKind.i64 0)] [(0, y0)] with | some l => some (.agg l.toArray, S) | none => none) from by kernel_rfl]
 simp [xC, splice, qm, h0]
theorem XP {y0 y1 : Value} (h0 : y0.cells = #[y0]) (h1 : y1.cells = #[y1]) (S : zi) : yu Try.prog 43 [(0, y0), (1, y1)] S = some (.agg [y0, y1].toArray, S) := by
 rw [show yu Try.prog 43 [(0, y0), (1, y1)] S = (match xC ([(0, 1), (1, 1)][·]?) [(Value.int IntKind.i64 0), (Value.int IntKind.i64 0)] [(0, y0), (1, y1)] with | some l => some (.agg l.toArray, S) | none => none) from by kernel_rfl]
 simp [xC, splice, qm, h0, h1]
theorem YT  (S : zi) : yu Try.prog 46 [] S = some (.agg [(Value.int IntKind.i64 0), (Value.int IntKind.i64 0), (Value.int IntKind.i64 0), (Value.int IntKind.i64 0), (Value.slice none 0 0)].toArray, S) := by
 kernel_rfl
theorem Y0 {y0 y1 : Value} (h0 : y0.cells = #[y0]) (h1 : y1.cells = #[y1]) (S : zi) : yu Try.prog 46 [(0, y0), (1, y1)] S = some (.agg [y0, y1, (Value.int IntKind.i64 0), (Value.int IntKind.i64 0), (Value.slice none 0 0)].toArray, S) := by
 rw [show yu Try.prog 46 [(0, y0), (1, y1)] S = (match xC ([(0, 1), (1, 1), (2, 1), (3, 1), (4, 1)][·]?) [(Value.int IntKind.i64 0), (Value.int IntKind.i64 0), (Value.int IntKind.i64 0), (Value.int IntKind.i64 0), (Value.slice none 0 0)] [(0, y0), (1, y1)] with | some l => some (.agg l.toArray, S) | none => none) from by kernel_rfl]
 simp [xC, splice, qm, h0, h1]
theorem Jm {y0 y1 y2 y3 y4 : Value} (h0 : y0.cells = #[y0]) (h1 : y1.cells = #[y1]) (h2 : y2.cells = #[y2]) (h3 : y3.cells = #[y3]) (h4 : y4.cells = #[y4]) (S : zi) : yu Try.prog 46 [(0, y0), (1, y1), (2, y2), (3, y3), (4, y4)] S = some (.agg [y0, y1, y2, y3, y4].toArray, S) := by
 rw [show yu Try.prog 46 [(0, y0), (1, y1), (2, y2), (3, y3), (4, y4)] S = (match xC ([(0, 1), (1, 1), (2, 1), (3, 1), (4, 1)][·]?) [(Value.int IntKind.i64 0), (Value.int IntKind.i64 0), (Value.int IntKind.i64 0), (Value.int IntKind.i64 0), (Value.slice none 0 0)] [(0, y0), (1, y1), (2, y2), (3, y3), (4, y4)] with | some l => some (.agg l.toArray, S) | none => none) from by kernel_rfl]
 simp [xC, splice, qm, h0, h1, h2, h3, h4]
theorem WI {y0 y1 y4 : Value} (h0 : y0.cells = #[y0]) (h1 : y1.cells = #[y1]) (h4 : y4.cells = #[y4]) (S : zi) : yu Try.prog 46 [(0, y0), (1, y1), (4, y4)] S = some (.agg [y0, y1, (Value.int IntKind.i64 0), (Value.int IntKind.i64 0), y4].toArray, S) := by
 rw [show yu Try.prog 46 [(0, y0), (1, y1), (4, y4)] S = (match xC ([(0, 1), (1, 1), (2, 1), (3, 1), (4, 1)][·]?) [(Value.int IntKind.i64 0), (Value.int IntKind.i64 0), (Value.int IntKind.i64 0), (Value.int IntKind.i64 0), (Value.slice none 0 0)] [(0, y0), (1, y1), (4, y4)] with | some l => some (.agg l.toArray, S) | none => none) from by kernel_rfl]
 simp [xC, splice, qm, h0, h1, h4]
theorem acY  (S : zi) : yu Try.prog 48 [] S = some (.agg [(Value.int IntKind.i64 0), (Value.int IntKind.i64 0), (Value.int IntKind.i64 0), (Value.int IntKind.i64 0), (Value.int IntKind.i64 0), (Value.int IntKind.i64 0), (Value.int IntKind.i64 0), (Value.int IntKind.i64 0), (Value.int IntKind.i64 0), (Value.int IntKind.i64 0), (Value.int IntKind.i64 0), (Value.int IntKind.i64 0), (Value.slice none 0 0)].toArray, S) := by
 kernel_rfl
theorem qY {y0 y1 : Value} (h0 : y0.cells = #[y0]) (h1 : y1.cells = #[y1]) (S : zi) : yu Try.prog 48 [(0, y0), (1, y1)] S = some (.agg [y0, y1, (Value.int IntKind.i64 0), (Value.int IntKind.i64 0), (Value.int IntKind.i64 0), (Value.int IntKind.i64 0), (Value.int IntKind.i64 0), (Value.int IntKind.i64 0), (Value.int IntKind.i64 0), (Value.int IntKind.i64 0), (Value.int IntKind.i64 0), (Value.int IntKind.i64 0), (Value.slice none 0 0)].toArray, S) := by
 rw [show yu Try.prog 48 [(0, y0), (1, y1)] S = (match xC ([(0, 1), (1, 1), (2, 1), (3, 1), (4, 1), (5, 1), (6, 2), (8, 5)][·]?) [(Value.int IntKind.i64 0), (Value.int IntKind.i64 0), (Value.int IntKind.i64 0), (Value.int IntKind.i64 0), (Value.int IntKind.i64 0), (Value.int IntKind.i64 0), (Value.int IntKind.i64 0), (Value.int IntKind.i64 0), (Value.int IntKind.i64 0), (Value.int IntKind.i64 0), (Value.int IntKind.i64 0), (Value.int IntKind.i64 0), (Value.slice none 0 0)] [(0, y0), (1, y1)] with | some l => some (.agg l.toArray, S) | none => none) from by kernel_rfl]
 simp [xC, splice, qm, h0, h1]
theorem Jh {y0 y1 y2 y3 y4 y5 : Value} (h0 : y0.cells = #[y0]) (h1 : y1.cells = #[y1]) (h2 : y2.cells = #[y2]) (h3 : y3.cells = #[y3]) (h4 : y4.cells = #[y4]) (h5 : y5.cells = #[y5]) (S : zi) : yu Try.prog 48 [(0, y0), (1, y1), (2, y2), (3, y3), (4, y4), (5, y5)] S = some (.agg [y0, y1, y2, y3, y4, y5, (Value.int IntKind.i64 0), (Value.int IntKind.i64 0), (Value.int IntKind.i64 0), (Value.int IntKind.i64 0), (Value.int IntKind.i64 0), (Value.int IntKind.i64 0), (Value.slice none 0 0)].toArray, S) := by
 rw [show yu Try.prog 48 [(0, y0), (1, y1), (2, y2), (3, y3), (4, y4), (5, y5)] S = (match xC ([(0, 1), (1, 1), (2, 1), (3, 1), (4, 1), (5, 1), (6, 2), (8, 5)][·]?) [(Value.int IntKind.i64 0), (Value.int IntKind.i64 0), (Value.int IntKind.i64 0), (Value.int IntKind.i64 0), (Value.int IntKind.i64 0), (Value.int IntKind.i64 0), (Value.int IntKind.i64 0), (Value.int IntKind.i64 0), (Value.int IntKind.i64 0), (Value.int IntKind.i64 0), (Value.int IntKind.i64 0), (Value.int IntKind.i64 0), (Value.slice none 0 0)] [(0, y0), (1, y1), (2, y2), (3, y3), (4, y4), (5, y5)] with | some l => some (.agg l.toArray, S) | none => none) from by kernel_rfl]
 simp [xC, splice, qm, h0, h1, h2, h3, h4, h5]
theorem YX {y0 y1 y7_0 y7_1 y7_2 y7_3 y7_4 : Value} (h0 : y0.cells = #[y0]) (h1 : y1.cells = #[y1]) (S : zi) : yu Try.prog 48 [(0, y0), (1, y1), (7, .agg [y7_0, y7_1, y7_2, y7_3, y7_4].toArray)] S = some (.agg [y0, y1, (Value.int IntKind.i64 0), (Value.int IntKind.i64 0), (Value.int IntKind.i64 0), (Value.int IntKind.i64 0), (Value.int IntKind.i64 0), (Value.int IntKind.i64 0), y7_0, y7_1, y7_2, y7_3, y7_4].toArray, S) := by
 rw [show yu Try.prog 48 [(0, y0), (1, y1), (7, .agg [y7_0, y7_1, y7_2, y7_3, y7_4].toArray)] S = (match xC ([(0, 1), (1, 1), (2, 1), (3, 1), (4, 1), (5, 1), (6, 2), (8, 5)][·]?) [(Value.int IntKind.i64 0), (Value.int IntKind.i64 0), (Value.int IntKind.i64 0), (Value.int IntKind.i64 0), (Value.int IntKind.i64 0), (Value.int IntKind.i64 0), (Value.int IntKind.i64 0), (Value.int IntKind.i64 0), (Value.int IntKind.i64 0), (Value.int IntKind.i64 0), (Value.int IntKind.i64 0), (Value.int IntKind.i64 0), (Value.slice none 0 0)] [(0, y0), (1, y1), (7, .agg [y7_0, y7_1, y7_2, y7_3, y7_4].toArray)] with | some l => some (.agg l.toArray, S) | none => none) from by kernel_rfl]
 simp [xC, splice, qm, h0, h1]
theorem Zy {y0 y1 y2 : Value} (h0 : y0.cells = #[y0]) (h1 : y1.cells = #[y1]) (h2 : y2.cells = #[y2]) (S : zi) : yu Try.prog 62 [(0, y0), (1, y1), (2, y2)] S = some (.agg [y0, y1, y2].toArray, S) := by
 rw [show yu Try.prog 62 [(0, y0), (1, y1), (2, y2)] S = (match xC ([(0, 1), (1, 1), (2, 1)][·]?) [(Value.slice none 0 0), (Value.map none), (Value.map none)] [(0, y0), (1, y1), (2, y2)] with | some l => some (.agg l.toArray, S) | none => none) from by kernel_rfl]
 simp [xC, splice, qm, h0, h1, h2]
@[simp] theorem ahe (k : IntKind) (n : Int) (H : zi) : qJ Try.prog 3 5 (.int k n) H = some (.int IntKind.u8 (IntKind.wrap IntKind.u8 n), H) := Js aaE XB k n
@[simp] theorem Z7 (k : IntKind) (n : Int) (H : zi) : qJ Try.prog 3 73 (.int k n) H = some (.int IntKind.u64 (IntKind.wrap IntKind.u64 n), H) := Js aaE Y3 k n
@[simp] theorem Zj (k : IntKind) (n : Int) (H : zi) : qJ Try.prog 5 73 (.int k n) H = some (.int IntKind.u64 (IntKind.wrap IntKind.u64 n), H) := Js XB Y3 k n
@[simp] theorem X7 (k : IntKind) (n : Int) (H : zi) : qJ Try.prog 73 3 (.int k n) H = some (.int IntKind.i64 (IntKind.wrap IntKind.i64 n), H) := Js Y3 aaE k n
@[simp] theorem Zk (k : IntKind) (n : Int) (H : zi) : qJ Try.prog 73 5 (.int k n) H = some (.int IntKind.u8 (IntKind.wrap IntKind.u8 n), H) := Js Y3 XB k n
theorem acM (S : zi) : jR Try.prog 24 0 [] S = some (sv 2 1 0 [], S) := by kernel_rfl
theorem YC (x0 : Int) (S : zi) : jR Try.prog 24 1 [(0, .int IntKind.i64 x0)] S = some (sv 2 1 1 [.int IntKind.i64 x0], S) := by kernel_rfl
theorem Yx (x0 x1 : Int) (S : zi) : jR Try.prog 24 2 [(0, .int IntKind.i64 x0), (1, .int IntKind.i64 x1)] S = some (sv 2 1 2 [.int IntKind.i64 x0, .int IntKind.i64 x1], S) := by kernel_rfl
theorem Zv (S : zi) : jR Try.prog 33 0 [] S = some (sv 2 1 0 [], S) := by kernel_rfl
theorem ZC (x0 : Int) (S : zi) : jR Try.prog 33 1 [(0, .int IntKind.u8 x0)] S = some (sv 2 1 1 [.int IntKind.u8 x0], S) := by kernel_rfl
theorem J7 {k : Nat} {l : List UInt8} {S : zi} (h : Okl k l) : ZM Try.prog 33 (by_ k l) S = some (goInt l.length, S) := ae7 Ze h
theorem ait {k : Nat} {l : List UInt8} {S : zi} {ki : IntKind} {i : Int} (h : Okl k l) (h0 : 0 ≤ i) (hi : i < l.length) : jB Try.prog 33 (by_ k l) (.int ki i) S = some (EP [.int .u8 (l[i.toNat]'(by omega)).toNat], S) := aio Ze abn abY h h0 hi
theorem aa3 {fx : Bool} {v : Value} {S : zi} : zZ Try.prog fx 5 (EP [v]) S = some (v, S) := Q8 aiK
theorem agj {k : Nat} {l : List UInt8} {S : zi} {lo hi : Option Value} {i j : Int} (h : Okl k l) (hlo : vM 0 lo = some i) (hhi : vM l.length hi = some j) (h0 : 0 ≤ i) (hij : i ≤ j) (hj : j ≤ l.length) : Zu Try.prog 33 (by_ k l) lo hi S = some (by_ (if k = 2 then 1 else k) ((l.drop i.toNat).take (j.toNat - i.toNat)), S) := abH Ze abn abY h hlo hhi h0 hij hj
theorem xE {k : Nat} {l : List UInt8} {S : zi} {j : Nat} {m : List UInt8} (h : Okl k l) (hk : k ≠ 1) (hm : Okl j m) (hl : l.length + m.length ≤ 140737488355328) : yj Try.prog 33 33 (by_ k l) (by_ j m) S = some (by_ (if k = 0 ∧ m.length = 0 then 0 else 2) (l ++ m), S) := QX Ze abn aiN rfl aii (by omega) Ze abY ajP h hk hm (by omega) (by omega)
theorem aga {k : Nat} {l : List UInt8} {S : zi} (h : Okl k l) : jX Try.prog .eql 33 (by_ k l) (.slice none 0 0) S = some (.bool (decide (k = 0)), S) := abL Ze h
theorem aez {k : Nat} {l : List UInt8} {S : zi} (h : Okl k l) : Jz Try.prog 33 9 (by_ k l) S = some (.string ⟨l.toArray⟩, S) := ad7 Ze XB XC h
theorem aav {k : Nat} {l : List Int} {S : zi} (h : Okl k l) : ZM Try.prog 24 (iz k l) S = some (goInt l.length, S) := ae7 Qj h
theorem aa1 {k : Nat} {l : List Int} {S : zi} {ki : IntKind} {i : Int} (h : Okl k l) (h0 : 0 ≤ i) (hi : i < l.length) : jB Try.prog 24 (iz k l) (.int ki i) S = some (EP [.int .i64 (l[i.toNat]'(by omega))], S) := aio Qj acQ ahf h h0 hi
theorem kN {fx : Bool} {v : Value} {S : zi} : zZ Try.prog fx 3 (EP [v]) S = some (v, S) := Q8 Zr
theorem Q5 {k : Nat} {l : List Int} {S : zi} {j : Nat} {m : List Int} (h : Okl k l) (hk : k ≠ 1) (hm : Okl j m) (hl : l.length + m.length ≤ 17592186044416) : yj Try.prog 24 24 (iz k l) (iz j m) S = some (iz (if k = 0 ∧ m.length = 0 then 0 else 2) (l ++ m), S) := QX Qj acQ aj3 rfl ake (by omega) Qj ahf ajW h hk hm (by omega) (by omega)
theorem agT {k : Nat} {l : List Int} {S : zi} (h : Okl k l) : jX Try.prog .eql 24 (iz k l) (.slice none 0 0) S = some (.bool (decide (k = 0)), S) := abL Qj h
theorem wk : type_of% (And.intro @KT (And.intro @Yq (And.intro @YR (And.intro @Qx (And.intro @Xi (And.intro @Ql (And.intro @Qv (And.intro @QU (And.intro @YQ (And.intro @aac (And.intro @Qq (And.intro @aai (And.intro @abO (And.intro @WJ (And.intro @Xg (And.intro @QF (And.intro @Xd (And.intro @Qk (And.intro @Qd (And.intro @ahB (And.intro @ahV (And.intro @ahv (And.intro @ahm (And.intro @ahp (And.intro @abe (And.intro @aa0 (And.intro @afI (And.intro @ae8 (And.intro @aeb (And.intro @acn (And.intro @YK (And.intro @aaB (And.intro @Bool.and_true (And.intro @Bool.true_and (And.intro @Bool.and_self (And.intro @ab6 (And.intro @Zf (And.intro @Xa (And.intro @aag (And.intro @QY (And.intro @ahx (And.intro @ahX (And.intro @aht (And.intro @ahW (And.intro @ajH (And.intro @ajm (And.intro @ajJ (And.intro @ajD (And.intro @ajO (And.intro @ahH (And.intro @ahh (And.intro @ahF (And.intro @ahU (And.intro @ahz (And.intro @ad9 (And.intro @KR (And.intro @Bool.false_eq_true (And.intro @ab1 (And.intro @aeK (And.intro @Xe (And.intro @aaw (And.intro @aan (And.intro @ahC (And.intro @VJ (And.intro @ahD (And.intro @Q9 (And.intro @afB (And.intro @acu (And.intro @Xm (And.intro @aeO (And.intro @aeC (And.intro @abI (And.intro @QA (And.intro @VW (And.intro @adG (And.intro @Xj (And.intro @aci (And.intro @Xw (And.intro @acw (And.intro @Kq (And.intro @aak (And.intro @V9 (And.intro @KQ (And.intro @Yh (And.intro @Wh (And.intro @QT (And.intro @Yg (And.intro @Yu (And.intro @KW (And.intro @J9 (And.intro @J6 (And.intro @Wp (And.intro @Xp (And.intro @Vu (And.intro @WZ (And.intro @Vg (And.intro @XM (And.intro @XU (And.intro @XK (And.intro @XT (And.intro @XZ (And.intro @adU (And.intro @Bool.not_true (And.intro @Bool.not_false (And.intro @Bool.true_eq_false (And.intro @decide_true (And.intro @decide_false (And.intro @aen (And.intro @afk (And.intro @adK (And.intro @aft (And.intro @aec (And.intro @adI (And.intro @ae9 (And.intro @adW (And.intro @afG (And.intro @afo (And.intro @afj (And.intro @aed (And.intro @aeg (And.intro @afd (@aeM)))))))))))))))))))))))))))))))))))))))))))))))))))))))))))))))))))))))))))))))))))))))))))))))))))))))))))))))))))))))))) := And.intro @KT (And.intro @Yq (And.intro @YR (And.intro @Qx (And.intro @Xi (And.intro @Ql (And.intro @Qv (And.intro @QU (And.intro @YQ (And.intro @aac (And.intro @Qq (And.intro @aai (And.intro @abO (And.intro @WJ (And.intro @Xg (And.intro @QF (And.intro @Xd (And.intro @Qk (And.intro @Qd (And.intro @ahB (And.intro @ahV (And.intro @ahv (And.intro @ahm (And.intro @ahp (And.intro @abe (And.intro @aa0 (And.intro @afI (And.intro @ae8 (And.intro @aeb (And.intro @acn (And.intro @YK (And.intro @aaB (And.intro @Bool.and_true (And.intro @Bool.true_and (And.intro @Bool.and_self (And.intro @ab6 (And.intro @Zf (And.intro @Xa (And.intro @aag (And.intro @QY (And.intro @ahx (And.intro @ahX (And.intro @aht (And.intro @ahW (And.intro @ajH (And.intro @ajm (And.intro @ajJ (And.intro @ajD (And.intro @ajO (And.intro @ahH (And.intro @ahh (And.intro @ahF (And.intro @ahU (And.intro @ahz (And.intro @ad9 (And.intro @KR (And.intro @Bool.false_eq_true (And.intro @ab1 (And.intro @aeK (And.intro @Xe (And.intro @aaw (And.intro @aan (And.intro @ahC (And.intro @VJ (And.intro @ahD (And.intro @Q9 (And.intro @afB (And.intro @acu (And.intro @Xm (And.intro @aeO (And.intro @aeC (And.intro @abI (And.intro @QA (And.intro @VW (And.intro @adG (And.intro @Xj (And.intro @aci (And.intro @Xw (And.intro @acw (And.intro @Kq (And.intro @aak (And.intro @V9 (And.intro @KQ (And.intro @Yh (And.intro @Wh (And.intro @QT (And.intro @Yg (And.intro @Yu (And.intro @KW (And.intro @J9 (And.intro @J6 (And.intro @Wp (And.intro @Xp (And.intro @Vu (And.intro @WZ (And.intro @Vg (And.intro @XM (And.intro @XU (And.intro @XK (And.intro @XT (And.intro @XZ (And.intro @adU (And.intro @Bool.not_true (And.intro @Bool.not_false (And.intro @Bool.true_eq_false (And.intro @decide_true (And.intro @decide_false (And.intro @aen (And.intro @afk (And.intro @adK (And.intro @aft (And.intro @aec (And.intro @adI (And.intro @ae9 (And.intro @adW (And.intro @afG (And.intro @afo (And.intro @afj (And.intro @aed (And.intro @aeg (And.intro @afd (@aeM)))))))))))))))))))))))))))))))))))))))))))))))))))))))))))))))))))))))))))))))))))))))))))))))))))))))))))))))))))))))))
theorem zSs : type_of% (And.intro wk (And.intro (@List.getD_cons_succ Value) (And.intro (@List.getD_cons_zero Value) (And.intro @if_true.{1} (And.intro @if_false.{1} (And.intro (@List.getElem?_cons_succ Value) (And.intro (@List.getElem?_cons_zero Value) (And.intro @Option.map_some.{0,0} @eq_self.{1})))))))) := And.intro wk (And.intro (@List.getD_cons_succ Value) (And.intro (@List.getD_cons_zero Value) (And.intro @if_true.{1} (And.intro @if_false.{1} (And.intro (@List.getElem?_cons_succ Value) (And.intro (@List.getElem?_cons_zero Value) (And.intro @Option.map_some.{0,0} @eq_self.{1})))))))
end Go.Proofs.Ytfjogganfjkckaa
namespace Go.Proofs.Ytfjogganfjkckaa
open Go.Abs
theorem ai8 (x : Int) : sv 2 1 1 [.int .i64 x] = iz 2 [x] := rfl
theorem ai2 {k : Nat} {l : List Int} {x : Int} {S : zi} (h : Okl k l) (hk : k ≠ 1) (hl : l.length ≤ 17592186044000) : yj Try.prog 24 24 (iz k l) (iz 2 [x]) S = some (iz 2 (l ++ [x]), S) := by
 rw [Q5 h hk Okl.own (by simp; omega), if_neg (fun h => by have := h.2; simp at this)]
end Go.Proofs.Ytfjogganfjkckaa
namespace Go.Proofs.Ytfjogganfjkckaa
open Go.Abs
def idxFrom {α : Type} (p : α → Bool) : Int → List α → Int
 | _, [] => -1
 | i, x :: r => if p x then i else idxFrom p (i + 1) r
theorem Vy {α : Type} {p : α → Bool} : ∀ {l : List α} {i : Int}, l.any p = false → idxFrom p i l = -1
 | [], _, _ => rfl
 | x :: r, i, h => by
  rw [List.any_cons, Bool.or_eq_false_iff] at h
  rw [idxFrom, h.1]
  exact Vy h.2
theorem abV {α : Type} {p : α → Bool} : ∀ {l : List α} {i : Int}, l.any p = true → i ≤ idxFrom p i l
 | [], _, h => by cases h
 | x :: r, i, h => by
  rw [idxFrom]
  split
  ·
   omega
  ·
   rename_i hx
   rw [List.any_cons, Bool.or_eq_true] at h
   have := abV (i := i + 1) (h.resolve_left hx)
   omega
theorem aiy {α : Type} {p : α → Bool} {l : List α} : decide (0 ≤ idxFrom p 0 l) = l.any p := by
 cases h : l.any p with
 | false => rw [Vy h]; decide
 | true => rw [decide_eq_true_eq]; exact abV h
section
variable {k : Nat} {l : List Int}
theorem slices_Index.round (hv : Okl k l) (hk : k ≠ 2) (hlen : l.length ≤ 17592186044416) {v : Int} {S : zi} : ∀ (suf pre : List Int) {T : List Value} {r : St}, qI (zA Try.prog O false slices_Index.jP) T S = r → T.length = 19 →
  T.getD 0 undef = iz k l → T.getD 1 undef = .int .i64 v → T.getD 7 undef = .int .i64 l.length → T.getD 8 undef = .int .i64 pre.length → l = pre ++ suf →
  ∃ e T', r = some (e, T', S) ∧ if suf.any (fun x => decide (v = x)) then e = .ret ∧ T'.getD 4 undef = .int .i64 (idxFrom (fun x => decide (v = x)) pre.length suf) else e = .exit 0 ∧ T'.length = 19 := by
 intro suf
 induction suf with
 | nil =>
  intro pre T r hL hT h0 h1 h7 h8 hl
  have hTe := slices_Index.eta hT
  rw [h0, h1, h7, h8] at hTe
  have hr : zA Try.prog O false slices_Index.jP T S = zA Try.prog O false slices_Index.jP T S := rfl
  have hd : ¬ (pre.length : Int) < (l.length : Int) := by rw [hl]; simp
  conv at hr =>
   rhs
   rw [hTe]
   simp only [slices_Index.jP, slices_Index.code, slices_Index.rs, zSs, reduceIte, Nat.reduceEqDiff, Int.reduceEq, Int.reduceLT, Int.reduceLE, hd]
  exact ⟨_, _, hL.symm.trans (wz hr (by simp)), rfl, rfl⟩
 | cons x suf ih =>
  intro pre T r hL hT h0 h1 h7 h8 hl
  have hTe := slices_Index.eta hT
  rw [h0, h1, h7, h8] at hTe
  have hr : zA Try.prog O false slices_Index.jP T S = zA Try.prog O false slices_Index.jP T S := rfl
  have hd : (pre.length : Int) < (l.length : Int) := by rw [hl]; simp; omega
  have e1 : ∀ S, jB Try.prog 24 (iz k l) (.int .i64 pre.length) S = some (EP [.int .i64 x], S) := fun S => by
   rw [aa1 hv (by omega) hd]; rw [Qy hl]
  have wi : IntKind.i64.wrap ((pre.length : Int) + 1) = ((pre ++ [x]).length : Int) := by rw [wrap_i64 (by omega) (by omega)]; simp
  rw [List.any_cons, idxFrom]
  by_cases hx : v = x
  ·
   have hx2 := decide_eq_true hx
   conv at hr =>
    rhs
    rw [hTe]
    simp only [slices_Index.jP, slices_Index.code, slices_Index.rs, zSs, reduceIte, Nat.reduceEqDiff, Int.reduceEq, Int.reduceLT, Int.reduceLE, if_neg hk, hd, e1, kN, hx2]
   refine ⟨_, _, hL.symm.trans (wz hr (by simp)), ?_⟩
   rw [hx2, Bool.true_or]
   exact ⟨rfl, rfl⟩
  ·
   have hx2 := decide_eq_false hx
   conv at hr =>
    rhs
    rw [hTe]
    simp only [slices_Index.jP, slices_Index.code, slices_Index.rs, zSs, reduceIte, Nat.reduceEqDiff, Int.reduceEq, Int.reduceLT, Int.reduceLE, if_neg hk, hd, e1, kN, hx2, wi]
   obtain ⟨e, T', g1, g2⟩ := ih (pre ++ [x]) ((yR hr).symm.trans hL) rfl rfl rfl rfl rfl (by simp [hl])
   refine ⟨e, T', g1, ?_⟩
   rw [hx2, Bool.false_or]
   rw [show (((pre ++ [x]).length : Nat) : Int) = (pre.length : Int) + 1 by simp] at g2
   exact g2
theorem slices_Index.v (hv : Okl k l) (hk : k ≠ 2) (hlen : l.length ≤ 17592186044416) {v : Int} (S : zi) : zQ Try.prog O slices_Index.id [iz k l, .int .i64 v] S = some (.int .i64 (idxFrom (fun x => decide (v = x)) 0 l), S) := by
 obtain ⟨T, hTe⟩ : ∃ T, T = (iz k l :: .int .i64 v :: undef :: undef :: undef :: undef :: undef :: undef :: undef :: undef :: undef :: undef :: undef :: undef :: undef :: undef :: undef :: undef :: undef :: []) := ⟨_, rfl⟩
 have hr : zA Try.prog O false slices_Index.code T S = zA Try.prog O false slices_Index.code T S := rfl
 conv at hr =>
  rhs
  rw [hTe]
  simp only [slices_Index.code, slices_Index.rs, zSs, reduceIte, Nat.reduceEqDiff, Int.reduceEq, Int.reduceLT, Int.reduceLE, if_neg hk, aav hv, goInt]
 generalize hL : qI (zA Try.prog O false slices_Index.jP) _ _ = r at hr
 obtain ⟨e, T', rfl, g⟩ := slices_Index.round hv hk hlen l [] hL rfl rfl rfl rfl rfl rfl
 cases h : l.any (fun x => decide (v = x)) with
 | true =>
  rw [h] at g
  obtain ⟨rfl, g2⟩ := g
  conv at hr =>
   rhs
   simp only [zSs, reduceIte, Nat.reduceEqDiff, Int.reduceEq, Int.reduceLT, Int.reduceLE]
  rw [hTe] at hr
  have hrun := slices_Index.runs hr (.inr rfl)
  rw [g2] at hrun
  exact hrun
 | false =>
  rw [h] at g
  obtain ⟨rfl, g2⟩ := g
  have hTe' := slices_Index.eta g2
  conv at hr =>
   rhs
   rw [hTe']
   simp only [slices_Index.code, slices_Index.rs, zSs, reduceIte, Nat.reduceEqDiff, Int.reduceEq, Int.reduceLT, Int.reduceLE]
  rw [hTe] at hr
  rw [Vy h]
  exact slices_Index.runs hr (.inr rfl)
theorem slices_Contains.v (hv : Okl k l) (hk : k ≠ 2) (hlen : l.length ≤ 17592186044416) {v : Int} (S : zi) : zQ Try.prog O slices_Contains.id [iz k l, .int .i64 v] S = some (.bool (l.any fun x => decide (v = x)), S) := by
 obtain ⟨T, hTe⟩ : ∃ T, T = (iz k l :: .int .i64 v :: undef :: undef :: undef :: undef :: undef :: undef :: undef :: []) := ⟨_, rfl⟩
 have hr : zA Try.prog O false slices_Contains.code T S = zA Try.prog O false slices_Contains.code T S := rfl
 have c1 := fun S => slices_Index.v hv hk hlen (v := v) S
 conv at hr =>
  rhs
  rw [hTe]
  simp only [slices_Contains.code, slices_Contains.rs, zSs, reduceIte, Nat.reduceEqDiff, Int.reduceEq, Int.reduceLT, Int.reduceLE, if_neg hk, c1, aiy]
 rw [hTe] at hr
 exact slices_Contains.runs hr (.inr rfl)
end
end Go.Proofs.Ytfjogganfjkckaa
namespace Go.Proofs.Ytfjogganfjkckaa
open Go.Abs
abbrev wu.id : FuncId := 22
noncomputable def wu.code : Code := (Code.seq (Code.region 0 (reg Try.f22 0) false) (Code.seq (Code.region 1 (reg Try.f22 1) false) (Code.seq (Code.seq (Code.region 2 (reg Try.f22 2) false) (Code.cond (Operand.tmp 16) (Code.seq (Code.region 3 (reg Try.f22 3) false) Code.ret) Code.skip)) (Code.seq (Code.region 4 (reg Try.f22 4) false) (Code.seq (Code.seq (Code.region 5 (reg Try.f22 5) false) (Code.cond (Operand.tmp 33) (Code.seq (Code.region 6 (reg Try.f22 6) false) Code.ret) Code.skip)) (Code.seq (Code.region 7 (reg Try.f22 7) false) Code.ret))))))
theorem wu.body : Try.f22.body = some wu.code := by kernel_rfl
variable (F M H Q N I K L J P b c d f g i k l m n o p q r s t u w x y z A B C D E : Value) (S : zi)
theorem wu.r0  : jv Try.prog ⟨false, false, false⟩ (zQ Try.prog O) (reg Try.f22 0) (reg Try.f22 0).toList ([F,M,H,Q,N,I,K,L,J,P,b,c,d,f,g,i,k,l,m,n,o,p,q,r,s,t,u,w,x,y,z,A,B,C,D,E]) S =
  (zF (yJ Try.prog 48 S) (fun U G => some ([F,M,U,Value.int IntKind.i64 0,N,I,K,L,J,P,b,c,d,f,g,i,k,l,m,n,o,p,q,r,s,t,u,w,x,y,z,A,B,C,D,E], G)) ()) := by
 kernel_rfl
theorem wu.r1  : jv Try.prog ⟨false, false, false⟩ (zQ Try.prog O) (reg Try.f22 1) (reg Try.f22 1).toList ([F,M,H,Q,N,I,K,L,J,P,b,c,d,f,g,i,k,l,m,n,o,p,q,r,s,t,u,w,x,y,z,A,B,C,D,E]) S =
  (zF ((zQ Try.prog O) 41 [(dem (dem F))] S) (fun a G => zF (zS a 0 G) (fun V R => zF (zS (zV 0 a) 1 R) (fun W Y => zF (zS (zV 1 (zV 0 a)) 2 Y) (fun X Z => some ([F,M,H,Q,V,W,X,L,J,zV 2 (zV 1 (zV 0 a)),dem F,dem a,dem V,dem W,dem X,i,k,l,m,n,o,p,q,r,s,t,u,w,x,y,z,A,B,C,D,E], Z)) ()) ()) ()) ()) := by
 kernel_rfl
theorem wu.r2  : jv Try.prog ⟨false, false, false⟩ (zQ Try.prog O) (reg Try.f22 2) (reg Try.f22 2).toList ([F,M,H,Q,N,I,K,L,J,P,b,c,d,f,g,i,k,l,m,n,o,p,q,r,s,t,u,w,x,y,z,A,B,C,D,E]) S =
  (zF (jX Try.prog BinOp.neq 64 (dem K) (Value.int IntKind.i64 0) S) (fun a G => some ([F,M,H,Q,N,I,K,L,J,P,b,c,d,f,g,dem K,a,l,m,n,o,p,q,r,s,t,u,w,x,y,z,A,B,C,D,E], G)) ()) := by
 kernel_rfl
theorem wu.r3  : jv Try.prog ⟨false, false, false⟩ (zQ Try.prog O) (reg Try.f22 3) (reg Try.f22 3).toList ([F,M,H,Q,N,I,K,L,J,P,b,c,d,f,g,i,k,l,m,n,o,p,q,r,s,t,u,w,x,y,z,A,B,C,D,E]) S =
  (zF (yu Try.prog 48 [] S) (fun U G => zF (wU Try.prog 48 H (dem U) G) (fun a R => some ([F,M,H,Value.int IntKind.i64 121,N,I,K,L,J,P,b,c,d,f,g,i,k,U,m,n,o,p,q,r,s,t,u,w,x,y,z,A,B,C,D,E], R)) ()) ()) := by
 kernel_rfl
theorem wu.r4  : jv Try.prog ⟨false, false, false⟩ (zQ Try.prog O) (reg Try.f22 4) (reg Try.f22 4).toList ([F,M,H,Q,N,I,K,L,J,P,b,c,d,f,g,i,k,l,m,n,o,p,q,r,s,t,u,w,x,y,z,A,B,C,D,E]) S =
  (zF ((zQ Try.prog O) 42 [(dem (dem I))] S) (fun a G => zF (zS a 0 G) (fun V R => zF (zS (zV 0 a) 1 R) (fun W Y => zF (yJ Try.prog 48 Y) (fun X Z => zF (wU Try.prog 48 X (dem V) Z) (fun v6 S5 => some ([F,M,H,Q,N,I,K,X,W,P,b,c,d,f,g,i,k,l,zV 1 (zV 0 a),dem I,dem a,V,dem W,r,s,t,u,w,x,y,z,A,B,C,D,E], S5)) ()) ()) ()) ()) ()) := by
 kernel_rfl
theorem wu.r5  : jv Try.prog ⟨false, false, false⟩ (zQ Try.prog O) (reg Try.f22 5) (reg Try.f22 5).toList ([F,M,H,Q,N,I,K,L,J,P,b,c,d,f,g,i,k,l,m,n,o,p,q,r,s,t,u,w,x,y,z,A,B,C,D,E]) S =
  (zF (aUn Try.prog UnOp.not (dem J) S) (fun a G => gdK (dem a) false (zo Try.prog 48 L 1) G (fun V R => gdK (dem a) false (zZ Try.prog false 3 V) R (fun W Y => gdK (dem a) false ((zQ Try.prog O) 44 [(dem W)]) Y (fun X Z => gdK (dem a) false (ret N) Z (fun v6 S5 => gdK (dem a) false (ret I) S5 (fun v7 S6 => gdK (dem a) false ((zQ Try.prog O) 43 [(dem X), (dem (dem v6)), (dem (dem v7))]) S6 (fun v8 S7 => gdK (dem a) false (aUn Try.prog UnOp.not v8) S7 (fun v9 S8 => zF (wP (dem a) (Value.bool true) v9 S8) (fun a0 S9 => some ([F,M,H,Q,N,I,K,L,J,P,b,c,d,f,g,i,k,l,m,n,o,p,q,dem J,a,dem a,V,W,X,dem v6,dem v7,v8,v9,a0,D,E], S9)) ()) ()) ()) ()) ()) ()) ()) ()) ()) := by
 refine sP Try.f22 5 0 (v := J) ?_
 refine sD Try.f22 5 1 (fun a G => ?_)
 refine sP Try.f22 5 2 (v := a) ?_
 refine sG Try.f22 5 3 (j := 2) (fun V R => ?_)
 refine sG Try.f22 5 4 (j := 2) (fun W Y => ?_)
 refine sG Try.f22 5 5 (j := 2) (fun X Z => ?_)
 refine sG Try.f22 5 6 (j := 2) (fun v6 S5 => ?_)
 refine sG Try.f22 5 7 (j := 2) (fun v7 S6 => ?_)
 refine sG Try.f22 5 8 (j := 2) (fun v8 S7 => ?_)
 refine sG Try.f22 5 9 (j := 2) (fun v9 S8 => ?_)
 refine sD Try.f22 5 10 (fun a0 S9 => ?_)
 kernel_rfl
theorem wu.r6  : jv Try.prog ⟨false, false, false⟩ (zQ Try.prog O) (reg Try.f22 6) (reg Try.f22 6).toList ([F,M,H,Q,N,I,K,L,J,P,b,c,d,f,g,i,k,l,m,n,o,p,q,r,s,t,u,w,x,y,z,A,B,C,D,E]) S =
  (zF (yu Try.prog 48 [] S) (fun U G => zF (wU Try.prog 48 H (dem U) G) (fun a R => some ([F,M,H,Value.int IntKind.i64 121,N,I,K,L,J,P,b,c,d,f,g,i,k,l,m,n,o,p,q,r,s,t,u,w,x,y,z,A,B,C,U,E], R)) ()) ()) := by
 kernel_rfl
theorem wu.r7  : jv Try.prog ⟨false, false, false⟩ (zQ Try.prog O) (reg Try.f22 7) (reg Try.f22 7).toList ([F,M,H,Q,N,I,K,L,J,P,b,c,d,f,g,i,k,l,m,n,o,p,q,r,s,t,u,w,x,y,z,A,B,C,D,E]) S =
  (zF (zZ Try.prog false 48 L S) (fun U G => zF (wU Try.prog 48 H (dem U) G) (fun a R => some ([F,M,H,Value.int IntKind.i64 0,N,I,K,L,J,P,b,c,d,f,g,i,k,l,m,n,o,p,q,r,s,t,u,w,x,y,z,A,B,C,D,U], R)) ()) ()) := by
 kernel_rfl
theorem wu.rs : type_of% (And.intro @wu.r0 (And.intro @wu.r1 (And.intro @wu.r2 (And.intro @wu.r3 (And.intro @wu.r4 (And.intro @wu.r5 (And.intro @wu.r6 (@wu.r7)))))))) := And.intro @wu.r0 (And.intro @wu.r1 (And.intro @wu.r2 (And.intro @wu.r3 (And.intro @wu.r4 (And.intro @wu.r5 (And.intro @wu.r6 (@wu.r7)))))))
theorem wu.runs {F : Value} {S G : zi} {e : AEx} {T : List Value} (h : zA Try.prog O false wu.code ([F,undef,undef,undef,undef,undef,undef,undef,undef,undef,undef,undef,undef,undef,undef,undef,undef,undef,undef,undef,undef,undef,undef,undef,undef,undef,undef,undef,undef,undef,undef,undef,undef,undef,undef,undef]) zi.empty = some (e, T, G)) (he : e = .normal ∨ e = .ret) {w0 : Value} (c0 : zZ Try.prog false 48 (T.getD 2 undef) G = some (w0, G)) (h0 : jY (w0) = true) (h1 : jY (T.getD 3 undef) = true) (hca : [F].all (jH 16) = true) (hcv : jH 16 (Value.tuple #[w0, T.getD 3 undef]) = true) : zQ Try.prog O 22 [F] S = some (Value.tuple #[w0, T.getD 3 undef], S) :=
 wZ rfl rfl Try.func22 (by decide) wu.body (by exact h) he ((ql ((show zG Try.prog T G Try.f22.results.toList = zG Try.prog T G [(ResultVar.cell 2 48), (ResultVar.tmp 3)] from by kernel_rfl).trans (by simp only [zG, c0])) (by kernel_rfl) (by simp only [List.all_cons, List.all_nil, h0, h1, Bool.and_true])).trans rfl) hca hcv
end Go.Proofs.Ytfjogganfjkckaa
