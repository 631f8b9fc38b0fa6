/-
The law MsgReads returns true for every input, and leaves it as it was; no condition. Part 4 of 7 of the texts (put together by a program: own names are short, what isn't needed is left out).
-/
import Derived.Test.YtbgcphbbchndkaaZMsgReads3
import Derived.KernelRfl
import Derived.Test.YtbgcphbbchndkaaChecked
set_option linter.unusedVariables false
set_option linter.unusedSimpArgs false
set_option maxRecDepth 100000
namespace Go.Abs
open Go.RowKit
def YR (P : Program) (call : FuncId → List Value → M Value) : Prop := ∀ g args aargs S v S', call g args S = some (v, S') → ∀ μ H ω, GI μ S H → L0 μ H args aargs → Dom μ H ω → (∀ r s, ω r = some s → s = .ext) →
 ∃ a H' μ' ω', lim P g aargs H = some (a, H') ∧ GI μ' S' H' ∧ Later μ H μ' H' ∧ Kept ω H ω' H' ∧ Dom μ' H' ω' ∧ VV μ' H' ω' (some (.res none)) v a
section
variable {P : Program} {call : FuncId → List Value → M Value} {μ : Mu} {ω : Nat → Option kF} {S S' H : zk} {T A : List Value}
theorem agE (hc : YR P call) {g : FuncId} {args aargs : List Value} {v : Value} (hG : GI μ S H) (hT : TI μ H ω T A) (h : call g args S = some (v, S')) (ha : L0 μ H args aargs) : Out μ ω H A T S' v (lim P g aargs H) := by
 obtain ⟨a, H', μ', ω', h1, h2, h3, h4, h5, h6⟩ := hc g args aargs S v S' h μ H (fun r => (ω r).map fun _ => .ext) hG ha (fun r s hs => by
  cases hr : ω r with
  | none => simp [hr] at hs
  | some s0 => exact hT.dom r s0 hr) (fun r s hs => by
  cases hr : ω r with
  | none => simp [hr] at hs
  | some s0 => simp [hr] at hs; exact hs.symm)
 have kept : ∀ r s, ω r = some s → ω' r = some .ext ∧ H'.get r = H.get r := fun r s hs => h4 r (by dsimp only; rw [hs]; rfl)
 refine ⟨a, H', μ', fun r => match ω' r with | some .ext => ω r | some (.slot _ _) => none | x => x, h1, h2, h3, fun r hr => ?_, fun r s hs => ?_, hT.len, fun i => ?_, ?_⟩
 ·
  obtain ⟨k1, k2⟩ := kept r _ hr
  exact ⟨by (try dsimp only); rw [k1]; exact hr, k2⟩
 ·
  dsimp only at hs
  cases hr : ω' r with
  | none => rw [hr] at hs; cases hs
  | some s0 =>
   have := h5 r s0 hr
   exact this
 ·
  refine (hT.slots i).later h3 (K := fun _ => True) (fun _ _ _ _ _ => trivial) (fun r s _ hr => ?_) (fun _ _ => trivial)
  obtain ⟨k1, k2⟩ := kept r s hr
  exact ⟨by (try dsimp only); rw [k1]; exact hr, k2⟩
 ·
  refine h6.later (Later.refl _ _) (K := fun s => ∃ j, s = .res j) (fun s i t ⟨j, hj⟩ ht => by subst hj; cases j <;> cases ht; exact ⟨_, rfl⟩) (fun r s ⟨j, hj⟩ hr => ?_) (fun s hs => by cases hs; exact ⟨_, rfl⟩)
  subst hj
  exact ⟨by (try dsimp only); rw [hr], rfl⟩
def WQ (t : Nat) : kF → Option kF
 | .slot i j => if i = t then some (.res j) else some (.slot i j)
 | s => some s
def YU (t k : Nat) : kF → Option kF
 | .slot i (some j) => if i = t ∧ j = k then some (.res none) else some (.slot i (some j))
 | s => some s
theorem abL {x : Operand} (hG : GI μ S H) (hT : TI μ H ω T A) (hx : xG x = true) : Out μ ω H A (qA T x) S (jY T x) (some (jY A x, H)) := by
 cases x with
 | const v => exact Out.same hG hT (VV.qH hx)
 | global g => cases hx
 | func f => exact Out.same hG hT (hT.eval (x := .func f) rfl)
 | tmp t =>
  refine ⟨_, H, μ, fun r => (ω r).bind (WQ t), rfl, hG, Later.refl μ H, fun r hr => ⟨by dsimp only; rw [hr]; rfl, rfl⟩, fun r s hs => ?_, by simp [qA, xC, hT.len], fun i => ?_, ?_⟩
  ·
   dsimp only at hs
   cases hr : ω r with
   | none => rw [hr] at hs; cases hs
   | some s0 => exact hT.dom r s0 hr
  ·
   dsimp only [qA, xC]
   rw [kC]
   by_cases hi : i = t
   ·
    subst hi
    by_cases hlt : i < T.length
    ·
     rw [if_pos ⟨rfl, hlt⟩]
     exact (hT.slots i).v0.at0
    ·
     rw [if_neg (fun h => hlt h.2)]
     rw [List.getD_eq_getElem?_getD, List.getElem?_eq_none (Nat.le_of_not_lt hlt), List.getD_eq_getElem?_getD, List.getElem?_eq_none (by rw [← hT.len]; omega)]
     exact .nores
   ·
    rw [if_neg (fun h => hi h.1)]
    refine (hT.slots i).Vd (fun _ => rfl) _ (fun s hs => ?_)
    cases hs
    refine ⟨_, rfl, by simp only [WQ]; rw [if_neg hi], fun k t' ht => ?_⟩
    cases ht
    exact ⟨_, rfl, by simp only [WQ]; rw [if_neg hi]⟩
  ·
   refine (hT.slots t).Vd (fun _ => rfl) _ (fun s hs => ?_)
   cases hs
   refine ⟨_, rfl, by simp only [WQ, if_true], fun k t' ht => ?_⟩
   cases ht
   exact ⟨_, rfl, by simp only [WQ, if_true]⟩
theorem getD_modify (vs : Array Value) (i k : Nat) (f : Value → Value) (hf : f undef = undef) : (vs.modify i f).getD k undef = if k = i then f (vs.getD k undef) else vs.getD k undef := by
 rw [Array.getD_eq_getD_getElem?, Array.getD_eq_getD_getElem?, Array.getElem?_modify]
 by_cases h : i = k
 ·
  subst h
  rw [if_pos rfl, if_pos rfl]
  cases vs[i]? with
  | none => exact hf.symm
  | some v => rfl
 ·
  rw [if_neg h, if_neg (fun e => h e.symm)]
theorem VV.part {ω' : Nat → Option kF} {ℓ ℓ' : Option kF} {v a : Value} (h : VV μ H ω ℓ v a) (hℓ : ∀ s, ℓ = some s → ∀ k, s.comp k = none) : VV μ H ω' ℓ' (Go.Abs.xH v) a := by
 by_cases ht : ∃ x, v = .tuple x
 ·
  obtain ⟨x, rfl⟩ := ht
  show VV μ H ω' ℓ' (.tuple x) a
  cases h with
  | sg hs => simp [Go.Abs.sg] at hs
  | nores => exact .nores
  | tuple hx hh =>
   refine .tuple hx fun i => ?_
   have := hh i
   cases ℓ with
   | none => exact this.at0
   | some s =>
    have e : (some s).bind (·.comp i) = none := hℓ s rfl i
    rw [e] at this
    exact this.at0
 ·
  have e : Go.Abs.dem v = Go.Abs.xH v := by
   cases v <;> first | rfl | exact absurd ⟨_, rfl⟩ ht
  rw [← e]
  exact h.v0.at0
def YB (T : List Value) (i : Nat) : Operand → List Value
 | .tmp t => T.set t (zS i (T.getD t undef))
 | _ => T
theorem aaY {x : Operand} {i : Nat} {v : Value} (hG : GI μ S H) (hT : TI μ H ω T A) (hx : xG x = true) (h : zU (jY T x) i S = some (v, S')) :
  Out μ ω H A (YB T i x) S' v (zU (jY A x) i H) := by
 cases x with
 | const w =>
  exfalso
  unfold zU at h
  split at h
  ·
   rename_i vs he
   simp only [jY] at he
   subst he
   simp [xG, ground, Go.Abs.sg] at hx
  ·
   cases h
 | global g => cases hx
 | func f => simp [jY, zU] at h
 | tmp t =>
  simp only [jY, YB] at h ⊢
  unfold zU at h
  split at h
  ·
   rename_i vs hvs
   split at h <;> first | (cases h; done) | skip
   rename_i w hw
   cases h
   have hs := hT.slots t
   rw [hvs] at hs
   have hil : i < vs.size := (Array.getElem?_eq_some_iff.1 hw).1
   have hlt : t < T.length := by
    rcases Nat.lt_or_ge t T.length with h | h
    ·
     exact h
    ·
     rw [List.getD_eq_getElem?_getD, List.getElem?_eq_none h] at hvs
     cases hvs
     simp at hil
   generalize hA : A.getD t undef = at' at hs
   cases hs with
   | sg hs => simp [Go.Abs.sg] at hs
   | nores => simp at hil
   | @tuple _ _ y hxs hxx =>
    have hiy : i < y.size := by rw [← hxs]; exact hil
    have hrun : zU (.tuple y) i H = some (y[i], H) := by simp only [zU, Array.getElem?_eq_getElem hiy]
    rw [hrun]
    have hcomp := hxx i
    rw [Array.getD_eq_getD_getElem?, hw, Array.getD_eq_getD_getElem?, Array.getElem?_eq_getElem hiy] at hcomp
    simp only [Option.getD_some] at hcomp
    refine ⟨_, H, μ, fun r => (ω r).bind (YU t i), rfl, hG, Later.refl μ H, fun r hr => ⟨by dsimp only; rw [hr]; rfl, rfl⟩, fun r s hs => ?_, by simp [hT.len], fun k => ?_, ?_⟩
    ·
     dsimp only at hs
     cases hr : ω r with
     | none => rw [hr] at hs; cases hs
     | some s0 => exact hT.dom r s0 hr
    ·
     rw [kC]
     by_cases hk : k = t
     ·
      subst hk
      rw [if_pos ⟨rfl, hlt⟩, hA, hvs]
      simp only [zS]
      refine .tuple (by simpa using hxs) fun j => ?_
      rw [getD_modify _ _ _ _ rfl]
      by_cases hj : j = i
      ·
       subst hj
       rw [if_pos rfl]
       exact (hxx j).part (fun s hs k => by cases hs; rfl)
      ·
       rw [if_neg hj]
       refine (hxx j).Vd (fun _ => rfl) _ (fun s hs => ?_)
       cases hs
       refine ⟨_, rfl, by simp only [YU]; rw [if_neg (fun e => hj e.2)], fun a b hb => by cases hb⟩
     ·
      rw [if_neg (fun e => hk e.1)]
      refine (hT.slots k).Vd (fun _ => rfl) _ (fun s hs => ?_)
      cases hs
      refine ⟨_, rfl, rfl, fun a b hb => ?_⟩
      cases hb
      exact ⟨_, rfl, by simp only [YU]; rw [if_neg (fun e => hk e.1)]⟩
    ·
     refine hcomp.Vd (fun _ => rfl) _ (fun s hs => ?_)
     cases hs
     exact ⟨_, rfl, by simp [YU], fun a b hb => by cases hb⟩
  ·
   cases h
theorem aio (hT : TI μ H ω T A) : ∀ (xs : List Operand), xs.all xG = true → L0 μ H (xs.map fun x => dem (jY T x)) (xs.map (jY A)) := by
 intro xs h
 exact LV.map fun x hx => hT.eval (List.all_eq_true.1 h x hx)
theorem Y1 {xs : List Operand} (hT : TI μ H ω T A) (h : xs.all xG = true) (hg : (xs.map (jY T)).all ground = true) : xs.map (jY A) = xs.map (jY T) := by
 apply List.map_congr_left
 intro x hx
 exact wK (hT.eval (List.all_eq_true.1 h x hx)) (List.all_eq_true.1 hg _ (List.mem_map.2 ⟨x, hx, rfl⟩))
theorem agc {o : Oper} (h : hands o = false) (hc : ∀ c, o.op ≠ .call c) : moved o T = T := by
 unfold moved
 unfold hands at h
 split <;> first | rfl | (rename_i he; exact absurd he (hc _)) | (rename_i he; rw [he] at h; cases h)
theorem afH {fx : Fx} (hc : YR P call) {o : Oper} {v : Value} (hG : GI μ S H) (hT : TI μ H ω T A) (h : qy P fx call T o S = some (v, S')) : Out μ ω H A (moved o T) S' v (qK P (lim P) A o H) := by
 unfold qy at h
 split at h <;> first | (cases h; done) | skip
 rename_i hok
 unfold qK
 rw [if_pos hok]
 have hargs : o.op.operands.toList.all xG = true := hok
 have hev : ∀ x ∈ o.op.operands.toList, V0 μ H (dem (jY T x)) (jY A x) := fun x hx => hT.eval (List.all_eq_true.1 hargs x hx)
 have hoka : ∀ x ∈ o.op.operands.toList, xG x = true := fun x hx => List.all_eq_true.1 hargs x hx
 obtain ⟨dst, op, type, pos, after, guard⟩ := o
 by_cases hcall : ∃ c, op = .call c
 ·
  obtain ⟨c, rfl⟩ := hcall
  dsimp only at h hev hoka hargs ⊢
  have hcargs : c.args.toList.all xG = true := by
   rw [List.all_eq_true]
   intro x hx
   refine hoka x ?_
   simp only [Op.operands, Call.operands]
   cases c.callee <;> simp <;> first | exact .inr (by simpa using hx) | exact (by simpa using hx)
  cases hcal : c.callee with
  | value f =>
   rw [hcal] at h
   dsimp only at h ⊢
   have hf := hev f (by simp [Op.operands, Call.operands, hcal])
   split at h <;> first | (cases h; done) | skip
   rename_i g first captured hfe
   rw [hfe] at hf
   have hf : V0 μ H (.func (.func g) first captured) (jY A f) := hf
   generalize hfa : jY A f = fa at hf
   cases hf with
   | sg hs => simp [Go.Abs.sg] at hs
   | func _ hx hcs h1 h2 =>
    rename_i x' c'
    dsimp only
    have l1 : L0 μ H first.toList x'.toList := ⟨by simpa using hx, fun i => by rw [getD_toList, getD_toList]; exact h1 i⟩
    have l2 : L0 μ H captured.toList c'.toList := ⟨by simpa using hcs, fun i => by rw [getD_toList, getD_toList]; exact h2 i⟩
    have hm : moved ⟨dst, .call c, type, pos, after, guard⟩ T = T := by simp only [moved, hcal]
    rw [hm]
    exact agE hc hG hT h ((l1.append (aio hT _ hcargs)).append l2)
  | invoke r m => rw [hcal] at h; cases h
  | builtin b =>
   rw [hcal] at h
   dsimp only at h ⊢
   unfold XU at h
   unfold vU
   cases b <;> dsimp only at h ⊢ <;> first | (cases h; done) | skip
   case len =>
    split at h <;> first | (cases h; done) | skip
    rename_i t x0 ht ha
    obtain ⟨x, hx, rfl⟩ : ∃ x, c.args.toList = [x] ∧ jY T x = x0 := by
     match hl : c.args.toList with
     | [] => rw [hl] at ha; cases ha
     | [y] => rw [hl] at ha; simp at ha; exact ⟨y, rfl, ha⟩
     | y :: z :: w => rw [hl] at ha; simp at ha
    have hm : moved ⟨dst, .call c, type, pos, after, guard⟩ T = T := by simp only [moved, hcal]
    rw [hm, ht, hx]
    rw [hx] at hcargs
    obtain ⟨rfl, a, h1, h2⟩ := afq h (hT.eval (List.all_eq_true.1 hcargs x (by simp)))
    simp only [List.map_cons, List.map_nil]
    rw [h1]
    exact Out.same hG hT h2
   case append =>
    split at h <;> first | (cases h; done) | skip
    rename_i t tx s0 x0 ht ha
    obtain ⟨so, x, hx, rfl, rfl⟩ : ∃ so x, c.args.toList = [so, x] ∧ jY T so = s0 ∧ jY T x = x0 := by
     match hl : c.args.toList with
     | [] => rw [hl] at ha; cases ha
     | [y] => rw [hl] at ha; simp at ha
     | [y, z] => rw [hl] at ha; simp at ha; exact ⟨y, z, rfl, ha.1, ha.2⟩
     | y :: z :: w :: u => rw [hl] at ha; simp at ha
    rw [hx] at hcargs
    have hso := List.all_eq_true.1 hcargs so (by simp)
    have hm : moved ⟨dst, .call c, type, pos, after, guard⟩ T = qA T so := by
     simp only [moved, hcal, hx]
     cases so <;> rfl
    rw [hm, ht, hx]
    exact ac8 hG hT hso h (hT.eval (List.all_eq_true.1 hcargs x (by simp)))
   case copy =>
    split at h <;> first | (cases h; done) | skip
    rename_i t tx s0 x0 ht ha
    obtain ⟨so, x, hx, rfl, rfl⟩ : ∃ so x, c.args.toList = [so, x] ∧ jY T so = s0 ∧ jY T x = x0 := by
     match hl : c.args.toList with
     | [] => rw [hl] at ha; cases ha
     | [y] => rw [hl] at ha; simp at ha
     | [y, z] => rw [hl] at ha; simp at ha; exact ⟨y, z, rfl, ha.1, ha.2⟩
     | y :: z :: w :: u => rw [hl] at ha; simp at ha
    rw [hx] at hcargs
    have hm : moved ⟨dst, .call c, type, pos, after, guard⟩ T = T := by simp only [moved, hcal]
    rw [hm, ht, hx]
    exact agH hG hT h (hT.eval (List.all_eq_true.1 hcargs so (by simp))) (hT.eval (List.all_eq_true.1 hcargs x (by simp)))
   case clear =>
    split at h <;> first | (cases h; done) | skip
    rename_i t x0 ht ha
    obtain ⟨x, hx, rfl⟩ : ∃ x, c.args.toList = [x] ∧ jY T x = x0 := by
     match hl : c.args.toList with
     | [] => rw [hl] at ha; cases ha
     | [y] => rw [hl] at ha; simp at ha; exact ⟨y, rfl, ha⟩
     | y :: z :: w => rw [hl] at ha; simp at ha
    have hm : moved ⟨dst, .call c, type, pos, after, guard⟩ T = T := by simp only [moved, hcal]
    rw [hm, ht, hx]
    rw [hx] at hcargs
    exact ael hG hT h (hT.eval (List.all_eq_true.1 hcargs x (by simp)))
   case min =>
    obtain ⟨rfl, hg, hga, hh⟩ := qh (H := H) h
    have hm : moved ⟨dst, .call c, type, pos, after, guard⟩ T = T := by simp only [moved, hcal]
    rw [hm, Y1 hT hcargs hga, hh]
    exact Out.same hG hT (V0.ground hg)
   case max =>
    obtain ⟨rfl, hg, hga, hh⟩ := qh (H := H) h
    have hm : moved ⟨dst, .call c, type, pos, after, guard⟩ T = T := by simp only [moved, hcal]
    rw [hm, Y1 hT hcargs hga, hh]
    exact Out.same hG hT (V0.ground hg)
 ·
  have hnc : ∀ c, op ≠ .call c := fun c hc => hcall ⟨c, hc⟩
  have hV : vOp P fx (jY T) ⟨dst, op, type, pos, after, guard⟩ S = some (v, S') := by
   cases op <;> first | exact h | exact absurd rfl (hnc _)
  suffices hs : Out μ ω H A (moved ⟨dst, op, type, pos, after, guard⟩ T) S' v (aOp P (jY A) ⟨dst, op, type, pos, after, guard⟩ H) by
   cases op <;> first | exact hs | exact absurd rfl (hnc _)
  by_cases hh : hands ⟨dst, op, type, pos, after, guard⟩ = true
  ·
   cases op <;> first | (cases hh; done) | skip
   case move x =>
    cases hV
    have := abL hG hT (hoka x (by simp [Op.operands]))
    have hm : moved ⟨dst, .move x, type, pos, after, guard⟩ T = qA T x := by cases x <;> rfl
    rw [hm]; exact this
   case assign x =>
    cases hV
    have := abL hG hT (hoka x (by simp [Op.operands]))
    have hm : moved ⟨dst, .assign x, type, pos, after, guard⟩ T = qA T x := by cases x <;> rfl
    rw [hm]; exact this
   case extract x i =>
    have := aaY hG hT (hoka x (by simp [Op.operands])) hV
    have hm : moved ⟨dst, .extract x i, type, pos, after, guard⟩ T = (YB T i x) := by cases x <;> rfl
    rw [hm]; exact this
  ·
   have hh : hands ⟨dst, op, type, pos, after, guard⟩ = false := by simpa using hh
   rw [agc hh hnc]
   by_cases hch : Jj P ⟨dst, op, type, pos, after, guard⟩ = false
   ·
    obtain ⟨rfl, a, h1, h2, h3⟩ := aag hV hch hev (.inr hG) (.inr hG)
    rw [h1]
    exact Out.same hG hT (h3 hh)
   ·
    unfold vOp at hV
    unfold aOp
    cases op <;> dsimp only at hV hev ⊢ <;> first | (cases hV; done) | (exact absurd rfl hch) | (cases hh; done) | skip
    case alloc e => exact afa hG hT hV
    case box x _ => exact ahE hG hT hV (hev x (by simp [Op.operands]))
    case buildSlice t len parts _ =>
     have hps := VB (μ := μ) (H := H) (parts := parts.toList) (ρ := jY T) (ρA := jY A) fun p hp => hev p.2 (by simp [Op.operands]; exact ⟨p.1, by simpa using hp⟩)
     split at hV
     ·
      exact aae hG hT hV hps
     ·
      exact Q5 hG hT hV hps
    case makeMap t r _ => exact aaW hG hT hV (fun h => by cases r <;> simp at h ⊢)
    case mapUpdate t x k w _ => exact XZ hG hT hV (hev x (by simp [Op.operands])) (hev k (by simp [Op.operands])) (hev w (by simp [Op.operands]))
    case store a x _ => exact afo hG hT hV (hev a (by simp [Op.operands])) (hev x (by simp [Op.operands]))
    case makeSlice l c _ =>
     split at hV
     ·
      exact aau hG hT hV (hev l (by simp [Op.operands])) (hev c (by simp [Op.operands]))
     ·
      exact XA hG hT hV (hev l (by simp [Op.operands])) (hev c (by simp [Op.operands]))
    case convert dst' x _ =>
     have hd : ∃ e, P.underlying dst' = some (.slice e) := by
      unfold Jj at hch
      dsimp only at hch
      split at hch
      ·
       exact ⟨_, by assumption⟩
      ·
       exact absurd rfl hch
     obtain ⟨e, hd⟩ := hd
     cases x with
     | tmp t => exact Qw hG hT hV (hT.slots t) hd
     | const w => exact Qw hG hT hV (VV.qH (ℓ := none) (hoka (.const w) (by simp [Op.operands]))) hd
     | global g => have := hoka (.global g) (by simp [Op.operands]); cases this
     | func f => exact Qw hG hT hV (ℓ := none) ((hT.eval (x := .func f) rfl).at0) hd
theorem aeH {ops : Array Oper} (hT : TI μ H ω T A) (j : Nat) : ynd ops T j = ynd ops A j := by
 unfold ynd
 cases hd : (ops[j]?).bind (·.dst) with
 | none => rfl
 | some d =>
  simp only [Option.bind_some]
  have := hT.slots d
  have e := hT.len
  by_cases hlt : d < T.length
  ·
   have hlt' : d < A.length := by rw [← e]; exact hlt
   simp only [List.getD_eq_getElem?_getD, List.getElem?_eq_getElem hlt, List.getElem?_eq_getElem hlt', Option.getD_some] at this
   rw [List.getElem?_eq_getElem hlt, List.getElem?_eq_getElem hlt']
   generalize T[d] = u at *
   generalize A[d] = u' at *
   cases this <;> rfl
  ·
   have hlt' : A.length ≤ d := by rw [← e]; exact Nat.le_of_not_lt hlt
   rw [List.getElem?_eq_none (Nat.le_of_not_lt hlt), List.getElem?_eq_none hlt']
theorem TI.moved (hT : TI μ H ω T A) (o : Oper) : TI μ H ω (moved o T) A := by
 have slot : ∀ t, TI μ H ω (xC T t) A := by
  intro t
  refine ⟨by simp [xC, hT.len], fun i => ?_, hT.dom, hT.nores⟩
  rw [xC, kC]
  split
  ·
   rename_i h; rw [h.1]; exact (hT.slots t).dem
  ·
   exact hT.slots i
 unfold Go.Abs.moved
 split
 ·
  exact slot _
 ·
  exact slot _
 ·
  rename_i t i _
  refine ⟨by simp [hT.len], fun k => ?_, hT.dom, hT.nores⟩
  rw [kC]
  split
  ·
   rename_i h
   rw [h.1]
   have := hT.slots t
   generalize T.getD t undef = w at this
   cases w with
   | tuple vs =>
    simp only [zS]
    generalize A.getD t undef = a at this
    cases this with
    | sg hs => simp [Go.Abs.sg] at hs
    | nores => rw [show (#[] : Array Value).modify i Go.Abs.xH = #[] by simp]; exact .nores
    | @tuple _ _ y hxs hxx =>
     refine .tuple (by simpa using hxs) fun j => ?_
     rw [getD_modify _ _ _ _ rfl]
     by_cases hj : j = i
     ·
      subst hj
      rw [if_pos rfl]
      exact (hxx j).part (fun s hs k => by cases hs; rfl)
     ·
      rw [if_neg hj]; exact hxx j
   | _ => exact this
  ·
   exact hT.slots k
 ·
  split
  ·
   exact slot _
  ·
   exact hT
 ·
  exact hT
def After (μ : Mu) (ω : Nat → Option kF) (H : zk) (T' : List Value) (S' : zk) (R : Option (List Value × zk)) : Prop :=
 ∃ A' H' μ' ω', R = some (A', H') ∧ GI μ' S' H' ∧ Later μ H μ' H' ∧ Kept ω H ω' H' ∧ TI μ' H' ω' T' A'
theorem abt {fx : Fx} (hc : YR P call) {o : Oper} {rest : List Oper} {v : Value} (hG : GI μ S H) (hT : TI μ H ω T A) (h : qy P fx call T o S = some (v, S')) :
  ∃ a H' μ' ω', qK P (lim P) A o H = some (a, H') ∧ GI μ' S' H' ∧ Later μ H μ' H' ∧ Kept ω H ω' H' ∧ TI μ' H' ω' (ZQ o rest T v) (Yf A o.dst a) := by
 unfold ZQ
 split
 ·
  rename_i hl
  have hm : ∃ x, o.op = .move x := by
   unfold ajM at hl
   split at hl
   ·
    rename_i x _ he _; exact ⟨x, he⟩
   ·
    cases hl
  obtain ⟨x, hx⟩ := hm
  unfold qy at h
  split at h <;> first | (cases h; done) | skip
  rename_i hok
  have hox : xG x = true := List.all_eq_true.1 (show o.op.operands.toList.all xG = true from hok) x (by rw [hx]; simp [Op.operands])
  rw [hx] at h
  dsimp only at h
  unfold vOp at h
  rw [hx] at h
  cases h
  have ha : qK P (lim P) A o H = some (jY A x, H) := by
   unfold qK
   rw [if_pos hok, hx]
   dsimp only
   unfold aOp
   rw [hx]
   rfl
  rw [ha]
  exact (Out.same hG hT (hT.eval hox)).put o.dst
 ·
  exact (afH hc hG hT h).put o.dst
theorem YE {o : Oper} {rest : List Oper} (hG : GI μ S H) (hT : TI μ H ω T A) : ∃ μ' ω', GI μ' S H ∧ Later μ H μ' H ∧ Kept ω H ω' H ∧ TI μ' H ω' (ZQ o rest T undef) (Yf A o.dst undef) := by
 unfold ZQ
 split
 ·
  rw [show dem undef = undef from Jp]
  obtain ⟨a, H1, μ1, ω1, h1, h2, h3, h4, h5⟩ := (Out.same hG hT (VV.undef)).put o.dst
  cases h1
  exact ⟨μ1, ω1, h2, h3, h4, h5⟩
 ·
  obtain ⟨a, H1, μ1, ω1, h1, h2, h3, h4, h5⟩ := (Out.same hG (hT.moved o) (VV.undef)).put o.dst
  cases h1
  exact ⟨μ1, ω1, h2, h3, h4, h5⟩
theorem aif {fx : Fx} (hc : YR P call) {ops : Array Oper} : ∀ (l : List Oper) (T T' A : List Value) (S S' H : zk) (μ : Mu) (ω : Nat → Option kF), jC P fx call ops l T S = some (T', S') → GI μ S H → TI μ H ω T A → After μ ω H T' S' (aap P (lim P) ops l A H) := by
 intro l
 induction l with
 | nil =>
  intro T T' A S S' H μ ω h hG hT
  simp only [jC, Option.some.injEq, Prod.mk.injEq] at h
  obtain ⟨rfl, rfl⟩ := h
  exact ⟨A, H, μ, ω, rfl, hG, Later.refl _ _, Kept.refl _ _, hT⟩
 | cons o l ih =>
  intro T T' A S S' H μ ω h hG hT
  have hy : (ynd ops T) = ynd ops A := funext fun j => aeH hT j
  simp only [jC] at h
  simp only [aap, ← hy]
  split at h
  ·
   rename_i hw
   split at h
   ·
    rename_i v S1 hs
    obtain ⟨a, H1, μ1, ω1, h1, h2, h3, h4, h5⟩ := abt (rest := l) hc hG hT hs
    obtain ⟨A2, H2, μ2, ω2, k1, k2, k3, k4, k5⟩ := ih _ _ _ _ _ _ _ _ h h2 h5
    refine ⟨A2, H2, μ2, ω2, ?_, k2, h3.trans k3, h4.trans k4, k5⟩
    rw [if_pos hw, h1]
    exact k1
   ·
    cases h
  ·
   rename_i hw
   obtain ⟨μ1, ω1, h2, h3, h4, h5⟩ := YE (o := o) (rest := l) hG hT
   obtain ⟨A2, H2, μ2, ω2, k1, k2, k3, k4, k5⟩ := ih _ _ _ _ _ _ _ _ h h2 h5
   refine ⟨A2, H2, μ2, ω2, ?_, k2, h3.trans k3, h4.trans k4, k5⟩
   rw [if_neg hw]
   exact k1
end
end Go.Abs
namespace Go.Abs
open Go.RowKit
section
variable {P : Program} {call : FuncId → List Value → M Value} {μ μ2 : Mu} {S S' G H H2 : zk} {T A : List Value}
theorem Jh.two {s : M Value} (hs : Jh s) {a : Value} {G' : zk} (h : s G = some (a, G')) : ∀ H, s H = some (a, H) := by
 obtain ⟨o, ho⟩ := hs
 rw [ho] at h
 cases o with
 | none => cases h
 | some w =>
  simp only [Option.map_some, Option.some.injEq, Prod.mk.injEq] at h
  intro H
  rw [ho, h.1]; rfl
theorem aa6 {t : TypeId} {ps : List (Nat × Value)} : Jh (yJ P t ps) := by
 refine ⟨(yJ P t ps zk.empty).map (·.1), fun H => ?_⟩
 unfold yJ
 split
 ·
  split
  ·
   split
   ·
    split
    ·
     split <;> rfl
    ·
     rfl
   ·
    split
    ·
     split <;> rfl
    ·
     rfl
   ·
    rfl
  ·
   rfl
 ·
  rfl
theorem QV {x : Value} : Jh (vY x) := by
 refine ⟨(vY x zk.empty).map (·.1), fun H => ?_⟩
 unfold vY
 split <;> rfl
theorem aa3 {t : TypeId} {x i : Value} : Jh (ZG P t x i) := by
 unfold ZG
 refine ⟨(ZG P t x i zk.empty).map (·.1), fun H => ?_⟩
 unfold ZG
 dsimp only
 split
 ·
  split
  ·
   split
   ·
    split <;> rfl
   ·
    rfl
  ·
   rfl
 ·
  obtain ⟨o, ho⟩ := qP (P := P) _ _
  rw [ho, ho]
  cases o <;> rfl
 ·
  rfl
theorem aeJ {t : TypeId} {x : Value} (hx : ∀ m, x ≠ .map m) : Jh (aao P t x) := by
 refine ⟨(aao P t x zk.empty).map (·.1), fun H => ?_⟩
 unfold aao
 split <;> first | rfl | exact absurd rfl (hx _)
theorem Y3 {d : Nat} {v : Value} (h : okq d v = true) : okq d (dem v) = true := by
 cases v with
 | iface k v => cases d <;> rfl
 | tuple vs => cases d <;> cases h
 | _ => exact h
theorem Y9 : ∀ (d : Nat) {v a : Value}, okq d v = true → V0 μ H v a → adk d a a = true := by
 intro d
 induction d with
 | zero =>
  intro v a h hv
  cases hv <;> first | (cases h; done) | (simp [adk]; done) | skip
  rename_i hs
  cases v <;> first | (simp [adk]; done) | (simp [Go.Abs.sg] at hs; done) | skip
 | succ d ih =>
  intro v a h hv
  cases hv <;> first | (cases h; done) | (simp [adk]; done) | skip
  ·
   rename_i hs
   cases v <;> first | (simp [adk]; done) | (simp [Go.Abs.sg] at hs; done) | skip
  ·
   rename_i x x' hx hh
   unfold adk
   simp only [decide_true, Bool.true_and]
   rw [List.all_eq_true]
   intro p hp
   obtain ⟨i, hi, he⟩ := List.mem_iff_getElem.1 hp
   simp only [List.length_zip, Nat.min_self] at hi
   rw [List.getElem_zip] at he
   subst he
   have hi' : i < x'.size := by simpa using hi
   have hi2 : i < x.size := by rw [hx]; exact hi'
   have h2 := hh i
   rw [Array.getD_eq_getD_getElem?, Array.getElem?_eq_getElem hi2, Array.getD_eq_getD_getElem?, Array.getElem?_eq_getElem hi'] at h2
   have h3 : okq d x[i] = true := List.all_eq_true.1 (show x.toList.all (okq d) = true from h) _ (by simp)
   have := ih h3 h2
   simpa using this
theorem abm (x : Value) : Vp (dem x) = Vp x := by cases x <;> rfl
theorem ahj {fx : Fx} {o : Oper} {v : Value} (hdr : fx.dr = true) (h : qy P fx call T o S = some (v, S')) (hn : Jj P o = false) (hr : vV o = false) (ho : ∀ x ∈ o.op.operands.toList, V0 μ G (dem (jY T x)) (jY A x)) :
  ∃ a, V0 μ G (dem v) a ∧ ∀ H, aOp P (jY A) o H = some (a, H) ∧ qK P (lim P) A o H = some (a, H) := by
 have hrm : vk o = false := by
  unfold vV at hr
  unfold vk
  split <;> simp_all
 unfold qy at h
 split at h <;> first | (cases h; done) | skip
 rename_i hok
 obtain ⟨dst, op, type, pos, after, guard⟩ := o
 by_cases hcall : ∃ c, op = .call c
 ·
  obtain ⟨c, rfl⟩ := hcall
  dsimp only at h ho
  unfold Jj at hn
  dsimp only at hn
  have hcargs : ∀ x ∈ c.args.toList, V0 μ G (dem (jY T x)) (jY A x) := by
   intro x hx
   refine ho x ?_
   simp only [Op.operands, Call.operands]
   cases c.callee <;> simp <;> first | exact .inr (by simpa using hx) | exact (by simpa using hx)
  have step : ∀ {b : Builtin} (a : Value), c.callee = .builtin b → (∀ H, vU P b c.argTypes type (c.args.toList.map (jY A)) H = some (a, H)) → ∀ H, aOp P (jY A) ⟨dst, .call c, type, pos, after, guard⟩ H = some (a, H) ∧ qK P (lim P) A ⟨dst, .call c, type, pos, after, guard⟩ H = some (a, H) := by
   intro b a hb hall H
   constructor
   ·
    unfold aOp; dsimp only; rw [hb]; exact hall H
   ·
    unfold qK; rw [if_pos hok]; dsimp only; rw [hb]; exact hall H
  cases hcal : c.callee with
  | value f => rw [hcal] at hn; cases hn
  | invoke r m => rw [hcal] at hn; cases hn
  | builtin b =>
   rw [hcal] at h
   dsimp only at h
   unfold XU at h
   rw [hcal] at hn
   have gargs : (c.args.toList.map (jY T)).all ground = true → c.args.toList.map (jY A) = c.args.toList.map (jY T) := by
    intro hg
    apply List.map_congr_left
    intro x hx
    exact wK (hcargs x hx) (List.all_eq_true.1 hg _ (List.mem_map.2 ⟨x, hx, rfl⟩))
   cases b <;> dsimp only at h hn <;> first | (cases h; done) | (cases hn; done) | skip
   case len =>
    split at h <;> first | (cases h; done) | skip
    rename_i t x0 ht ha
    obtain ⟨x, hx, rfl⟩ : ∃ x, c.args.toList = [x] ∧ jY T x = x0 := by
     match hl : c.args.toList with
     | [] => rw [hl] at ha; cases ha
     | [y] => rw [hl] at ha; simp at ha; exact ⟨y, rfl, ha⟩
     | y :: z :: w => rw [hl] at ha; simp at ha
    have hxv := hcargs x (by rw [hx]; simp)
    obtain ⟨rfl, a, h1, h2⟩ := afq h hxv
    have hmap : ∀ m, jY A x ≠ .map m := by
     intro m hm
     rw [hm] at hxv
     generalize hu : dem (jY T x) = u at hxv
     have hum : ∃ m', u = .map m' := by cases hxv <;> exact ⟨_, rfl⟩
     obtain ⟨m', rfl⟩ := hum
     have : jY T x = .map m' := by
      cases hv : jY T x <;> rw [hv] at hu <;> simp [dem, xH] at hu <;> rw [hu]
     rw [this] at h
     simp [Zz] at h
    refine ⟨a, h2.dem, step a hcal fun H => ?_⟩
    unfold vU
    dsimp only
    rw [ht, hx]
    exact (aeJ hmap).two h1 H
   case min =>
    obtain ⟨rfl, hg, hga, hh⟩ := qh (H := G) h
    refine ⟨v, (V0.ground hg).dem, step v hcal fun H => ?_⟩
    unfold vU
    dsimp only
    rw [gargs hga]
    exact (qP _ _).two hh H
   case max =>
    obtain ⟨rfl, hg, hga, hh⟩ := qh (H := G) h
    refine ⟨v, (V0.ground hg).dem, step v hcal fun H => ?_⟩
    unfold vU
    dsimp only
    rw [gargs hga]
    exact (qP _ _).two hh H
 ·
  have hnc : ∀ c, op ≠ .call c := fun c hc => hcall ⟨c, hc⟩
  have hV : vOp P fx (jY T) ⟨dst, op, type, pos, after, guard⟩ S = some (v, S') := by
   cases op <;> first | exact h | exact absurd rfl (hnc _)
  obtain ⟨rfl, a, h1, h2, h3⟩ := aag (ρA := jY A) hV hn ho (.inl (Yv hrm)) (.inl hdr)
  have hA : ∀ H, qK P (lim P) A ⟨dst, op, type, pos, after, guard⟩ H = aOp P (jY A) ⟨dst, op, type, pos, after, guard⟩ H := by
   intro H
   unfold qK
   rw [if_pos hok]
   cases op <;> first | rfl | exact absurd rfl (hnc _)
  refine ⟨a, h2, fun H => ?_⟩
  rw [hA]
  have key : aOp P (jY A) ⟨dst, op, type, pos, after, guard⟩ H = some (a, H) := by
   have hf : Jh (aOp P (jY A) ⟨dst, op, type, pos, after, guard⟩) := by
    unfold Jj at hn
    unfold vV at hr
    unfold aOp
    unfold vOp at hV
    cases op <;> dsimp only at hn hr hV ⊢ <;> first | (cases hn; done) | (cases hr; done) | (cases hV; done) | skip
    ·
     exact Qc _
    ·
     exact Qc _
    ·
     exact acE _ _ _
    ·
     exact aa6
    ·
     exact QV
    ·
     exact VH _ _ _ _
    ·
     exact afD _ _
    ·
     exact Qc _
    ·
     exact Qq _ _ _
    ·
     exact aax _ _ _
    ·
     exact Qh _ _ _
    ·
     exact aa3
    ·
     exact XL _ _
   exact hf.two h1 H
  exact ⟨key, key⟩
theorem aeu {t : TypeId} {r o e : Nat} {l : List Value} {own own' : Own} {a : Value} (hg : G.get r = some (.cells l own e)) (hg' : H2.get r = some (.cells l own' e)) (h : kL P t (.pointer (some ⟨r, o, none⟩)) G = some (a, G)) :
  kL P t (.pointer (some ⟨r, o, none⟩)) H2 = some (a, H2) := by
 simp only [kL, hg] at h
 simp only [kL, hg']
 (repeat' split at h) <;> first | (cases h; done) | skip
 all_goals simp_all
theorem VV.backed {v : Value} {r o n c : Nat} (h : V0 μ G v (.slice (some ⟨r, o, none⟩) n c)) (hv : Vp v = false) : ∃ l own e, r < G.next ∧ QS μ r ∧ G.get r = some (.cells l own e) := by
 cases h with
 | sg hs => simp [Go.Abs.sg] at hs
 | slm hm => simp [Vp] at hv
 | sl hr hp hg _ _ _ => exact ⟨_, _, _, hr, hp, hg⟩
theorem adf {x : Value} {n : Nat} {cs : List Value} (hx : ∀ r o n c, x = .slice (some ⟨r, o, none⟩) n c → ∃ l own own' e, G.get r = some (.cells l own e) ∧ H2.get r = some (.cells l own' e)) (h : kQ x n G = some cs) : kQ x n H2 = some cs := by
 unfold kQ at h ⊢
 split at h
 ·
  rename_i r o k c
  obtain ⟨l, own, own', e, hg, hg'⟩ := hx _ _ _ _ rfl
  rw [hg] at h
  rw [hg']
  exact h
 ·
  exact h
 ·
  exact h
 ·
  cases h
theorem aeN {src dst : TypeId} {x a : Value} (hd : ∀ e, P.underlying dst ≠ some (.slice e)) (hx : ∀ r o n c, x = .slice (some ⟨r, o, none⟩) n c → ∃ l own own' e, G.get r = some (.cells l own e) ∧ H2.get r = some (.cells l own' e)) (h : qJ P src dst x G = some (a, G)) :
  qJ P src dst x H2 = some (a, H2) := by
 unfold qJ at h ⊢
 split at h
 ·
  rename_i b n c
  (try dsimp only)
  split at h
  ·
   rename_i e hs hdd
   split at h <;> first | (cases h; done) | skip
   rename_i he
   split at h <;> first | (cases h; done) | skip
   rename_i cs hcs
   rw [adf hx hcs]
   (try dsimp only)
   split at h <;> first | (cases h; done) | skip
   rename_i bs hbs
   (try rw [hbs])
   cases h
   rfl
  ·
   rename_i e0 e hs hdd
   exact absurd hdd (hd e)
  ·
   cases h
 ·
  rename_i s
  (try dsimp only)
  split at h
  ·
   rename_i d e hs hdd
   exact absurd hdd (hd e)
  ·
   exact (qP _ _).two h H2
 ·
  exact (qP _ _).two h H2
theorem ac1 {t : TypeId} {x a : Value} {lo hi : Option Value} (hx : ∀ r o n c, x = .slice (some ⟨r, o, none⟩) n c → ∃ l own own' e, G.get r = some (.cells l own e) ∧ H2.get r = some (.cells l own' e)) (h : vH P t x lo hi G = some (a, G)) :
  vH P t x lo hi H2 = some (a, H2) := by
 unfold vH at h ⊢
 split at h
 ·
  rename_i s hu
  exact (qP _ _).two h H2
 ·
  rename_i e b n c hu
  (try dsimp only)
  split at h <;> first | (cases h; done) | skip
  rename_i size l hh hs hl hhi
  (try simp only [hs, hl, hhi])
  split at h <;> first | (cases h; done) | skip
  rename_i c0
  split at h <;> first | (cases h; done) | skip
  rename_i c1
  split at h <;> first | (cases h; done) | skip
  rename_i c2
  rw [if_pos c0, if_pos c1, if_pos c2]
  split at h
  ·
   split at h <;> first | (cases h; done) | skip
   rename_i hn
   cases h
   rw [if_pos hn]
  ·
   rename_i r o
   obtain ⟨l2, own, own', e2, hg, hg'⟩ := hx _ _ _ _ rfl
   rw [hg] at h
   rw [hg']
   dsimp only at h ⊢
   split at h <;> first | (cases h; done) | skip
   rename_i he
   rw [if_pos he]
   cases h
   rfl
  ·
   split at h <;> first | (cases h; done) | skip
   rename_i hn
   cases h
   rw [if_pos hn]
  ·
   cases h
 ·
  cases h
theorem acz {t : TypeId} {r o : Nat} {a : Value} {G' : zk} (hg : H2.get r = G.get r) (h : kL P t (.pointer (some ⟨r, o, none⟩)) G = some (a, G')) : kL P t (.pointer (some ⟨r, o, none⟩)) H2 = some (a, H2) := by
 simp only [kL] at h ⊢
 rw [hg]
 (repeat' split at h) <;> first | (cases h; done) | skip
 all_goals simp_all
theorem Vy {t : TypeId} {x k : Value} {ok : Bool} {a : Value} {G' : zk} (hg : ∀ r, x = .map (some r) → H2.get r = G.get r) (h : qg P t x k ok G = some (a, G')) : qg P t x k ok H2 = some (a, H2) := by
 have e : ∀ H : zk, qg P t x k ok H = (qg P t x k ok H).map (fun r => (r.1, H)) := by
  intro H
  unfold qg
  (try dsimp only)
  (repeat' split) <;> rfl
 have e2 : (qg P t x k ok H2).map (·.1) = (qg P t x k ok G).map (·.1) := by
  cases x with
  | map b =>
   cases b with
   | none => unfold qg; dsimp only; (repeat' split) <;> rfl
   | some r =>
    unfold qg
    dsimp only
    rw [hg r rfl]
    (repeat' split) <;> rfl
  | _ => unfold qg; (try dsimp only) <;> (try ((repeat' split) <;> rfl))
 rw [h] at e2
 rw [e H2]
 cases hh : qg P t x k ok H2 with
 | none => rw [hh] at e2; cases e2
 | some w =>
  rw [hh] at e2
  simp only [Option.map_some, Option.some.injEq] at e2 ⊢
  rw [e2]
theorem ahW {fx : Fx} {o : Oper} {v : Value} (hdr : fx.dr = true) (h : qy P fx call T o S = some (v, S')) (hn : Jj P o = false) (hm : Jb (jY T) o) (ho : ∀ x ∈ o.op.operands.toList, V0 μ G (dem (jY T x)) (jY A x)) (hL : Later μ G μ2 H2) :
  ∃ a, V0 μ G (dem v) a ∧ aOp P (jY A) o G = some (a, G) ∧ aOp P (jY A) o H2 = some (a, H2) ∧ qK P (lim P) A o G = some (a, G) ∧ qK P (lim P) A o H2 = some (a, H2) := by
 by_cases hr : vV o = false
 ·
  obtain ⟨a, h1, h2⟩ := ahj hdr h hn hr ho
  exact ⟨a, h1, (h2 G).1, (h2 H2).1, (h2 G).2, (h2 H2).2⟩
 ·
  unfold qy at h
  split at h <;> first | (cases h; done) | skip
  rename_i hok
  obtain ⟨dst, op, type, pos, after, guard⟩ := o
  unfold vV at hr
  cases op <;> dsimp only at h hr <;> first | (exact absurd rfl hr) | skip
  case load t addr =>
   obtain ⟨rfl, a, h1, h2, h3⟩ := aag (ρA := jY A) h hn ho (.inl hm) (.inl hdr)
   have hA : ∀ H, qK P (lim P) A ⟨dst, .load t addr, type, pos, after, guard⟩ H = aOp P (jY A) ⟨dst, .load t addr, type, pos, after, guard⟩ H := fun H => by unfold qK; rw [if_pos hok]
   have key : aOp P (jY A) ⟨dst, .load t addr, type, pos, after, guard⟩ H2 = some (a, H2) := by
    have hx := ho addr (by simp [Op.operands])
    have h : jf P fx.nm t (jY T addr) S' = some (v, S') := h
    unfold aOp at h1 ⊢
    dsimp only at h1 ⊢
    unfold jf at h
    split at h
    ·
     rename_i k cs he
     split at h <;> first | (cases h; done) | skip
     rename_i hk
     subst hk
     rw [he] at hx
     have hx : V0 μ G (.iface 3 (.agg cs)) (jY A addr) := hx
     generalize hq : jY A addr = q at hx h1 ⊢
     cases hx with
     | sg hs => simp [Go.Abs.sg] at hs
     | ep hr hp hg hl hc =>
      obtain ⟨own', hg'⟩ := hL.cells _ _ _ _ hr hp hg
      exact aeu hg hg' h1
    ·
     rename_i ad he
     exact absurd he (hm ad)
    ·
     cases h
   exact ⟨a, h2, h1, key, by rw [hA]; exact h1, by rw [hA]; exact key⟩
  case convert src d x =>
   obtain ⟨rfl, a, h1, h2, h3⟩ := aag (ρA := jY A) h hn ho (.inl hm) (.inl hdr)
   have hA : ∀ H, qK P (lim P) A ⟨dst, .convert src d x, type, pos, after, guard⟩ H = aOp P (jY A) ⟨dst, .convert src d x, type, pos, after, guard⟩ H := fun H => by unfold qK; rw [if_pos hok]
   have key : aOp P (jY A) ⟨dst, .convert src d x, type, pos, after, guard⟩ H2 = some (a, H2) := by
    have hx := ho x (by simp [Op.operands])
    unfold aOp at h1 ⊢
    dsimp only at h1 ⊢
    refine aeN (fun e he => ?_) (fun r o n c hq => ?_) h1
    ·
     unfold Jj at hn
     dsimp only at hn
     rw [he] at hn; cases hn
    ·
     rw [hq] at hx
     have hh : Vp (dem (jY T x)) = false := by
      rw [abm]
      have h : qI P fx.hp fx.dr src d (jY T x) S' = some (v, S') := h
      unfold qI at h
      split at h
      ·
       first | (cases h; done) | (rw [hdr] at h; simp at h)
      ·
       rename_i hh; simpa using hh
     obtain ⟨l, own, e, hr, hp, hg⟩ := hx.backed hh
     obtain ⟨own', hg'⟩ := hL.cells _ _ _ _ hr hp hg
     exact ⟨l, own, own', e, hg, hg'⟩
   exact ⟨a, h2, h1, key, by rw [hA]; exact h1, by rw [hA]; exact key⟩
  case slice t x lo hi mx =>
   obtain ⟨rfl, a, h1, h2, h3⟩ := aag (ρA := jY A) h hn ho (.inl hm) (.inl hdr)
   have hA : ∀ H, qK P (lim P) A ⟨dst, .slice t x lo hi mx, type, pos, after, guard⟩ H = aOp P (jY A) ⟨dst, .slice t x lo hi mx, type, pos, after, guard⟩ H := fun H => by unfold qK; rw [if_pos hok]
   have key : aOp P (jY A) ⟨dst, .slice t x lo hi mx, type, pos, after, guard⟩ H2 = some (a, H2) := by
    have hx := ho x (by simp [Op.operands])
    unfold aOp at h1 ⊢
    cases mx with
    | some m => cases h1
    | none =>
     dsimp only at h1 ⊢
     refine ac1 (fun r o n c hq => ?_) h1
     rw [hq] at hx
     have hh : Vp (dem (jY T x)) = false := by
      rw [abm]
      have h : Zc P fx.dr t (jY T x) (lo.map (jY T)) (hi.map (jY T)) S' = some (v, S') := h
      unfold Zc at h
      split at h
      ·
       first | (cases h; done) | (rw [hdr] at h; simp at h)
      ·
       rename_i hh; simpa using hh
     obtain ⟨l, own, e, hr, hp, hg⟩ := hx.backed hh
     obtain ⟨own', hg'⟩ := hL.cells _ _ _ _ hr hp hg
     exact ⟨l, own, own', e, hg, hg'⟩
   exact ⟨a, h2, h1, key, by rw [hA]; exact h1, by rw [hA]; exact key⟩
  case lookup t x k ok =>
   exact hm.elim
end
end Go.Abs
namespace Go.Abs
open Go.RowKit
structure Line (P : Program) (fx : Fx) (chk : List Nat) (call : FuncId → List Value → M Value) (ops : Array Oper) (k0 : Nat) (l : List Oper) (Ts As : Nat → List Value) (Ss Hs : Nat → zk) (μs : Nat → Mu) (ωs : Nat → Nat → Option kF) (vs zf : Nat → Value) : Prop where
  inv : ∀ k, k ≤ l.length → GI (μs k) (Ss k) (Hs k) ∧ TI (μs k) (Hs k) (ωs k) (Ts k) (As k)
  step : ∀ k o, l[k]? = some o → Later (μs k) (Hs k) (μs (k + 1)) (Hs (k + 1)) ∧ Kept (ωs k) (Hs k) (ωs (k + 1)) (Hs (k + 1)) ∧
    ((Region.wanted o (ynd ops (As k)) = true ∧ qy P fx call (Ts k) o (Ss k) = some (vs k, Ss (k + 1)) ∧ qK P (lim P) (As k) o (Hs k) = some (zf k, Hs (k + 1)) ∧
        Ts (k + 1) = ZQ o (l.drop (k + 1)) (Ts k) (vs k) ∧ As (k + 1) = Yf (As k) o.dst (zf k) ∧ (chk.contains (k0 + k) = true → okq 3 (vs k) = true)) ∨
     (Region.wanted o (ynd ops (As k)) = false ∧ zf k = undef ∧ Ts (k + 1) = ZQ o (l.drop (k + 1)) (Ts k) undef ∧ As (k + 1) = Yf (As k) o.dst undef ∧ Hs (k + 1) = Hs k))
section
variable {P : Program} {call : FuncId → List Value → M Value}
theorem ahC {fx : Fx} {chk : List Nat} {nl : List (Nat × Nat)} (hc : YR P call) {ops : Array Oper} : ∀ (l : List Oper) (k0 : Nat) (hist : List (Value × zk)) (T T' A : List Value) (S S' H : zk) (μ : Mu) (ω : Nat → Option kF), yQ P fx chk nl call ops k0 hist l T S = some (T', S') → GI μ S H → TI μ H ω T A →
    ∃ Ts As Ss Hs μs ωs vs zf tr, Line P fx chk call ops k0 l Ts As Ss Hs μs ωs vs zf ∧ Ts 0 = T ∧ As 0 = A ∧ Ss 0 = S ∧ Hs 0 = H ∧ μs 0 = μ ∧ ωs 0 = ω ∧ Ts l.length = T' ∧ Ss l.length = S' ∧
      xw P (lim P) ops l A H = some (tr, As l.length, Hs l.length) ∧ (∀ k, k < l.length → tr[k]? = some (As k, Hs k, zf k)) ∧ (∀ k, k ≤ l.length → (tr.map (·.2.1) ++ [Hs l.length])[k]? = some (Hs k)) ∧
      ∃ hs : List (Value × zk), hs.length = l.length ∧ (∀ k o, l[k]? = some o → hs[k]? = some (Zy (Ts k) o, Ss k)) ∧ (nl.isEmpty = false → nl.all (abJ (hist ++ hs ++ [(undef, S')])) = true) := by
  intro l
  induction l with
  | nil =>
    intro k0 hist T T' A S S' H μ ω h hG hT
    simp only [yQ] at h
    split at h <;> first | (cases h; done) | skip
    rename_i hst
    cases h
    refine ⟨fun _ => T, fun _ => A, fun _ => S, fun _ => H, fun _ => μ, fun _ => ω, fun _ => undef, fun _ => undef, [], ⟨fun k _ => ⟨hG, hT⟩, fun k o ho => by simp at ho⟩, rfl, rfl, rfl, rfl, rfl, rfl, rfl, rfl, rfl, fun k hk => by simp at hk, fun k hk => ?_, [], rfl, fun k o ho => by simp at ho, fun he => ?_⟩
    · have : k = 0 := by simpa using hk
      subst this
      rfl
    · simpa [vX, he] using hst
  | cons o l ih =>
    intro k0 hist T T' A S S' H μ ω h hG hT
    have hy : (ynd ops T) = ynd ops A := funext fun j => aeH hT j
    simp only [yQ] at h
    have glue : ∀ (T1 A1 : List Value) (S1 H1 : zk) (μ1 : Mu) (ω1 : Nat → Option kF) (v a : Value), yQ P fx chk nl call ops (k0 + 1) (vX nl hist (Zy T o) S) l T1 S1 = some (T', S') → GI μ1 S1 H1 → TI μ1 H1 ω1 T1 A1 → Later μ H μ1 H1 → Kept ω H ω1 H1 →
        ((Region.wanted o (ynd ops A) = true ∧ qy P fx call T o S = some (v, S1) ∧ qK P (lim P) A o H = some (a, H1) ∧ T1 = ZQ o l T v ∧ A1 = Yf A o.dst a ∧ (chk.contains k0 = true → okq 3 v = true)) ∨
         (Region.wanted o (ynd ops A) = false ∧ a = undef ∧ T1 = ZQ o l T undef ∧ A1 = Yf A o.dst undef ∧ H1 = H)) →
        (∀ tr A2 H2, xw P (lim P) ops l A1 H1 = some (tr, A2, H2) → xw P (lim P) ops (o :: l) A H = some ((A, H, a) :: tr, A2, H2)) →
        ∃ Ts As Ss Hs μs ωs vs zf tr, Line P fx chk call ops k0 (o :: l) Ts As Ss Hs μs ωs vs zf ∧ Ts 0 = T ∧ As 0 = A ∧ Ss 0 = S ∧ Hs 0 = H ∧ μs 0 = μ ∧ ωs 0 = ω ∧ Ts (o :: l).length = T' ∧ Ss (o :: l).length = S' ∧
          xw P (lim P) ops (o :: l) A H = some (tr, As (o :: l).length, Hs (o :: l).length) ∧ (∀ k, k < (o :: l).length → tr[k]? = some (As k, Hs k, zf k)) ∧ (∀ k, k ≤ (o :: l).length → (tr.map (·.2.1) ++ [Hs (o :: l).length])[k]? = some (Hs k)) ∧
          ∃ hs : List (Value × zk), hs.length = (o :: l).length ∧ (∀ k o', (o :: l)[k]? = some o' → hs[k]? = some (Zy (Ts k) o', Ss k)) ∧ (nl.isEmpty = false → nl.all (abJ (hist ++ hs ++ [(undef, S')])) = true) := by
      intro T1 A1 S1 H1 μ1 ω1 v a hrest hG1 hT1 hL hK hstep htr
      obtain ⟨Ts, As, Ss, Hs, μs, ωs, vs, zf, tr, hline, e1, e2, e3, e4, e5, e6, e7, e8, e9, e10, e11, hs, e12, e13, e14⟩ := ih _ _ _ _ _ _ _ _ _ _ hrest hG1 hT1
      refine ⟨fun k => match k with | 0 => T | k + 1 => Ts k, fun k => match k with | 0 => A | k + 1 => As k, fun k => match k with | 0 => S | k + 1 => Ss k, fun k => match k with | 0 => H | k + 1 => Hs k,
        fun k => match k with | 0 => μ | k + 1 => μs k, fun k => match k with | 0 => ω | k + 1 => ωs k, fun k => match k with | 0 => v | k + 1 => vs k, fun k => match k with | 0 => a | k + 1 => zf k, (A, H, a) :: tr,
        ⟨fun k hk => ?_, fun k o' ho => ?_⟩, rfl, rfl, rfl, rfl, rfl, rfl, e7, e8, htr _ _ _ e9, fun k hk => ?_, fun k hk => ?_, (Zy T o, S) :: hs, by simp [e12], fun k o' ho => ?_, fun he => ?_⟩
      · cases k with
        | zero => exact ⟨hG, hT⟩
        | succ k => exact hline.inv k (by simpa using hk)
      · cases k with
        | zero =>
          simp only [List.getElem?_cons_zero, Option.some.injEq] at ho
          subst ho
          dsimp only
          rw [e1, e2, e3, e4, e5, e6]
          exact ⟨hL, hK, hstep⟩
        | succ k =>
          have := hline.step k o' (by simpa using ho)
          rw [show k0 + 1 + k = k0 + (k + 1) by omega] at this
          exact this
      · cases k with
        | zero => rfl
        | succ k => simpa using e10 k (by simpa using hk)
      · cases k with
        | zero => rfl
        | succ k => simpa using e11 k (by simpa using hk)
      · cases k with
        | zero =>
          simp only [List.getElem?_cons_zero, Option.some.injEq] at ho
          subst ho
          rfl
        | succ k => simpa using e13 k o' (by simpa using ho)
      · have := e14 he
        rw [show vX nl hist (Zy T o) S = hist ++ [(Zy T o, S)] by simp [vX, he]] at this
        simpa using this
    split at h
    · rename_i hw
      split at h
      · rename_i v S1 hs
        split at h <;> first | (cases h; done) | skip
        rename_i hchk
        obtain ⟨a, H1, μ1, ω1, h1, h2, h3, h4, h5⟩ := abt (rest := l) hc hG hT hs
        have hw' : Region.wanted o (ynd ops A) = true := by rw [← hy]; exact hw
        refine glue _ _ _ H1 μ1 ω1 v a h h2 h5 h3 h4 (.inl ⟨hw', hs, h1, rfl, rfl, fun hk => ?_⟩) (fun tr A2 H2 ht => ?_)
        · rw [hk] at hchk; simpa using hchk
        · simp only [xw, hw', if_true, h1, ht]
      · cases h
    · rename_i hw
      obtain ⟨μ1, ω1, h2, h3, h4, h5⟩ := YE (o := o) (rest := l) hG hT
      have hw' : Region.wanted o (ynd ops A) = false := by rw [← hy]; simpa using hw
      refine glue _ _ _ H μ1 ω1 undef undef h h2 h5 h3 h4 (.inr ⟨hw', rfl, rfl, rfl, rfl⟩) (fun tr A2 H2 ht => ?_)
      simp only [xw, hw', ht]
      rfl
variable {fx : Fx} {chk : List Nat} {ops : Array Oper} {k0 : Nat} {l : List Oper} {Ts As : Nat → List Value} {Ss Hs : Nat → zk} {μs : Nat → Mu} {ωs : Nat → Nat → Option kF} {vs zf : Nat → Value}
theorem Line.later (hl : Line P fx chk call ops k0 l Ts As Ss Hs μs ωs vs zf) {i : Nat} : ∀ (d : Nat), i + d ≤ l.length → Later (μs i) (Hs i) (μs (i + d)) (Hs (i + d)) := by
 intro d
 induction d with
 | zero => intro _; exact Later.refl _ _
 | succ d ih =>
  intro hd
  have ho : l[i + d]? = some l[i + d] := List.getElem?_eq_getElem (by omega)
  exact (ih (by omega)).trans (hl.step (i + d) _ ho).1
theorem Line.kept (hl : Line P fx chk call ops k0 l Ts As Ss Hs μs ωs vs zf) : ∀ (d : Nat), d ≤ l.length → Kept (ωs 0) (Hs 0) (ωs d) (Hs d) := by
 intro d
 induction d with
 | zero => intro _; exact Kept.refl _ _
 | succ d ih =>
  intro hd
  have ho : l[d]? = some l[d] := List.getElem?_eq_getElem (by omega)
  exact (ih (by omega)).trans (hl.step d _ ho).2.1
theorem abb (i : Nat) (w : Value) : dem (zS i w) = dem w := by
 cases w with
 | tuple vs =>
  simp only [zS, dem]
  congr 1
  apply Array.ext (by simp)
  intro k h1 h2
  rw [Array.getElem_map, Array.getElem_map, Array.getElem_modify]
  split
  ·
   have : ∀ v, xH (xH v) = xH v := by
    intro v
    cases v with
    | iface k v =>
     simp only [xH]
     by_cases h : k = 2
     ·
      rw [if_pos h, if_neg (by decide)]
     ·
      rw [if_neg h, if_neg h]
    | _ => rfl
   exact this _
  ·
   rfl
 | _ => rfl
theorem VO (o : Oper) (T : List Value) (t : Nat) : dem ((moved o T).getD t undef) = dem (T.getD t undef) := by
 have slot : ∀ t', dem ((xC T t').getD t undef) = dem (T.getD t undef) := by
  intro t'
  rw [xC, kC]
  split
  ·
   rename_i h; rw [h.1, XW]
  ·
   rfl
 unfold moved
 split
 ·
  exact slot _
 ·
  exact slot _
 ·
  rw [kC]
  split
  ·
   rename_i h; rw [h.1, abb]
  ·
   rfl
 ·
  split
  ·
   exact slot _
  ·
   rfl
 ·
  rfl
theorem moved_length (o : Oper) (T : List Value) : (moved o T).length = T.length := by
 unfold moved
 split <;> first | simp [xC] | rfl | skip
 split <;> first | simp [xC] | rfl
theorem Vl {o : Oper} {rest : List Oper} {T : List Value} {v : Value} (hd : o.dst = none) (t : Nat) : dem ((ZQ o rest T v).getD t undef) = dem (T.getD t undef) := by
 unfold ZQ
 rw [hd]
 split
 ·
  rfl
 ·
  exact VO o T t
theorem aad {o : Oper} {rest : List Oper} {T : List Value} {v : Value} {d : Nat} (hd : o.dst = some d) (t : Nat) : dem ((ZQ o rest T v).getD t undef) = if t = d ∧ d < T.length then dem v else dem (T.getD t undef) := by
 unfold ZQ
 rw [hd]
 split
 ·
  simp only [Yf]
  rw [kC]
  split
  ·
   exact XW v
  ·
   rfl
 ·
  simp only [Yf]
  rw [kC, moved_length]
  split
  ·
   rfl
  ·
   exact VO o T t
def Clear (μ : Mu) (G : zk) (bad : List Nat) (T A : List Value) : Prop := ∀ t, bad.contains t = false → V0 μ G (dem (T.getD t undef)) (A.getD t undef)
theorem Clear.operands {μ : Mu} {G : zk} {bad : List Nat} {T A : List Value} (h : Clear μ G bad T A) {o : Oper} (hok : agr o = true) (hc : kZ bad o = true) : ∀ x ∈ o.op.operands.toList, V0 μ G (dem (jY T x)) (jY A x) := by
 intro x hx
 have h1 := List.all_eq_true.1 (show o.op.operands.toList.all xG = true from hok) x hx
 have h2 := List.all_eq_true.1 hc x hx
 cases x with
 | tmp t => exact h t (by simpa using h2)
 | const v => exact (VV.qH (μ := μ) (H := G) (ω := W0) (ℓ := none) h1).v0
 | global g => cases h1
 | func f =>
  have : V0 μ G (.func (.func f) #[] #[]) (.func (.func f) #[] #[]) := .func _ rfl rfl (fun i => by simpa using VV.undef) (fun i => by simpa using VV.undef)
  exact this
theorem JR {T : List Value} {o : Oper} {S S' : zk} {v : Value} (h : qy P fx call T o S = some (v, S')) : agr o = true := by
 unfold qy at h
 split at h
 ·
  assumption
 ·
  cases h
theorem acs {fx : Fx} {o : Oper} {T A : List Value} {v : Value} {S S' H : zk} {μ : Mu} (h : qy P fx call T o S = some (v, S')) (hnm : fx.nm = true) (hm : ¬ Jb (jY T) o) (hG : GI μ S H) (ho : ∀ x ∈ o.op.operands.toList, V0 μ H (dem (jY T x)) (jY A x)) :
  ground v = true ∧ ∃ a, qK P (lim P) A o H = some (a, H) ∧ a = v := by
 have hok := JR h
 unfold qy at h
 rw [if_pos hok] at h
 obtain ⟨dst, op, type, pos, after, guard⟩ := o
 unfold Jb at hm
 cases op <;> dsimp only at h hm <;> first | (exact absurd True.intro hm) | skip
 case load t a =>
  have h : jf P fx.nm t (jY T a) S = some (v, S') := h
  obtain ⟨q, hq⟩ : ∃ q, jY T a = .pointer q := Classical.byContradiction fun hn => hm fun q hq => hn ⟨q, hq⟩
  obtain ⟨rfl, w, k1, k2⟩ := YT h (ho a (by simp [Op.operands])) (.inr hG)
  rw [hnm] at h
  have hgr : ground v = true := by
   unfold jf at h
   rw [hq] at h
   dsimp only at h
   split at h <;> first | (cases h; done) | skip
   ·
    split at h
    ·
     split at h <;> first | (cases h; done) | skip
     rename_i hg
     cases h
     exact hg
    ·
     rename_i hf; exact absurd rfl hf
   ·
    split at h
    ·
     split at h <;> first | (cases h; done) | skip
     rename_i hg
     cases h
     exact hg
    ·
     rename_i hf; exact absurd rfl hf
  refine ⟨hgr, w, ?_, k2.Za hgr⟩
  unfold qK
  rw [if_pos hok]
  exact k1
 case lookup t x k ok =>
  have h : ZP P fx.nm t (jY T x) (jY T k) ok S = some (v, S') := h
  unfold ZP at h
  rw [hnm] at h
  simp at h
theorem Line.clear (hdr : fx.dr = true) (hl : Line P fx chk call ops k0 l Ts As Ss Hs μs ωs vs zf) {j : Nat} (hj : j ≤ l.length) : ∀ (rest : List Oper) (bad : List Nat) (k : Nat), j ≤ k → l.drop k = rest → Clear (μs j) (Hs j) bad (Ts k) (As k) →
  ∀ d, d ≤ rest.length → Clear (μs j) (Hs j) ((adP P fx.nm rest bad).getD d []) (Ts (k + d)) (As (k + d)) := by
 intro rest
 induction rest with
 | nil =>
  intro bad k hjk hr hC d hd
  have : d = 0 := by simpa using hd
  subst this
  exact hC
 | cons o rest ih =>
  intro bad k hjk hr hC d hd
  have hkl : k < l.length := by
   have := congrArg List.length hr
   simp at this; omega
  have ho : l[k]? = some o := by
   have := congrArg (·[0]?) hr
   simpa [List.getElem?_drop] using this
  cases d with
  | zero => exact hC
  | succ d =>
   simp only [adP, List.getD_cons_succ]
   rw [show k + (d + 1) = k + 1 + d by omega]
   refine ih _ (k + 1) (by omega) ?_ ?_ d (by simpa using hd)
   ·
    rw [← List.drop_drop, hr]; rfl
   ·
    obtain ⟨hL, _, hor⟩ := hl.step k o ho
    obtain ⟨hG, hT⟩ := hl.inv k (by omega)
    have hlen := hT.len
    intro t ht
    cases hd : o.dst with
    | none =>
     rw [hd] at ht
     rcases hor with ⟨_, _, _, e1, e2, _⟩ | ⟨_, _, e1, e2, _⟩
     ·
      rw [e1, Vl hd, e2, hd]; exact hC t ht
     ·
      rw [e1, Vl hd, e2, hd]; exact hC t ht
    | some dd =>
     rw [hd] at ht
     dsimp only at ht
     have htb : bad.contains t = false := by
      split at ht
      ·
       simp only [List.contains_cons, Bool.or_eq_false_iff] at ht; exact ht.2
      ·
       exact ht
     rcases hor with ⟨hw, hv, ha, e1, e2, _⟩ | ⟨_, _, e1, e2, _⟩
     ·
      rw [e1, aad hd, e2, hd]
      simp only [Yf]
      rw [kC, hlen]
      by_cases hc : t = dd ∧ dd < (As k).length
      ·
       rw [if_pos hc, if_pos hc]
       have hcond : ¬ (Jj P o || !kZ bad o || (vk o && !fx.nm)) = true := by
        intro hh
        rw [if_pos hh] at ht
        simp [hc.1] at ht
       simp only [Bool.or_eq_true, not_or, Bool.not_eq_true, Bool.not_eq_eq_eq_not, Bool.not_true, Bool.and_eq_true, not_and] at hcond
       obtain ⟨⟨q1, q2⟩, q3⟩ := hcond
       have q2' : kZ bad o = true := by simpa using q2
       have hLj : Later (μs j) (Hs j) (μs k) (Hs k) := by
        have := hl.later (i := j) (k - j) (by omega)
        rwa [show j + (k - j) = k by omega] at this
       by_cases hm : Jb (jY (Ts k)) o
       ·
        obtain ⟨a, h1, _, _, _, h5⟩ := ahW hdr hv q1 hm (hC.operands (JR hv) q2') hLj
        rw [ha] at h5
        have e : zf k = a := by simpa using congrArg (Option.map Prod.fst) h5
        subst e
        exact h1
       ·
        have hrm : vk o = true := by
         cases hrm : vk o with
         | true => rfl
         | false => exact absurd (Yv hrm) hm
        have hnm : fx.nm = true := by have := q3 hrm; simpa using this
        obtain ⟨g1, a, g2, g3⟩ := acs hv hnm hm hG (fun x hx => hT.eval (List.all_eq_true.1 (show o.op.operands.toList.all xG = true from JR hv) x hx))
        rw [ha] at g2
        have e : zf k = a := by simpa using congrArg (Option.map Prod.fst) g2
        subst e
        rw [g3, KQ g1]
        exact V0.ground g1
      ·
       rw [if_neg hc, if_neg hc]
       exact hC t htb
     ·
      rw [e1, aad hd, e2, hd]
      simp only [Yf]
      rw [kC, hlen]
      by_cases hc : t = dd ∧ dd < (As k).length
      ·
       rw [if_pos hc, if_pos hc, show dem undef = undef from Jp]
       exact .nores
      ·
       rw [if_neg hc, if_neg hc]
       exact hC t htb
theorem ad8 {hp0 : Bool} (hc : YR P call) {T T' A : List Value} {S S' H : zk} {μ : Mu} {ω : Nat → Option kF} (hd : qW P ops = true) (h : yQ P ⟨hp0, !(checked P ops).isEmpty, fixed P ops⟩ (checked P ops) (again P ops) call ops 0 [] ops.toList T S = some (T', S')) (hG : GI μ S H) (hT : TI μ H ω T A) :
  After μ ω H T' S' (Jg P (lim P) ops A H) := by
 obtain ⟨Ts, As, Ss, Hs, μs, ωs, vs, zf, tr, hline, rfl, rfl, rfl, rfl, rfl, rfl, rfl, rfl, e9, e10, e11, hs, e12, e13, e14⟩ := ahC hc _ _ _ _ _ _ _ _ _ _ _ h hG hT
 obtain ⟨hGn, hTn⟩ := hline.inv ops.toList.length (Nat.le_refl _)
 have hLn := hline.later (i := 0) ops.toList.length (by omega)
 rw [Nat.zero_add] at hLn
 refine ⟨As ops.toList.length, Hs ops.toList.length, μs ops.toList.length, ωs ops.toList.length, ?_, hGn, hLn, hline.kept _ (Nat.le_refl _), hTn⟩
 simp only [qW, Xq, Bool.and_eq_true] at hd
 refine agj hd.1 e9 fun p hp => ?_
 have hchk : (checked P ops).contains p.1 = true := by
  unfold checked
  simp only [List.contains_eq_mem, decide_eq_true_eq]
  exact List.mem_map.2 ⟨p, hp, rfl⟩
 have hdr : (Fx.mk hp0 (!(checked P ops).isEmpty) (fixed P ops)).dr = true := by
  show (!(checked P ops).isEmpty) = true
  cases hl : checked P ops with
  | nil => rw [hl] at hchk; cases hchk
  | cons a b => rfl
 have hp2 := List.all_eq_true.1 hd.2 p hp
 have hp0 := hp
 unfold need at hp
 obtain ⟨i, hi, hp⟩ := List.mem_flatMap.1 hp
 obtain ⟨j, hj, hp⟩ := List.mem_filterMap.1 hp
 have hi : i < ops.toList.length := List.mem_range.1 hi
 have hj : j < ops.toList.length := List.mem_range.1 hj
 split at hp <;> first | (cases hp; done) | skip
 rename_i oi oj hoi hoj
 split at hp <;> first | (cases hp; done) | skip
 rename_i hcond
 cases hp
 simp only [Bool.and_eq_true, Bool.not_eq_true'] at hcond
 obtain ⟨⟨hni, hcj⟩, _⟩ := hcond
 dsimp only at hp2 hchk ⊢
 rw [hoi] at hp2
 dsimp only at hp2
 have hij : i ≠ j := by
  intro e; subst e
  rw [hoi] at hoj; cases hoj
  rw [hni] at hcj; cases hcj
 have hGj : (tr.map (·.2.1) ++ [Hs ops.toList.length])[if j < i then j else j + 1]? = some (Hs (if j < i then j else j + 1)) := e11 _ (by split <;> omega)
 unfold QK
 rw [hoi, e10 i hi, hGj]
 dsimp only
 obtain ⟨_, _, hor⟩ := hline.step i oi hoi
 rcases hor with ⟨hw, hv, ha, heT, heA, hq⟩ | ⟨hw, _⟩
 ·
  rw [hw]
  simp only [Bool.not_true, Bool.false_or]
  obtain ⟨hGi, hTi⟩ := hline.inv i (by omega)
  have hops : ∀ x ∈ oi.op.operands.toList, V0 (μs i) (Hs i) (dem (jY (Ts i) x)) (jY (As i) x) := fun x hx => hTi.eval (List.all_eq_true.1 (show oi.op.operands.toList.all xG = true from JR hv) x hx)
  have hq3 : okq 3 (vs i) = true := hq (by rw [Nat.zero_add]; exact hchk)
  have same : ∃ G', aOp P (jY (As i)) oi (Hs (if j < i then j else j + 1)) = some (zf i, G') ∧ adk 3 (zf i) (zf i) = true := by
   by_cases hm : Jb (jY (Ts i)) oi
   case neg =>
    have hrm : vk oi = true := by
     cases hrm : vk oi with
     | true => rfl
     | false => exact absurd (Yv hrm) hm
    have hin : (i, j) ∈ again P ops := List.mem_filter.2 ⟨hp0, by dsimp only; rw [hoi]; exact hrm⟩
    have hne : (again P ops).isEmpty = false := by
     cases hl : again P ops with
     | nil => rw [hl] at hin; cases hin
     | cons a b => rfl
    have hst := List.all_eq_true.1 (e14 hne) _ hin
    rw [List.nil_append] at hst
    have hi1 : (hs ++ [(undef, Ss ops.toList.length)])[i]? = some (Zy (Ts i) oi, Ss i) := by
     rw [List.getElem?_append_left (by omega)]; exact e13 i oi hoi
    have hj1 : ∃ p2, (hs ++ [(undef, Ss ops.toList.length)])[if j < i then j else j + 1]? = some (p2, Ss (if j < i then j else j + 1)) := by
     by_cases hjl : (if j < i then j else j + 1) < ops.toList.length
     ·
      rw [List.getElem?_append_left (by omega)]
      exact ⟨_, e13 _ _ (List.getElem?_eq_getElem hjl)⟩
     ·
      have : (if j < i then j else j + 1) = ops.toList.length := by split at hjl <;> (rename_i hh; simp only [hh, if_true, if_false]; omega)
      rw [this, List.getElem?_append_right (by omega), e12, Nat.sub_self]
      exact ⟨_, rfl⟩
    obtain ⟨p2, hj1⟩ := hj1
    unfold abJ at hst
    dsimp only at hst
    rw [hi1, hj1] at hst
    dsimp only at hst
    have obj : ∀ q r b, μs i q = some (r, b) → (∀ Sa Sb, qB (Zy (Ts i) oi) Sa Sb = true → (∃ o, Sa.get q = some o ∧ o.alive = true) ∧ q ∉ Sb.log.take (Sb.log.length - Sa.log.length)) → (Hs (if j < i then j else j + 1)).get r = (Hs i).get r := by
     intro q r b hq hQ
     by_cases hji : j < i
     ·
      rw [if_pos hji] at hst ⊢
      rw [if_pos hji] at hst
      obtain ⟨⟨o1, g1, g2⟩, g3⟩ := hQ _ _ hst
      obtain ⟨hGj3, _⟩ := hline.inv j (by omega)
      obtain ⟨r0, _, g4, _⟩ := hGj3.obj q o1 g1 g2
      have hL := hline.later (i := j) (i - j) (by omega)
      rw [show j + (i - j) = i by omega] at hL
      obtain ⟨b', hb'⟩ := hL.mu q r0 true g4
      rw [hq] at hb'
      cases hb'
      obtain ⟨new, n1, n2⟩ := hL.still
      rw [hGj3.log, hGi.log] at n1
      rw [n1] at g3
      simp only [List.length_append, Nat.add_sub_cancel, List.take_left] at g3
      exact (n2 q r g4 g3).2.symm
     ·
      rw [if_neg hji] at hst ⊢
      rw [if_neg hji] at hst
      obtain ⟨⟨o1, g1, g2⟩, g3⟩ := hQ _ _ hst
      have hb := hGi.at hq g1 g2
      subst hb
      have hL := hline.later (i := i) (j + 1 - i) (by omega)
      rw [show i + (j + 1 - i) = j + 1 by omega] at hL
      obtain ⟨hGj3, _⟩ := hline.inv (j + 1) (by omega)
      obtain ⟨new, n1, n2⟩ := hL.still
      rw [hGj3.log, hGi.log] at n1
      rw [n1] at g3
      simp only [List.length_append, Nat.add_sub_cancel, List.take_left] at g3
      exact (n2 q r hq g3).2
    clear hst hi1 hj1
    have hok := JR hv
    have hvo := hv
    unfold qy at hv
    rw [if_pos hok] at hv
    obtain ⟨dst, op, type, pos, after, guard⟩ := oi
    unfold Jb at hm
    cases op <;> dsimp only at hv hm <;> first | (exact absurd True.intro hm) | skip
    case load t a =>
     have hv : jf P (fixed P ops) t (jY (Ts i) a) (Ss i) = some (vs i, Ss (i + 1)) := hv
     obtain ⟨ad, hq⟩ : ∃ q, jY (Ts i) a = .pointer q := Classical.byContradiction fun hn => hm fun q hq => hn ⟨q, hq⟩
     have hx := hops a (by simp [Op.operands])
     obtain ⟨_, w, k1, k2⟩ := YT hv hx (.inr hGi)
     have hA : qK P (lim P) (As i) ⟨dst, .load t a, type, pos, after, guard⟩ (Hs i) = kL P t (jY (As i) a) (Hs i) := by unfold qK; rw [if_pos hok]; rfl
     rw [hA, k1] at ha
     have e : w = zf i := by simpa using congrArg (Option.map Prod.fst) ha
     subst e
     rw [hq] at hx
     have hx : V0 (μs i) (Hs i) (.pointer ad) (jY (As i) a) := hx
     generalize hpa : jY (As i) a = pa at hx k1
     have hres : kL P t pa (Hs (if j < i then j else j + 1)) = some (zf i, Hs (if j < i then j else j + 1)) := by
      cases hx with
      | sg hs =>
       cases ad with
       | none => simp [kL] at k1
       | some ad => simp [Go.Abs.sg] at hs
      | @ptr _ q o r b hmq =>
       refine acz (obj q r b hmq fun Sa Sb hQ => ?_) k1
       have hQ : qB (jY (Ts i) a) Sa Sb = true := hQ
       rw [hq] at hQ
       simp only [qB, Bool.and_eq_true, Bool.not_eq_true', List.contains_eq_mem, decide_eq_false_iff_not] at hQ
       refine ⟨?_, hQ.2⟩
       have h1 := hQ.1
       split at h1 <;> first | (cases h1; done) | skip
       rename_i hsa
       exact ⟨_, hsa, rfl⟩
     rw [← hpa] at hres
     exact ⟨_, hres, Y9 3 (Y3 hq3) k2.dem⟩
    case lookup t x k ok =>
     have hv : ZP P (fixed P ops) t (jY (Ts i) x) (jY (Ts i) k) ok (Ss i) = some (vs i, Ss (i + 1)) := hv
     have hx := hops x (by simp [Op.operands])
     obtain ⟨_, w, k1, k2⟩ := KH hv hx (hops k (by simp [Op.operands])) (.inr hGi)
     have hA : qK P (lim P) (As i) ⟨dst, .lookup t x k ok, type, pos, after, guard⟩ (Hs i) = qg P t (jY (As i) x) (jY (As i) k) ok (Hs i) := by unfold qK; rw [if_pos hok]; rfl
     rw [hA, k1] at ha
     have e : w = zf i := by simpa using congrArg (Option.map Prod.fst) ha
     subst e
     have hres : qg P t (jY (As i) x) (jY (As i) k) ok (Hs (if j < i then j else j + 1)) = some (zf i, Hs (if j < i then j else j + 1)) := by
      refine Vy (fun r hr => ?_) k1
      rw [hr] at hx
      generalize hu : dem (jY (Ts i) x) = u at hx
      have hum : ∃ q b, u = .map (some q) ∧ μs i q = some (r, b) := by
       cases hx with
       | sg hs => simp [Go.Abs.sg] at hs
       | map hmq => exact ⟨_, _, rfl, hmq⟩
      obtain ⟨q, b, rfl, hmq⟩ := hum
      have hxe : jY (Ts i) x = .map (some q) := by
       cases hvx : jY (Ts i) x <;> rw [hvx] at hu <;> simp [dem, xH] at hu <;> rw [hu]
      refine obj q r b hmq fun Sa Sb hQ => ?_
      have hQ : qB (jY (Ts i) x) Sa Sb = true := hQ
      rw [hxe] at hQ
      simp only [qB, Bool.and_eq_true, Bool.not_eq_true', List.contains_eq_mem, decide_eq_false_iff_not] at hQ
      refine ⟨?_, hQ.2⟩
      have h1 := hQ.1
      split at h1 <;> first | (cases h1; done) | skip
      rename_i hsa
      exact ⟨_, hsa, rfl⟩
     exact ⟨_, hres, Y9 3 (Y3 hq3) k2.dem⟩
   by_cases hrd : vV oi = false
   ·
    obtain ⟨a, h1, h2⟩ := ahj hdr hv hni hrd hops
    have h3 := (h2 (Hs i)).2
    rw [ha] at h3
    have e : zf i = a := by simpa using congrArg (Option.map Prod.fst) h3
    subst e
    exact ⟨_, (h2 _).1, Y9 3 (Y3 hq3) h1⟩
   ·
    have hrd : vV oi = true := by simpa using hrd
    by_cases hlt : i < j
    ·
     rw [if_neg (by omega)]
     have hL := hline.later (i := i) (j + 1 - i) (by omega)
     rw [show i + (j + 1 - i) = j + 1 by omega] at hL
     obtain ⟨a, h1, _, h3, h4, _⟩ := ahW hdr hv hni hm hops hL
     rw [ha] at h4
     have e : zf i = a := by simpa using congrArg (Option.map Prod.fst) h4
     subst e
     exact ⟨_, h3, Y9 3 (Y3 hq3) h1⟩
    ·
     rw [if_pos (by omega)]
     rw [hrd] at hp2
     have hcl : kZ ((adP P (fixed P ops) (ops.toList.drop j) []).getD (i - j) []) oi = true := by
      simpa [hlt] using hp2
     obtain ⟨hGj2, hTj⟩ := hline.inv j (by omega)
     have hC0 : Clear (μs j) (Hs j) [] (Ts j) (As j) := fun t _ => (hTj.slots t).v0
     have hC := hline.clear hdr (j := j) (by omega) _ [] j (Nat.le_refl _) rfl hC0 (i - j) (by rw [List.length_drop]; omega)
     rw [show j + (i - j) = i by omega] at hC
     have hL := hline.later (i := j) (i - j) (by omega)
     rw [show j + (i - j) = i by omega] at hL
     obtain ⟨a, h1, h2, _, _, h5⟩ := ahW hdr hv hni hm (hC.operands (JR hv) hcl) hL
     rw [ha] at h5
     have e : zf i = a := by simpa using congrArg (Option.map Prod.fst) h5
     subst e
     exact ⟨_, h2, Y9 3 (Y3 hq3) h1⟩
  obtain ⟨G', h1, h2⟩ := same
  unfold recheck
  rw [h1]
  exact h2
 ·
  rw [hw]
  rfl
end
end Go.Abs
namespace Go.Abs
open Go.RowKit
section
variable {P : Program} {call : FuncId → List Value → M Value}
def ag1 (μ : Mu) (ω : Nat → Option kF) (H : zk) (e : AEx) (T' : List Value) (S' : zk) (R : St) : Prop :=
 ∃ A' H' μ' ω', R = some (e, A', H') ∧ GI μ' S' H' ∧ Later μ H μ' H' ∧ Kept ω H ω' H' ∧ TI μ' H' ω' T' A'
theorem afJ {hp : Bool} (hc : YR P call) (fuel : Nat) : ∀ (c : Code) (T T' A : List Value) (S S' H : zk) (μ : Mu) (ω : Nat → Option kF) (e : AEx), qQ P hp call fuel c T S = some (e, T', S') → GI μ S H → TI μ H ω T A → ag1 μ ω H e T' S' (qR P c A H) := by
 intro c
 induction c with
 | skip =>
  intro T T' A S S' H μ ω e h hG hT
  simp only [qQ, Option.some.injEq, Prod.mk.injEq] at h
  obtain ⟨rfl, rfl, rfl⟩ := h
  exact ⟨A, H, μ, ω, rfl, hG, Later.refl _ _, Kept.refl _ _, hT⟩
 | exit id =>
  intro T T' A S S' H μ ω e h hG hT
  simp only [qQ, Option.some.injEq, Prod.mk.injEq] at h
  obtain ⟨rfl, rfl, rfl⟩ := h
  exact ⟨A, H, μ, ω, rfl, hG, Later.refl _ _, Kept.refl _ _, hT⟩
 | ret =>
  intro T T' A S S' H μ ω e h hG hT
  simp only [qQ, Option.some.injEq, Prod.mk.injEq] at h
  obtain ⟨rfl, rfl, rfl⟩ := h
  exact ⟨A, H, μ, ω, rfl, hG, Later.refl _ _, Kept.refl _ _, hT⟩
 | region i ops d =>
  intro T T' A S S' H μ ω e h hG hT
  cases d with
  | false =>
   simp only [qQ] at h
   split at h <;> first | (cases h; done) | skip
   rename_i T1 S1 ho
   cases h
   obtain ⟨A', H', μ', ω', h1, h2, h3, h4, h5⟩ := aif hc _ _ _ _ _ _ _ _ _ ho hG hT
   exact ⟨A', H', μ', ω', by simp only [qR, h1], h2, h3, h4, h5⟩
  | true =>
   simp only [qQ] at h
   split at h <;> first | (cases h; done) | skip
   rename_i hd
   split at h <;> first | (cases h; done) | skip
   rename_i T1 S1 ho
   cases h
   obtain ⟨A', H', μ', ω', h1, h2, h3, h4, h5⟩ := ad8 hc hd ho hG hT
   exact ⟨A', H', μ', ω', by simp only [qR, h1], h2, h3, h4, h5⟩
 | seq x y ihx ihy =>
  intro T T' A S S' H μ ω e h hG hT
  simp only [qQ] at h
  split at h
  ·
   rename_i T1 S1 hx
   obtain ⟨A1, H1, μ1, ω1, h1, h2, h3, h4, h5⟩ := ihx _ _ _ _ _ _ _ _ _ hx hG hT
   obtain ⟨A2, H2, μ2, ω2, k1, k2, k3, k4, k5⟩ := ihy _ _ _ _ _ _ _ _ _ h h2 h5
   exact ⟨A2, H2, μ2, ω2, by simp only [qR, h1]; exact k1, k2, h3.trans k3, h4.trans k4, k5⟩
  ·
   rename_i hne
   obtain ⟨A1, H1, μ1, ω1, h1, h2, h3, h4, h5⟩ := ihx _ _ _ _ _ _ _ _ _ h hG hT
   refine ⟨A1, H1, μ1, ω1, ?_, h2, h3, h4, h5⟩
   simp only [qR, h1]
   cases e with
   | normal => exact absurd h (hne _ _)
   | exit id => rfl
   | ret => rfl
 | cond c x y ihx ihy =>
  intro T T' A S S' H μ ω e h hG hT
  simp only [qQ] at h
  split at h <;> first | (cases h; done) | skip
  rename_i hok
  have hv := hT.eval hok
  split at h
  ·
   rename_i hb
   have : jY A c = .bool true := wK hv (by rw [hb]; rfl) |>.trans hb
   obtain ⟨A1, H1, μ1, ω1, h1, h2, h3, h4, h5⟩ := ihx _ _ _ _ _ _ _ _ _ h hG hT
   exact ⟨A1, H1, μ1, ω1, by simp only [qR, hok, if_true, this]; exact h1, h2, h3, h4, h5⟩
  ·
   rename_i hb
   have : jY A c = .bool false := wK hv (by rw [hb]; rfl) |>.trans hb
   obtain ⟨A1, H1, μ1, ω1, h1, h2, h3, h4, h5⟩ := ihy _ _ _ _ _ _ _ _ _ h hG hT
   exact ⟨A1, H1, μ1, ω1, by simp only [qR, hok, if_true, this]; exact h1, h2, h3, h4, h5⟩
  ·
   cases h
 | block id c ih =>
  intro T T' A S S' H μ ω e h hG hT
  simp only [qQ] at h
  split at h
  ·
   rename_i id' T1 S1 hx
   obtain ⟨A1, H1, μ1, ω1, h1, h2, h3, h4, h5⟩ := ih _ _ _ _ _ _ _ _ _ hx hG hT
   by_cases hid : id' = id
   ·
    rw [if_pos hid] at h
    cases h
    exact ⟨A1, H1, μ1, ω1, by simp only [qR, h1, if_pos hid], h2, h3, h4, h5⟩
   ·
    rw [if_neg hid] at h
    cases h
    exact ⟨A1, H1, μ1, ω1, by simp only [qR, h1, if_neg hid], h2, h3, h4, h5⟩
  ·
   rename_i hne
   obtain ⟨A1, H1, μ1, ω1, h1, h2, h3, h4, h5⟩ := ih _ _ _ _ _ _ _ _ _ h hG hT
   refine ⟨A1, H1, μ1, ω1, ?_, h2, h3, h4, h5⟩
   simp only [qR, h1]
   cases e with
   | normal => rfl
   | exit id' => exact absurd h (hne _ _ _)
   | ret => rfl
 | loop c ih =>
  have key : ∀ (n : Nat) (T T' A : List Value) (S S' H : zk) (μ : Mu) (ω : Nat → Option kF) (e : AEx), kS n (qQ P hp call fuel c) T S = some (e, T', S') → GI μ S H → TI μ H ω T A → ag1 μ ω H e T' S' (qm (qR P c) A H) := by
   intro n
   induction n with
   | zero => intro T T' A S S' H μ ω e h; cases h
   | succ n ihn =>
    intro T T' A S S' H μ ω e h hG hT
    simp only [kS] at h
    split at h
    ·
     rename_i T1 S1 hx
     obtain ⟨A1, H1, μ1, ω1, h1, h2, h3, h4, h5⟩ := ih _ _ _ _ _ _ _ _ _ hx hG hT
     obtain ⟨A2, H2, μ2, ω2, k1, k2, k3, k4, k5⟩ := ihn _ _ _ _ _ _ _ _ _ h h2 h5
     exact ⟨A2, H2, μ2, ω2, by rw [yg h1]; exact k1, k2, h3.trans k3, h4.trans k4, k5⟩
    ·
     rename_i hne
     obtain ⟨A1, H1, μ1, ω1, h1, h2, h3, h4, h5⟩ := ih _ _ _ _ _ _ _ _ _ h hG hT
     exact ⟨A1, H1, μ1, ω1, wo h1 (fun he => by subst he; exact hne _ _ h), h2, h3, h4, h5⟩
  intro T T' A S S' H μ ω e h hG hT
  simp only [qQ] at h
  obtain ⟨A1, H1, μ1, ω1, h1, h2⟩ := key fuel _ _ _ _ _ _ _ _ _ h hG hT
  exact ⟨A1, H1, μ1, ω1, by simp only [qR]; exact h1, h2⟩
 | _ => intro T T' A S S' H μ ω e h; simp only [qQ] at h; cases h
theorem VV.ajo {μ : Mu} {H : zk} {ω ω' : Nat → Option kF} {f : kF → Option kF} (hω : ∀ r, ω' r = (ω r).bind f) {s s' : kF} (hs : f s = some s') {v a : Value} (h : VV μ H ω (some s) v a) (hv : jW v = true) : VV μ H ω' (some s') v a := by
 cases h with
 | sg h => exact .sg h
 | ptr h => exact .ptr h
 | map h => exact .map h
 | slm h => exact .slm h
 | slE => exact .slE
 | sl hr hp hg hl hl' hc => exact .sl hr hp hg hl hl' (fun i hi => (hc i hi).at0)
 | so h hr hp hg hl hl' hc => exact .so (by rw [hω, h]; exact hs) hr hp hg hl hl' (fun i hi => (hc i hi).at0)
 | ep hr hp hg hl hc => exact .ep hr hp hg hl (fun i hi => (hc i hi).at0)
 | func fn hx hc h1 h2 => exact .func fn hx hc (fun i => (h1 i).at0) (fun i => (h2 i).at0)
 | agg hx hh => exact .agg hx (fun i => (hh i).at0)
 | nores => exact .nores
 | @tuple _ x x' hx hh =>
  have h0 : x.size = 0 := by simpa [jW] using hv
  have e1 : x = #[] := Array.eq_empty_of_size_eq_zero h0
  have e2 : x' = #[] := Array.eq_empty_of_size_eq_zero (by rw [← hx]; exact h0)
  subst e1 e2
  exact .nores
def place (rs : List ResultVar) : kF → Option kF
 | .ext => some .ext
 | .res _ => none
 | .slot i j => match rs with
  | [.tmp t] => if i = t then some (.res j) else none
  | _ => match j with
   | none => (rs.findIdx? (afT i)).map fun k => .res (some k)
   | some _ => none
theorem acZ {rs : List ResultVar} {i : Nat} (h : ∀ t, rs ≠ [.tmp t]) : place rs (.slot i none) = (rs.findIdx? (afT i)).map fun k => .res (some k) := by
 match rs, h with
 | [], _ => rfl
 | [.tmp t], h => exact absurd rfl (h t)
 | [.cell _ _], _ => rfl
 | .tmp _ :: _ :: _, _ => rfl
 | .cell _ _ :: _ :: _, _ => rfl
theorem aaL {μ : Mu} {ω : Nat → Option kF} {S H : zk} {T A : List Value} (hG : GI μ S H) (hT : TI μ H ω T A) : ∀ (l : List ResultVar) (vs : List Value), zO P T S l = some vs →
  ∃ zf, ZJ P A H l = some zf ∧ vs.length = l.length ∧ zf.length = l.length ∧ ∀ i : Nat, match (l[i]? : Option ResultVar) with
   | some (.tmp t) => vs.getD i undef = T.getD t undef ∧ zf.getD i undef = A.getD t undef
   | _ => V0 μ H (vs.getD i undef) (zf.getD i undef) := by
 intro l
 induction l with
 | nil =>
  intro vs h
  simp only [zO, Option.some.injEq] at h
  subst h
  exact ⟨[], rfl, rfl, rfl, fun i => by simpa using VV.undef⟩
 | cons x l ih =>
  intro vs h
  cases x with
  | tmp t =>
   simp only [zO] at h
   split at h <;> first | (cases h; done) | skip
   rename_i vs' hr
   cases h
   obtain ⟨zf, h1, h2, h3, h4⟩ := ih _ hr
   refine ⟨A.getD t undef :: zf, by simp only [ZJ, h1], by simp [h2], by simp [h3], fun i => ?_⟩
   cases i with
   | zero => exact ⟨rfl, rfl⟩
   | succ i => simpa using h4 i
  | cell a t =>
   simp only [zO] at h
   split at h <;> first | (cases h; done) | skip
   rename_i v S1 vs' hl hr
   cases h
   obtain ⟨zf, h1, h2, h3, h4⟩ := ih _ hr
   obtain ⟨_, w, k1, k2⟩ := YT hl (hT.slots a).v0 (.inr hG)
   refine ⟨w :: zf, by simp only [ZJ, k1, h1], by simp [h2], by simp [h3], fun i => ?_⟩
   cases i with
   | zero => exact k2
   | succ i => simpa using h4 i
theorem ah6 {μ : Mu} {ω : Nat → Option kF} {S S' H : zk} {T A : List Value} {fn : Func} {v : Value} (hG : GI μ S H) (hT : TI μ H ω T A) (h : aei P fn T S = some (v, S')) :
  S' = S ∧ ∃ a, afW P fn A H = some (a, H) ∧ VV μ H (fun r => (ω r).bind (place fn.results.toList)) (some (.res none)) v a := by
 unfold aei at h
 split at h <;> first | (cases h; done) | skip
 rename_i vs hvs
 split at h <;> first | (cases h; done) | skip
 rename_i hok
 obtain ⟨zf, h1, h2, h3, h4⟩ := aaL hG hT _ _ hvs
 generalize hrs : fn.results.toList = rs at *
 split at h
 ·
  rename_i v1
  cases h
  obtain ⟨a, rfl⟩ : ∃ a, zf = [a] := by
   match zf, h3.trans h2.symm with
   | [a], _ => exact ⟨a, rfl⟩
  refine ⟨rfl, a, by simp only [afW, hrs, h1], ?_⟩
  match rs, h2 with
  | [x], _ =>
   have := h4 0
   cases x with
   | tmp t =>
    simp only [List.getElem?_cons_zero, List.getD_cons_zero] at this
    obtain ⟨rfl, rfl⟩ := this
    refine (hT.slots t).Vd (fun _ => rfl) _ (fun s hs => ?_)
    cases hs
    refine ⟨_, rfl, by simp only [place, if_true], fun k t' ht => ?_⟩
    cases ht
    exact ⟨_, rfl, by simp only [place, if_true]⟩
   | cell b t => exact (show V0 μ H v a from this).at0
 ·
  rename_i hne
  split at h <;> first | (cases h; done) | skip
  rename_i hnt
  cases h
  refine ⟨rfl, .tuple zf.toArray, ?_, .tuple (by simp [h2, h3]) fun i => ?_⟩
  ·
   simp only [afW, hrs, h1]
   match zf, vs, h3.trans h2.symm, hne with
   | [], _, _, _ => rfl
   | [a], [v], _, hne => exact absurd rfl (hne v)
   | a :: b :: c, _, _, _ => rfl
  ·
   have e1 : vs.toArray.getD i undef = vs.getD i undef := by rw [← getD_toList, List.toList_toArray]
   have e2 : zf.toArray.getD i undef = zf.getD i undef := by rw [← getD_toList, List.toList_toArray]
   rw [e1, e2]
   have h5 := h4 i
   cases hx : rs[i]? with
   | none => rw [hx] at h5; exact (show V0 μ H _ _ from h5).at0
   | some x =>
    rw [hx] at h5
    cases x with
    | cell b t => exact (show V0 μ H _ _ from h5).at0
    | tmp t =>
     dsimp only at h5
     have hi : i < rs.length := (List.getElem?_eq_some_iff.1 hx).1
     have hid : rs.findIdx? (afT t) = some i := by
      have := List.all_eq_true.1 hok i (List.mem_range.2 hi)
      rw [hx] at this
      simpa using this
     have hnt2 : jW (T.getD t undef) = true := by
      rw [← h5.1, List.getD_eq_getElem?_getD, List.getElem?_eq_getElem (by omega)]
      exact List.all_eq_true.1 hnt _ (List.getElem_mem _)
     rw [h5.1, h5.2]
     refine (hT.slots t).ajo (fun _ => rfl) (s' := .res (some i)) ?_ hnt2
     have hne1 : ∀ t', rs ≠ [.tmp t'] := by
      intro t' e
      rw [e] at h2
      match vs, h2 with
      | [v], _ => exact hne v rfl
     rw [acZ hne1, hid]; rfl
def adD (P : Program) (O : Ora) : Prop := ∀ f q, O.fn f = some q → YR P (fun g args => if g = f then q args else fun _ => none)
open Classical in
noncomputable def aaF (μ μ1 : Mu) (ω : Nat → Option kF) : Nat → Option kF := fun r => if ∃ q, μ q = some (r, true) ∧ ¬ μ1 q = some (r, true) then some .ext else ω r
theorem afK {call : FuncId → List Value → M Value} (hc : YR P call) {hps : FuncId → Bool} {hp : Bool} : YR P (ZN hps hp call) := by
 cases hp with
 | false => exact hc
 | true =>
  intro g args aargs S v S' h μ H ω hG hA hD hE
  unfold ZN at h
  dsimp only at h
  split at h
  ·
   exact hc g args aargs S v S' h μ H ω hG hA hD hE
  ·
   split at h <;> first | (cases h; done) | skip
   rename_i m S1 hf
   obtain ⟨μ1, h1, h2, h3⟩ := aaB _ _ _ _ _ _ hf hG hA
   split at h <;> first | (cases h; done) | skip
   rename_i r0 hr0
   obtain ⟨v0, S2⟩ := r0
   simp only [Option.some.injEq] at h
   unfold adZ at h
   dsimp only at h
   split at h
   ·
    rename_i hb
    cases h
    simp only [Bool.and_eq_true, beq_iff_eq] at hb
    obtain ⟨⟨_, hgr⟩, hlog⟩ := hb
    have hlent : ∀ q r, μ q = some (r, true) → ¬ μ1 q = some (r, true) → r < H.next ∧ QS μ1 r := fun q r hq hn =>
     ⟨hG.lt q r _ hq, fun q' hq' => by
      rcases h2.new q' r hq' with h5 | h5
      ·
       have := hG.inj q q' r hq h5
       subst this
       exact hn hq'
      ·
       have := hG.lt q r _ hq; omega, by rw [h2.hid]; exact hG.vis q r hq⟩
    have hDL : Dom μ1 H (aaF μ μ1 ω) := fun r s hs => by
     unfold aaF at hs
     split at hs
     ·
      rename_i hx
      obtain ⟨q, hq, hn⟩ := hx
      exact hlent q r hq hn
     ·
      exact ⟨(hD r s hs).1, h2.priv (hD r s hs).1 (hD r s hs).2⟩
    have hEL : ∀ r s, aaF μ μ1 ω r = some s → s = .ext := fun r s hs => by
     unfold aaF at hs
     split at hs
     ·
      cases hs; rfl
     ·
      exact hE r s hs
    obtain ⟨a, H', μ', ω', k1, k2, k3, k4, k5, k6⟩ := hc g m aargs S1 v S2 hr0 μ1 H (aaF μ μ1 ω) h1 h3 hDL hEL
    have hsame : ∀ q r, μ q = some (r, true) → H'.get r = H.get r := fun q r hq => by
     by_cases hn : μ1 q = some (r, true)
     ·
      obtain ⟨new, e1, e2⟩ := k3.still
      have : new = [] := by
       rw [k2.log, h1.log, hlog] at e1
       exact List.append_cancel_right (bs := S1.log) (by rw [← e1]; rfl)
      subst this
      exact (e2 q r hn (by simp)).2
     ·
      exact (k4 r (by unfold aaF; rw [if_pos ⟨q, hq, hn⟩])).2
    have hL : Later μ H μ H' := ⟨fun _ _ b h => ⟨b, h⟩, k3.next, fun _ _ h => .inl h, rfl, fun r hr hh => k3.same r hr (by rw [h2.hid]; exact hh), ⟨[], rfl, fun q r hq _ => ⟨hq, hsame q r hq⟩⟩,
     fun r l own e hr hp hg => k3.cells r l own e hr (h2.priv hr hp) hg⟩
    refine ⟨a, H', μ, ω, k1, hG.later hL rfl hsame, hL, fun r hr => ⟨hr, (k4 r ?_).2⟩, fun r s hs => ⟨Nat.lt_of_lt_of_le (hD r s hs).1 k3.next, (hD r s hs).2⟩, ?_⟩
    ·
     unfold aaF
     split
     ·
      rfl
     ·
      exact hr
    ·
     rw [VV.Za hgr k6]
     exact VV.qH hgr
   ·
    cases h
    obtain ⟨a, H', μ', ω', k1, k2, k3, k4, k5, k6⟩ := hc g m aargs S1 v S' hr0 μ1 H ω h1 h3 (fun r s hs => ⟨(hD r s hs).1, h2.priv (hD r s hs).1 (hD r s hs).2⟩) hE
    exact ⟨a, H', μ', ω', k1, k2, h2.trans k3, k4, k5, k6⟩
theorem VV.clean {μ μ' : Mu} {H : zk} {ω : Nat → Option kF} (hp : ∀ r, QS μ r → QS μ' r) {ℓ : Option kF} {v a : Value} (h : VV μ H ω ℓ v a) : ∀ d, jH d v = true → VV μ' H ω ℓ v a := by
 induction h with
 | sg h => exact fun _ _ => .sg h
 | ptr h => intro d hc; cases d <;> simp [jH] at hc
 | map h => intro d hc; cases d <;> simp [jH] at hc
 | slm h => intro d hc; cases d <;> simp [jH] at hc
 | slE => exact fun _ _ => .slE
 | sl hr hpr hg hl hn hc ih =>
  intro d hcl
  obtain ⟨d, rfl⟩ : ∃ k, d = k + 4 := by
   match d, hcl with
   | 0, h => cases h
   | 1, h => simp [jH] at h
   | 2, h => simp [jH] at h
   | 3, h => simp [jH] at h
   | k + 4, _ => exact ⟨k, rfl⟩
  simp only [jH] at hcl
  refine .sl hr (hp _ hpr) hg hl hn (fun i hi => ih i hi d ?_)
  rw [List.getD_eq_getElem?_getD, List.getElem?_eq_getElem (by omega)]
  exact List.all_eq_true.1 hcl _ (List.getElem_mem _)
 | so hω hr hpr hg hl hn hc ih =>
  intro d hcl
  obtain ⟨d, rfl⟩ : ∃ k, d = k + 4 := by
   match d, hcl with
   | 0, h => cases h
   | 1, h => simp [jH] at h
   | 2, h => simp [jH] at h
   | 3, h => simp [jH] at h
   | k + 4, _ => exact ⟨k, rfl⟩
  simp only [jH] at hcl
  refine .so hω hr (hp _ hpr) hg hl hn (fun i hi => ih i hi d ?_)
  rw [List.getD_eq_getElem?_getD, List.getElem?_eq_getElem (by omega)]
  exact List.all_eq_true.1 hcl _ (List.getElem_mem _)
 | ep hr hpr hg hl hc ih =>
  intro d hcl
  obtain ⟨d, rfl⟩ : ∃ k, d = k + 2 := by
   match d, hcl with
   | 0, h => cases h
   | 1, h => simp [jH] at h
   | k + 2, _ => exact ⟨k, rfl⟩
  simp only [jH] at hcl
  refine .ep hr (hp _ hpr) hg hl (fun i hi => ih i hi d ?_)
  rw [List.getD_eq_getElem?_getD, List.getElem?_eq_getElem hi]
  exact List.all_eq_true.1 hcl _ (List.getElem_mem _)
 | func fn hx hc h1 h2 => intro d hc; cases d <;> simp [jH] at hc
 | @agg ℓ x x' hx hh ih =>
  intro d hcl
  obtain ⟨d, rfl⟩ : ∃ k, d = k + 1 := by
   match d, hcl with
   | 0, h => cases h
   | k + 1, _ => exact ⟨k, rfl⟩
  simp only [jH] at hcl
  refine .agg hx (fun i => ?_)
  by_cases hi : i < x.size
  ·
   refine ih i d ?_
   rw [Array.getD_eq_getD_getElem?, Array.getElem?_eq_getElem hi]
   exact List.all_eq_true.1 hcl _ (by simp)
  ·
   rw [Array.getD_eq_getD_getElem?, Array.getElem?_eq_none (Nat.le_of_not_lt hi), Array.getD_eq_getD_getElem?, Array.getElem?_eq_none (by omega)]
   exact .nores
 | nores => exact fun _ _ => .nores
 | @tuple ℓ x x' hx hh ih =>
  intro d hcl
  obtain ⟨d, rfl⟩ : ∃ k, d = k + 1 := by
   match d, hcl with
   | 0, h => cases h
   | k + 1, _ => exact ⟨k, rfl⟩
  simp only [jH] at hcl
  refine .tuple hx (fun i => ?_)
  by_cases hi : i < x.size
  ·
   refine ih i d ?_
   rw [Array.getD_eq_getD_getElem?, Array.getElem?_eq_getElem hi]
   exact List.all_eq_true.1 hcl _ (by simp)
  ·
   rw [Array.getD_eq_getD_getElem?, Array.getElem?_eq_none (Nat.le_of_not_lt hi), Array.getD_eq_getD_getElem?, Array.getElem?_eq_none (by omega)]
   exact .nores
open Classical in
noncomputable def Jt (μ : Mu) : Mu := ⟨fun _ => none, fun r => μ.hid r || decide (∃ q, μ q = some (r, true)), []⟩
theorem Y7 {μ : Mu} {r : Nat} (h : QS μ r) : QS (Jt μ) r := ⟨fun q hq => (by cases hq), by
 simp only [Jt, h.2, Bool.false_or, decide_eq_false_iff_not]
 rintro ⟨q, hq⟩
 exact h.1 q hq⟩
theorem ae9 {μ : Mu} {r : Nat} (h : (Jt μ).hid r = false) : QS μ r := by
 simp only [Jt, Bool.or_eq_false_iff, decide_eq_false_iff_not] at h
 exact ⟨fun q hq => h.2 ⟨q, hq⟩, h.1⟩
def ajy (P : Program) (g : FuncId) (args : List Value) (run : M Value) : Prop := ∀ aargs S v S', run S = some (v, S') → ∀ μ H ω, GI μ S H → L0 μ H args aargs → Dom μ H ω → (∀ r s, ω r = some s → s = .ext) →
 ∃ a H' μ' ω', lim P g aargs H = some (a, H') ∧ GI μ' S' H' ∧ Later μ H μ' H' ∧ Kept ω H ω' H' ∧ Dom μ' H' ω' ∧ VV μ' H' ω' (some (.res none)) v a
theorem agF {g : FuncId} {args : List Value} {run : M Value} (hr : ajy P g args run) : ajy P g args (adF run args) := by
 intro aargs S v S' h μ H ω hG hA hD hE
 unfold adF at h
 split at h <;> first | (cases h; done) | skip
 rename_i hca
 split at h <;> first | (cases h; done) | skip
 rename_i w S1 hrun
 split at h <;> first | (cases h; done) | skip
 rename_i hcw
 cases h
 have hG0 : GI (Jt μ) zk.empty H := ⟨fun q o h => (by cases h), fun q q' r h => (by cases h), fun q r b h => (by cases h), fun q _ => rfl, fun q r h => (by cases h), fun r h => by
  simp only [Jt, Bool.or_eq_true, decide_eq_true_eq] at h
  rcases h with h | ⟨q, hq⟩
  ·
   exact hG.hlt r h
  ·
   exact hG.lt q r _ hq, rfl, fun q cs anc e h => (by cases h)⟩
 have hA0 : L0 (Jt μ) H args aargs := ⟨hA.1, fun i => by
  by_cases hi : i < args.length
  ·
   refine (hA.2 i).clean (fun r h => Y7 h) 16 ?_
   rw [List.getD_eq_getElem?_getD, List.getElem?_eq_getElem hi]
   exact List.all_eq_true.1 hca _ (List.getElem_mem _)
  ·
   rw [List.getD_eq_getElem?_getD, List.getElem?_eq_none (Nat.le_of_not_lt hi), List.getD_eq_getElem?_getD, List.getElem?_eq_none (by rw [← hA.1]; omega)]
   exact .nores⟩
 obtain ⟨a, H1, μ1, ω1, k1, k2, k3, k4, k5, k6⟩ := hr aargs _ _ _ hrun (Jt μ) H ω hG0 hA0 (fun r s h => ⟨(hD r s h).1, Y7 (hD r s h).2⟩) hE
 have hp1 : ∀ r, QS μ1 r → QS μ r := fun r h => ae9 (by rw [← k3.hid]; exact h.2)
 have hL : Later μ H μ H1 := ⟨fun _ _ b h => ⟨b, h⟩, k3.next, fun _ _ h => .inl h, rfl, fun r hr hh => k3.same r hr (by simp only [Jt, hh, Bool.true_or]), ⟨[], rfl, fun q r hq _ => ⟨hq, k3.same r (hG.lt q r _ hq) (by
  simp only [Jt, Bool.or_eq_true, decide_eq_true_eq]
  exact .inr ⟨q, hq⟩)⟩⟩, fun r l own e hr hp hg => k3.cells r l own e hr (Y7 hp) hg⟩
 refine ⟨a, H1, μ, ω1, k1, ?_, hL, k4, fun r s h => ⟨(k5 r s h).1, hp1 r (k5 r s h).2⟩, k6.clean hp1 16 hcw⟩
 exact hG.later hL rfl fun q r hq => k3.same r (hG.lt q r _ hq) (by
  simp only [Jt, Bool.or_eq_true, decide_eq_true_eq]
  exact .inr ⟨q, hq⟩)
theorem afM {O : Ora} (hO : adD P O) : ∀ n, YR P (ZW P O n) := by
 intro n
 induction n with
 | zero => intro g args aargs S v S' h; cases h
 | succ n ih =>
  intro g args aargs S v S' h μ H ω hG hA hD hE
  simp only [ZW] at h
  cases ho : O.fn g with
  | some q =>
   rw [ho] at h
   exact hO g q ho g args aargs S v S' (by simpa using h) μ H ω hG hA hD hE
  | none =>
   rw [ho] at h
   dsimp only at h
   cases hf : P.funcs[g]? with
   | none => rw [hf] at h; cases h
   | some fn =>
    rw [hf] at h
    dsimp only at h
    split at h <;> first | (cases h; done) | skip
    rename_i hn
    cases hb : fn.body with
    | none => rw [hb] at h; cases h
    | some c =>
     rw [hb] at h
     dsimp only at h
     have hrun : ajy P g args (afy P (O.hp g) (ZN O.hp (O.hp g) (ZW P O n)) n fn c args) := by
      intro aargs S v S' h μ H ω hG hA hD hE
      have hT0 : TI μ H ω (args ++ List.replicate (fn.ntmps - args.length) undef) (aargs ++ List.replicate (fn.ntmps - aargs.length) undef) := by
       have hl : L0 μ H (args ++ List.replicate (fn.ntmps - args.length) undef) (aargs ++ List.replicate (fn.ntmps - aargs.length) undef) := by
        refine hA.append (VL.ofRange (by rw [hA.1]) fun i hi => ?_)
        have hi2 : i < fn.ntmps - args.length := by simpa using hi
        rw [List.getD_eq_getElem?_getD, List.getElem?_replicate, if_pos hi2, List.getD_eq_getElem?_getD, List.getElem?_replicate, if_pos (by rw [← hA.1]; exact hi2)]
        exact .nores
       exact ⟨hl.1, fun i => (hl.2 i).at0, hD, fun r j hr => by have := hE r _ hr; cases this⟩
      have fin : ∀ (e : AEx) (T1 : List Value) (S1 : zk), (e = .normal ∨ e = .ret) → qQ P (O.hp g) (ZN O.hp (O.hp g) (ZW P O n)) n c (args ++ List.replicate (fn.ntmps - args.length) undef) S = some (e, T1, S1) → aei P fn T1 S1 = some (v, S') →
        ∃ a H' μ' ω', lim P g aargs H = some (a, H') ∧ GI μ' S' H' ∧ Later μ H μ' H' ∧ Kept ω H ω' H' ∧ Dom μ' H' ω' ∧ VV μ' H' ω' (some (.res none)) v a := by
       intro e T1 S1 he hcode hres
       obtain ⟨A1, H1, μ1, ω1, h1, h2, h3, h4, h5⟩ := afJ (afK ih) n c _ _ _ _ _ _ _ _ _ hcode hG hT0
       obtain ⟨rfl, a, k1, k2⟩ := ah6 (P := P) h2 h5 hres
       refine ⟨a, H1, μ1, fun r => (ω1 r).bind (place fn.results.toList), agM hf hn hb h1 he k1, h2, h3, fun r hr => ?_, fun r s hs => ?_, k2⟩
       ·
        obtain ⟨q1, q2⟩ := h4 r hr
        exact ⟨by simp [q1, place], q2⟩
       ·
        cases hr : ω1 r with
        | none => simp [hr] at hs
        | some s0 => exact h5.dom r s0 hr
      unfold afy at h
      split at h
      ·
       rename_i T1 S1 hx; exact fin .normal _ _ (.inl rfl) hx h
      ·
       rename_i T1 S1 hx; exact fin .ret _ _ (.inr rfl) hx h
      ·
       cases h
     split at h
     ·
      exact agF hrun aargs S v S' h μ H ω hG hA hD hE
     ·
      exact hrun aargs S v S' h μ H ω hG hA hD hE
end
end Go.Abs
namespace Go.Abs
open Go.RowKit
open Classical
noncomputable def jc (P : Program) (O : Ora) (g : FuncId) (args : List Value) : M Value := fun S =>
 if h : ∃ r, ∃ k0, ∀ k, k0 ≤ k → ZW P O k g args S = some r then some (Classical.choose h) else none
section
variable {P : Program} {O : Ora}
theorem VN {g : FuncId} {args : List Value} {S : zk} {r : Value × zk} (h : jc P O g args S = some r) : ∃ k0, ∀ k, k0 ≤ k → ZW P O k g args S = some r := by
 unfold jc at h
 split at h
 ·
  rename_i hx
  have := Classical.choose_spec hx
  cases h
  exact this
 ·
  cases h
theorem aa9 {g : FuncId} {args : List Value} {S : zk} {r : Value × zk} (h : ∃ k0, ∀ k, k0 ≤ k → ZW P O k g args S = some r) : jc P O g args S = some r := by
 have hx : ∃ r, ∃ k0, ∀ k, k0 ≤ k → ZW P O k g args S = some r := ⟨r, h⟩
 unfold jc
 rw [dif_pos hx]
 obtain ⟨k0, h0⟩ := h
 obtain ⟨k1, h1⟩ := Classical.choose_spec hx
 have e0 := h0 (max k0 k1) (Nat.le_max_left _ _)
 have e1 := h1 (max k0 k1) (Nat.le_max_right _ _)
 rw [e0] at e1
 exact e1.symm
theorem ah5 (hO : adD P O) : YR P (jc P O) := by
 intro g args aargs S v S' h
 obtain ⟨k, hk⟩ := VN h
 exact afM hO k g args aargs S v S' (hk k (Nat.le_refl k))
def aiB (c : FuncId → List Value → M Value) (ck : Nat → FuncId → List Value → M Value) : Prop := ∀ g args S r, c g args S = some r → ∃ k0, ∀ k, k0 ≤ k → ck k g args S = some r
theorem V7 : aiB (jc P O) (fun k => ZW P O k) := fun g args S r h => VN h
theorem KT {c : FuncId → List Value → M Value} {ck : Nat → FuncId → List Value → M Value} (hl : aiB c ck) {hps : FuncId → Bool} {hp : Bool} : aiB (ZN hps hp c) (fun k => ZN hps hp (ck k)) := by
 cases hp with
 | false => exact hl
 | true =>
  intro g args S r h
  unfold ZN at h
  dsimp only at h
  split at h
  ·
   rename_i hg
   obtain ⟨k0, h0⟩ := hl _ _ _ _ h
   exact ⟨k0, fun k hk => by unfold ZN; dsimp only; rw [if_pos hg]; exact h0 k hk⟩
  ·
   rename_i hg
   split at h <;> first | (cases h; done) | skip
   rename_i m S1 hf
   split at h <;> first | (cases h; done) | skip
   rename_i r0 hr0
   obtain ⟨k0, h0⟩ := hl _ _ _ _ hr0
   exact ⟨k0, fun k hk => by unfold ZN; dsimp only; rw [if_neg hg, hf]; dsimp only; rw [h0 k hk]; exact h⟩
section
variable {c : FuncId → List Value → M Value} {ck : Nat → FuncId → List Value → M Value}
theorem Vr (hl : aiB c ck) {fx : Fx} {T : List Value} {o : Oper} {S : zk} {r : Value × zk} (h : qy P fx c T o S = some r) : ∃ k0, ∀ k, k0 ≤ k → qy P fx (ck k) T o S = some r := by
 unfold qy at h
 split at h
 ·
  rename_i hok
  split at h
  ·
   rename_i q0 hop
   split at h
   ·
    rename_i f hf
    split at h
    ·
     rename_i g first captured hev
     obtain ⟨k0, hk⟩ := hl _ _ _ _ h
     refine ⟨k0, fun k hkk => ?_⟩
     unfold qy
     rw [if_pos hok]
     simp only [hop, hf, hev]
     exact hk k hkk
    ·
     cases h
   ·
    rename_i b hb
    refine ⟨0, fun k _ => ?_⟩
    unfold qy
    rw [if_pos hok]
    simp only [hop, hb]
    exact h
   ·
    cases h
  ·
   rename_i hop
   refine ⟨0, fun k _ => ?_⟩
   unfold qy
   rw [if_pos hok]
   split
   ·
    rename_i q0 hc; exact absurd hc (hop q0)
   ·
    exact h
 ·
  cases h
theorem afA (hl : aiB c ck) {fx : Fx} {ops : Array Oper} : ∀ (l : List Oper) (T : List Value) (S : zk) (r : List Value × zk), jC P fx c ops l T S = some r → ∃ k0, ∀ k, k0 ≤ k → jC P fx (ck k) ops l T S = some r := by
 intro l
 induction l with
 | nil => intro T S r h; exact ⟨0, fun k _ => h⟩
 | cons o l ih =>
  intro T S r h
  simp only [jC] at h
  split at h
  ·
   rename_i hw
   split at h
   ·
    rename_i v S' hs
    obtain ⟨k1, h1⟩ := Vr hl hs
    obtain ⟨k2, h2⟩ := ih _ _ _ h
    refine ⟨max k1 k2, fun k hk => ?_⟩
    simp only [jC, hw, if_true, h1 k (by omega)]
    exact h2 k (by omega)
   ·
    cases h
  ·
   rename_i hw
   obtain ⟨k2, h2⟩ := ih _ _ _ h
   refine ⟨k2, fun k hk => ?_⟩
   simp only [jC, hw, if_false]
   exact h2 k hk
theorem ae7 (hl : aiB c ck) {fx : Fx} {chk : List Nat} {nl : List (Nat × Nat)} {ops : Array Oper} : ∀ (l : List Oper) (i : Nat) (hist : List (Value × zk)) (T : List Value) (S : zk) (r : List Value × zk), yQ P fx chk nl c ops i hist l T S = some r → ∃ k0, ∀ k, k0 ≤ k → yQ P fx chk nl (ck k) ops i hist l T S = some r := by
 intro l
 induction l with
 | nil => intro i hist T S r h; exact ⟨0, fun k _ => h⟩
 | cons o l ih =>
  intro i hist T S r h
  simp only [yQ] at h
  split at h
  ·
   rename_i hw
   split at h
   ·
    rename_i v S' hs
    split at h
    ·
     rename_i hq
     obtain ⟨k1, h1⟩ := Vr hl hs
     obtain ⟨k2, h2⟩ := ih _ _ _ _ _ h
     refine ⟨max k1 k2, fun k hk => ?_⟩
     simp only [yQ, hw, if_true, h1 k (by omega), hq]
     exact h2 k (by omega)
    ·
     cases h
   ·
    cases h
  ·
   rename_i hw
   obtain ⟨k2, h2⟩ := ih _ _ _ _ _ h
   refine ⟨k2, fun k hk => ?_⟩
   simp only [yQ, hw, if_false]
   exact h2 k hk
end
noncomputable def zF (P : Program) (O : Ora) (hp : Bool) : Code → List Value → zk → St
 | .skip, T, H => some (.normal, T, H)
 | .region _ ops false, T, H => match jC P ⟨hp, false, false⟩ (ZN O.hp hp (jc P O)) ops ops.toList T H with
  | some (T1, H1) => some (.normal, T1, H1)
  | none => none
 | .region _ ops true, T, H => if qW P ops then match yQ P ⟨hp, !(checked P ops).isEmpty, fixed P ops⟩ (checked P ops) (again P ops) (ZN O.hp hp (jc P O)) ops 0 [] ops.toList T H with
  | some (T1, H1) => some (.normal, T1, H1)
  | none => none
  else none
 | .seq x y, T, H => match zF P O hp x T H with
  | some (.normal, T1, H1) => zF P O hp y T1 H1
  | r => r
 | .cond c x y, T, H => if xG c then
   match jY T c with
   | .bool true => zF P O hp x T H
   | .bool false => zF P O hp y T H
   | _ => none
  else none
 | .block id c, T, H => match zF P O hp c T H with
  | some (.exit id', T1, H1) => if id' = id then some (.normal, T1, H1) else some (.exit id', T1, H1)
  | r => r
 | .loop c, T, H => qm (zF P O hp c) T H
 | .exit id, T, H => some (.exit id, T, H)
 | .ret, T, H => some (.ret, T, H)
 | _, _, _ => none
theorem Kw {hp : Bool} : ∀ (c : Code) (T : List Value) (H : zk) (r), zF P O hp c T H = some r → ∃ k0, ∀ k fuel, k0 ≤ k → k0 ≤ fuel → qQ P hp (ZN O.hp hp (ZW P O k)) fuel c T H = some r := by
 intro c
 induction c with
 | skip => intro T H r h; exact ⟨0, fun k fuel _ _ => h⟩
 | region i ops d =>
  intro T H r h
  cases d with
  | false =>
   simp only [zF] at h
   split at h
   ·
    rename_i T1 H1 ho
    obtain ⟨k0, h0⟩ := afA (KT V7) _ _ _ _ ho
    exact ⟨k0, fun k fuel hk _ => by simp only [qQ, h0 k hk]; exact h⟩
   ·
    cases h
  | true =>
   simp only [zF] at h
   split at h
   ·
    rename_i hd
    split at h
    ·
     rename_i T1 H1 ho
     obtain ⟨k0, h0⟩ := ae7 (KT V7) _ _ _ _ _ _ ho
     exact ⟨k0, fun k fuel hk _ => by simp only [qQ, hd, if_true, h0 k hk]; exact h⟩
    ·
     cases h
   ·
    cases h
 | seq x y ihx ihy =>
  intro T H r h
  simp only [zF] at h
  split at h
  ·
   rename_i T1 H1 hx
   obtain ⟨k1, h1⟩ := ihx _ _ _ hx
   obtain ⟨k2, h2⟩ := ihy _ _ _ h
   exact ⟨max k1 k2, fun k fuel hk hf => by simp only [qQ, h1 k fuel (by omega) (by omega)]; exact h2 k fuel (by omega) (by omega)⟩
  ·
   rename_i hne
   obtain ⟨k1, h1⟩ := ihx _ _ _ h
   refine ⟨k1, fun k fuel hk hf => ?_⟩
   simp only [qQ, h1 k fuel hk hf]
   split
   ·
    rename_i T1 H1 he; exact absurd (h.trans he) (hne T1 H1)
   ·
    rfl
 | cond c x y ihx ihy =>
  intro T H r h
  simp only [zF] at h
  split at h
  ·
   rename_i hok
   split at h
   ·
    rename_i hb
    obtain ⟨k1, h1⟩ := ihx _ _ _ h
    exact ⟨k1, fun k fuel hk hf => by simp only [qQ, hok, if_true, hb]; exact h1 k fuel hk hf⟩
   ·
    rename_i hb
    obtain ⟨k1, h1⟩ := ihy _ _ _ h
    exact ⟨k1, fun k fuel hk hf => by simp only [qQ, hok, if_true, hb]; exact h1 k fuel hk hf⟩
   ·
    cases h
  ·
   cases h
 | block id c ih =>
  intro T H r h
  simp only [zF] at h
  split at h
  ·
   rename_i id' T1 H1 hc
   obtain ⟨k1, h1⟩ := ih _ _ _ hc
   exact ⟨k1, fun k fuel hk hf => by simp only [qQ, h1 k fuel hk hf]; exact h⟩
  ·
   rename_i hne
   obtain ⟨k1, h1⟩ := ih _ _ _ h
   refine ⟨k1, fun k fuel hk hf => ?_⟩
   simp only [qQ, h1 k fuel hk hf]
   split
   ·
    rename_i id' T1 H1 he; exact absurd (h.trans he) (hne id' T1 H1)
   ·
    rfl
 | loop c ih =>
  intro T H r h
  simp only [zF] at h
  obtain ⟨n, hn⟩ := JK h
  have key : ∀ (n : Nat) (T : List Value) (H : zk), kS n (zF P O hp c) T H = some r → ∃ k0, ∀ k fuel, k0 ≤ k → k0 ≤ fuel → ∀ j, n ≤ j → kS j (qQ P hp (ZN O.hp hp (ZW P O k)) fuel c) T H = some r := by
   intro n
   induction n with
   | zero => intro T H h; cases h
   | succ n ihn =>
    intro T H h
    simp only [kS] at h
    split at h
    ·
     rename_i T1 H1 hf
     obtain ⟨k1, h1⟩ := ih _ _ _ hf
     obtain ⟨k2, h2⟩ := ihn _ _ h
     refine ⟨max k1 k2, fun k fuel hk hfu j hj => ?_⟩
     obtain ⟨j, rfl⟩ : ∃ i, j = i + 1 := ⟨j - 1, by omega⟩
     simp only [kS, h1 k fuel (by omega) (by omega)]
     exact h2 k fuel (by omega) (by omega) j (by omega)
    ·
     rename_i hne
     obtain ⟨k1, h1⟩ := ih _ _ _ h
     refine ⟨k1, fun k fuel hk hfu j hj => ?_⟩
     obtain ⟨j, rfl⟩ : ∃ i, j = i + 1 := ⟨j - 1, by omega⟩
     simp only [kS, h1 k fuel hk hfu]
     split
     ·
      rename_i T1 H1 he; exact absurd (h.trans he) (hne T1 H1)
     ·
      rfl
  obtain ⟨k0, h0⟩ := key n T H hn
  exact ⟨max k0 n, fun k fuel hk hf => by simp only [qQ]; exact h0 k fuel (by omega) (by omega) fuel (by omega)⟩
 | exit id => intro T H r h; exact ⟨0, fun k fuel _ _ => h⟩
 | ret => intro T H r h; exact ⟨0, fun k fuel _ _ => h⟩
 | _ => intro T H r h; simp only [zF] at h; cases h
theorem yR {f : FuncId} {fn : Func} {c : Code} {args : List Value} {H H1 H' : zk} {e : AEx} {T : List Value} {v : Value} (ho : O.fn f = none) (hpu : O.pu f = false) (hf : P.funcs[f]? = some fn) (hn : fn.name ≠ "runtime.NumGoroutine") (hb : fn.body = some c)
  (h : zF P O (O.hp f) c (args ++ List.replicate (fn.ntmps - args.length) undef) H = some (e, T, H1)) (he : e = .normal ∨ e = .ret) (hres : aei P fn T H1 = some (v, H')) : jc P O f args H = some (v, H') := by
 obtain ⟨k0, h0⟩ := Kw _ _ _ _ h
 refine aa9 ⟨k0 + 1, fun k hk => ?_⟩
 obtain ⟨k, rfl⟩ : ∃ i, k = i + 1 := ⟨k - 1, by omega⟩
 simp only [ZW, ho, hf, if_neg hn, hb, hpu, Bool.false_eq_true, if_false, afy, h0 k k (by omega) (by omega)]
 rcases he with rfl | rfl <;> exact hres
theorem yh {f : FuncId} {fn : Func} {c : Code} {args : List Value} {S H1 H' : zk} {e : AEx} {T : List Value} {v : Value} (ho : O.fn f = none) (hpu : O.pu f = true) (hf : P.funcs[f]? = some fn) (hn : fn.name ≠ "runtime.NumGoroutine") (hb : fn.body = some c)
  (h : zF P O (O.hp f) c (args ++ List.replicate (fn.ntmps - args.length) undef) zk.empty = some (e, T, H1)) (he : e = .normal ∨ e = .ret) (hres : aei P fn T H1 = some (v, H')) (hca : args.all (jH 16) = true) (hcv : jH 16 v = true) : jc P O f args S = some (v, S) := by
 obtain ⟨k0, h0⟩ := Kw _ _ _ _ h
 refine aa9 ⟨k0 + 1, fun k hk => ?_⟩
 obtain ⟨k, rfl⟩ : ∃ i, k = i + 1 := ⟨k - 1, by omega⟩
 have hr : afy P (O.hp f) (ZN O.hp (O.hp f) (ZW P O k)) k fn c args zk.empty = some (v, H') := by
  simp only [afy, h0 k k (by omega) (by omega)]
  rcases he with rfl | rfl <;> exact hres
 simp only [ZW, ho, hf, if_neg hn, hb, hpu, if_true, adF, if_pos hca, hr, if_pos hcv]
def Ty.VW : (t : Ty) → t.Val → List Value
 | .int k, n => [.int k n]
 | .bool, b => [.bool b]
 | .str, s => [.string s]
 | .slc _ e, l => match l with
  | none => [.slice none 0 0]
  | some l => [SL 1 e.sz l.length (l.flatMap e.VW)]
 | .pair a b, (x, y) => a.VW x ++ b.VW y
 | .unit, _ => []
theorem Ty.abe : ∀ (t : Ty) (x : t.Val), (t.VW x).length = t.sz := by
 intro t
 induction t with
 | pair a b iha ihb => rintro ⟨x, y⟩; simp [Ty.VW, Ty.sz, iha, ihb]
 | slc bytes e ih => intro x; cases x <;> rfl
 | _ => intro x; rfl
theorem YO {e : Ty} (l : List e.Val) : (l.flatMap e.VW).length = l.length * e.sz := by
 induction l with
 | nil => simp
 | cons x l ih => simp [List.flatMap_cons, Ty.abe, ih, Nat.add_mul]; omega
def M0 : Mu := ⟨fun _ => none, fun _ => false, []⟩
theorem GI.none {H : zk} : GI M0 zk.empty H := ⟨(fun q o h => by cases h), (fun q q' r h => by cases h), (fun q r b h => by cases h), (fun q _ => rfl), (fun q r h => by cases h), (fun r h => by cases h), rfl, (fun q cs anc e h => by cases h)⟩
theorem Ty.XK : ∀ (t : Ty) (x : t.Val) (H : zk), Later M0 H M0 (t.place x H).2 ∧ L0 M0 (t.place x H).2 (t.VW x) (t.place x H).1 := by
 intro t
 induction t with
 | int k => intro x H; exact ⟨Later.refl _ _, VL.cons (.sg rfl) VL.nil⟩
 | bool => intro x H; exact ⟨Later.refl _ _, VL.cons (.sg rfl) VL.nil⟩
 | str => intro x H; exact ⟨Later.refl _ _, VL.cons (.sg rfl) VL.nil⟩
 | unit => intro x H; exact ⟨Later.refl _ _, VL.nil⟩
 | pair a b iha ihb =>
  rintro ⟨x, y⟩ H
  obtain ⟨h1, h2⟩ := iha x H
  obtain ⟨h3, h4⟩ := ihb y (a.place x H).2
  exact ⟨h1.trans h3, (h2.later h3).append h4⟩
 | slc bytes e ih =>
  intro x H
  match x with
  | none => exact ⟨Later.refl _ _, VL.cons (.sg rfl) VL.nil⟩
  | some [] => exact ⟨Later.refl _ _, VL.cons (.slE (e := e.sz)) VL.nil⟩
  | some (x :: l) =>
   have key : ∀ (l : List e.Val) (H : zk), Later M0 H M0 (ql e.place l H).2 ∧ L0 M0 (ql e.place l H).2 (l.flatMap e.VW) (ql e.place l H).1 := by
    intro l
    induction l with
    | nil => intro H; exact ⟨Later.refl _ _, VL.nil⟩
    | cons x l ihl =>
     intro H
     obtain ⟨h1, h2⟩ := ih x H
     obtain ⟨h3, h4⟩ := ihl (e.place x H).2
     exact ⟨h1.trans h3, (h2.later h3).append h4⟩
   obtain ⟨h1, h2⟩ := key (x :: l) H
   have hL : Later M0 (ql e.place (x :: l) H).2 M0 ((ql e.place (x :: l) H).2.push (.cells (ql e.place (x :: l) H).1 .ro e.sz)) := Xb (fun q r h => by cases h) _
   refine ⟨h1.trans hL, VL.cons ?_ VL.nil⟩
   have hlen : (ql e.place (x :: l) H).1.length = (l.length + 1) * e.sz := by rw [← h2.1, YO]; rfl
   show V0 M0 ((ql e.place (x :: l) H).2.push (.cells (ql e.place (x :: l) H).1 .ro e.sz)) (SL 1 e.sz (l.length + 1) ((x :: l).flatMap e.VW)) (.slice (some ⟨(ql e.place (x :: l) H).2.next, 0, none⟩) (l.length + 1) (l.length + 1))
   refine VV.sl (o := 0) (l := (ql e.place (x :: l) H).1) (own := .ro) (by simp) ⟨fun q h => (by cases h), rfl⟩ (by rw [zk.yD, if_pos rfl]) (by omega) (by rw [List.toList_toArray, YO]; rfl) (fun i hi => ?_)
   rw [Nat.zero_add, List.toList_toArray]
   exact (h2.2 i).ZT hL
def Args.VW : (l : List (Bool × Ty)) → Args l → List Value
 | [], _ => []
 | (b, c) :: l, (x, xs) => J4 b (c.VW x) :: Args.VW l xs
theorem agk {H : zk} {b : Bool} {cs cs' : List Value} (h : L0 M0 H cs cs') : V0 M0 H (J4 b cs) (J4 b cs') := by
 unfold J4
 split
 ·
  exact Y0 h
 ·
  rw [JU, JU]; exact h.2 0
theorem Args.XK : ∀ (l : List (Bool × Ty)) (x : Args l) (H : zk), Later M0 H M0 (Args.place l x H).2 ∧ L0 M0 (Args.place l x H).2 (Args.VW l x) (Args.place l x H).1 := by
 intro l
 induction l with
 | nil => intro x H; exact ⟨Later.refl _ _, VL.nil⟩
 | cons p l ih =>
  obtain ⟨b, c⟩ := p
  rintro ⟨x, xs⟩ H
  obtain ⟨h1, h2⟩ := c.XK x H
  obtain ⟨h3, h4⟩ := ih xs (c.place x H).2
  exact ⟨h1.trans h3, VL.cons ((agk h2).ZT h3) h4⟩
theorem aaU (hO : adD P O) {f : FuncId} {codes : List (Bool × Ty)} {x : Args codes} {S' : zk} (h : jc P O f (Args.VW codes x) zk.empty = some (.bool true, S')) :
  ∃ k, (ZU P k f (Args.place codes x zk.empty).1 (Args.place codes x zk.empty).2).map (·.1) = some (.bool true) := by
 obtain ⟨h1, h2⟩ := Args.XK codes x zk.empty
 obtain ⟨a, H', μ', ω', k1, k2, k3, k4, k5, k6⟩ := ah5 hO f _ _ _ _ _ h M0 _ W0 GI.none h2 (fun r s hs => by cases hs) (fun r s hs => by cases hs)
 have : a = .bool true := wK (k6.v0) rfl
 subst this
 exact acY k1
theorem af8 {hps pus : FuncId → Bool} : adD P ⟨fun _ => none, hps, pus⟩ := fun f q h => by cases h
end
end Go.Abs
namespace Go.Abs
open Go.RowKit
section
variable {R : Type} {P : Program} {O : Ora} {fx : Fx} {hp nm : Bool} {chk : List Nat} {call : FuncId → List Value → M Value} {ops : Array Oper}
def okC (v : Value) (r : Option R) : Option R := if okq 3 v = true then r else none
@[simp] theorem abB (b : Bool) (r : Option R) : okC (.bool b) r = r := Eq.trans rfl rfl
@[simp] theorem adO (k : IntKind) (n : Int) (r : Option R) : okC (.int k n) r = r := Eq.trans rfl rfl
@[simp] theorem KY (s : ByteArray) (r : Option R) : okC (.string s) r = r := Eq.trans rfl rfl
@[simp] theorem Vk (a : Option Addr) (n c : Nat) (r : Option R) : okC (.slice a n c) r = r := Eq.trans rfl rfl
@[simp] theorem VA (k : Nat) (v : Value) (r : Option R) : okC (.iface k v) r = r := Eq.trans rfl rfl
@[simp] theorem ahX (a : Option Addr) (r : Option R) : okC (.pointer a) r = r := Eq.trans rfl rfl
def gdC (v : Value) (b : Bool) (s : M Value) (S : zk) (K : Value → zk → Option R) : Option R :=
 if (vb v == some b) = true then andThen (s S) (fun v S1 => okC v (K v S1)) else K undef S
@[simp] theorem ahy (s : M Value) (H : zk) (K : Value → zk → Option R) : gdC (.bool true) true s H K = andThen (s H) (fun v S1 => okC v (K v S1)) := Eq.trans rfl rfl
@[simp] theorem ahq (s : M Value) (H : zk) (K : Value → zk → Option R) : gdC (.bool false) false s H K = andThen (s H) (fun v S1 => okC v (K v S1)) := Eq.trans rfl rfl
@[simp] theorem agS (s : M Value) (H : zk) (K : Value → zk → Option R) : gdC (.bool true) false s H K = K undef H := Eq.trans rfl rfl
@[simp] theorem agZ (s : M Value) (H : zk) (K : Value → zk → Option R) : gdC (.bool false) true s H K = K undef H := Eq.trans rfl rfl
@[simp] theorem ahk (s : M Value) (b : Bool) (H : zk) (K : Value → zk → Option R) : gdC undef b s H K = K undef H := Eq.trans rfl rfl
abbrev WA {α : Type} (a : α) : Type := Unit
def zI (s : Option (Value × zk)) (K : Value → zk → Option R) (p : WA K) : Option R := andThen s K
def gdK (v : Value) (b : Bool) (s : M Value) (S : zk) (K : Value → zk → Option R) (p : WA K) : Option R := gd v b s S K
def afF (v : Value) (b : Bool) (s : M Value) (S : zk) (K : Value → zk → Option R) (p : WA K) : Option R := gdC v b s S K
def okK (v : Value) (r : Option R) (p : WA r) : Option R := okC v r
@[simp] theorem Qm (v : Value) (H : zk) (K : Value → zk → Option R) (p : WA K) : zI (some (v, H)) K p = K v H := Eq.trans rfl rfl
@[simp] theorem agQ (s : M Value) (H : zk) (K : Value → zk → Option R) (p : WA K) : gdK (.bool true) true s H K p = zI (s H) K p := Eq.trans rfl rfl
@[simp] theorem ahi (s : M Value) (H : zk) (K : Value → zk → Option R) (p : WA K) : gdK (.bool false) false s H K p = zI (s H) K p := Eq.trans rfl rfl
@[simp] theorem agP (s : M Value) (H : zk) (K : Value → zk → Option R) (p : WA K) : gdK (.bool true) false s H K p = K undef H := Eq.trans rfl rfl
@[simp] theorem ag2 (s : M Value) (H : zk) (K : Value → zk → Option R) (p : WA K) : gdK (.bool false) true s H K p = K undef H := Eq.trans rfl rfl
@[simp] theorem ahb (s : M Value) (b : Bool) (H : zk) (K : Value → zk → Option R) (p : WA K) : gdK undef b s H K p = K undef H := Eq.trans rfl rfl
@[simp] theorem aaM (s : M Value) (H : zk) (K : Value → zk → Option R) (p : WA K) : afF (.bool true) true s H K p = zI (s H) (fun v S1 => okK v (K v S1) ()) () := Eq.trans rfl rfl
@[simp] theorem aaP (s : M Value) (H : zk) (K : Value → zk → Option R) (p : WA K) : afF (.bool false) false s H K p = zI (s H) (fun v S1 => okK v (K v S1) ()) () := Eq.trans rfl rfl
@[simp] theorem aek (s : M Value) (H : zk) (K : Value → zk → Option R) (p : WA K) : afF (.bool true) false s H K p = K undef H := Eq.trans rfl rfl
@[simp] theorem aeT (s : M Value) (H : zk) (K : Value → zk → Option R) (p : WA K) : afF (.bool false) true s H K p = K undef H := Eq.trans rfl rfl
@[simp] theorem ady (s : M Value) (b : Bool) (H : zk) (K : Value → zk → Option R) (p : WA K) : afF undef b s H K p = K undef H := Eq.trans rfl rfl
@[simp] theorem abv (b : Bool) (r : Option R) (p : WA r) : okK (.bool b) r p = r := Eq.trans rfl rfl
@[simp] theorem ZY (k : IntKind) (n : Int) (r : Option R) (p : WA r) : okK (.int k n) r p = r := Eq.trans rfl rfl
@[simp] theorem KF (s : ByteArray) (r : Option R) (p : WA r) : okK (.string s) r p = r := Eq.trans rfl rfl
@[simp] theorem aac (a : Option Addr) (n c : Nat) (r : Option R) (p : WA r) : okK (.slice a n c) r p = r := Eq.trans rfl rfl
@[simp] theorem Qi (a : Option Addr) (r : Option R) (p : WA r) : okK (.pointer a) r p = r := Eq.trans rfl rfl
theorem qZ {v : Value} (h : okq 3 v = true) (r : Option R) (p : WA r) : okK v r p = r := if_pos h
theorem adA {l rest : List Oper} {o : Oper} {T : List Value} {T1 : Value → List Value} {S : zk} {v : Value} {r : Option (List Value × zk)} (hl : l = o :: rest) (hg : o.guard = none) (hm : ∀ v, ZQ o rest T v = T1 v)
  (hs : qy P fx call T o S = some (v, S)) (hK : jC P fx call ops rest (T1 v) S = r) : jC P fx call ops l T S = r := by
 subst hl
 simp only [jC, Region.wanted, hg, if_true, hs, hm]
 exact hK
theorem ahK {l rest : List Oper} {o : Oper} {T : List Value} {T1 : Value → List Value} {S : zk} {s : Option (Value × zk)} {K : Value → zk → Option (List Value × zk)} (hl : l = o :: rest) (hg : o.guard = none) (hm : ∀ v, ZQ o rest T v = T1 v)
  (hs : qy P fx call T o S = s) (hK : ∀ v S1, jC P fx call ops rest (T1 v) S1 = K v S1) : jC P fx call ops l T S = zI s K () := by
 show _ = andThen s K
 subst hl hs
 simp only [jC, Region.wanted, hg, if_true, hm, hK]
 rfl
theorem aix {l rest : List Oper} {o : Oper} {T : List Value} {T1 : Value → List Value} {S : zk} {j : Nat} {b : Bool} {g : Value} {s : M Value} {K : Value → zk → Option (List Value × zk)} (hl : l = o :: rest) (hg : o.guard = some (j, b)) (hm : ∀ v, ZQ o rest T v = T1 v)
  (hy : ynd ops T j = vb g) (hs : qy P fx call T o S = s S) (hK : ∀ v S1, jC P fx call ops rest (T1 v) S1 = K v S1) : jC P fx call ops l T S = gdK g b s S K () := by
 show _ = gd g b s S K
 subst hl
 simp only [jC, Region.wanted, hg, hy, hs, hm, hK, gd]
 rfl
theorem afB {l rest : List Oper} {o : Oper} {T : List Value} {T1 : Value → List Value} {S : zk} {k : Nat} {s : Option (Value × zk)} {K : Value → zk → Option (List Value × zk)} (hc : chk.contains k = false) (hl : l = o :: rest) (hg : o.guard = none) (hm : ∀ v, ZQ o rest T v = T1 v)
  (hs : qy P fx call T o S = s) (hK : ∀ v S1, yQ P fx chk [] call ops (k + 1) [] rest (T1 v) S1 = K v S1) : yQ P fx chk [] call ops k [] l T S = zI s K () := by
 show _ = andThen s K
 subst hl hs
 simp only [yQ, vX, List.isEmpty_nil, if_true, Region.wanted, hg, if_true, hm, hK, hc, Bool.not_false, Bool.true_or]
 rfl
theorem ab8 {l rest : List Oper} {o : Oper} {T : List Value} {T1 : Value → List Value} {S : zk} {k : Nat} {v : Value} {r : Option (List Value × zk)} (hc : chk.contains k = false) (hl : l = o :: rest) (hg : o.guard = none) (hm : ∀ v, ZQ o rest T v = T1 v)
  (hs : qy P fx call T o S = some (v, S)) (hK : yQ P fx chk [] call ops (k + 1) [] rest (T1 v) S = r) : yQ P fx chk [] call ops k [] l T S = r := by
 subst hl
 simp only [yQ, vX, List.isEmpty_nil, if_true, Region.wanted, hg, if_true, hs, hm, hc, Bool.not_false, Bool.true_or]
 exact hK
theorem aa5 {l rest : List Oper} {o : Oper} {T : List Value} {T1 : Value → List Value} {S : zk} {k : Nat} {v : Value} {r : Option (List Value × zk)} (hc : chk.contains k = true) (hl : l = o :: rest) (hg : o.guard = none) (hm : ∀ v, ZQ o rest T v = T1 v)
  (hs : qy P fx call T o S = some (v, S)) (hK : yQ P fx chk [] call ops (k + 1) [] rest (T1 v) S = r) : yQ P fx chk [] call ops k [] l T S = okK v r () := by
 show _ = okC v r
 subst hl
 simp only [yQ, vX, List.isEmpty_nil, if_true, Region.wanted, hg, if_true, hs, hm, hc, Bool.not_true, Bool.false_or]
 rw [← hK]
 rfl
theorem afC {l rest : List Oper} {o : Oper} {T : List Value} {T1 : Value → List Value} {S : zk} {j k : Nat} {b : Bool} {g : Value} {s : M Value} {K : Value → zk → Option (List Value × zk)} (hc : chk.contains k = false) (hl : l = o :: rest) (hg : o.guard = some (j, b)) (hm : ∀ v, ZQ o rest T v = T1 v)
  (hy : ynd ops T j = vb g) (hs : qy P fx call T o S = s S) (hK : ∀ v S1, yQ P fx chk [] call ops (k + 1) [] rest (T1 v) S1 = K v S1) : yQ P fx chk [] call ops k [] l T S = gdK g b s S K () := by
 show _ = gd g b s S K
 subst hl
 simp only [yQ, vX, List.isEmpty_nil, if_true, Region.wanted, hg, hy, hs, hm, hK, gd, hc, Bool.not_false, Bool.true_or, if_true]
 rfl
theorem afX {l rest : List Oper} {o : Oper} {T : List Value} {T1 : Value → List Value} {S : zk} {k : Nat} {s : Option (Value × zk)} {K : Value → zk → Option (List Value × zk)} (hc : chk.contains k = false) {x : Nat × Nat} {nl : List (Nat × Nat)} {hist : List (Value × zk)} {pe : Value} (hpe : Zy T o = pe) (hl : l = o :: rest) (hg : o.guard = none) (hm : ∀ v, ZQ o rest T v = T1 v)
  (hs : qy P fx call T o S = s) (hK : ∀ v S1, yQ P fx chk (x :: nl) call ops (k + 1) (hist ++ [(pe, S)]) rest (T1 v) S1 = K v S1) : yQ P fx chk (x :: nl) call ops k hist l T S = zI s K () := by
 show _ = andThen s K
 subst hl hs
 simp only [yQ, vX, List.isEmpty_cons, Bool.false_eq_true, if_false, hpe, Region.wanted, hg, if_true, hm, hK, hc, Bool.not_false, Bool.true_or]
 rfl
theorem aeF {l rest : List Oper} {o : Oper} {T : List Value} {T1 : Value → List Value} {S : zk} {k : Nat} {s : Option (Value × zk)} {K : Value → zk → Option (List Value × zk)} (hc : chk.contains k = true) {x : Nat × Nat} {nl : List (Nat × Nat)} {hist : List (Value × zk)} {pe : Value} (hpe : Zy T o = pe) (hl : l = o :: rest) (hg : o.guard = none) (hm : ∀ v, ZQ o rest T v = T1 v)
  (hs : qy P fx call T o S = s) (hK : ∀ v S1, yQ P fx chk (x :: nl) call ops (k + 1) (hist ++ [(pe, S)]) rest (T1 v) S1 = K v S1) : yQ P fx chk (x :: nl) call ops k hist l T S = zI s (fun v S1 => okK v (K v S1) ()) () := by
 show _ = andThen s (fun v S1 => okC v (K v S1))
 subst hl hs
 simp only [yQ, vX, List.isEmpty_cons, Bool.false_eq_true, if_false, hpe, Region.wanted, hg, if_true, hm, hK, hc, Bool.not_true, Bool.false_or]
 rfl
theorem ac9 {l rest : List Oper} {o : Oper} {T : List Value} {T1 : Value → List Value} {S : zk} {k : Nat} {v : Value} {r : Option (List Value × zk)} (hc : chk.contains k = false) {x : Nat × Nat} {nl : List (Nat × Nat)} {hist : List (Value × zk)} {pe : Value} (hpe : Zy T o = pe) (hl : l = o :: rest) (hg : o.guard = none) (hm : ∀ v, ZQ o rest T v = T1 v)
  (hs : qy P fx call T o S = some (v, S)) (hK : yQ P fx chk (x :: nl) call ops (k + 1) (hist ++ [(pe, S)]) rest (T1 v) S = r) : yQ P fx chk (x :: nl) call ops k hist l T S = r := by
 subst hl
 simp only [yQ, vX, List.isEmpty_cons, Bool.false_eq_true, if_false, hpe, Region.wanted, hg, if_true, hs, hm, hc, Bool.not_false, Bool.true_or]
 exact hK
theorem aaZ {l rest : List Oper} {o : Oper} {T : List Value} {T1 : Value → List Value} {S : zk} {k : Nat} {v : Value} {r : Option (List Value × zk)} (hc : chk.contains k = true) {x : Nat × Nat} {nl : List (Nat × Nat)} {hist : List (Value × zk)} {pe : Value} (hpe : Zy T o = pe) (hl : l = o :: rest) (hg : o.guard = none) (hm : ∀ v, ZQ o rest T v = T1 v)
  (hs : qy P fx call T o S = some (v, S)) (hK : yQ P fx chk (x :: nl) call ops (k + 1) (hist ++ [(pe, S)]) rest (T1 v) S = r) : yQ P fx chk (x :: nl) call ops k hist l T S = okK v r () := by
 show _ = okC v r
 subst hl
 simp only [yQ, vX, List.isEmpty_cons, Bool.false_eq_true, if_false, hpe, Region.wanted, hg, if_true, hs, hm, hc, Bool.not_true, Bool.false_or]
 rw [← hK]
 rfl
theorem afY {l rest : List Oper} {o : Oper} {T : List Value} {T1 : Value → List Value} {S : zk} {j k : Nat} {b : Bool} {g : Value} {s : M Value} {K : Value → zk → Option (List Value × zk)} (hc : chk.contains k = false) {x : Nat × Nat} {nl : List (Nat × Nat)} {hist : List (Value × zk)} {pe : Value} (hpe : Zy T o = pe) (hl : l = o :: rest) (hg : o.guard = some (j, b)) (hm : ∀ v, ZQ o rest T v = T1 v)
  (hy : ynd ops T j = vb g) (hs : qy P fx call T o S = s S) (hK : ∀ v S1, yQ P fx chk (x :: nl) call ops (k + 1) (hist ++ [(pe, S)]) rest (T1 v) S1 = K v S1) : yQ P fx chk (x :: nl) call ops k hist l T S = gdK g b s S K () := by
 show _ = gd g b s S K
 subst hl
 simp only [yQ, vX, List.isEmpty_cons, Bool.false_eq_true, if_false, hpe, Region.wanted, hg, hy, hs, hm, hK, gd, hc, Bool.not_false, Bool.true_or, if_true]
 rfl
theorem adB {l rest : List Oper} {o : Oper} {T : List Value} {T1 : Value → List Value} {S : zk} {j k : Nat} {b : Bool} {g : Value} {s : M Value} {K : Value → zk → Option (List Value × zk)} (hc : chk.contains k = true) {x : Nat × Nat} {nl : List (Nat × Nat)} {hist : List (Value × zk)} {pe : Value} (hpe : Zy T o = pe) (hl : l = o :: rest) (hg : o.guard = some (j, b)) (hm : ∀ v, ZQ o rest T v = T1 v)
  (hy : ynd ops T j = vb g) (hs : qy P fx call T o S = s S) (hK : ∀ v S1, yQ P fx chk (x :: nl) call ops (k + 1) (hist ++ [(pe, S)]) rest (T1 v) S1 = K v S1) : yQ P fx chk (x :: nl) call ops k hist l T S = afF g b s S K () := by
 show _ = gdC g b s S K
 subst hl
 simp only [yQ, vX, List.isEmpty_cons, Bool.false_eq_true, if_false, hpe, Region.wanted, hg, hy, hs, hm, hK, gdC, hc, Bool.not_true, Bool.false_or]
 rfl
def ckK (c : Bool) (r : Option R) (p : WA r) : Option R := if c then r else none
@[simp] theorem abM (r : Option R) (p : WA r) : ckK true r p = r := Eq.trans rfl rfl
noncomputable def aia (P : Program) (O : Ora) (hp : Bool) (v : Value) (x y : Code) (T : List Value) (S : zk) : St := agb v (zF P O hp x T S) (zF P O hp y T S)
@[simp] theorem KE (x y : Code) (T : List Value) (S : zk) : aia P O hp (.bool true) x y T S = zF P O hp x T S := Eq.trans rfl rfl
@[simp] theorem Qg (x y : Code) (T : List Value) (S : zk) : aia P O hp (.bool false) x y T S = zF P O hp y T S := Eq.trans rfl rfl
@[simp] theorem Y6 (T : List Value) (H : zk) : zF P O hp .skip T H = some (.normal, T, H) := Eq.trans rfl rfl
@[simp] theorem KD (T : List Value) (H : zk) : zF P O hp .ret T H = some (.ret, T, H) := Eq.trans rfl rfl
@[simp] theorem Qr (i : Nat) (T : List Value) (H : zk) : zF P O hp (.exit i) T H = some (.exit i, T, H) := Eq.trans rfl rfl
@[simp] theorem Yb (i : Nat) (ops : Array Oper) (T : List Value) (H : zk) : zF P O false (.region i ops false) T H = Jm (jC P ⟨false, false, false⟩ (jc P O) ops ops.toList T H) := Eq.trans rfl rfl
@[simp] theorem Wp (i : Nat) (ops : Array Oper) (T : List Value) (H : zk) : zF P O true (.region i ops false) T H = Jm (jC P ⟨true, false, false⟩ (ZN O.hp true (jc P O)) ops ops.toList T H) := Eq.trans rfl rfl
theorem yO {i : Nat} {ops : Array Oper} (hd : qW P ops = true) (hf : fixed P ops = nm) (hc : checked P ops = chk) {nl : List (Nat × Nat)} (hn : again P ops = nl) (T : List Value) (H : zk) : zF P O false (.region i ops true) T H = Jm (yQ P ⟨false, !chk.isEmpty, nm⟩ chk nl (jc P O) ops 0 [] ops.toList T H) := by
 subst hf hc hn
 simp only [zF, hd, if_true, ZN]
 rfl
@[simp] theorem Xa (x y : Code) (T : List Value) (H : zk) : zF P O hp (.seq x y) T H = aiQ (zF P O hp x T H) (zF P O hp y) := Eq.trans rfl rfl
@[simp] theorem YQ (i : Nat) (c : Code) (T : List Value) (H : zk) : zF P O hp (.block i c) T H = aak i (zF P O hp c T H) := Eq.trans rfl rfl
@[simp] theorem QM (c : Code) (T : List Value) (H : zk) : zF P O hp (.loop c) T H = qm (zF P O hp c) T H := Eq.trans rfl rfl
@[simp] theorem Y4 (t : Tmp) (x y : Code) (T : List Value) (H : zk) : zF P O hp (.cond (.tmp t) x y) T H = aia P O hp (T.getD t undef) x y T H := by
 simp only [zF, xG, if_true, jY]
 rfl
@[simp] theorem QJ : dem undef = undef := Jp
@[simp] theorem adY (k : IntKind) (n : Int) : dem (.int k n) = .int k n := Eq.trans rfl rfl
@[simp] theorem abC (b : Bool) : dem (.bool b) = .bool b := Eq.trans rfl rfl
@[simp] theorem KU (s : ByteArray) : dem (.string s) = .string s := Eq.trans rfl rfl
@[simp] theorem adE : dem (.slice none 0 0) = .slice none 0 0 := Eq.trans rfl rfl
@[simp] theorem aeB (x : Array Value) : dem (.agg x) = .agg x := Eq.trans rfl rfl
@[simp] theorem ab5 (f : Fn) (x c : Array Value) : dem (.func f x c) = .func f x c := Eq.trans rfl rfl
@[simp] theorem Qu (a : Option Addr) : dem (.pointer a) = .pointer a := Eq.trans rfl rfl
@[simp] theorem ajz (e n : Nat) (cs : List Value) : dem (SL 1 e n cs) = SL 1 e n cs := Eq.trans rfl rfl
@[simp] theorem ajt (e n : Nat) (cs : List Value) : dem (SL 2 e n cs) = SL 1 e n cs := Eq.trans rfl rfl
@[simp] theorem ahn (k e n : Nat) (cs : List Value) (r : Option R) (p : WA r) : okK (SL k e n cs) r p = r := Eq.trans rfl rfl
@[simp] theorem ahv (cs : List Value) (r : Option R) (p : WA r) : okK (EP cs) r p = r := Eq.trans rfl rfl
@[simp] theorem ajL (k e n : Nat) (cs : List Value) (r : Option R) : okC (SL k e n cs) r = r := Eq.trans rfl rfl
@[simp] theorem ahx (cs : List Value) (r : Option R) : okC (EP cs) r = r := Eq.trans rfl rfl
def sv (k e n : Nat) (cs : List Value) : Value := if k = 0 then .slice none 0 0 else SL k e n cs
structure Okv (k n : Nat) (cs : List Value) : Prop where
 le : k ≤ 2
 nil : k = 0 → n = 0 ∧ cs = []
theorem sv0 {e n : Nat} {cs : List Value} : sv 0 e n cs = .slice none 0 0 := rfl
theorem sv1 {e n : Nat} {cs : List Value} : sv 1 e n cs = SL 1 e n cs := rfl
theorem sv2 {e n : Nat} {cs : List Value} : sv 2 e n cs = SL 2 e n cs := rfl
@[simp] theorem abk (k e n : Nat) (cs : List Value) : dem (sv k e n cs) = sv (if k = 2 then 1 else k) e n cs := by
 unfold sv
 by_cases h0 : k = 0
 ·
  subst h0; rfl
 ·
  by_cases h2 : k = 2
  ·
   subst h2; rfl
  ·
   rw [if_neg h0, if_neg h2, if_neg h0]
   simp only [SL, dem, xH, if_neg h2]
@[simp] theorem aaj (k e n : Nat) (cs : List Value) (r : Option R) : okC (sv k e n cs) r = r := by
 unfold sv; split <;> rfl
@[simp] theorem agR (k e n : Nat) (cs : List Value) (r : Option R) (p : WA r) : okK (sv k e n cs) r p = r := aaj k e n cs r
theorem ad5 {k e n : Nat} {cs : List Value} (h : Okv k n cs) : ∃ e', vSl (sv k e n cs) = some (e', n, cs) ∧ (e' = e ∨ n = 0 ∧ cs = []) := by
 unfold sv
 by_cases h0 : k = 0
 ·
  obtain ⟨rfl, rfl⟩ := h.nil h0
  rw [if_pos h0]
  exact ⟨0, rfl, .inr ⟨rfl, rfl⟩⟩
 ·
  rw [if_neg h0]
  have : k = 1 ∨ k = 2 := by have := h.le; omega
  exact ⟨e, by simp [SL, vSl, this], .inl rfl⟩
theorem aiy {t te : TypeId} {k e n : Nat} {cs : List Value} {S : zk} (ht : P.underlying t = some (.slice te)) (h : Okv k n cs) : Zz P t (sv k e n cs) S = some (goInt n, S) := by
 by_cases h0 : k = 0
 ·
  obtain ⟨rfl, rfl⟩ := h.nil h0
  subst h0
  simp only [sv0, Zz, aao, ht]
 ·
  obtain ⟨e', h1, _⟩ := ad5 (e := e) h
  simp only [sv, if_neg h0] at h1 ⊢
  simp only [SL] at h1 ⊢
  simp only [Zz, ht, h1]
theorem Yh {t te : TypeId} {k e n : Nat} {cs : List Value} {S : zk} {ki : IntKind} {i : Int} (ht : P.underlying t = some (.slice te)) (he : Zx P te = some e) (h : Okv k n cs) (h0 : 0 ≤ i) (hi : i < n) :
  jo P t (sv k e n cs) (.int ki i) S = some (EP ((cs.drop (i.toNat * e)).take e), S) := by
 have hk : k ≠ 0 := fun e => by have := (h.nil e).1; omega
 have hk2 : k = 1 ∨ k = 2 := by have := h.le; omega
 have h1 : vSl (SL k e n cs) = some (e, n, cs) := by simp [SL, vSl, hk2]
 simp only [sv, if_neg hk]
 simp only [SL] at h1 ⊢
 simp only [jo, ht, h1, he, if_true]
 rw [if_pos ⟨h0, hi⟩]
@[simp] theorem Qv {t : TypeId} {v : Value} {S : zk} (ht : xQ P t = some false) : jf P nm t (EP [v]) S = some (v, S) := by
 simp [EP, jf, ht]
theorem ae3 {t : TypeId} {n : Nat} {cs : List Value} {S : zk} (ht : xQ P t = some true) (hn : Zx P t = some n) (hc : cs.length = n) : jf P nm t (EP cs) S = some (.agg cs.toArray, S) := by
 simp only [EP, jf, ht, hn, if_true, List.toList_toArray]
 rw [if_pos (by omega), ← hc, List.take_length]
theorem ad7 {t te : TypeId} {k e n : Nat} {cs : List Value} {S : zk} {lo hi : Option Value} {i j : Int} (ht : P.underlying t = some (.slice te)) (he : Zx P te = some e) (h : Okv k n cs) (hlo : vM 0 lo = some i) (hhi : vM n hi = some j)
  (h0 : 0 ≤ i) (hij : i ≤ j) (hj : j ≤ n) : Zo P t (sv k e n cs) lo hi S = some (sv (if k = 2 then 1 else k) e (j.toNat - i.toNat) ((cs.drop (i.toNat * e)).take ((j.toNat - i.toNat) * e)), S) := by
 by_cases hk : k = 0
 ·
  obtain ⟨rfl, rfl⟩ := h.nil hk
  subst hk
  simp only [sv0, Zo, ht, vSl, he, hlo, hhi, if_pos h0, if_pos hij, if_pos hj]
  rfl
 ·
  have hk2 : k = 1 ∨ k = 2 := by have := h.le; omega
  have h1 : vSl (SL k e n cs) = some (e, n, cs) := by simp [SL, vSl, hk2]
  have h3 : (if k = 2 then 1 else k) = 1 := by rcases hk2 with rfl | rfl <;> rfl
  rw [h3]
  simp only [sv, if_neg hk]
  simp only [SL] at h1 ⊢
  simp only [Zo, ht, h1, he, hlo, hhi, if_pos h0, if_pos hij, if_pos hj, if_true]
  rfl
theorem agt {t te : TypeId} {k e n : Nat} {cs : List Value} {S : zk} (ht : P.underlying t = some (.slice te)) (h : Okv k n cs) : wu P .eql t (sv k e n cs) (.slice none 0 0) S = some (.bool (decide (k = 0)), S) := by
 by_cases hk : k = 0
 ·
  subst hk
  simp only [sv0, wu, Je, xB, ht, Jl]
  rfl
 ·
  have hk2 : k = 1 ∨ k = 2 := by have := h.le; omega
  have h1 : vSl (SL k e n cs) = some (e, n, cs) := by simp [SL, vSl, hk2]
  simp only [sv, if_neg hk]
  simp only [SL] at h1 ⊢
  simp only [wu, ht, h1]
  simp [hk]
@[simp] theorem Ve (k e n : Nat) (cs : List Value) : Vp (sv k e n cs) = false := by unfold sv; split <;> rfl
@[simp] theorem YA (dr : Bool) (t : TypeId) (k e n : Nat) (cs : List Value) (lo hi : Option Value) (S : zk) : Zc P dr t (sv k e n cs) lo hi S = Zo P t (sv k e n cs) lo hi S := by
 unfold Zc; rw [Ve]; rfl
@[simp] theorem Wn (dr : Bool) (t : TypeId) (s : ByteArray) (lo hi : Option Value) (S : zk) : Zc P dr t (.string s) lo hi S = Zo P t (.string s) lo hi S := Eq.trans rfl rfl
@[simp] theorem Qb (hp dr : Bool) (src dst : TypeId) (k e n : Nat) (cs : List Value) (S : zk) : qI P hp dr src dst (sv k e n cs) S = Ji P src dst (sv k e n cs) S := by
 unfold qI
 rw [Ve]
 have : ∀ s, sv k e n cs ≠ .string s := by intro s; unfold sv; split <;> (intro h; cases h)
 cases hp <;> simp only [Bool.false_eq_true, if_false] <;> (split <;> first | rfl | (rename_i h; exact absurd h (this _)) | skip)
@[simp] theorem KR (hp dr : Bool) (src dst : TypeId) (k : IntKind) (n : Int) (S : zk) : qI P hp dr src dst (.int k n) S = Ji P src dst (.int k n) S := by cases hp <;> rfl
@[simp] theorem WL (dr : Bool) (src dst : TypeId) (s : ByteArray) (S : zk) : qI P false dr src dst (.string s) S = Ji P src dst (.string s) S := Eq.trans rfl rfl
@[simp] theorem Wh (dr : Bool) (src dst : TypeId) (s : ByteArray) (S : zk) : qI P true dr src dst (.string s) S = qJ P src dst (.string s) S := Eq.trans rfl rfl
theorem acK {t te tx tex : TypeId} {k e n j m bytes : Nat} {cs ds : List Value} {z : Value} {S : zk} (ht : P.underlying t = some (.slice te)) (he : Zx P te = some e) (hz : zeroOf P te = some z) (hzs : z.cells.size = e) (hb : bytesOf P te = some bytes) (hp : 0 < e)
  (htx : P.underlying tx = some (.slice tex)) (h : Okv k n cs) (hk : k ≠ 1) (hx : Okv j m ds) (hn : cs.length = n * e) (hm : ds.length = m * e) (h1 : cs.all (·.oneCell') = true) (h2 : ds.all (·.oneCell') = true) (hl : (n + m) * bytes ≤ 140737488355328) (hmax : n + m ≤ 4611686018427387903) :
  wY P t tx (sv k e n cs) (sv j e m ds) S = some (sv (if k = 0 ∧ m = 0 then 0 else 2) e (n + m) (cs ++ ds), S) := by
 have hel : Ze P t = some te := by simp only [Ze, ht]
 have hsrc : aiU P tx e (sv j e m ds) = some (m, ds) := by
  obtain ⟨e', q1, q2⟩ := ad5 (e := e) hx
  have hns : ∀ s, sv j e m ds ≠ .string s := by intro s; unfold sv; split <;> (intro h; cases h)
  have hcond : m = 0 ∨ e' = e := q2.elim .inr fun h => .inl h.1
  unfold aiU
  split
  ·
   rename_i s hs; exact absurd hs (hns s)
  ·
   simp only [htx, q1, if_pos hcond, if_pos hm, h2, if_true]
 have hsrc : aen P tx e (sv j e m ds) S = some (m, ds) := by
  unfold aen
  rw [Ve]
  exact hsrc
 by_cases hk0 : k = 0
 ·
  obtain ⟨rfl, rfl⟩ := h.nil hk0
  subst hk0
  simp only [sv0, wY, JX, hel, he, hz, hb, if_pos hp, if_pos hzs, hsrc]
  by_cases hm0 : m = 0
  ·
   subst hm0
   simp [sv0]
  ·
   rw [Nat.zero_add] at hl hmax
   rw [if_neg hm0, if_pos hl, if_pos hmax, if_neg Bool.false_ne_true, if_neg (fun h => hm0 h.2), sv2, Nat.zero_add, List.nil_append]
 ·
  have hk2 : k = 2 := by have := h.le; omega
  subst hk2
  rw [if_neg (fun h => hk0 h.1)]
  have h1' : cs.toArray.toList.all (·.oneCell') = true := by simpa using h1
  simp only [sv2, SL, wY, JX, hel, he, hz, hb, if_pos hp, if_pos hzs, hsrc, if_true, if_pos hl, if_pos hmax, h1']
@[simp] theorem abP (op : BinOp) (t : TypeId) (k k' : IntKind) (a b : Int) (S : zk) : wu P op t (.int k a) (.int k' b) S = Je P op t (.int k a) (.int k' b) S := Eq.trans rfl rfl
@[simp] theorem Qz (op : BinOp) (t : TypeId) (a b : ByteArray) (S : zk) : wu P op t (.string a) (.string b) S = Je P op t (.string a) (.string b) S := Eq.trans rfl rfl
@[simp] theorem aan (op : BinOp) (t : TypeId) (a b : Bool) (S : zk) : wu P op t (.bool a) (.bool b) S = Je P op t (.bool a) (.bool b) S := Eq.trans rfl rfl
@[simp] theorem abD (op : BinOp) (t : TypeId) (a b : Array Value) (S : zk) : wu P op t (.agg a) (.agg b) S = Je P op t (.agg a) (.agg b) S := Eq.trans rfl rfl
@[simp] theorem KL (b : Bool) (x y : Value) (S : zk) : wJ (.bool b) x y S = some (if b then dem x else dem y, S) := Eq.trans rfl rfl
@[simp] theorem VJ {src dst : TypeId} (k : IntKind) (n : Int) (S : zk) : Ji P src dst (.int k n) S = qJ P src dst (.int k n) S := Eq.trans rfl rfl
@[simp] theorem J8 (vs : List Value) (i : Nat) (S : zk) : zU (.tuple vs.toArray) i S = (vs[i]?).map (·, S) := by
 simp only [zU, List.getElem?_toArray]
 cases vs[i]? <;> rfl
end
end Go.Abs
namespace Go.Abs
theorem yP {P : Program} {fn : Func} {a b : Value} {r : List Value} {T : List Value} {S : zk} (h : zO P T S fn.results.toList = some (a :: b :: r)) (hn : aij fn.results.toList = true) (hall : (a :: b :: r).all jW = true) :
  aei P fn T S = some (.tuple (a :: b :: r).toArray, S) := by
 unfold aei
 rw [h]
 dsimp only
 rw [if_pos hn, if_pos hall]
theorem yN {P : Program} {fn : Func} {a : Value} {T : List Value} {S : zk} (h : zO P T S fn.results.toList = some [a]) (hn : aij fn.results.toList = true) : aei P fn T S = some (a, S) := by
 unfold aei
 rw [h]
 dsimp only
 rw [if_pos hn]
@[simp] theorem jT (k : IntKind) (n : Int) : jW (.int k n) = true := rfl
@[simp] theorem jG (b : Bool) : jW (.bool b) = true := rfl
@[simp] theorem aa4 (k e n : Nat) (cs : List Value) : jW (sv k e n cs) = true := by unfold sv; split <;> rfl
@[simp] theorem jU (x : Array Value) : jW (.agg x) = true := rfl
@[simp] theorem jF (a : Option Addr) (n c : Nat) : jW (.slice a n c) = true := rfl
end Go.Abs
namespace Go.Abs
open Go.RowKit
def vs {α : Type} (f : α → List Value) (e k : Nat) (l : List α) : Value := sv k e l.length (l.flatMap f)
structure Okl {α : Type} (k : Nat) (l : List α) : Prop where
 le : k ≤ 2
 nil : k = 0 → l = []
theorem Okl.own {α : Type} {l : List α} : Okl 2 l := ⟨Nat.le_refl 2, (fun h => by cases h)⟩
theorem Okl.read {α : Type} {l : List α} : Okl 1 l := ⟨by omega, (fun h => by cases h)⟩
theorem Okl.none {α : Type} : Okl 0 ([] : List α) := ⟨by omega, fun _ => rfl⟩
theorem Okl.dem {α : Type} {k : Nat} {l : List α} (h : Okl k l) : Okl (if k = 2 then 1 else k) l := ⟨by have := h.le; split <;> omega, fun hk => h.nil (by split at hk <;> omega)⟩
def cb (b : UInt8) : List Value := [.int .u8 b.toNat]
def ci (n : Int) : List Value := [.int .i64 n]
section
variable {R α : Type} {P : Program} {f : α → List Value} {e k j : Nat} {l m : List α} {t te tx tex : TypeId} {S : zk}
theorem Okl.okv (h : Okl k l) : Okv k l.length (l.flatMap f) := ⟨h.le, fun h0 => by rw [h.nil h0]; exact ⟨rfl, rfl⟩⟩
theorem WB (hf : ∀ x, (f x).length = e) (l : List α) : (l.flatMap f).length = l.length * e := by
 induction l with
 | nil => simp
 | cons x l ih => simp only [List.flatMap_cons, List.length_append, hf, ih, List.length_cons, Nat.add_mul]; omega
theorem YG (hf : ∀ x, (f x).length = e) (l : List α) : ∀ (i : Nat), (l.flatMap f).drop (i * e) = (l.drop i).flatMap f := by
 induction l with
 | nil => intro i; simp
 | cons x l ih =>
  intro i
  cases i with
  | zero => simp
  | succ i =>
   rw [List.flatMap_cons, List.drop_succ_cons, ← ih i, List.drop_append, List.drop_eq_nil_of_le (by rw [hf, Nat.add_mul]; omega), List.nil_append, hf]
   congr 1
   rw [Nat.add_mul]; omega
theorem YI (hf : ∀ x, (f x).length = e) (l : List α) : ∀ (i : Nat), (l.flatMap f).take (i * e) = (l.take i).flatMap f := by
 induction l with
 | nil => intro i; simp
 | cons x l ih =>
  intro i
  cases i with
  | zero => simp
  | succ i =>
   rw [List.flatMap_cons, List.take_succ_cons, List.flatMap_cons, ← ih i, List.take_append, List.take_of_length_le (by rw [hf, Nat.add_mul]; omega), hf]
   congr 2
   rw [Nat.add_mul]; omega
@[simp] theorem aeI : dem (vs f e k l) = vs f e (if k = 2 then 1 else k) l := abk _ _ _ _
@[simp] theorem ahc (r : Option R) : okC (vs f e k l) r = r := aaj _ _ _ _ _
@[simp] theorem ag8 (r : Option R) (p : WA r) : okK (vs f e k l) r p = r := aaj _ _ _ _ _
@[simp] theorem aju : Vp (vs f e k l) = false := Ve _ _ _ _
@[simp] theorem Ky (dr : Bool) (lo hi : Option Value) : Zc P dr t (vs f e k l) lo hi S = Zo P t (vs f e k l) lo hi S := YA _ _ _ _ _ _ _ _ _
@[simp] theorem VG (hp dr : Bool) (src dst : TypeId) : qI P hp dr src dst (vs f e k l) S = Ji P src dst (vs f e k l) S := Qb _ _ _ _ _ _ _ _ _
@[simp] theorem jX : jW (vs f e k l) = true := aa4 _ _ _ _
theorem ad2 (ht : P.underlying t = some (.slice te)) (h : Okl k l) : Zz P t (vs f e k l) S = some (goInt l.length, S) := aiy ht h.okv
theorem afR (ht : P.underlying t = some (.slice te)) (h : Okl k l) : wu P .eql t (vs f e k l) (.slice none 0 0) S = some (.bool (decide (k = 0)), S) := agt ht h.okv
theorem aiq {ki : IntKind} {i : Int} (ht : P.underlying t = some (.slice te)) (he : Zx P te = some e) (hf : ∀ x, (f x).length = e) (h : Okl k l) (h0 : 0 ≤ i) (hi : i < l.length) :
  jo P t (vs f e k l) (.int ki i) S = some (EP (f (l[i.toNat]'(by omega))), S) := by
 unfold vs
 rw [Yh ht he h.okv h0 hi, YG hf]
 have hlt : i.toNat < l.length := by omega
 have := YI hf (l.drop i.toNat) 1
 rw [Nat.one_mul] at this
 rw [this, List.drop_eq_getElem_cons hlt, List.take_succ_cons, List.take_zero, List.flatMap_cons, List.flatMap_nil, List.append_nil]
theorem abl {lo hi : Option Value} {i j : Int} (ht : P.underlying t = some (.slice te)) (he : Zx P te = some e) (hf : ∀ x, (f x).length = e) (h : Okl k l) (hlo : vM 0 lo = some i) (hhi : vM l.length hi = some j) (h0 : 0 ≤ i) (hij : i ≤ j) (hj : j ≤ l.length) :
  Zo P t (vs f e k l) lo hi S = some (vs f e (if k = 2 then 1 else k) ((l.drop i.toNat).take (j.toNat - i.toNat)), S) := by
 unfold vs
 rw [ad7 ht he h.okv hlo hhi h0 hij hj, YG hf, YI hf]
 congr 3
 simp; omega
theorem QB {bytes : Nat} {z : Value} (ht : P.underlying t = some (.slice te)) (he : Zx P te = some e) (hz : zeroOf P te = some z) (hzs : z.cells.size = e) (hb : bytesOf P te = some bytes) (hp : 0 < e) (htx : P.underlying tx = some (.slice tex))
  (hf : ∀ x, (f x).length = e) (h1 : ∀ x, (f x).all (·.oneCell') = true) (h : Okl k l) (hk : k ≠ 1) (hm : Okl j m) (hl : (l.length + m.length) * bytes ≤ 140737488355328) (hmax : l.length + m.length ≤ 4611686018427387903) :
  wY P t tx (vs f e k l) (vs f e j m) S = some (vs f e (if k = 0 ∧ m.length = 0 then 0 else 2) (l ++ m), S) := by
 have hone : ∀ l : List α, (l.flatMap f).all (·.oneCell') = true := by
  intro l
  rw [List.all_flatMap, List.all_eq_true]
  exact fun x _ => h1 x
 unfold vs
 rw [acK ht he hz hzs hb hp htx h.okv hk hm.okv (WB hf l) (WB hf m) (hone l) (hone m) hl hmax, List.flatMap_append, List.length_append]
theorem abA (x : UInt8) : (cb x).length = 1 := rfl
theorem ajl (x : UInt8) : (cb x).all (·.oneCell') = true := rfl
theorem agW (x : Int) : (ci x).length = 1 := rfl
theorem aji (x : Int) : (ci x).all (·.oneCell') = true := rfl
theorem af4 (l : List UInt8) : qO (l.flatMap cb) = some l := by
 induction l with
 | nil => rfl
 | cons b l ih =>
  have : (b :: l).flatMap cb = .int .u8 b.toNat :: l.flatMap cb := rfl
  rw [this]
  simp only [qO, QF, ih]
  simp
theorem wS {v : Value} {i j : Nat} {S : zk} (h : j ≠ i) : zU (zS j v) i S = zU v i S := by
 cases v with
 | tuple vs => simp only [zS, zU, Array.getElem?_modify, if_neg h]
 | _ => rfl
theorem ae2 {v : Value} {S : zk} : zU (zS 0 v) 1 S = zU v 1 S := wS (by decide)
theorem ae8 {v : Value} {S : zk} : zU (zS 0 v) 2 S = zU v 2 S := wS (by decide)
theorem afm {v : Value} {S : zk} : zU (zS 1 v) 2 S = zU v 2 S := wS (by decide)
theorem aeX {v : Value} {S : zk} : zU (zS 0 v) 3 S = zU v 3 S := wS (by decide)
theorem aeo {v : Value} {S : zk} : zU (zS 1 v) 3 S = zU v 3 S := wS (by decide)
theorem aeL {v : Value} {S : zk} : zU (zS 2 v) 3 S = zU v 3 S := wS (by decide)
theorem ado {v : Value} {S : zk} : zU (zS 0 v) 4 S = zU v 4 S := wS (by decide)
theorem afu {v : Value} {S : zk} : zU (zS 1 v) 4 S = zU v 4 S := wS (by decide)
theorem aft {v : Value} {S : zk} : zU (zS 2 v) 4 S = zU v 4 S := wS (by decide)
theorem afk {v : Value} {S : zk} : zU (zS 3 v) 4 S = zU v 4 S := wS (by decide)
theorem adS {v : Value} {S : zk} : zU (zS 0 v) 5 S = zU v 5 S := wS (by decide)
theorem aez {v : Value} {S : zk} : zU (zS 1 v) 5 S = zU v 5 S := wS (by decide)
theorem aeZ {v : Value} {S : zk} : zU (zS 2 v) 5 S = zU v 5 S := wS (by decide)
theorem afg {v : Value} {S : zk} : zU (zS 3 v) 5 S = zU v 5 S := wS (by decide)
theorem aeO {v : Value} {S : zk} : zU (zS 4 v) 5 S = zU v 5 S := wS (by decide)
abbrev by_ (k : Nat) (l : List UInt8) : Value := vs cb 1 k l
abbrev iz (k : Nat) (l : List Int) : Value := vs ci 1 k l
theorem adI {src dst : TypeId} {k : Nat} {l : List UInt8} (hs : P.underlying src = some (.slice te)) (he : P.underlying te = some (.int .u8)) (hd : P.underlying dst = some .string) (h : Okl k l) : Ji P src dst (by_ k l) S = some (.string ⟨l.toArray⟩, S) := by
 obtain ⟨e', h1, _⟩ := ad5 (e := 1) (h.okv (f := cb))
 have hlen : (l.flatMap cb).length = l.length := by rw [WB abA]; omega
 have hns : ∀ s, by_ k l ≠ .string s := by intro s; unfold by_ vs sv; split <;> (intro h; cases h)
 unfold Ji
 split
 ·
  rename_i s hs; exact absurd hs (hns s)
 ·
  unfold by_ vs
  rw [h1]
  simp only [hs, hd, he, if_pos hlen, af4]
end
end Go.Abs
namespace Go.Abs
open Go.RowKit
def CLe (c d : FuncId → List Value → M Value) : Prop := ∀ g a S r, c g a S = some r → d g a S = some r
section
variable {P : Program} {O : Ora} {c d : FuncId → List Value → M Value}
theorem Ko (h : CLe c d) {fx : Fx} {T : List Value} {o : Oper} {S : zk} {r : Value × zk} (hs : qy P fx c T o S = some r) : qy P fx d T o S = some r := by
 unfold qy at hs ⊢
 split at hs
 ·
  rename_i hok
  rw [if_pos hok]
  cases hop : o.op with
  | call q =>
   rw [hop] at hs
   dsimp only at hs ⊢
   cases hcal : q.callee with
   | value f =>
    rw [hcal] at hs
    dsimp only at hs ⊢
    split at hs
    ·
     rename_i g first captured hev
     exact h _ _ _ _ hs
    ·
     cases hs
   | builtin b => rw [hcal] at hs; exact hs
   | invoke a b => rw [hcal] at hs; cases hs
  | _ => rw [hop] at hs; exact hs
 ·
  cases hs
theorem adR (h : CLe c d) {fx : Fx} {ops : Array Oper} : ∀ (l : List Oper) (T : List Value) (S : zk) (r : List Value × zk), jC P fx c ops l T S = some r → jC P fx d ops l T S = some r := by
 intro l
 induction l with
 | nil => intro T S r hs; exact hs
 | cons o l ih =>
  intro T S r hs
  simp only [jC] at hs ⊢
  split at hs
  ·
   rename_i hw
   rw [if_pos hw]
   split at hs
   ·
    rename_i v S' he
    rw [Ko h he]
    exact ih _ _ _ hs
   ·
    cases hs
  ·
   rename_i hw
   rw [if_neg hw]
   exact ih _ _ _ hs
theorem acD (h : CLe c d) {fx : Fx} {chk : List Nat} {nl : List (Nat × Nat)} {ops : Array Oper} : ∀ (l : List Oper) (i : Nat) (hist : List (Value × zk)) (T : List Value) (S : zk) (r : List Value × zk), yQ P fx chk nl c ops i hist l T S = some r → yQ P fx chk nl d ops i hist l T S = some r := by
 intro l
 induction l with
 | nil => intro i hist T S r hs; exact hs
 | cons o l ih =>
  intro i hist T S r hs
  simp only [yQ] at hs ⊢
  split at hs
  ·
   rename_i hw
   rw [if_pos hw]
   split at hs
   ·
    rename_i v S' he
    rw [Ko h he]
    dsimp only
    split at hs
    ·
     rename_i hq
     rw [if_pos hq]
     exact ih _ _ _ _ _ hs
    ·
     cases hs
   ·
    cases hs
  ·
   rename_i hw
   rw [if_neg hw]
   exact ih _ _ _ _ _ hs
theorem Q7 (h : CLe c d) {hp : Bool} {n m : Nat} (hn : n ≤ m) : ∀ (q : Code) (T : List Value) (S : zk) (r), qQ P hp c n q T S = some r → qQ P hp d m q T S = some r := by
 intro q
 induction q with
 | skip => intro T S r hs; exact hs
 | exit id => intro T S r hs; exact hs
 | ret => intro T S r hs; exact hs
 | region i ops dr =>
  intro T S r hs
  cases dr with
  | false =>
   simp only [qQ] at hs ⊢
   split at hs
   ·
    rename_i T1 S1 ho
    rw [adR h _ _ _ _ ho]; exact hs
   ·
    cases hs
  | true =>
   simp only [qQ] at hs ⊢
   split at hs
   ·
    rename_i hd
    rw [if_pos hd]
    split at hs
    ·
     rename_i T1 S1 ho
     rw [acD h _ _ _ _ _ _ ho]; exact hs
    ·
     cases hs
   ·
    cases hs
 | seq x y ihx ihy =>
  intro T S r hs
  simp only [qQ] at hs ⊢
  split at hs
  ·
   rename_i T1 S1 hx
   rw [ihx _ _ _ hx]
   exact ihy _ _ _ hs
  ·
   rename_i hne
   rw [ihx _ _ _ hs]
   split
   ·
    rename_i T1 S1 he; exact absurd (hs.trans he) (hne T1 S1)
   ·
    rfl
 | cond x y z ihy ihz =>
  intro T S r hs
  simp only [qQ] at hs ⊢
  split at hs
  ·
   rename_i hok
   rw [if_pos hok]
   split at hs
   ·
    rename_i hb; exact ihy _ _ _ hs
   ·
    rename_i hb; exact ihz _ _ _ hs
   ·
    cases hs
  ·
   cases hs
 | block id x ih =>
  intro T S r hs
  simp only [qQ] at hs ⊢
  split at hs
  ·
   rename_i id' T1 S1 hx
   rw [ih _ _ _ hx]; exact hs
  ·
   rename_i hne
   rw [ih _ _ _ hs]
   split
   ·
    rename_i id' T1 S1 he; exact absurd (hs.trans he) (hne id' T1 S1)
   ·
    rfl
 | loop x ih =>
  intro T S r hs
  simp only [qQ] at hs ⊢
  have key : ∀ (n : Nat) (T : List Value) (S : zk), ∀ k, kS k (qQ P hp c n x) T S = some r → (∀ T S r, qQ P hp c n x T S = some r → qQ P hp d m x T S = some r) → kS k (qQ P hp d m x) T S = some r := by
   intro n T S k hk hx
   induction k generalizing T S with
   | zero => cases hk
   | succ k ihk =>
    simp only [kS] at hk ⊢
    split at hk
    ·
     rename_i T1 S1 h1
     rw [hx _ _ _ h1]
     exact ihk _ _ hk
    ·
     rename_i hne
     rw [hx _ _ _ hk]
     split
     ·
      rename_i T1 S1 he; exact absurd (hk.trans he) (hne T1 S1)
     ·
      rfl
  exact Va hn (key n T S n hs ih)
 | _ => intro T S r hs; simp only [qQ] at hs; cases hs
theorem acr {hps : FuncId → Bool} {hp : Bool} (h : CLe c d) : CLe (ZN hps hp c) (ZN hps hp d) := by
 cases hp with
 | false => exact h
 | true =>
  intro g a S r hs
  unfold ZN at hs ⊢
  dsimp only at hs ⊢
  split at hs
  ·
   rename_i hg; rw [if_pos hg]; exact h _ _ _ _ hs
  ·
   rename_i hg
   rw [if_neg hg]
   split at hs <;> first | (cases hs; done) | skip
   rename_i m S1 hf
   split at hs <;> first | (cases hs; done) | skip
   rename_i r0 hr0
   (try rw [hf])
   (try dsimp only)
   rw [h _ _ _ _ hr0]
   exact hs
theorem Vm (h : CLe c d) {hp : Bool} {n m : Nat} (hn : n ≤ m) {fn : Func} {q : Code} {a : List Value} {S : zk} {r : Value × zk} (hs : afy P hp c n fn q a S = some r) : afy P hp d m fn q a S = some r := by
 unfold afy at hs ⊢
 split at hs
 ·
  rename_i T1 S1 hx
  rw [Q7 h hn _ _ _ _ hx]; exact hs
 ·
  rename_i T1 S1 hx
  rw [Q7 h hn _ _ _ _ hx]; exact hs
 ·
  cases hs
theorem agC : ∀ (n m : Nat), n ≤ m → CLe (ZW P O n) (ZW P O m) := by
 intro n
 induction n with
 | zero => intro m _ g a S r h; cases h
 | succ n ih =>
  intro m hm g a S r h
  obtain ⟨m, rfl⟩ : ∃ k, m = k + 1 := ⟨m - 1, by omega⟩
  simp only [ZW] at h ⊢
  cases ho : O.fn g with
  | some q => rw [ho] at h; exact h
  | none =>
   rw [ho] at h
   dsimp only at h ⊢
   cases hf : P.funcs[g]? with
   | none => rw [hf] at h; cases h
   | some fn =>
    rw [hf] at h
    dsimp only at h ⊢
    split at h
    ·
     cases h
    ·
     rename_i hn
     rw [if_neg hn]
     cases hb : fn.body with
     | none => rw [hb] at h; cases h
     | some q =>
      rw [hb] at h
      dsimp only at h ⊢
      have hc := acr (hps := O.hp) (hp := O.hp g) (ih m (by omega))
      split at h
      ·
       rename_i hpu
       rw [if_pos hpu]
       unfold adF at h ⊢
       split at h <;> first | (cases h; done) | skip
       rename_i hca
       rw [if_pos hca]
       split at h <;> first | (cases h; done) | skip
       rename_i v1 S1 hr
       rw [Vm hc (by omega) hr]
       exact h
      ·
       rename_i hpu
       rw [if_neg hpu]
       exact Vm hc (by omega) h
theorem ZE {n : Nat} {g : FuncId} {args : List Value} {S : zk} {r : Value × zk} (h : ZW P O n g args S = some r) : jc P O g args S = some r :=
 aa9 ⟨n, fun k hk => agC n k hk _ _ _ _ h⟩
end
end Go.Abs
namespace Go.Abs
open Go.RowKit
theorem af6 (x : (Ty.slc 1 (.int .u8)).Val) (hg : (Ty.slc 1 (.int .u8)).Good x) : ∃ k l, Okl k l ∧ k ≠ 2 ∧ (Ty.slc 1 (.int .u8)).VW x = [by_ k l] ∧ l.length ≤ 140737488351232 := by
 match x, hg with
 | none, _ => exact ⟨0, [], Okl.none, by decide, rfl, by simp⟩
 | some xs, hg =>
  obtain ⟨h1, h2, h3⟩ := hg
  have key : ∀ xs : List Int, (∀ n ∈ xs, (Lit.int .u8 n).wf = true) → (xs.flatMap fun n => [Value.int .u8 n]) = (xs.map fun n => UInt8.ofNat n.toNat).flatMap cb := by
   intro xs
   induction xs with
   | nil => intro _; rfl
   | cons n xs ih =>
    intro h
    have hw := h n (by simp)
    simp [Lit.wf, IntKind.min, IntKind.max, IntKind.signed, IntKind.bits] at hw
    have e : (Value.int .u8 n) = .int .u8 ((UInt8.ofNat n.toNat).toNat : Int) := by
     simp only [UInt8.toNat_ofNat']
     congr 1
     omega
    rw [List.flatMap_cons, ih (fun m hm => h m (by simp [hm])), List.map_cons, List.flatMap_cons, e]
    rfl
  refine ⟨1, (show List Int from xs).map fun n => UInt8.ofNat n.toNat, Okl.read, by decide, ?_, ?_⟩
  ·
   have e := key (show List Int from xs) h3
   show [SL 1 1 (show List Int from xs).length ((show List Int from xs).flatMap fun n => [Value.int .u8 n])] = [_]
   unfold by_ vs
   rw [sv1, List.length_map, ← e]
  ·
   have : (show List Int from xs).length * 1 ≤ 140737488351232 := h1
   rw [List.length_map]; omega
def af9 (call : FuncId → List Value → M Value) (g : FuncId) (args : List Value) : M Value := fun S => match Yq args S with
 | some (m, S1) => match call g m S1 with
  | some r => some (adZ S S1 args r)
  | none => none
 | none => none
end Go.Abs
namespace Go.Abs
open Go.RowKit
section
variable {P : Program} {μ μ1 : Mu} {S S1 H H1 : zk} {ω ω1 : Nat → Option kF}
structure Ext (S S1 : zk) : Prop where
 next : S.next ≤ S1.next
 get : ∀ k, k < S.next → S1.get k = S.get k
 log : ∃ new, S1.log = new ++ S.log ∧ ∀ k ∈ new, S.next ≤ k
theorem Ext.refl (S : zk) : Ext S S := ⟨Nat.le_refl _, fun _ _ => rfl, [], rfl, fun k h => by cases h⟩
theorem Ext.trans {S2 : zk} (h : Ext S S1) (k : Ext S1 S2) : Ext S S2 := ⟨Nat.le_trans h.1 k.1, fun q hq => (k.2 q (Nat.lt_of_lt_of_le hq h.1)).trans (h.2 q hq), by
 obtain ⟨n1, e1, f1⟩ := h.log
 obtain ⟨n2, e2, f2⟩ := k.log
 refine ⟨n2 ++ n1, by rw [e2, e1, List.append_assoc], fun q hq => ?_⟩
 rcases List.mem_append.1 hq with hq | hq
 ·
  exact Nat.le_trans h.1 (f2 q hq)
 ·
  exact f1 q hq⟩
theorem Ext.push (S : zk) (o : xu) : Ext S (S.push o) := ⟨by simp, fun k hk => by rw [zk.yD, if_neg (by omega)], [], rfl, fun k h => by cases h⟩
theorem Ext.set {S S1 : zk} (h : Ext S S1) {r : Nat} (hr : S.next ≤ r) (o : xu) : Ext S (S1.set r o) := ⟨by simpa using h.1, fun k hk => by rw [zk.yU, if_neg (by omega)]; exact h.2 k hk, by
 obtain ⟨n1, e1, f1⟩ := h.log
 refine ⟨r :: n1, by rw [zk.XI, e1]; rfl, fun q hq => ?_⟩
 rcases List.mem_cons.1 hq with rfl | hq
 ·
  exact hr
 ·
  exact f1 q hq⟩
inductive Lower (S : zk) (v1 : Value) (S1 : zk) : Value → Prop
 | same (h : ground v1 = true) : Lower S v1 S1 v1
 | own {r n e : Nat} {cs : List Value} (hv : v1 = .slice (some ⟨r, 0, none⟩) n n) (hr : S.next ≤ r) (hg : S1.get r = some (.cells cs (.own []) e)) (hn : cs.length = n * e) (hs : cs.all sg = true) : Lower S v1 S1 (SL 2 e n cs)
end
end Go.Abs
namespace Go.Abs
open Go.RowKit
section
variable {P : Program} {S : zk} {t te tx tex : TypeId} {q o n c e i r : Nat} {cs : List Value} {own : Own} {anc : List Nat} {v x : Value} {hp : Bool}
theorem abE (h : S.get q = some (.cells cs own e)) (ha : xQ P t = some false) (hv : cs[o]? = some v) (hn : ∀ l, v ≠ .agg l) : jf P false t (.pointer (some ⟨q, o, none⟩)) S = some (dem v, S) := by
 unfold jf
 simp only [Bool.false_eq_true, if_false]
 have : kL P t (.pointer (some ⟨q, o, none⟩)) S = some (v, S) := by simp only [kL, h, ha, hv]
 rw [this]
 split
 ·
  rename_i l S2 he; cases he; exact absurd rfl (hn _)
 ·
  rename_i v2 S2 _ he; cases he; rfl
 ·
  rename_i he; cases he
theorem qC {k : IntKind} {m : Int} (h : S.get q = some (.cells cs own e)) (ha : xQ P t = some false) (hv : cs[o]? = some (.int k m)) : jf P false t (.pointer (some ⟨q, o, none⟩)) S = some (.int k m, S) :=
 abE h ha hv (fun l h => by cases h)
theorem Ye (h : S.get q = some (.cells cs own e)) (ha : xQ P t = some true) (hs : Zx P t = some n) (hle : o + n ≤ cs.length) : jf P false t (.pointer (some ⟨q, o, none⟩)) S = some (.agg (((cs.drop o).take n).toArray.map xH), S) := by
 unfold jf
 simp only [Bool.false_eq_true, if_false]
 have : kL P t (.pointer (some ⟨q, o, none⟩)) S = some (.agg ((cs.drop o).take n).toArray, S) := by simp only [kL, h, ha, hs, if_pos hle]
 rw [this]
theorem xZ (h : S.get q = some (.cells cs (.own anc) e)) (hs : Zx P t = some n) (hx : x.cells.size = n) (h1 : x.cells.toList.all (·.oneCell') = true) (hle : o + n ≤ cs.length) :
  wH P t (.pointer (some ⟨q, o, none⟩)) x S = some (undef, (S.kills anc).set q (.cells (splice cs o x.cells.toList) (.own []) e)) := by
 simp only [wH, J9, h, hs, if_pos hx, if_pos h1, if_pos hle]
end
theorem ZH {α : Type} {f : α → List Value} {e k d : Nat} {l : List α} (hk : k ≤ 2) (h : ∀ x ∈ l, (f x).all (jH d) = true) : jH (d + 4) (vs f e k l) = true := by
 unfold vs sv
 split
 ·
  rfl
 ·
  show ((l.flatMap f).toArray.toList.all (jH d)) = true
  rw [List.toList_toArray, List.all_flatMap, List.all_eq_true]
  exact h
theorem yZ {k d : Nat} {l : List UInt8} (hk : k ≤ 2) : jH (d + 5) (by_ k l) = true := ZH hk (fun _ _ => rfl)
theorem VY {l : List Value} {d : Nat} (h : l.all (jH d) = true) : jH (d + 1) (.agg l.toArray) = true := by
 show l.toArray.toList.all (jH d) = true
 simpa using h
theorem yC {l : List Value} {d : Nat} (h : l.all (jH d) = true) : jH (d + 1) (.tuple l.toArray) = true := by
 show l.toArray.toList.all (jH d) = true
 simpa using h
theorem all1 {p : Value → Bool} {a : Value} (h : p a = true) : [a].all p = true := by simp [h]
theorem all2 {p : Value → Bool} {a b : Value} (h : p a = true) (k : p b = true) : [a, b].all p = true := by simp [h, k]
theorem ajS {p : Value → Bool} {a b c : Value} (h : p a = true) (k : p b = true) (j : p c = true) : [a, b, c].all p = true := by simp [h, k, j]
theorem afU {k e n : Nat} {cs : List Value} : (sv k e n cs).cells = #[sv k e n cs] := by unfold sv; split <;> rfl
theorem ab2 {α : Type} {f : α → List Value} {e k : Nat} {l : List α} : (vs f e k l).cells = #[vs f e k l] := afU
theorem ahz {k e n : Nat} {cs : List Value} : xH (sv k e n cs) = sv (if k = 2 then 1 else k) e n cs := by rw [← abk]; unfold sv; split <;> rfl
theorem aar {α : Type} {f : α → List Value} {e k : Nat} {l : List α} : xH (vs f e k l) = vs f e (if k = 2 then 1 else k) l := ahz
theorem vg {k : IntKind} {n : Int} : xH (.int k n) = .int k n := rfl
theorem qX {x : Array Value} : (Value.agg x).cells = x := rfl
theorem yu {k : IntKind} {n : Int} : (Value.int k n).cells = #[.int k n] := rfl
@[simp] theorem VX (a : Option Addr) (n c : Nat) : dem (.slice a n c) = .slice a n c := Eq.trans rfl rfl
@[simp] theorem aes (a : Option Nat) : dem (.map a) = .map a := Eq.trans rfl rfl
theorem wrap_i64 {n : Int} (h0 : -9223372036854775808 ≤ n) (h : n < 9223372036854775808) : IntKind.i64.wrap n = n := by
 simp [IntKind.wrap, IntKind.bits, IntKind.signed]
 split <;> omega
theorem V4 {l pre suf : List Int} {n : Int} (hl : l = pre ++ n :: suf) (h : Int.toNat (pre.length : Int) < l.length) : l[Int.toNat (pre.length : Int)] = n := by
 subst hl; simp
theorem V9 {α : Type} {l pre suf : List α} {n : α} (hl : l = pre ++ n :: suf) (h : Int.toNat (pre.length : Int) < l.length) : l[Int.toNat (pre.length : Int)] = n := by
 subst hl; simp
theorem abr (k : Nat) : (if (if k = 2 then 1 else k) = 2 then 1 else if k = 2 then 1 else k) = if k = 2 then 1 else k := by split <;> simp_all
theorem Wx (k : Nat) : (if k = 2 then 1 else k) ≠ 2 := by split <;> omega
theorem YP (Sa Sb : zk) : qB undef Sa Sb = true := rfl
theorem kU (cs : List Value) (Sa Sb : zk) : qB (EP cs) Sa Sb = true := rfl
theorem y7 {q o e : Nat} {cs : List Value} {own : Own} {S : zk} (h : S.get q = some (.cells cs own e)) : qB (.pointer (some ⟨q, o, none⟩)) S S = true := by
 simp only [qB, h, Nat.sub_self, List.take_zero, List.contains_nil, Bool.not_false, Bool.and_self]
end Go.Abs
namespace Go.Abs
open Go.RowKit
section
variable {P : Program} {fx : Fx} {chk : List Nat} {call : FuncId → List Value → M Value} {ops : Array Oper}
theorem sP (f : Func) (i n : Nat) {l : List Oper} {T : List Value} {T1 : Value → List Value} {S : zk} {v : Value} {r : Option (List Value × zk)} (hK : jC P fx call ops ((reg f i).toList.drop (n + 1)) (T1 v) S = r) (hl : l = (opAt f i n) :: ((reg f i).toList.drop (n + 1)) := by kernel_rfl) (hg : (opAt f i n).guard = none := by kernel_rfl) (hm : ∀ v, ZQ (opAt f i n) ((reg f i).toList.drop (n + 1)) T v = T1 v := by exact fun _ => rfl) (hs : qy P fx call T (opAt f i n) S = some (v, S) := by kernel_rfl) : jC P fx call ops l T S = r :=
 adA hl hg hm hs hK
theorem sD (f : Func) (i n : Nat) {l : List Oper} {T : List Value} {T1 : Value → List Value} {S : zk} {s : Option (Value × zk)} {K : Value → zk → Option (List Value × zk)} (hK : ∀ v S1, jC P fx call ops ((reg f i).toList.drop (n + 1)) (T1 v) S1 = K v S1) (hl : l = (opAt f i n) :: ((reg f i).toList.drop (n + 1)) := by kernel_rfl) (hg : (opAt f i n).guard = none := by kernel_rfl) (hm : ∀ v, ZQ (opAt f i n) ((reg f i).toList.drop (n + 1)) T v = T1 v := by exact fun _ => rfl) (hs : qy P fx call T (opAt f i n) S = s := by kernel_rfl) : jC P fx call ops l T S = zI s K () :=
 ahK hl hg hm hs hK
theorem sG (f : Func) (i n : Nat) {l : List Oper} {T : List Value} {T1 : Value → List Value} {S : zk} {j : Nat} {b : Bool} {g : Value} {s : M Value} {K : Value → zk → Option (List Value × zk)} (hK : ∀ v S1, jC P fx call ops ((reg f i).toList.drop (n + 1)) (T1 v) S1 = K v S1) (hl : l = (opAt f i n) :: ((reg f i).toList.drop (n + 1)) := by kernel_rfl) (hg : (opAt f i n).guard = some (j, b) := by kernel_rfl) (hm : ∀ v, ZQ (opAt f i n) ((reg f i).toList.drop (n + 1)) T v = T1 v := by exact fun _ => rfl) (hy : ynd ops T j = vb g := by kernel_rfl) (hs : qy P fx call T (opAt f i n) S = s S := by kernel_rfl) : jC P fx call ops l T S = gdK g b s S K () :=
 aix hl hg hm hy hs hK
theorem tD (f : Func) (i n : Nat) {l : List Oper} {T : List Value} {T1 : Value → List Value} {S : zk} {k : Nat} {s : Option (Value × zk)} {K : Value → zk → Option (List Value × zk)} (hK : ∀ v S1, yQ P fx chk [] call ops (k + 1) [] ((reg f i).toList.drop (n + 1)) (T1 v) S1 = K v S1) (hc : chk.contains k = false := by kernel_rfl) (hl : l = (opAt f i n) :: ((reg f i).toList.drop (n + 1)) := by kernel_rfl) (hg : (opAt f i n).guard = none := by kernel_rfl) (hm : ∀ v, ZQ (opAt f i n) ((reg f i).toList.drop (n + 1)) T v = T1 v := by exact fun _ => rfl) (hs : qy P fx call T (opAt f i n) S = s := by kernel_rfl) : yQ P fx chk [] call ops k [] l T S = zI s K () :=
 afB hc hl hg hm hs hK
theorem tP (f : Func) (i n : Nat) {l : List Oper} {T : List Value} {T1 : Value → List Value} {S : zk} {k : Nat} {v : Value} {r : Option (List Value × zk)} (hK : yQ P fx chk [] call ops (k + 1) [] ((reg f i).toList.drop (n + 1)) (T1 v) S = r) (hc : chk.contains k = false := by kernel_rfl) (hl : l = (opAt f i n) :: ((reg f i).toList.drop (n + 1)) := by kernel_rfl) (hg : (opAt f i n).guard = none := by kernel_rfl) (hm : ∀ v, ZQ (opAt f i n) ((reg f i).toList.drop (n + 1)) T v = T1 v := by exact fun _ => rfl) (hs : qy P fx call T (opAt f i n) S = some (v, S) := by kernel_rfl) : yQ P fx chk [] call ops k [] l T S = r :=
 ab8 hc hl hg hm hs hK
theorem tPC (f : Func) (i n : Nat) {l : List Oper} {T : List Value} {T1 : Value → List Value} {S : zk} {k : Nat} {v : Value} {r : Option (List Value × zk)} (hK : yQ P fx chk [] call ops (k + 1) [] ((reg f i).toList.drop (n + 1)) (T1 v) S = r) (hc : chk.contains k = true := by kernel_rfl) (hl : l = (opAt f i n) :: ((reg f i).toList.drop (n + 1)) := by kernel_rfl) (hg : (opAt f i n).guard = none := by kernel_rfl) (hm : ∀ v, ZQ (opAt f i n) ((reg f i).toList.drop (n + 1)) T v = T1 v := by exact fun _ => rfl) (hs : qy P fx call T (opAt f i n) S = some (v, S) := by kernel_rfl) : yQ P fx chk [] call ops k [] l T S = okK v r () :=
 aa5 hc hl hg hm hs hK
theorem tG (f : Func) (i n : Nat) {l : List Oper} {T : List Value} {T1 : Value → List Value} {S : zk} {j k : Nat} {b : Bool} {g : Value} {s : M Value} {K : Value → zk → Option (List Value × zk)} (hK : ∀ v S1, yQ P fx chk [] call ops (k + 1) [] ((reg f i).toList.drop (n + 1)) (T1 v) S1 = K v S1) (hc : chk.contains k = false := by kernel_rfl) (hl : l = (opAt f i n) :: ((reg f i).toList.drop (n + 1)) := by kernel_rfl) (hg : (opAt f i n).guard = some (j, b) := by kernel_rfl) (hm : ∀ v, ZQ (opAt f i n) ((reg f i).toList.drop (n + 1)) T v = T1 v := by exact fun _ => rfl) (hy : ynd ops T j = vb g := by kernel_rfl) (hs : qy P fx call T (opAt f i n) S = s S := by kernel_rfl) : yQ P fx chk [] call ops k [] l T S = gdK g b s S K () :=
 afC hc hl hg hm hy hs hK
theorem uD (f : Func) (i n : Nat) {l : List Oper} {T : List Value} {T1 : Value → List Value} {S : zk} {k : Nat} {s : Option (Value × zk)} {K : Value → zk → Option (List Value × zk)} {x : Nat × Nat} {nl : List (Nat × Nat)} {hist : List (Value × zk)} {pe : Value} (hK : ∀ v S1, yQ P fx chk (x :: nl) call ops (k + 1) (hist ++ [(pe, S)]) ((reg f i).toList.drop (n + 1)) (T1 v) S1 = K v S1) (hc : chk.contains k = false := by kernel_rfl) (hpe : Zy T (opAt f i n) = pe := by kernel_rfl) (hl : l = (opAt f i n) :: ((reg f i).toList.drop (n + 1)) := by kernel_rfl) (hg : (opAt f i n).guard = none := by kernel_rfl) (hm : ∀ v, ZQ (opAt f i n) ((reg f i).toList.drop (n + 1)) T v = T1 v := by exact fun _ => rfl) (hs : qy P fx call T (opAt f i n) S = s := by kernel_rfl) : yQ P fx chk (x :: nl) call ops k hist l T S = zI s K () :=
 afX hc hpe hl hg hm hs hK
theorem uDC (f : Func) (i n : Nat) {l : List Oper} {T : List Value} {T1 : Value → List Value} {S : zk} {k : Nat} {s : Option (Value × zk)} {K : Value → zk → Option (List Value × zk)} {x : Nat × Nat} {nl : List (Nat × Nat)} {hist : List (Value × zk)} {pe : Value} (hK : ∀ v S1, yQ P fx chk (x :: nl) call ops (k + 1) (hist ++ [(pe, S)]) ((reg f i).toList.drop (n + 1)) (T1 v) S1 = K v S1) (hc : chk.contains k = true := by kernel_rfl) (hpe : Zy T (opAt f i n) = pe := by kernel_rfl) (hl : l = (opAt f i n) :: ((reg f i).toList.drop (n + 1)) := by kernel_rfl) (hg : (opAt f i n).guard = none := by kernel_rfl) (hm : ∀ v, ZQ (opAt f i n) ((reg f i).toList.drop (n + 1)) T v = T1 v := by exact fun _ => rfl) (hs : qy P fx call T (opAt f i n) S = s := by kernel_rfl) : yQ P fx chk (x :: nl) call ops k hist l T S = zI s (fun v S1 => okK v (K v S1) ()) () :=
 aeF hc hpe hl hg hm hs hK
theorem uP (f : Func) (i n : Nat) {l : List Oper} {T : List Value} {T1 : Value → List Value} {S : zk} {k : Nat} {v : Value} {r : Option (List Value × zk)} {x : Nat × Nat} {nl : List (Nat × Nat)} {hist : List (Value × zk)} {pe : Value} (hK : yQ P fx chk (x :: nl) call ops (k + 1) (hist ++ [(pe, S)]) ((reg f i).toList.drop (n + 1)) (T1 v) S = r) (hc : chk.contains k = false := by kernel_rfl) (hpe : Zy T (opAt f i n) = pe := by kernel_rfl) (hl : l = (opAt f i n) :: ((reg f i).toList.drop (n + 1)) := by kernel_rfl) (hg : (opAt f i n).guard = none := by kernel_rfl) (hm : ∀ v, ZQ (opAt f i n) ((reg f i).toList.drop (n + 1)) T v = T1 v := by exact fun _ => rfl) (hs : qy P fx call T (opAt f i n) S = some (v, S) := by kernel_rfl) : yQ P fx chk (x :: nl) call ops k hist l T S = r :=
 ac9 hc hpe hl hg hm hs hK
theorem uPC (f : Func) (i n : Nat) {l : List Oper} {T : List Value} {T1 : Value → List Value} {S : zk} {k : Nat} {v : Value} {r : Option (List Value × zk)} {x : Nat × Nat} {nl : List (Nat × Nat)} {hist : List (Value × zk)} {pe : Value} (hK : yQ P fx chk (x :: nl) call ops (k + 1) (hist ++ [(pe, S)]) ((reg f i).toList.drop (n + 1)) (T1 v) S = r) (hc : chk.contains k = true := by kernel_rfl) (hpe : Zy T (opAt f i n) = pe := by kernel_rfl) (hl : l = (opAt f i n) :: ((reg f i).toList.drop (n + 1)) := by kernel_rfl) (hg : (opAt f i n).guard = none := by kernel_rfl) (hm : ∀ v, ZQ (opAt f i n) ((reg f i).toList.drop (n + 1)) T v = T1 v := by exact fun _ => rfl) (hs : qy P fx call T (opAt f i n) S = some (v, S) := by kernel_rfl) : yQ P fx chk (x :: nl) call ops k hist l T S = okK v r () :=
 aaZ hc hpe hl hg hm hs hK
theorem uG (f : Func) (i n : Nat) {l : List Oper} {T : List Value} {T1 : Value → List Value} {S : zk} {j k : Nat} {b : Bool} {g : Value} {s : M Value} {K : Value → zk → Option (List Value × zk)} {x : Nat × Nat} {nl : List (Nat × Nat)} {hist : List (Value × zk)} {pe : Value} (hK : ∀ v S1, yQ P fx chk (x :: nl) call ops (k + 1) (hist ++ [(pe, S)]) ((reg f i).toList.drop (n + 1)) (T1 v) S1 = K v S1) (hc : chk.contains k = false := by kernel_rfl) (hpe : Zy T (opAt f i n) = pe := by kernel_rfl) (hl : l = (opAt f i n) :: ((reg f i).toList.drop (n + 1)) := by kernel_rfl) (hg : (opAt f i n).guard = some (j, b) := by kernel_rfl) (hm : ∀ v, ZQ (opAt f i n) ((reg f i).toList.drop (n + 1)) T v = T1 v := by exact fun _ => rfl) (hy : ynd ops T j = vb g := by kernel_rfl) (hs : qy P fx call T (opAt f i n) S = s S := by kernel_rfl) : yQ P fx chk (x :: nl) call ops k hist l T S = gdK g b s S K () :=
 afY hc hpe hl hg hm hy hs hK
theorem uGC (f : Func) (i n : Nat) {l : List Oper} {T : List Value} {T1 : Value → List Value} {S : zk} {j k : Nat} {b : Bool} {g : Value} {s : M Value} {K : Value → zk → Option (List Value × zk)} {x : Nat × Nat} {nl : List (Nat × Nat)} {hist : List (Value × zk)} {pe : Value} (hK : ∀ v S1, yQ P fx chk (x :: nl) call ops (k + 1) (hist ++ [(pe, S)]) ((reg f i).toList.drop (n + 1)) (T1 v) S1 = K v S1) (hc : chk.contains k = true := by kernel_rfl) (hpe : Zy T (opAt f i n) = pe := by kernel_rfl) (hl : l = (opAt f i n) :: ((reg f i).toList.drop (n + 1)) := by kernel_rfl) (hg : (opAt f i n).guard = some (j, b) := by kernel_rfl) (hm : ∀ v, ZQ (opAt f i n) ((reg f i).toList.drop (n + 1)) T v = T1 v := by exact fun _ => rfl) (hy : ynd ops T j = vb g := by kernel_rfl) (hs : qy P fx call T (opAt f i n) S = s S := by kernel_rfl) : yQ P fx chk (x :: nl) call ops k hist l T S = afF g b s S K () :=
 adB hc hpe hl hg hm hy hs hK
end
end Go.Abs
namespace Go.Proofs.Ytbgcphbbchndkaa
open Go.Abs
def O : Ora := ⟨fun _ => none, fun f => ([] : List Nat).contains f, fun f => ([9, 10, 11, 12, 13, 14, 15, 18, 19, 20, 21, 25, 29, 30, 31, 33, 34, 37, 38, 39, 40, 41, 43, 44, 45, 46, 47, 49, 52, 53, 56, 61, 64, 65, 66] : List Nat).contains f⟩
theorem aiR : adD Try.prog O := af8
end Go.Proofs.Ytbgcphbbchndkaa
namespace Go.Proofs.Ytbgcphbbchndkaa
open Go.Abs
noncomputable def jB.code : Code := (Code.seq (Code.region 0 (reg Try.f4 0) false) (Code.seq (Code.region 1 (reg Try.f4 1) false) (Code.seq (Code.region 2 (reg Try.f4 2) false) (Code.seq (Code.region 3 (reg Try.f4 3) false) Code.ret))))
theorem jB.body : Try.f4.body = some jB.code := by kernel_rfl
variable (b E N F G H I J K L d f g i k l m n o p q r s t u w x y z A : Value) (S : zk)
theorem jB.r0  : jC Try.prog ⟨false, false, false⟩ (jc Try.prog O) (reg Try.f4 0) (reg Try.f4 0).toList ([b,E,N,F,G,H,I,J,K,L,d,f,g,i,k,l,m,n,o,p,q,r,s,t,u,w,x,y,z,A]) S =
  ( some ([b,E,Value.bool false,F,G,H,I,J,K,L,d,f,g,i,k,l,m,n,o,p,q,r,s,t,u,w,x,y,z,A], S)) := by
 kernel_rfl
theorem jB.r1  : jC Try.prog ⟨false, false, false⟩ (jc Try.prog O) (reg Try.f4 1) (reg Try.f4 1).toList ([b,E,N,F,G,H,I,J,K,L,d,f,g,i,k,l,m,n,o,p,q,r,s,t,u,w,x,y,z,A]) S =
  (zI (jR Try.prog 23 0 [] S) (fun B C => zI (wY Try.prog 23 23 B (dem b) C) (fun P Q => zI ((jc Try.prog O) 10 [(dem P)] Q) (fun D R => zI (zU D 0 R) (fun c U => zI (zU (zS 0 D) 1 U) (fun v6 V => zI (yF Try.prog 30 V) (fun W Y => zI (wH Try.prog 30 W (dem c) Y) (fun Z S7 => some ([b,E,N,W,v6,H,I,zS 1 (zS 0 D),dem B,dem b,P,dem D,c,dem v6,k,l,m,n,o,p,q,r,s,t,u,w,x,y,z,A], S7)) ()) ()) ()) ()) ()) ()) ()) := by
 kernel_rfl
theorem jB.r2  : jC Try.prog ⟨false, false, false⟩ (jc Try.prog O) (reg Try.f4 2) (reg Try.f4 2).toList ([b,E,N,F,G,H,I,J,K,L,d,f,g,i,k,l,m,n,o,p,q,r,s,t,u,w,x,y,z,A]) S =
  (zI ((jc Try.prog O) 11 [(dem (dem b))] S) (fun v1 C => zI (zU v1 0 C) (fun D Q => zI (zU (zS 0 v1) 1 Q) (fun X R => zI (yF Try.prog 30 R) (fun c U => zI (wH Try.prog 30 c (dem D) U) (fun v6 V => some ([b,E,N,F,G,c,X,J,K,L,d,f,g,i,zS 1 (zS 0 v1),dem b,dem v1,D,dem X,p,q,r,s,t,u,w,x,y,z,A], V)) ()) ()) ()) ()) ()) := by
 kernel_rfl
theorem jB.r3  : jC Try.prog ⟨false, false, false⟩ (jc Try.prog O) (reg Try.f4 3) (reg Try.f4 3).toList ([b,E,N,F,G,H,I,J,K,L,d,f,g,i,k,l,m,n,o,p,q,r,s,t,u,w,x,y,z,A]) S =
  (zI ((jc Try.prog O) 9 [] S) (fun B C => gdK (dem B) true (jf Try.prog false 30 F) C (fun P Q => gdK (dem B) true (jf Try.prog false 30 H) Q (fun D R => gdK (dem B) true ((jc Try.prog O) 12 [(dem P), (dem D)]) R (fun X U => zI (wJ (dem B) X (Value.bool false) U) (fun c V => gdK (dem c) true (ret G) V (fun W Y => gdK (dem c) true (ret I) Y (fun Z S7 => gdK (dem c) true (wu Try.prog BinOp.eql 3 (dem W) (dem Z)) S7 (fun v9 S8 => zI (wJ (dem c) v9 (Value.bool false) S8) (fun M S9 => some ([b,E,M,F,G,H,I,J,K,L,d,f,g,i,k,l,m,n,o,B,dem B,P,D,X,c,dem c,dem W,dem Z,v9,dem M], S9)) ()) ()) ()) ()) ()) ()) ()) ()) ()) := by
 refine sD Try.f4 3 0 (fun B C => ?_)
 refine sP Try.f4 3 1 (v := B) ?_
 refine sG Try.f4 3 2 (j := 1) (fun P Q => ?_)
 refine sG Try.f4 3 3 (j := 1) (fun D R => ?_)
 refine sG Try.f4 3 4 (j := 1) (fun X U => ?_)
 refine sD Try.f4 3 5 (fun c V => ?_)
 refine sP Try.f4 3 6 (v := c) ?_
 refine sG Try.f4 3 7 (j := 6) (fun W Y => ?_)
 refine sG Try.f4 3 8 (j := 6) (fun Z S7 => ?_)
 refine sG Try.f4 3 9 (j := 6) (fun v9 S8 => ?_)
 refine sD Try.f4 3 10 (fun M S9 => ?_)
 refine sP Try.f4 3 11 (v := M) ?_
 kernel_rfl
theorem jB.rs : type_of% (And.intro @jB.r0 (And.intro @jB.r1 (And.intro @jB.r2 (@jB.r3)))) := And.intro @jB.r0 (And.intro @jB.r1 (And.intro @jB.r2 (@jB.r3)))
theorem jB.runs {b : Value} {S C : zk} {e : AEx} {T : List Value} (h : zF Try.prog O false jB.code ([b,undef,undef,undef,undef,undef,undef,undef,undef,undef,undef,undef,undef,undef,undef,undef,undef,undef,undef,undef,undef,undef,undef,undef,undef,undef,undef,undef,undef,undef]) S = some (e, T, C)) (he : e = .normal ∨ e = .ret) : jc Try.prog O 4 [b] S = some (T.getD 2 undef, C) :=
 yR rfl rfl Try.func4 (by decide) jB.body (by exact h) he (yN (a := T.getD 2 undef) ((show zO Try.prog T C Try.f4.results.toList = zO Try.prog T C [(ResultVar.tmp 2)] from by kernel_rfl).trans (by simp only [zO])) (by kernel_rfl))
end Go.Proofs.Ytbgcphbbchndkaa
namespace Go.Proofs.Ytbgcphbbchndkaa
open Go.Abs
abbrev wE.id : FuncId := 10
noncomputable def wE.code : Code := (Code.seq (Code.region 0 (reg Try.f10 0) false) (Code.seq (Code.region 1 (reg Try.f10 1) false) (Code.seq (Code.seq (Code.region 2 (reg Try.f10 2) false) (Code.cond (Operand.tmp 16) (Code.seq (Code.region 3 (reg Try.f10 3) false) Code.ret) Code.skip)) (Code.seq (Code.region 4 (reg Try.f10 4) false) (Code.seq (Code.seq (Code.region 5 (reg Try.f10 5) false) (Code.cond (Operand.tmp 33) (Code.seq (Code.region 6 (reg Try.f10 6) false) Code.ret) Code.skip)) (Code.seq (Code.region 7 (reg Try.f10 7) false) Code.ret))))))
theorem wE.body : Try.f10.body = some wE.code := by kernel_rfl
variable (F M H Q N I K L J P b c d f g i k l m n o p q r s t u w x y z A B C D E : Value) (S : zk)
theorem wE.r0  : jC Try.prog ⟨false, false, false⟩ (jc Try.prog O) (reg Try.f10 0) (reg Try.f10 0).toList ([F,M,H,Q,N,I,K,L,J,P,b,c,d,f,g,i,k,l,m,n,o,p,q,r,s,t,u,w,x,y,z,A,B,C,D,E]) S =
  (zI (yF Try.prog 30 S) (fun U G => some ([F,M,U,Value.int IntKind.i64 0,N,I,K,L,J,P,b,c,d,f,g,i,k,l,m,n,o,p,q,r,s,t,u,w,x,y,z,A,B,C,D,E], G)) ()) := by
 kernel_rfl
theorem wE.r1  : jC Try.prog ⟨false, false, false⟩ (jc Try.prog O) (reg Try.f10 1) (reg Try.f10 1).toList ([F,M,H,Q,N,I,K,L,J,P,b,c,d,f,g,i,k,l,m,n,o,p,q,r,s,t,u,w,x,y,z,A,B,C,D,E]) S =
  (zI ((jc Try.prog O) 24 [(dem (dem F))] S) (fun a G => zI (zU a 0 G) (fun V R => zI (zU (zS 0 a) 1 R) (fun W Y => zI (zU (zS 1 (zS 0 a)) 2 Y) (fun X Z => some ([F,M,H,Q,V,W,X,L,J,zS 2 (zS 1 (zS 0 a)),dem F,dem a,dem V,dem W,dem X,i,k,l,m,n,o,p,q,r,s,t,u,w,x,y,z,A,B,C,D,E], Z)) ()) ()) ()) ()) := by
 kernel_rfl
theorem wE.r2  : jC Try.prog ⟨false, false, false⟩ (jc Try.prog O) (reg Try.f10 2) (reg Try.f10 2).toList ([F,M,H,Q,N,I,K,L,J,P,b,c,d,f,g,i,k,l,m,n,o,p,q,r,s,t,u,w,x,y,z,A,B,C,D,E]) S =
  (zI (wu Try.prog BinOp.neq 31 (dem K) (Value.int IntKind.i64 0) S) (fun a G => some ([F,M,H,Q,N,I,K,L,J,P,b,c,d,f,g,dem K,a,l,m,n,o,p,q,r,s,t,u,w,x,y,z,A,B,C,D,E], G)) ()) := by
 kernel_rfl
theorem wE.r3  : jC Try.prog ⟨false, false, false⟩ (jc Try.prog O) (reg Try.f10 3) (reg Try.f10 3).toList ([F,M,H,Q,N,I,K,L,J,P,b,c,d,f,g,i,k,l,m,n,o,p,q,r,s,t,u,w,x,y,z,A,B,C,D,E]) S =
  (zI (yJ Try.prog 30 [] S) (fun U G => zI (wH Try.prog 30 H (dem U) G) (fun a R => some ([F,M,H,Value.int IntKind.i64 121,N,I,K,L,J,P,b,c,d,f,g,i,k,U,m,n,o,p,q,r,s,t,u,w,x,y,z,A,B,C,D,E], R)) ()) ()) := by
 kernel_rfl
theorem wE.r4  : jC Try.prog ⟨false, false, false⟩ (jc Try.prog O) (reg Try.f10 4) (reg Try.f10 4).toList ([F,M,H,Q,N,I,K,L,J,P,b,c,d,f,g,i,k,l,m,n,o,p,q,r,s,t,u,w,x,y,z,A,B,C,D,E]) S =
  (zI ((jc Try.prog O) 25 [(dem (dem I))] S) (fun a G => zI (zU a 0 G) (fun V R => zI (zU (zS 0 a) 1 R) (fun W Y => zI (yF Try.prog 30 Y) (fun X Z => zI (wH Try.prog 30 X (dem V) Z) (fun v6 S5 => some ([F,M,H,Q,N,I,K,X,W,P,b,c,d,f,g,i,k,l,zS 1 (zS 0 a),dem I,dem a,V,dem W,r,s,t,u,w,x,y,z,A,B,C,D,E], S5)) ()) ()) ()) ()) ()) := by
 kernel_rfl
theorem wE.r5  : jC Try.prog ⟨false, false, false⟩ (jc Try.prog O) (reg Try.f10 5) (reg Try.f10 5).toList ([F,M,H,Q,N,I,K,L,J,P,b,c,d,f,g,i,k,l,m,n,o,p,q,r,s,t,u,w,x,y,z,A,B,C,D,E]) S =
  (zI (aUn Try.prog UnOp.not (dem J) S) (fun a G => gdK (dem a) false (zy Try.prog 30 L 1) G (fun V R => gdK (dem a) false (jf Try.prog false 3 V) R (fun W Y => gdK (dem a) false ((jc Try.prog O) 27 [(dem W)]) Y (fun X Z => gdK (dem a) false (ret N) Z (fun v6 S5 => gdK (dem a) false (ret I) S5 (fun v7 S6 => gdK (dem a) false ((jc Try.prog O) 26 [(dem X), (dem (dem v6)), (dem (dem v7))]) S6 (fun v8 S7 => gdK (dem a) false (aUn Try.prog UnOp.not v8) S7 (fun v9 S8 => zI (wJ (dem a) (Value.bool true) v9 S8) (fun a0 S9 => some ([F,M,H,Q,N,I,K,L,J,P,b,c,d,f,g,i,k,l,m,n,o,p,q,dem J,a,dem a,V,W,X,dem v6,dem v7,v8,v9,a0,D,E], S9)) ()) ()) ()) ()) ()) ()) ()) ()) ()) := by
 refine sP Try.f10 5 0 (v := J) ?_
 refine sD Try.f10 5 1 (fun a G => ?_)
 refine sP Try.f10 5 2 (v := a) ?_
 refine sG Try.f10 5 3 (j := 2) (fun V R => ?_)
 refine sG Try.f10 5 4 (j := 2) (fun W Y => ?_)
 refine sG Try.f10 5 5 (j := 2) (fun X Z => ?_)
 refine sG Try.f10 5 6 (j := 2) (fun v6 S5 => ?_)
 refine sG Try.f10 5 7 (j := 2) (fun v7 S6 => ?_)
 refine sG Try.f10 5 8 (j := 2) (fun v8 S7 => ?_)
 refine sG Try.f10 5 9 (j := 2) (fun v9 S8 => ?_)
 refine sD Try.f10 5 10 (fun a0 S9 => ?_)
 kernel_rfl
theorem wE.r6  : jC Try.prog ⟨false, false, false⟩ (jc Try.prog O) (reg Try.f10 6) (reg Try.f10 6).toList ([F,M,H,Q,N,I,K,L,J,P,b,c,d,f,g,i,k,l,m,n,o,p,q,r,s,t,u,w,x,y,z,A,B,C,D,E]) S =
  (zI (yJ Try.prog 30 [] S) (fun U G => zI (wH Try.prog 30 H (dem U) G) (fun a R => some ([F,M,H,Value.int IntKind.i64 121,N,I,K,L,J,P,b,c,d,f,g,i,k,l,m,n,o,p,q,r,s,t,u,w,x,y,z,A,B,C,U,E], R)) ()) ()) := by
 kernel_rfl
theorem wE.r7  : jC Try.prog ⟨false, false, false⟩ (jc Try.prog O) (reg Try.f10 7) (reg Try.f10 7).toList ([F,M,H,Q,N,I,K,L,J,P,b,c,d,f,g,i,k,l,m,n,o,p,q,r,s,t,u,w,x,y,z,A,B,C,D,E]) S =
  (zI (jf Try.prog false 30 L S) (fun U G => zI (wH Try.prog 30 H (dem U) G) (fun a R => some ([F,M,H,Value.int IntKind.i64 0,N,I,K,L,J,P,b,c,d,f,g,i,k,l,m,n,o,p,q,r,s,t,u,w,x,y,z,A,B,C,D,U], R)) ()) ()) := by
 kernel_rfl
theorem wE.rs : type_of% (And.intro @wE.r0 (And.intro @wE.r1 (And.intro @wE.r2 (And.intro @wE.r3 (And.intro @wE.r4 (And.intro @wE.r5 (And.intro @wE.r6 (@wE.r7)))))))) := And.intro @wE.r0 (And.intro @wE.r1 (And.intro @wE.r2 (And.intro @wE.r3 (And.intro @wE.r4 (And.intro @wE.r5 (And.intro @wE.r6 (@wE.r7)))))))
theorem wE.runs {F : Value} {S G : zk} {e : AEx} {T : List Value} (h : zF Try.prog O false wE.code ([F,undef,undef,undef,undef,undef,undef,undef,undef,undef,undef,undef,undef,undef,undef,undef,undef,undef,undef,undef,undef,undef,undef,undef,undef,undef,undef,undef,undef,undef,undef,undef,undef,undef,undef,undef]) zk.empty = some (e, T, G)) (he : e = .normal ∨ e = .ret) {w0 : Value} (c0 : jf Try.prog false 30 (T.getD 2 undef) G = some (w0, G)) (h0 : jW (w0) = true) (h1 : jW (T.getD 3 undef) = true) (hca : [F].all (jH 16) = true) (hcv : jH 16 (Value.tuple #[w0, T.getD 3 undef]) = true) : jc Try.prog O 10 [F] S = some (Value.tuple #[w0, T.getD 3 undef], S) :=
 yh rfl rfl Try.func10 (by decide) wE.body (by exact h) he ((yP ((show zO Try.prog T G Try.f10.results.toList = zO Try.prog T G [(ResultVar.cell 2 30), (ResultVar.tmp 3)] from by kernel_rfl).trans (by simp only [zO, c0])) (by kernel_rfl) (by simp only [List.all_cons, List.all_nil, h0, h1, Bool.and_true])).trans rfl) hca hcv
end Go.Proofs.Ytbgcphbbchndkaa
namespace Go.Proofs.Ytbgcphbbchndkaa
open Go.Abs
abbrev zu.id : FuncId := 11
noncomputable def zu.code : Code := (Code.seq (Code.region 0 (reg Try.f11 0) false) (Code.seq (Code.region 1 (reg Try.f11 1) false) (Code.seq (Code.seq (Code.region 2 (reg Try.f11 2) false) (Code.cond (Operand.tmp 20) (Code.seq (Code.region 3 (reg Try.f11 3) false) Code.ret) Code.skip)) (Code.seq (Code.region 4 (reg Try.f11 4) false) (Code.seq (Code.seq (Code.region 5 (reg Try.f11 5) false) (Code.cond (Operand.tmp 29) (Code.seq (Code.region 6 (reg Try.f11 6) false) Code.ret) Code.skip)) (Code.seq (Code.region 7 (reg Try.f11 7) true) (Code.seq (Code.seq (Code.region 8 (reg Try.f11 8) false) (Code.cond (Operand.tmp 52) (Code.region 9 (reg Try.f11 9) false) Code.skip)) (Code.seq (Code.seq (Code.region 10 (reg Try.f11 10) false) (Code.cond (Operand.tmp 61) (Code.region 11 (reg Try.f11 11) false) Code.skip)) (Code.seq (Code.region 12 (reg Try.f11 12) false) (Code.seq (Code.seq (Code.region 13 (reg Try.f11 13) false) (Code.cond (Operand.tmp 81) (Code.seq (Code.region 14 (reg Try.f11 14) false) Code.ret) Code.skip)) (Code.seq (Code.region 15 (reg Try.f11 15) false) Code.ret)))))))))))
theorem zu.body : Try.f11.body = some zu.code := by kernel_rfl
variable (x0 x1 x2 x3 x4 x5 x6 c x8 x9 b f d g i k l m n o p q r s t u w x y z A B C D E F G H I J K L M N P Q R U V W X Y Z a0 a1 a2 a3 a4 a5 a6 a7 a8 a9 b0 b1 b2 b3 b4 b5 b6 b7 b8 b9 c1 c2 c3 c4 c5 c6 c7 c8 c9 d0 d1 : Value) (S : zk)
theorem zu.r0  : jC Try.prog ⟨false, false, false⟩ (jc Try.prog O) (reg Try.f11 0) (reg Try.f11 0).toList ([x0,x1,x2,x3,x4,x5,x6,c,x8,x9,b,f,d,g,i,k,l,m,n,o,p,q,r,s,t,u,w,x,y,z,A,B,C,D,E,F,G,H,I,J,K,L,M,N,P,Q,R,U,V,W,X,Y,Z,a0,a1,a2,a3,a4,a5,a6,a7,a8,a9,b0,b1,b2,b3,b4,b5,b6,b7,b8,b9,c1,c2,c3,c4,c5,c6,c7,c8,c9,d0,d1]) S =
  (zI (yF Try.prog 30 S) (fun v0 S1 => some ([x0,x1,v0,Value.int IntKind.i64 0,x4,x5,x6,c,x8,x9,b,f,d,g,i,k,l,m,n,o,p,q,r,s,t,u,w,x,y,z,A,B,C,D,E,F,G,H,I,J,K,L,M,N,P,Q,R,U,V,W,X,Y,Z,a0,a1,a2,a3,a4,a5,a6,a7,a8,a9,b0,b1,b2,b3,b4,b5,b6,b7,b8,b9,c1,c2,c3,c4,c5,c6,c7,c8,c9,d0,d1], S1)) ()) := by
 kernel_rfl
theorem zu.r1  : jC Try.prog ⟨false, false, false⟩ (jc Try.prog O) (reg Try.f11 1) (reg Try.f11 1).toList ([x0,x1,x2,x3,x4,x5,x6,c,x8,x9,b,f,d,g,i,k,l,m,n,o,p,q,r,s,t,u,w,x,y,z,A,B,C,D,E,F,G,H,I,J,K,L,M,N,P,Q,R,U,V,W,X,Y,Z,a0,a1,a2,a3,a4,a5,a6,a7,a8,a9,b0,b1,b2,b3,b4,b5,b6,b7,b8,b9,c1,c2,c3,c4,c5,c6,c7,c8,c9,d0,d1]) S =
  (zI ((jc Try.prog O) 16 [(dem (dem x0))] S) (fun a S1 => zI (zU a 0 S1) (fun v3 S2 => zI (zU (zS 0 a) 1 S2) (fun v4 S3 => zI (zU (zS 1 (zS 0 a)) 2 S3) (fun v5 S4 => some ([x0,x1,x2,x3,v3,v4,v5,c,x8,x9,b,f,d,zS 2 (zS 1 (zS 0 a)),dem x0,dem a,dem v3,dem v4,dem v5,o,p,q,r,s,t,u,w,x,y,z,A,B,C,D,E,F,G,H,I,J,K,L,M,N,P,Q,R,U,V,W,X,Y,Z,a0,a1,a2,a3,a4,a5,a6,a7,a8,a9,b0,b1,b2,b3,b4,b5,b6,b7,b8,b9,c1,c2,c3,c4,c5,c6,c7,c8,c9,d0,d1], S4)) ()) ()) ()) ()) := by
 kernel_rfl
theorem zu.r2  : jC Try.prog ⟨false, false, false⟩ (jc Try.prog O) (reg Try.f11 2) (reg Try.f11 2).toList ([x0,x1,x2,x3,x4,x5,x6,c,x8,x9,b,f,d,g,i,k,l,m,n,o,p,q,r,s,t,u,w,x,y,z,A,B,C,D,E,F,G,H,I,J,K,L,M,N,P,Q,R,U,V,W,X,Y,Z,a0,a1,a2,a3,a4,a5,a6,a7,a8,a9,b0,b1,b2,b3,b4,b5,b6,b7,b8,b9,c1,c2,c3,c4,c5,c6,c7,c8,c9,d0,d1]) S =
  (zI (wu Try.prog BinOp.neq 3 (dem x6) (Value.int IntKind.i64 0) S) (fun a S1 => some ([x0,x1,x2,x3,x4,x5,x6,c,x8,x9,b,f,d,g,i,k,l,m,n,dem x6,a,q,r,s,t,u,w,x,y,z,A,B,C,D,E,F,G,H,I,J,K,L,M,N,P,Q,R,U,V,W,X,Y,Z,a0,a1,a2,a3,a4,a5,a6,a7,a8,a9,b0,b1,b2,b3,b4,b5,b6,b7,b8,b9,c1,c2,c3,c4,c5,c6,c7,c8,c9,d0,d1], S1)) ()) := by
 kernel_rfl
theorem zu.r3  : jC Try.prog ⟨false, false, false⟩ (jc Try.prog O) (reg Try.f11 3) (reg Try.f11 3).toList ([x0,x1,x2,x3,x4,x5,x6,c,x8,x9,b,f,d,g,i,k,l,m,n,o,p,q,r,s,t,u,w,x,y,z,A,B,C,D,E,F,G,H,I,J,K,L,M,N,P,Q,R,U,V,W,X,Y,Z,a0,a1,a2,a3,a4,a5,a6,a7,a8,a9,b0,b1,b2,b3,b4,b5,b6,b7,b8,b9,c1,c2,c3,c4,c5,c6,c7,c8,c9,d0,d1]) S =
  (zI (yJ Try.prog 30 [] S) (fun v0 S1 => zI (wH Try.prog 30 x2 (dem v0) S1) (fun a S2 => some ([x0,x1,x2,Value.int IntKind.i64 121,x4,x5,x6,c,x8,x9,b,f,d,g,i,k,l,m,n,o,p,v0,r,s,t,u,w,x,y,z,A,B,C,D,E,F,G,H,I,J,K,L,M,N,P,Q,R,U,V,W,X,Y,Z,a0,a1,a2,a3,a4,a5,a6,a7,a8,a9,b0,b1,b2,b3,b4,b5,b6,b7,b8,b9,c1,c2,c3,c4,c5,c6,c7,c8,c9,d0,d1], S2)) ()) ()) := by
 kernel_rfl
theorem zu.r4  : jC Try.prog ⟨false, false, false⟩ (jc Try.prog O) (reg Try.f11 4) (reg Try.f11 4).toList ([x0,x1,x2,x3,x4,x5,x6,c,x8,x9,b,f,d,g,i,k,l,m,n,o,p,q,r,s,t,u,w,x,y,z,A,B,C,D,E,F,G,H,I,J,K,L,M,N,P,Q,R,U,V,W,X,Y,Z,a0,a1,a2,a3,a4,a5,a6,a7,a8,a9,b0,b1,b2,b3,b4,b5,b6,b7,b8,b9,c1,c2,c3,c4,c5,c6,c7,c8,c9,d0,d1]) S =
  (zI ((jc Try.prog O) 28 [(dem (dem x5)), (Value.int IntKind.i64 6)] S) (fun a S1 => zI (zU a 0 S1) (fun v3 S2 => zI (zU (zS 0 a) 1 S2) (fun v4 S3 => zI (zU (zS 1 (zS 0 a)) 2 S3) (fun v5 S4 => some ([x0,x1,x2,x3,x4,x5,x6,v3,v4,v5,b,f,d,g,i,k,l,m,n,o,p,q,zS 2 (zS 1 (zS 0 a)),dem x5,dem a,dem v3,dem v4,dem v5,y,z,A,B,C,D,E,F,G,H,I,J,K,L,M,N,P,Q,R,U,V,W,X,Y,Z,a0,a1,a2,a3,a4,a5,a6,a7,a8,a9,b0,b1,b2,b3,b4,b5,b6,b7,b8,b9,c1,c2,c3,c4,c5,c6,c7,c8,c9,d0,d1], S4)) ()) ()) ()) ()) := by
 kernel_rfl
theorem zu.r5  : jC Try.prog ⟨false, false, false⟩ (jc Try.prog O) (reg Try.f11 5) (reg Try.f11 5).toList ([x0,x1,x2,x3,x4,x5,x6,c,x8,x9,b,f,d,g,i,k,l,m,n,o,p,q,r,s,t,u,w,x,y,z,A,B,C,D,E,F,G,H,I,J,K,L,M,N,P,Q,R,U,V,W,X,Y,Z,a0,a1,a2,a3,a4,a5,a6,a7,a8,a9,b0,b1,b2,b3,b4,b5,b6,b7,b8,b9,c1,c2,c3,c4,c5,c6,c7,c8,c9,d0,d1]) S =
  (zI (wu Try.prog BinOp.neq 3 (dem x9) (Value.int IntKind.i64 0) S) (fun a S1 => some ([x0,x1,x2,x3,x4,x5,x6,c,x8,x9,b,f,d,g,i,k,l,m,n,o,p,q,r,s,t,u,w,x,dem x9,a,A,B,C,D,E,F,G,H,I,J,K,L,M,N,P,Q,R,U,V,W,X,Y,Z,a0,a1,a2,a3,a4,a5,a6,a7,a8,a9,b0,b1,b2,b3,b4,b5,b6,b7,b8,b9,c1,c2,c3,c4,c5,c6,c7,c8,c9,d0,d1], S1)) ()) := by
 kernel_rfl
theorem zu.r6  : jC Try.prog ⟨false, false, false⟩ (jc Try.prog O) (reg Try.f11 6) (reg Try.f11 6).toList ([x0,x1,x2,x3,x4,x5,x6,c,x8,x9,b,f,d,g,i,k,l,m,n,o,p,q,r,s,t,u,w,x,y,z,A,B,C,D,E,F,G,H,I,J,K,L,M,N,P,Q,R,U,V,W,X,Y,Z,a0,a1,a2,a3,a4,a5,a6,a7,a8,a9,b0,b1,b2,b3,b4,b5,b6,b7,b8,b9,c1,c2,c3,c4,c5,c6,c7,c8,c9,d0,d1]) S =
  (zI (yJ Try.prog 30 [] S) (fun v0 S1 => zI (wH Try.prog 30 x2 (dem v0) S1) (fun a S2 => some ([x0,x1,x2,Value.int IntKind.i64 121,x4,x5,x6,c,x8,x9,b,f,d,g,i,k,l,m,n,o,p,q,r,s,t,u,w,x,y,z,v0,B,C,D,E,F,G,H,I,J,K,L,M,N,P,Q,R,U,V,W,X,Y,Z,a0,a1,a2,a3,a4,a5,a6,a7,a8,a9,b0,b1,b2,b3,b4,b5,b6,b7,b8,b9,c1,c2,c3,c4,c5,c6,c7,c8,c9,d0,d1], S2)) ()) ()) := by
 kernel_rfl
theorem zu.d7 : qW Try.prog (reg Try.f11 7) = true := by kernel_rfl
theorem zu.ff7 : fixed Try.prog (reg Try.f11 7) = false := by kernel_rfl
theorem zu.k7 : checked Try.prog (reg Try.f11 7) = [0, 1, 2, 3, 4, 5, 6, 7, 8, 9, 10, 11, 12, 13, 14, 15, 16, 17, 18] := by kernel_rfl
theorem zu.g7 : again Try.prog (reg Try.f11 7) = [(2, 19), (5, 19), (8, 19), (11, 19), (14, 19), (17, 19)] := by kernel_rfl
theorem zu.r7  : zF Try.prog O false (.region 7 (reg Try.f11 7) true) ([x0,x1,x2,x3,x4,x5,x6,c,x8,x9,b,f,d,g,i,k,l,m,n,o,p,q,r,s,t,u,w,x,y,z,A,B,C,D,E,F,G,H,I,J,K,L,M,N,P,Q,R,U,V,W,X,Y,Z,a0,a1,a2,a3,a4,a5,a6,a7,a8,a9,b0,b1,b2,b3,b4,b5,b6,b7,b8,b9,c1,c2,c3,c4,c5,c6,c7,c8,c9,d0,d1]) S =
  Jm (okK c ( zI (jo Try.prog 57 (dem c) (Value.int IntKind.i64 0) S) (fun a S1 => okK a ( zI (jf Try.prog false 3 a S1) (fun v2 S2 => okK v2 ( okK c ( zI (jo Try.prog 57 (dem c) (Value.int IntKind.i64 1) S2) (fun v4 S3 => okK v4 ( zI (jf Try.prog false 3 v4 S3) (fun v5 S4 => okK v5 ( okK c ( zI (jo Try.prog 57 (dem c) (Value.int IntKind.i64 2) S4) (fun v7 S5 => okK v7 ( zI (jf Try.prog false 3 v7 S5) (fun v8 S6 => okK v8 ( okK c ( zI (jo Try.prog 57 (dem c) (Value.int IntKind.i64 3) S6) (fun d3 S7 => okK d3 ( zI (jf Try.prog false 3 d3 S7) (fun d6 S8 => okK d6 ( okK c ( zI (jo Try.prog 57 (dem c) (Value.int IntKind.i64 4) S8) (fun d4 S9 => okK d4 ( zI (jf Try.prog false 3 d4 S9) (fun d8 f3 => okK d8 ( okK c ( zI (jo Try.prog 57 (dem c) (Value.int IntKind.i64 5) f3) (fun d5 f1 => okK d5 ( zI (jf Try.prog false 3 d5 f1) (fun d9 f4 => okK d9 ( zI (yJ Try.prog 30 [(0, (dem v2)), (1, (dem v5)), (2, (dem v8)), (3, (dem d6)), (4, (dem d8)), (5, (dem d9))] f4) (fun f0 f5 => okK f0 ( zI (yF Try.prog 30 f5) (fun f2 d2 => zI (wH Try.prog 30 f2 (dem f0) d2) (fun f7 f6 => ckK (qB a S1 d2 && (qB v4 S3 d2 && (qB v7 S5 d2 && (qB d3 S7 d2 && (qB d4 S9 d2 && (qB d5 f1 d2 && (true))))))) (some ([x0,x1,x2,x3,x4,x5,x6,c,x8,x9,f2,f,d,g,i,k,l,m,n,o,p,q,r,s,t,u,w,x,y,z,A,dem c,a,v2,dem c,v4,v5,dem c,v7,v8,dem c,d3,d6,dem c,d4,d8,dem c,d5,d9,f0,X,Y,Z,a0,a1,a2,a3,a4,a5,a6,a7,a8,a9,b0,b1,b2,b3,b4,b5,b6,b7,b8,b9,c1,c2,c3,c4,c5,c6,c7,c8,c9,d0,d1], f6)) ()) ()) ()) ()) ()) ()) ()) ()) ()) ()) ()) ()) ()) ()) ()) ()) ()) ()) ()) ()) ()) ()) ()) ()) ()) ()) ()) ()) ()) ()) ()) ()) ()) ()) ()) := by
 rw [yO zu.d7 zu.ff7 zu.k7 zu.g7]
 refine congrArg Jm ?_
 refine uPC Try.f11 7 0 (v := c) (pe := undef) ?_
 refine uDC Try.f11 7 1 (pe := undef) (fun a S1 => ?_)
 refine uDC Try.f11 7 2 (pe := a) (fun v2 S2 => ?_)
 refine uPC Try.f11 7 3 (v := c) (pe := undef) ?_
 refine uDC Try.f11 7 4 (pe := undef) (fun v4 S3 => ?_)
 refine uDC Try.f11 7 5 (pe := v4) (fun v5 S4 => ?_)
 refine uPC Try.f11 7 6 (v := c) (pe := undef) ?_
 refine uDC Try.f11 7 7 (pe := undef) (fun v7 S5 => ?_)
 refine uDC Try.f11 7 8 (pe := v7) (fun v8 S6 => ?_)
 refine uPC Try.f11 7 9 (v := c) (pe := undef) ?_
 refine uDC Try.f11 7 10 (pe := undef) (fun d3 S7 => ?_)
 refine uDC Try.f11 7 11 (pe := d3) (fun d6 S8 => ?_)
 refine uPC Try.f11 7 12 (v := c) (pe := undef) ?_
 refine uDC Try.f11 7 13 (pe := undef) (fun d4 S9 => ?_)
 refine uDC Try.f11 7 14 (pe := d4) (fun d8 f3 => ?_)
 refine uPC Try.f11 7 15 (v := c) (pe := undef) ?_
 refine uDC Try.f11 7 16 (pe := undef) (fun d5 f1 => ?_)
 refine uDC Try.f11 7 17 (pe := d5) (fun d9 f4 => ?_)
 refine uDC Try.f11 7 18 (pe := undef) (fun f0 f5 => ?_)
 refine uD Try.f11 7 19 (pe := undef) (fun f2 d2 => ?_)
 refine uD Try.f11 7 20 (pe := undef) (fun f7 f6 => ?_)
 kernel_rfl
theorem zu.r8  : jC Try.prog ⟨false, false, false⟩ (jc Try.prog O) (reg Try.f11 8) (reg Try.f11 8).toList ([x0,x1,x2,x3,x4,x5,x6,c,x8,x9,b,f,d,g,i,k,l,m,n,o,p,q,r,s,t,u,w,x,y,z,A,B,C,D,E,F,G,H,I,J,K,L,M,N,P,Q,R,U,V,W,X,Y,Z,a0,a1,a2,a3,a4,a5,a6,a7,a8,a9,b0,b1,b2,b3,b4,b5,b6,b7,b8,b9,c1,c2,c3,c4,c5,c6,c7,c8,c9,d0,d1]) S =
  (zI (zy Try.prog 30 b 0 S) (fun v0 S1 => zI (jf Try.prog false 3 v0 S1) (fun a S2 => zI (wu Try.prog BinOp.eql 3 a (Value.int IntKind.i64 0) S2) (fun v2 S3 => some ([x0,x1,x2,x3,x4,x5,x6,c,x8,x9,b,f,d,g,i,k,l,m,n,o,p,q,r,s,t,u,w,x,y,z,A,B,C,D,E,F,G,H,I,J,K,L,M,N,P,Q,R,U,V,W,v0,a,v2,a0,a1,a2,a3,a4,a5,a6,a7,a8,a9,b0,b1,b2,b3,b4,b5,b6,b7,b8,b9,c1,c2,c3,c4,c5,c6,c7,c8,c9,d0,d1], S3)) ()) ()) ()) := by
 kernel_rfl
theorem zu.r9  : jC Try.prog ⟨false, false, false⟩ (jc Try.prog O) (reg Try.f11 9) (reg Try.f11 9).toList ([x0,x1,x2,x3,x4,x5,x6,c,x8,x9,b,f,d,g,i,k,l,m,n,o,p,q,r,s,t,u,w,x,y,z,A,B,C,D,E,F,G,H,I,J,K,L,M,N,P,Q,R,U,V,W,X,Y,Z,a0,a1,a2,a3,a4,a5,a6,a7,a8,a9,b0,b1,b2,b3,b4,b5,b6,b7,b8,b9,c1,c2,c3,c4,c5,c6,c7,c8,c9,d0,d1]) S =
  (zI ((jc Try.prog O) 29 [(dem (dem x8))] S) (fun a S1 => zI (zU a 0 S1) (fun v3 S2 => zI (zU (zS 0 a) 1 S2) (fun v4 S3 => zI (zy Try.prog 30 b 6 S3) (fun v5 S4 => zI (wH Try.prog 25 v5 (dem v3) S4) (fun v6 S5 => some ([x0,x1,x2,x3,x4,x5,x6,c,x8,x9,b,f,d,g,i,k,l,m,n,o,p,q,r,s,t,u,w,x,y,z,A,B,C,D,E,F,G,H,I,J,K,L,M,N,P,Q,R,U,V,W,X,Y,Z,zS 1 (zS 0 a),dem x8,dem a,v3,v4,v5,a6,a7,a8,a9,b0,b1,b2,b3,b4,b5,b6,b7,b8,b9,c1,c2,c3,c4,c5,c6,c7,c8,c9,d0,d1], S5)) ()) ()) ()) ()) ()) := by
 kernel_rfl
theorem zu.r10  : jC Try.prog ⟨false, false, false⟩ (jc Try.prog O) (reg Try.f11 10) (reg Try.f11 10).toList ([x0,x1,x2,x3,x4,x5,x6,c,x8,x9,b,f,d,g,i,k,l,m,n,o,p,q,r,s,t,u,w,x,y,z,A,B,C,D,E,F,G,H,I,J,K,L,M,N,P,Q,R,U,V,W,X,Y,Z,a0,a1,a2,a3,a4,a5,a6,a7,a8,a9,b0,b1,b2,b3,b4,b5,b6,b7,b8,b9,c1,c2,c3,c4,c5,c6,c7,c8,c9,d0,d1]) S =
  (zI (zy Try.prog 30 b 0 S) (fun v0 S1 => zI (jf Try.prog false 3 v0 S1) (fun a S2 => zI (wu Try.prog BinOp.eql 3 a (Value.int IntKind.i64 1) S2) (fun v2 S3 => some ([x0,x1,x2,x3,x4,x5,x6,c,x8,x9,b,f,d,g,i,k,l,m,n,o,p,q,r,s,t,u,w,x,y,z,A,B,C,D,E,F,G,H,I,J,K,L,M,N,P,Q,R,U,V,W,X,Y,Z,a0,a1,a2,a3,a4,a5,v0,a,v2,a9,b0,b1,b2,b3,b4,b5,b6,b7,b8,b9,c1,c2,c3,c4,c5,c6,c7,c8,c9,d0,d1], S3)) ()) ()) ()) := by
 kernel_rfl
theorem zu.r11  : jC Try.prog ⟨false, false, false⟩ (jc Try.prog O) (reg Try.f11 11) (reg Try.f11 11).toList ([x0,x1,x2,x3,x4,x5,x6,c,x8,x9,b,f,d,g,i,k,l,m,n,o,p,q,r,s,t,u,w,x,y,z,A,B,C,D,E,F,G,H,I,J,K,L,M,N,P,Q,R,U,V,W,X,Y,Z,a0,a1,a2,a3,a4,a5,a6,a7,a8,a9,b0,b1,b2,b3,b4,b5,b6,b7,b8,b9,c1,c2,c3,c4,c5,c6,c7,c8,c9,d0,d1]) S =
  (zI ((jc Try.prog O) 30 [(dem (dem x8))] S) (fun a S1 => zI (zU a 0 S1) (fun v3 S2 => zI (zU (zS 0 a) 1 S2) (fun v4 S3 => zI (zy Try.prog 30 b 7 S3) (fun v5 S4 => zI (wH Try.prog 28 v5 (dem v3) S4) (fun v6 S5 => some ([x0,x1,x2,x3,x4,x5,x6,c,x8,x9,b,f,d,g,i,k,l,m,n,o,p,q,r,s,t,u,w,x,y,z,A,B,C,D,E,F,G,H,I,J,K,L,M,N,P,Q,R,U,V,W,X,Y,Z,a0,a1,a2,a3,a4,a5,a6,a7,a8,zS 1 (zS 0 a),dem x8,dem a,v3,v4,v5,b5,b6,b7,b8,b9,c1,c2,c3,c4,c5,c6,c7,c8,c9,d0,d1], S5)) ()) ()) ()) ()) ()) := by
 kernel_rfl
theorem zu.r12  : jC Try.prog ⟨false, false, false⟩ (jc Try.prog O) (reg Try.f11 12) (reg Try.f11 12).toList ([x0,x1,x2,x3,x4,x5,x6,c,x8,x9,b,f,d,g,i,k,l,m,n,o,p,q,r,s,t,u,w,x,y,z,A,B,C,D,E,F,G,H,I,J,K,L,M,N,P,Q,R,U,V,W,X,Y,Z,a0,a1,a2,a3,a4,a5,a6,a7,a8,a9,b0,b1,b2,b3,b4,b5,b6,b7,b8,b9,c1,c2,c3,c4,c5,c6,c7,c8,c9,d0,d1]) S =
  (zI (jf Try.prog false 30 b S) (fun v0 S1 => zI ((jc Try.prog O) 18 [(dem v0)] S1) (fun a S2 => zI (zU a 0 S2) (fun v3 S3 => zI (zU (zS 0 a) 1 S3) (fun v4 S4 => some ([x0,x1,x2,x3,x4,x5,x6,c,x8,x9,b,v3,v4,g,i,k,l,m,n,o,p,q,r,s,t,u,w,x,y,z,A,B,C,D,E,F,G,H,I,J,K,L,M,N,P,Q,R,U,V,W,X,Y,Z,a0,a1,a2,a3,a4,a5,a6,a7,a8,a9,b0,b1,b2,b3,b4,zS 1 (zS 0 a),v0,dem a,dem v3,dem v4,c1,c2,c3,c4,c5,c6,c7,c8,c9,d0,d1], S4)) ()) ()) ()) ()) := by
 kernel_rfl
theorem zu.r13  : jC Try.prog ⟨false, false, false⟩ (jc Try.prog O) (reg Try.f11 13) (reg Try.f11 13).toList ([x0,x1,x2,x3,x4,x5,x6,c,x8,x9,b,f,d,g,i,k,l,m,n,o,p,q,r,s,t,u,w,x,y,z,A,B,C,D,E,F,G,H,I,J,K,L,M,N,P,Q,R,U,V,W,X,Y,Z,a0,a1,a2,a3,a4,a5,a6,a7,a8,a9,b0,b1,b2,b3,b4,b5,b6,b7,b8,b9,c1,c2,c3,c4,c5,c6,c7,c8,c9,d0,d1]) S =
  (zI (wu Try.prog BinOp.neq 3 (dem d) (Value.int IntKind.i64 0) S) (fun a S1 => gdK (dem a) false (ret f) S1 (fun v3 S2 => gdK (dem a) false (qI Try.prog false false 23 9 (dem v3)) S2 (fun v4 S3 => gdK (dem a) false (ret x0) S3 (fun v5 S4 => gdK (dem a) false (qI Try.prog false false 23 9 (dem v5)) S4 (fun v6 S5 => gdK (dem a) false (wu Try.prog BinOp.neq 9 v4 v6) S5 (fun v7 S6 => zI (wJ (dem a) (Value.bool true) v7 S6) (fun v8 S7 => some ([x0,x1,x2,x3,x4,x5,x6,c,x8,x9,b,f,d,g,i,k,l,m,n,o,p,q,r,s,t,u,w,x,y,z,A,B,C,D,E,F,G,H,I,J,K,L,M,N,P,Q,R,U,V,W,X,Y,Z,a0,a1,a2,a3,a4,a5,a6,a7,a8,a9,b0,b1,b2,b3,b4,b5,b6,b7,b8,b9,dem d,a,dem a,dem v3,v4,dem v5,v6,v7,v8,d0,d1], S7)) ()) ()) ()) ()) ()) ()) ()) := by
 refine sP Try.f11 13 0 (v := d) ?_
 refine sD Try.f11 13 1 (fun a S1 => ?_)
 refine sP Try.f11 13 2 (v := a) ?_
 refine sG Try.f11 13 3 (j := 2) (fun v3 S2 => ?_)
 refine sG Try.f11 13 4 (j := 2) (fun v4 S3 => ?_)
 refine sG Try.f11 13 5 (j := 2) (fun v5 S4 => ?_)
 refine sG Try.f11 13 6 (j := 2) (fun v6 S5 => ?_)
 refine sG Try.f11 13 7 (j := 2) (fun v7 S6 => ?_)
 refine sD Try.f11 13 8 (fun v8 S7 => ?_)
 kernel_rfl
theorem zu.r14  : jC Try.prog ⟨false, false, false⟩ (jc Try.prog O) (reg Try.f11 14) (reg Try.f11 14).toList ([x0,x1,x2,x3,x4,x5,x6,c,x8,x9,b,f,d,g,i,k,l,m,n,o,p,q,r,s,t,u,w,x,y,z,A,B,C,D,E,F,G,H,I,J,K,L,M,N,P,Q,R,U,V,W,X,Y,Z,a0,a1,a2,a3,a4,a5,a6,a7,a8,a9,b0,b1,b2,b3,b4,b5,b6,b7,b8,b9,c1,c2,c3,c4,c5,c6,c7,c8,c9,d0,d1]) S =
  (zI (yJ Try.prog 30 [] S) (fun v0 S1 => zI (wH Try.prog 30 x2 (dem v0) S1) (fun a S2 => some ([x0,x1,x2,Value.int IntKind.i64 121,x4,x5,x6,c,x8,x9,b,f,d,g,i,k,l,m,n,o,p,q,r,s,t,u,w,x,y,z,A,B,C,D,E,F,G,H,I,J,K,L,M,N,P,Q,R,U,V,W,X,Y,Z,a0,a1,a2,a3,a4,a5,a6,a7,a8,a9,b0,b1,b2,b3,b4,b5,b6,b7,b8,b9,c1,c2,c3,c4,c5,c6,c7,c8,c9,v0,d1], S2)) ()) ()) := by
 kernel_rfl
theorem zu.r15  : jC Try.prog ⟨false, false, false⟩ (jc Try.prog O) (reg Try.f11 15) (reg Try.f11 15).toList ([x0,x1,x2,x3,x4,x5,x6,c,x8,x9,b,f,d,g,i,k,l,m,n,o,p,q,r,s,t,u,w,x,y,z,A,B,C,D,E,F,G,H,I,J,K,L,M,N,P,Q,R,U,V,W,X,Y,Z,a0,a1,a2,a3,a4,a5,a6,a7,a8,a9,b0,b1,b2,b3,b4,b5,b6,b7,b8,b9,c1,c2,c3,c4,c5,c6,c7,c8,c9,d0,d1]) S =
  (zI (jf Try.prog false 30 b S) (fun v0 S1 => zI (wH Try.prog 30 x2 (dem v0) S1) (fun a S2 => some ([x0,x1,x2,Value.int IntKind.i64 0,x4,x5,x6,c,x8,x9,b,f,d,g,i,k,l,m,n,o,p,q,r,s,t,u,w,x,y,z,A,B,C,D,E,F,G,H,I,J,K,L,M,N,P,Q,R,U,V,W,X,Y,Z,a0,a1,a2,a3,a4,a5,a6,a7,a8,a9,b0,b1,b2,b3,b4,b5,b6,b7,b8,b9,c1,c2,c3,c4,c5,c6,c7,c8,c9,d0,v0], S2)) ()) ()) := by
 kernel_rfl
theorem zu.rs : type_of% (And.intro @zu.r0 (And.intro @zu.r1 (And.intro @zu.r2 (And.intro @zu.r3 (And.intro @zu.r4 (And.intro @zu.r5 (And.intro @zu.r6 (And.intro @zu.r7 (And.intro @zu.r8 (And.intro @zu.r9 (And.intro @zu.r10 (And.intro @zu.r11 (And.intro @zu.r12 (And.intro @zu.r13 (And.intro @zu.r14 (@zu.r15)))))))))))))))) := And.intro @zu.r0 (And.intro @zu.r1 (And.intro @zu.r2 (And.intro @zu.r3 (And.intro @zu.r4 (And.intro @zu.r5 (And.intro @zu.r6 (And.intro @zu.r7 (And.intro @zu.r8 (And.intro @zu.r9 (And.intro @zu.r10 (And.intro @zu.r11 (And.intro @zu.r12 (And.intro @zu.r13 (And.intro @zu.r14 (@zu.r15)))))))))))))))
theorem zu.runs {x0 : Value} {S S1 : zk} {e : AEx} {T : List Value} (h : zF Try.prog O false zu.code ([x0,undef,undef,undef,undef,undef,undef,undef,undef,undef,undef,undef,undef,undef,undef,undef,undef,undef,undef,undef,undef,undef,undef,undef,undef,undef,undef,undef,undef,undef,undef,undef,undef,undef,undef,undef,undef,undef,undef,undef,undef,undef,undef,undef,undef,undef,undef,undef,undef,undef,undef,undef,undef,undef,undef,undef,undef,undef,undef,undef,undef,undef,undef,undef,undef,undef,undef,undef,undef,undef,undef,undef,undef,undef,undef,undef,undef,undef,undef,undef,undef,undef,undef,undef]) zk.empty = some (e, T, S1)) (he : e = .normal ∨ e = .ret) {w0 : Value} (c0 : jf Try.prog false 30 (T.getD 2 undef) S1 = some (w0, S1)) (h0 : jW (w0) = true) (h1 : jW (T.getD 3 undef) = true) (hca : [x0].all (jH 16) = true) (hcv : jH 16 (Value.tuple #[w0, T.getD 3 undef]) = true) : jc Try.prog O 11 [x0] S = some (Value.tuple #[w0, T.getD 3 undef], S) :=
 yh rfl rfl Try.func11 (by decide) zu.body (by exact h) he ((yP ((show zO Try.prog T S1 Try.f11.results.toList = zO Try.prog T S1 [(ResultVar.cell 2 30), (ResultVar.tmp 3)] from by kernel_rfl).trans (by simp only [zO, c0])) (by kernel_rfl) (by simp only [List.all_cons, List.all_nil, h0, h1, Bool.and_true])).trans rfl) hca hcv
end Go.Proofs.Ytbgcphbbchndkaa
namespace Go.Proofs.Ytbgcphbbchndkaa
open Go.Abs
abbrev ji.id : FuncId := 25
noncomputable def ji.code : Code := (Code.seq (Code.region 0 (reg Try.f25 0) false) (Code.seq (Code.region 1 (reg Try.f25 1) false) (Code.seq (Code.seq (Code.region 2 (reg Try.f25 2) false) (Code.cond (Operand.tmp 14) (Code.seq (Code.region 3 (reg Try.f25 3) false) Code.ret) Code.skip)) (Code.seq (Code.region 4 (reg Try.f25 4) true) (Code.seq (Code.seq (Code.region 5 (reg Try.f25 5) false) (Code.block 0 (Code.seq (Code.region 8 (reg Try.f25 8) false) (Code.cond (Operand.tmp 46) (Code.region 9 (reg Try.f25 9) false) (Code.seq (Code.region 10 (reg Try.f25 10) false) (Code.cond (Operand.tmp 54) (Code.region 11 (reg Try.f25 11) false) (Code.seq (Code.region 6 (reg Try.f25 6) false) (Code.seq (Code.region 7 (reg Try.f25 7) true) Code.ret)))))))) (Code.seq (Code.region 12 (reg Try.f25 12) true) Code.ret))))))
theorem ji.body : Try.f25.body = some ji.code := by kernel_rfl
variable (x0 x1 a x3 b x5 x6 x7 x8 x9 d f g i k l m n o p q r s t u w x y z A B C D E F G c H I J K L M N P Q R U V W X Y Z a0 a1 a2 a3 a4 a5 a6 a7 a8 a9 b0 b1 b2 b3 b4 b5 : Value) (S : zk)
theorem ji.r0  : jC Try.prog ⟨false, false, false⟩ (jc Try.prog O) (reg Try.f25 0) (reg Try.f25 0).toList ([x0,x1,a,x3,b,x5,x6,x7,x8,x9,d,f,g,i,k,l,m,n,o,p,q,r,s,t,u,w,x,y,z,A,B,C,D,E,F,G,c,H,I,J,K,L,M,N,P,Q,R,U,V,W,X,Y,Z,a0,a1,a2,a3,a4,a5,a6,a7,a8,a9,b0,b1,b2,b3,b4,b5]) S =
  (zI (yF Try.prog 30 S) (fun v0 S1 => some ([x0,x1,v0,Value.bool false,b,x5,x6,x7,x8,x9,d,f,g,i,k,l,m,n,o,p,q,r,s,t,u,w,x,y,z,A,B,C,D,E,F,G,c,H,I,J,K,L,M,N,P,Q,R,U,V,W,X,Y,Z,a0,a1,a2,a3,a4,a5,a6,a7,a8,a9,b0,b1,b2,b3,b4,b5], S1)) ()) := by
 kernel_rfl
theorem ji.r1  : jC Try.prog ⟨false, false, false⟩ (jc Try.prog O) (reg Try.f25 1) (reg Try.f25 1).toList ([x0,x1,a,x3,b,x5,x6,x7,x8,x9,d,f,g,i,k,l,m,n,o,p,q,r,s,t,u,w,x,y,z,A,B,C,D,E,F,G,c,H,I,J,K,L,M,N,P,Q,R,U,V,W,X,Y,Z,a0,a1,a2,a3,a4,a5,a6,a7,a8,a9,b0,b1,b2,b3,b4,b5]) S =
  (zI ((jc Try.prog O) 51 [(dem (dem x0)), (Value.int IntKind.i64 6)] S) (fun v1 S1 => zI (zU v1 0 S1) (fun v3 S2 => zI (zU (zS 0 v1) 1 S2) (fun v4 S3 => zI (zU (zS 1 (zS 0 v1)) 2 S3) (fun v5 S4 => some ([x0,x1,a,x3,v3,v4,v5,zS 2 (zS 1 (zS 0 v1)),dem x0,dem v1,dem v3,dem v4,dem v5,i,k,l,m,n,o,p,q,r,s,t,u,w,x,y,z,A,B,C,D,E,F,G,c,H,I,J,K,L,M,N,P,Q,R,U,V,W,X,Y,Z,a0,a1,a2,a3,a4,a5,a6,a7,a8,a9,b0,b1,b2,b3,b4,b5], S4)) ()) ()) ()) ()) := by
 kernel_rfl
theorem ji.r2  : jC Try.prog ⟨false, false, false⟩ (jc Try.prog O) (reg Try.f25 2) (reg Try.f25 2).toList ([x0,x1,a,x3,b,x5,x6,x7,x8,x9,d,f,g,i,k,l,m,n,o,p,q,r,s,t,u,w,x,y,z,A,B,C,D,E,F,G,c,H,I,J,K,L,M,N,P,Q,R,U,V,W,X,Y,Z,a0,a1,a2,a3,a4,a5,a6,a7,a8,a9,b0,b1,b2,b3,b4,b5]) S =
  (zI (wu Try.prog BinOp.neq 31 (dem x6) (Value.int IntKind.i64 0) S) (fun v1 S1 => some ([x0,x1,a,x3,b,x5,x6,x7,x8,x9,d,f,g,dem x6,v1,l,m,n,o,p,q,r,s,t,u,w,x,y,z,A,B,C,D,E,F,G,c,H,I,J,K,L,M,N,P,Q,R,U,V,W,X,Y,Z,a0,a1,a2,a3,a4,a5,a6,a7,a8,a9,b0,b1,b2,b3,b4,b5], S1)) ()) := by
 kernel_rfl
theorem ji.r3  : jC Try.prog ⟨false, false, false⟩ (jc Try.prog O) (reg Try.f25 3) (reg Try.f25 3).toList ([x0,x1,a,x3,b,x5,x6,x7,x8,x9,d,f,g,i,k,l,m,n,o,p,q,r,s,t,u,w,x,y,z,A,B,C,D,E,F,G,c,H,I,J,K,L,M,N,P,Q,R,U,V,W,X,Y,Z,a0,a1,a2,a3,a4,a5,a6,a7,a8,a9,b0,b1,b2,b3,b4,b5]) S =
  (zI (jf Try.prog false 30 a S) (fun v0 S1 => zI (wH Try.prog 30 a (dem v0) S1) (fun v1 S2 => some ([x0,x1,a,Value.bool false,b,x5,x6,x7,x8,x9,d,f,g,i,k,v0,m,n,o,p,q,r,s,t,u,w,x,y,z,A,B,C,D,E,F,G,c,H,I,J,K,L,M,N,P,Q,R,U,V,W,X,Y,Z,a0,a1,a2,a3,a4,a5,a6,a7,a8,a9,b0,b1,b2,b3,b4,b5], S2)) ()) ()) := by
 kernel_rfl
theorem ji.d4 : qW Try.prog (reg Try.f25 4) = true := by kernel_rfl
theorem ji.ff4 : fixed Try.prog (reg Try.f25 4) = false := by kernel_rfl
theorem ji.k4 : checked Try.prog (reg Try.f25 4) = [] := by kernel_rfl
theorem ji.g4 : again Try.prog (reg Try.f25 4) = [] := by kernel_rfl
theorem ji.r4  : zF Try.prog O false (.region 4 (reg Try.f25 4) true) ([x0,x1,a,x3,b,x5,x6,x7,x8,x9,d,f,g,i,k,l,m,n,o,p,q,r,s,t,u,w,x,y,z,A,B,C,D,E,F,G,c,H,I,J,K,L,M,N,P,Q,R,U,V,W,X,Y,Z,a0,a1,a2,a3,a4,a5,a6,a7,a8,a9,b0,b1,b2,b3,b4,b5]) S =
  Jm (zI (jo Try.prog 57 (dem b) (Value.int IntKind.i64 0) S) (fun v1 S1 => zI (jf Try.prog false 3 v1 S1) (fun v2 S2 => zI (jo Try.prog 57 (dem b) (Value.int IntKind.i64 1) S2) (fun v4 S3 => zI (jf Try.prog false 3 v4 S3) (fun v5 S4 => zI (jo Try.prog 57 (dem b) (Value.int IntKind.i64 2) S4) (fun v7 S5 => zI (jf Try.prog false 3 v7 S5) (fun v8 S6 => zI (jo Try.prog 57 (dem b) (Value.int IntKind.i64 3) S6) (fun b6 S7 => zI (jf Try.prog false 3 b6 S7) (fun b7 S8 => zI (jo Try.prog 57 (dem b) (Value.int IntKind.i64 4) S8) (fun b8 S9 => zI (jf Try.prog false 3 b8 S9) (fun b9 c4 => zI (jo Try.prog 57 (dem b) (Value.int IntKind.i64 5) c4) (fun c1 c5 => zI (jf Try.prog false 3 c1 c5) (fun c2 c6 => zI (yJ Try.prog 30 [(0, (dem v2)), (1, (dem v5)), (2, (dem v8)), (3, (dem b7)), (4, (dem b9)), (5, (dem c2))] c6) (fun c3 c7 => zI (wH Try.prog 30 a (dem c3) c7) (fun c9 c8 => some ([x0,x1,a,x3,b,x5,x6,x7,x8,x9,d,f,g,i,k,l,dem b,v1,v2,dem b,v4,v5,dem b,v7,v8,dem b,b6,b7,dem b,b8,b9,dem b,c1,c2,c3,G,c,H,I,J,K,L,M,N,P,Q,R,U,V,W,X,Y,Z,a0,a1,a2,a3,a4,a5,a6,a7,a8,a9,b0,b1,b2,b3,b4,b5], c8)) ()) ()) ()) ()) ()) ()) ()) ()) ()) ()) ()) ()) ()) ()) := by
 rw [yO ji.d4 ji.ff4 ji.k4 ji.g4]
 refine congrArg Jm ?_
 refine tP Try.f25 4 0 (v := b) ?_
 refine tD Try.f25 4 1 (fun v1 S1 => ?_)
 refine tD Try.f25 4 2 (fun v2 S2 => ?_)
 refine tP Try.f25 4 3 (v := b) ?_
 refine tD Try.f25 4 4 (fun v4 S3 => ?_)
 refine tD Try.f25 4 5 (fun v5 S4 => ?_)
 refine tP Try.f25 4 6 (v := b) ?_
 refine tD Try.f25 4 7 (fun v7 S5 => ?_)
 refine tD Try.f25 4 8 (fun v8 S6 => ?_)
 refine tP Try.f25 4 9 (v := b) ?_
 refine tD Try.f25 4 10 (fun b6 S7 => ?_)
 refine tD Try.f25 4 11 (fun b7 S8 => ?_)
 refine tP Try.f25 4 12 (v := b) ?_
 refine tD Try.f25 4 13 (fun b8 S9 => ?_)
 refine tD Try.f25 4 14 (fun b9 c4 => ?_)
 refine tP Try.f25 4 15 (v := b) ?_
 refine tD Try.f25 4 16 (fun c1 c5 => ?_)
 refine tD Try.f25 4 17 (fun c2 c6 => ?_)
 refine tD Try.f25 4 18 (fun c3 c7 => ?_)
 refine tD Try.f25 4 19 (fun c9 c8 => ?_)
 kernel_rfl
theorem ji.r5  : jC Try.prog ⟨false, false, false⟩ (jc Try.prog O) (reg Try.f25 5) (reg Try.f25 5).toList ([x0,x1,a,x3,b,x5,x6,x7,x8,x9,d,f,g,i,k,l,m,n,o,p,q,r,s,t,u,w,x,y,z,A,B,C,D,E,F,G,c,H,I,J,K,L,M,N,P,Q,R,U,V,W,X,Y,Z,a0,a1,a2,a3,a4,a5,a6,a7,a8,a9,b0,b1,b2,b3,b4,b5]) S =
  (zI (zy Try.prog 30 a 0 S) (fun v0 S1 => zI (jf Try.prog false 3 v0 S1) (fun v1 S2 => some ([x0,x1,a,x3,b,x5,x6,x7,x8,x9,d,f,g,i,k,l,m,n,o,p,q,r,s,t,u,w,x,y,z,A,B,C,D,E,F,v0,v1,H,I,J,K,L,M,N,P,Q,R,U,V,W,X,Y,Z,a0,a1,a2,a3,a4,a5,a6,a7,a8,a9,b0,b1,b2,b3,b4,b5], S2)) ()) ()) := by
 kernel_rfl
theorem ji.r8  : jC Try.prog ⟨false, false, false⟩ (jc Try.prog O) (reg Try.f25 8) (reg Try.f25 8).toList ([x0,x1,a,x3,b,x5,x6,x7,x8,x9,d,f,g,i,k,l,m,n,o,p,q,r,s,t,u,w,x,y,z,A,B,C,D,E,F,G,c,H,I,J,K,L,M,N,P,Q,R,U,V,W,X,Y,Z,a0,a1,a2,a3,a4,a5,a6,a7,a8,a9,b0,b1,b2,b3,b4,b5]) S =
  (zI (wu Try.prog BinOp.eql 3 c (Value.int IntKind.i64 0) S) (fun v0 S1 => some ([x0,x1,a,x3,b,x5,x6,x7,x8,x9,d,f,g,i,k,l,m,n,o,p,q,r,s,t,u,w,x,y,z,A,B,C,D,E,F,G,c,H,I,J,K,L,M,N,P,Q,v0,dem v0,V,W,X,Y,Z,a0,a1,a2,a3,a4,a5,a6,a7,a8,a9,b0,b1,b2,b3,b4,b5], S1)) ()) := by
 kernel_rfl
theorem ji.r9  : jC Try.prog ⟨false, false, false⟩ (jc Try.prog O) (reg Try.f25 9) (reg Try.f25 9).toList ([x0,x1,a,x3,b,x5,x6,x7,x8,x9,d,f,g,i,k,l,m,n,o,p,q,r,s,t,u,w,x,y,z,A,B,C,D,E,F,G,c,H,I,J,K,L,M,N,P,Q,R,U,V,W,X,Y,Z,a0,a1,a2,a3,a4,a5,a6,a7,a8,a9,b0,b1,b2,b3,b4,b5]) S =
  (zI ((jc Try.prog O) 52 [(dem (dem x5))] S) (fun v1 S1 => zI (zU v1 0 S1) (fun v3 S2 => zI (zU (zS 0 v1) 1 S2) (fun v4 S3 => zI (zy Try.prog 30 a 6 S3) (fun v5 S4 => zI (wH Try.prog 25 v5 (dem v3) S4) (fun v6 S5 => some ([x0,x1,a,x3,b,x5,v4,x7,x8,x9,d,f,g,i,k,l,m,n,o,p,q,r,s,t,u,w,x,y,z,A,B,C,D,E,F,G,c,H,I,J,K,L,M,N,P,Q,R,U,zS 1 (zS 0 v1),dem x5,dem v1,v3,dem v4,v5,a1,a2,a3,a4,a5,a6,a7,a8,a9,b0,b1,b2,b3,b4,b5], S5)) ()) ()) ()) ()) ()) := by
 kernel_rfl
theorem ji.r10  : jC Try.prog ⟨false, false, false⟩ (jc Try.prog O) (reg Try.f25 10) (reg Try.f25 10).toList ([x0,x1,a,x3,b,x5,x6,x7,x8,x9,d,f,g,i,k,l,m,n,o,p,q,r,s,t,u,w,x,y,z,A,B,C,D,E,F,G,c,H,I,J,K,L,M,N,P,Q,R,U,V,W,X,Y,Z,a0,a1,a2,a3,a4,a5,a6,a7,a8,a9,b0,b1,b2,b3,b4,b5]) S =
  (zI (wu Try.prog BinOp.eql 3 c (Value.int IntKind.i64 1) S) (fun v0 S1 => some ([x0,x1,a,x3,b,x5,x6,x7,x8,x9,d,f,g,i,k,l,m,n,o,p,q,r,s,t,u,w,x,y,z,A,B,C,D,E,F,G,c,H,I,J,K,L,M,N,P,Q,R,U,V,W,X,Y,Z,a0,v0,dem v0,a3,a4,a5,a6,a7,a8,a9,b0,b1,b2,b3,b4,b5], S1)) ()) := by
 kernel_rfl
theorem ji.r11  : jC Try.prog ⟨false, false, false⟩ (jc Try.prog O) (reg Try.f25 11) (reg Try.f25 11).toList ([x0,x1,a,x3,b,x5,x6,x7,x8,x9,d,f,g,i,k,l,m,n,o,p,q,r,s,t,u,w,x,y,z,A,B,C,D,E,F,G,c,H,I,J,K,L,M,N,P,Q,R,U,V,W,X,Y,Z,a0,a1,a2,a3,a4,a5,a6,a7,a8,a9,b0,b1,b2,b3,b4,b5]) S =
  (zI ((jc Try.prog O) 53 [(dem (dem x5))] S) (fun v1 S1 => zI (zU v1 0 S1) (fun v3 S2 => zI (zU (zS 0 v1) 1 S2) (fun v4 S3 => zI (zy Try.prog 30 a 7 S3) (fun v5 S4 => zI (wH Try.prog 28 v5 (dem v3) S4) (fun v6 S5 => some ([x0,x1,a,x3,b,x5,v4,x7,x8,x9,d,f,g,i,k,l,m,n,o,p,q,r,s,t,u,w,x,y,z,A,B,C,D,E,F,G,c,H,I,J,K,L,M,N,P,Q,R,U,V,W,X,Y,Z,a0,a1,a2,zS 1 (zS 0 v1),dem x5,dem v1,v3,dem v4,v5,a9,b0,b1,b2,b3,b4,b5], S5)) ()) ()) ()) ()) ()) := by
 kernel_rfl
theorem ji.r6  : jC Try.prog ⟨false, false, false⟩ (jc Try.prog O) (reg Try.f25 6) (reg Try.f25 6).toList ([x0,x1,a,x3,b,x5,x6,x7,x8,x9,d,f,g,i,k,l,m,n,o,p,q,r,s,t,u,w,x,y,z,A,B,C,D,E,F,G,c,H,I,J,K,L,M,N,P,Q,R,U,V,W,X,Y,Z,a0,a1,a2,a3,a4,a5,a6,a7,a8,a9,b0,b1,b2,b3,b4,b5]) S =
  (zI (Zz Try.prog 23 (dem x5) S) (fun v1 S1 => zI (wu Try.prog BinOp.eql 3 v1 (Value.int IntKind.i64 0) S1) (fun v2 S2 => some ([x0,x1,a,v2,b,x5,x6,x7,x8,x9,d,f,g,i,k,l,m,n,o,p,q,r,s,t,u,w,x,y,z,A,B,C,D,E,F,G,c,dem x5,v1,dem v2,K,L,M,N,P,Q,R,U,V,W,X,Y,Z,a0,a1,a2,a3,a4,a5,a6,a7,a8,a9,b0,b1,b2,b3,b4,b5], S2)) ()) ()) := by
 kernel_rfl
theorem ji.d7 : qW Try.prog (reg Try.f25 7) = true := by kernel_rfl
theorem ji.ff7 : fixed Try.prog (reg Try.f25 7) = false := by kernel_rfl
theorem ji.k7 : checked Try.prog (reg Try.f25 7) = [0, 5] := by kernel_rfl
theorem ji.g7 : again Try.prog (reg Try.f25 7) = [(0, 4)] := by kernel_rfl
theorem ji.r7  : zF Try.prog O false (.region 7 (reg Try.f25 7) true) ([x0,x1,a,x3,b,x5,x6,x7,x8,x9,d,f,g,i,k,l,m,n,o,p,q,r,s,t,u,w,x,y,z,A,B,C,D,E,F,G,c,H,I,J,K,L,M,N,P,Q,R,U,V,W,X,Y,Z,a0,a1,a2,a3,a4,a5,a6,a7,a8,a9,b0,b1,b2,b3,b4,b5]) S =
  Jm (zI (jf Try.prog false 30 a S) (fun v0 S1 => okK v0 ( gdK (dem x3) true (jf Try.prog false 30 a) S1 (fun v3 S2 => gdK (dem x3) true ((jc Try.prog O) 14 [(dem v3)]) S2 (fun v4 S3 => zI (wJ (dem x3) v4 (Value.bool false) S3) (fun v5 S4 => okK v5 ( zI (wH Try.prog 30 a (dem v0) S4) (fun v6 S5 => ckK (qB a S S3 && (true)) (some ([x0,x1,a,v5,b,x5,x6,x7,x8,x9,d,f,g,i,k,l,m,n,o,p,q,r,s,t,u,w,x,y,z,A,B,C,D,E,F,G,c,H,I,J,v0,x3,dem x3,v3,v4,dem v5,R,U,V,W,X,Y,Z,a0,a1,a2,a3,a4,a5,a6,a7,a8,a9,b0,b1,b2,b3,b4,b5], S5)) ()) ()) ()) ()) ()) ()) ()) ()) := by
 rw [yO ji.d7 ji.ff7 ji.k7 ji.g7]
 refine congrArg Jm ?_
 refine uDC Try.f25 7 0 (pe := a) (fun v0 S1 => ?_)
 refine uP Try.f25 7 1 (v := x3) (pe := undef) ?_
 refine uP Try.f25 7 2 (v := x3) (pe := undef) ?_
 refine uG Try.f25 7 3 (j := 2) (pe := a) (fun v3 S2 => ?_)
 refine uG Try.f25 7 4 (j := 2) (pe := undef) (fun v4 S3 => ?_)
 refine uDC Try.f25 7 5 (pe := undef) (fun v5 S4 => ?_)
 refine uD Try.f25 7 6 (pe := undef) (fun v6 S5 => ?_)
 refine uP Try.f25 7 7 (v := v5) (pe := undef) ?_
 kernel_rfl
theorem ji.d12 : qW Try.prog (reg Try.f25 12) = true := by kernel_rfl
theorem ji.ajR : fixed Try.prog (reg Try.f25 12) = false := by kernel_rfl
theorem ji.k12 : checked Try.prog (reg Try.f25 12) = [0, 6] := by kernel_rfl
theorem ji.g12 : again Try.prog (reg Try.f25 12) = [(0, 5)] := by kernel_rfl
theorem ji.r12  : zF Try.prog O false (.region 12 (reg Try.f25 12) true) ([x0,x1,a,x3,b,x5,x6,x7,x8,x9,d,f,g,i,k,l,m,n,o,p,q,r,s,t,u,w,x,y,z,A,B,C,D,E,F,G,c,H,I,J,K,L,M,N,P,Q,R,U,V,W,X,Y,Z,a0,a1,a2,a3,a4,a5,a6,a7,a8,a9,b0,b1,b2,b3,b4,b5]) S =
  Jm (zI (jf Try.prog false 30 a S) (fun v0 S1 => okK v0 ( zI (wu Try.prog BinOp.eql 31 (dem x6) (Value.int IntKind.i64 0) S1) (fun v2 S2 => gdK (dem v2) true (jf Try.prog false 30 a) S2 (fun v4 S3 => gdK (dem v2) true ((jc Try.prog O) 14 [(dem v4)]) S3 (fun v5 S4 => zI (wJ (dem v2) v5 (Value.bool false) S4) (fun v6 S5 => okK v6 ( zI (wH Try.prog 30 a (dem v0) S5) (fun v7 S6 => ckK (qB a S S4 && (true)) (some ([x0,x1,a,v6,b,x5,x6,x7,x8,x9,d,f,g,i,k,l,m,n,o,p,q,r,s,t,u,w,x,y,z,A,B,C,D,E,F,G,c,H,I,J,K,L,M,N,P,Q,R,U,V,W,X,Y,Z,a0,a1,a2,a3,a4,a5,a6,a7,a8,v0,dem x6,v2,dem v2,v4,v5,dem v6], S6)) ()) ()) ()) ()) ()) ()) ()) ()) ()) := by
 rw [yO ji.d12 ji.ajR ji.k12 ji.g12]
 refine congrArg Jm ?_
 refine uDC Try.f25 12 0 (pe := a) (fun v0 S1 => ?_)
 refine uP Try.f25 12 1 (v := x6) (pe := undef) ?_
 refine uD Try.f25 12 2 (pe := undef) (fun v2 S2 => ?_)
 refine uP Try.f25 12 3 (v := v2) (pe := undef) ?_
 refine uG Try.f25 12 4 (j := 3) (pe := a) (fun v4 S3 => ?_)
 refine uG Try.f25 12 5 (j := 3) (pe := undef) (fun v5 S4 => ?_)
 refine uDC Try.f25 12 6 (pe := undef) (fun v6 S5 => ?_)
 refine uD Try.f25 12 7 (pe := undef) (fun v7 S6 => ?_)
 refine uP Try.f25 12 8 (v := v6) (pe := undef) ?_
 kernel_rfl
theorem ji.rs : type_of% (And.intro @ji.r0 (And.intro @ji.r1 (And.intro @ji.r2 (And.intro @ji.r3 (And.intro @ji.r4 (And.intro @ji.r5 (And.intro @ji.r8 (And.intro @ji.r9 (And.intro @ji.r10 (And.intro @ji.r11 (And.intro @ji.r6 (And.intro @ji.r7 (@ji.r12))))))))))))) := And.intro @ji.r0 (And.intro @ji.r1 (And.intro @ji.r2 (And.intro @ji.r3 (And.intro @ji.r4 (And.intro @ji.r5 (And.intro @ji.r8 (And.intro @ji.r9 (And.intro @ji.r10 (And.intro @ji.r11 (And.intro @ji.r6 (And.intro @ji.r7 (@ji.r12))))))))))))
theorem ji.runs {x0 : Value} {S S1 : zk} {e : AEx} {T : List Value} (h : zF Try.prog O false ji.code ([x0,undef,undef,undef,undef,undef,undef,undef,undef,undef,undef,undef,undef,undef,undef,undef,undef,undef,undef,undef,undef,undef,undef,undef,undef,undef,undef,undef,undef,undef,undef,undef,undef,undef,undef,undef,undef,undef,undef,undef,undef,undef,undef,undef,undef,undef,undef,undef,undef,undef,undef,undef,undef,undef,undef,undef,undef,undef,undef,undef,undef,undef,undef,undef,undef,undef,undef,undef,undef]) zk.empty = some (e, T, S1)) (he : e = .normal ∨ e = .ret) {w0 : Value} (c0 : jf Try.prog false 30 (T.getD 2 undef) S1 = some (w0, S1)) (h0 : jW (w0) = true) (h1 : jW (T.getD 3 undef) = true) (hca : [x0].all (jH 16) = true) (hcv : jH 16 (Value.tuple #[w0, T.getD 3 undef]) = true) : jc Try.prog O 25 [x0] S = some (Value.tuple #[w0, T.getD 3 undef], S) :=
 yh rfl rfl Try.func25 (by decide) ji.body (by exact h) he ((yP ((show zO Try.prog T S1 Try.f25.results.toList = zO Try.prog T S1 [(ResultVar.cell 2 30), (ResultVar.tmp 3)] from by kernel_rfl).trans (by simp only [zO, c0])) (by kernel_rfl) (by simp only [List.all_cons, List.all_nil, h0, h1, Bool.and_true])).trans rfl) hca hcv
end Go.Proofs.Ytbgcphbbchndkaa
namespace Go.Proofs.Ytbgcphbbchndkaa
open Go.Abs
abbrev zH.id : FuncId := 18
noncomputable def zH.code : Code := (Code.seq (Code.region 0 (reg Try.f18 0) false) (Code.seq (Code.seq (Code.region 1 (reg Try.f18 1) false) (Code.cond (Operand.tmp 12) (Code.seq (Code.region 2 (reg Try.f18 2) false) Code.ret) Code.skip)) (Code.seq (Code.region 3 (reg Try.f18 3) false) (Code.seq (Code.seq (Code.region 4 (reg Try.f18 4) false) (Code.cond (Operand.tmp 32) (Code.seq (Code.region 5 (reg Try.f18 5) false) (Code.region 6 (reg Try.f18 6) false)) Code.skip)) (Code.seq (Code.seq (Code.region 7 (reg Try.f18 7) false) (Code.cond (Operand.tmp 44) (Code.seq (Code.region 8 (reg Try.f18 8) false) (Code.region 9 (reg Try.f18 9) false)) Code.skip)) (Code.seq (Code.region 10 (reg Try.f18 10) false) Code.ret))))))
theorem zH.body : Try.f18.body = some zH.code := by kernel_rfl
variable (x0 a x2 x3 x4 x5 x6 x7 x8 x9 b c d f g i j k l m n o p q r s t u v w x y z A B C D E F G H I J K L M N P Q R U V W X Y Z a0 a1 a2 a3 a4 a5 : Value) (S : zk)
theorem zH.r0  : jC Try.prog ⟨false, false, false⟩ (jc Try.prog O) (reg Try.f18 0) (reg Try.f18 0).toList ([x0,a,x2,x3,x4,x5,x6,x7,x8,x9,b,c,d,f,g,i,j,k,l,m,n,o,p,q,r,s,t,u,v,w,x,y,z,A,B,C,D,E,F,G,H,I,J,K,L,M,N,P,Q,R,U,V,W,X,Y,Z,a0,a1,a2,a3,a4,a5]) S =
  (zI (J5 (dem x0) S) (fun v0 S1 => some ([x0,v0,Value.slice none 0 0,Value.int IntKind.i64 0,x4,x5,x6,x7,x8,x9,b,c,d,f,g,i,j,k,l,m,n,o,p,q,r,s,t,u,v,w,x,y,z,A,B,C,D,E,F,G,H,I,J,K,L,M,N,P,Q,R,U,V,W,X,Y,Z,a0,a1,a2,a3,a4,a5], S1)) ()) := by
 kernel_rfl
theorem zH.r1  : jC Try.prog ⟨false, false, false⟩ (jc Try.prog O) (reg Try.f18 1) (reg Try.f18 1).toList ([x0,a,x2,x3,x4,x5,x6,x7,x8,x9,b,c,d,f,g,i,j,k,l,m,n,o,p,q,r,s,t,u,v,w,x,y,z,A,B,C,D,E,F,G,H,I,J,K,L,M,N,P,Q,R,U,V,W,X,Y,Z,a0,a1,a2,a3,a4,a5]) S =
  (zI (jf Try.prog false 30 a S) (fun v0 S1 => zI ((jc Try.prog O) 19 [(dem v0)] S1) (fun v1 S2 => zI (aUn Try.prog UnOp.not v1 S2) (fun v2 S3 => some ([x0,a,x2,x3,x4,x5,x6,x7,x8,x9,v0,v1,v2,f,g,i,j,k,l,m,n,o,p,q,r,s,t,u,v,w,x,y,z,A,B,C,D,E,F,G,H,I,J,K,L,M,N,P,Q,R,U,V,W,X,Y,Z,a0,a1,a2,a3,a4,a5], S3)) ()) ()) ()) := by
 kernel_rfl
theorem zH.r2  : jC Try.prog ⟨false, false, false⟩ (jc Try.prog O) (reg Try.f18 2) (reg Try.f18 2).toList ([x0,a,x2,x3,x4,x5,x6,x7,x8,x9,b,c,d,f,g,i,j,k,l,m,n,o,p,q,r,s,t,u,v,w,x,y,z,A,B,C,D,E,F,G,H,I,J,K,L,M,N,P,Q,R,U,V,W,X,Y,Z,a0,a1,a2,a3,a4,a5]) S =
  ( some ([x0,a,Value.slice none 0 0,Value.int IntKind.i64 121,x4,x5,x6,x7,x8,x9,b,c,d,f,g,i,j,k,l,m,n,o,p,q,r,s,t,u,v,w,x,y,z,A,B,C,D,E,F,G,H,I,J,K,L,M,N,P,Q,R,U,V,W,X,Y,Z,a0,a1,a2,a3,a4,a5], S)) := by
 kernel_rfl
theorem zH.r3  : jC Try.prog ⟨false, false, false⟩ (jc Try.prog O) (reg Try.f18 3) (reg Try.f18 3).toList ([x0,a,x2,x3,x4,x5,x6,x7,x8,x9,b,c,d,f,g,i,j,k,l,m,n,o,p,q,r,s,t,u,v,w,x,y,z,A,B,C,D,E,F,G,H,I,J,K,L,M,N,P,Q,R,U,V,W,X,Y,Z,a0,a1,a2,a3,a4,a5]) S =
  (zI (zy Try.prog 30 a 0 S) (fun v0 S1 => zI (jf Try.prog false 3 v0 S1) (fun v1 S2 => zI (zy Try.prog 30 a 1 S2) (fun v2 S3 => zI (jf Try.prog false 3 v2 S3) (fun v3 S4 => zI (zy Try.prog 30 a 2 S4) (fun v4 S5 => zI (jf Try.prog false 3 v4 S5) (fun v5 S6 => zI (zy Try.prog 30 a 3 S6) (fun v6 S7 => zI (jf Try.prog false 3 v6 S7) (fun v7 S8 => zI (zy Try.prog 30 a 4 S8) (fun v8 S9 => zI (jf Try.prog false 3 v8 S9) (fun v9 b2 => zI (zy Try.prog 30 a 5 b2) (fun a7 b3 => zI (jf Try.prog false 3 a7 b3) (fun a8 b4 => zI (jR Try.prog 57 6 [(0, v1), (1, v3), (2, v5), (3, v7), (4, v9), (5, a8)] b4) (fun a9 b5 => zI ((jc Try.prog O) 42 [(dem a9)] b5) (fun a6 b6 => zI (zU a6 0 b6) (fun b0 b7 => zI (zU (zS 0 a6) 1 b7) (fun b1 b8 => some ([x0,a,x2,x3,b0,b1,x6,x7,x8,x9,b,c,d,zS 1 (zS 0 a6),v0,v1,v2,v3,v4,v5,v6,v7,v8,v9,a7,a8,a9,dem a6,dem b0,dem b1,x,y,z,A,B,C,D,E,F,G,H,I,J,K,L,M,N,P,Q,R,U,V,W,X,Y,Z,a0,a1,a2,a3,a4,a5], b8)) ()) ()) ()) ()) ()) ()) ()) ()) ()) ()) ()) ()) ()) ()) ()) ()) := by
 kernel_rfl
theorem zH.r4  : jC Try.prog ⟨false, false, false⟩ (jc Try.prog O) (reg Try.f18 4) (reg Try.f18 4).toList ([x0,a,x2,x3,x4,x5,x6,x7,x8,x9,b,c,d,f,g,i,j,k,l,m,n,o,p,q,r,s,t,u,v,w,x,y,z,A,B,C,D,E,F,G,H,I,J,K,L,M,N,P,Q,R,U,V,W,X,Y,Z,a0,a1,a2,a3,a4,a5]) S =
  (zI (zy Try.prog 30 a 0 S) (fun v0 S1 => zI (jf Try.prog false 3 v0 S1) (fun v1 S2 => zI (wu Try.prog BinOp.eql 3 v1 (Value.int IntKind.i64 0) S2) (fun v2 S3 => some ([x0,a,x2,x3,x4,x5,x6,x7,x8,x9,b,c,d,f,g,i,j,k,l,m,n,o,p,q,r,s,t,u,v,w,v0,v1,v2,A,B,C,D,E,F,G,H,I,J,K,L,M,N,P,Q,R,U,V,W,X,Y,Z,a0,a1,a2,a3,a4,a5], S3)) ()) ()) ()) := by
 kernel_rfl
theorem zH.r5  : jC Try.prog ⟨false, false, false⟩ (jc Try.prog O) (reg Try.f18 5) (reg Try.f18 5).toList ([x0,a,x2,x3,x4,x5,x6,x7,x8,x9,b,c,d,f,g,i,j,k,l,m,n,o,p,q,r,s,t,u,v,w,x,y,z,A,B,C,D,E,F,G,H,I,J,K,L,M,N,P,Q,R,U,V,W,X,Y,Z,a0,a1,a2,a3,a4,a5]) S =
  (zI (zy Try.prog 30 a 6 S) (fun v0 S1 => zI (jf Try.prog false 25 v0 S1) (fun v1 S2 => zI ((jc Try.prog O) 43 [(dem v1)] S2) (fun v2 S3 => zI (zU v2 0 S3) (fun v4 S4 => zI (zU (zS 0 v2) 1 S4) (fun v5 S5 => some ([x0,a,x2,x3,x4,x5,v4,v5,x8,x9,b,c,d,f,g,i,j,k,l,m,n,o,p,q,r,s,t,u,v,w,x,y,z,zS 1 (zS 0 v2),v0,v1,dem v2,dem v4,dem v5,G,H,I,J,K,L,M,N,P,Q,R,U,V,W,X,Y,Z,a0,a1,a2,a3,a4,a5], S5)) ()) ()) ()) ()) ()) := by
 kernel_rfl
theorem zH.r6  : jC Try.prog ⟨false, false, false⟩ (jc Try.prog O) (reg Try.f18 6) (reg Try.f18 6).toList ([x0,a,x2,x3,x4,x5,x6,x7,x8,x9,b,c,d,f,g,i,j,k,l,m,n,o,p,q,r,s,t,u,v,w,x,y,z,A,B,C,D,E,F,G,H,I,J,K,L,M,N,P,Q,R,U,V,W,X,Y,Z,a0,a1,a2,a3,a4,a5]) S =
  (zI (wY Try.prog 23 23 x4 (dem x6) S) (fun v2 S1 => some ([x0,a,x2,x3,v2,x5,x6,x7,x8,x9,b,c,d,f,g,i,j,k,l,m,n,o,p,q,r,s,t,u,v,w,x,y,z,A,B,C,D,E,F,dem x4,dem x6,dem v2,J,K,L,M,N,P,Q,R,U,V,W,X,Y,Z,a0,a1,a2,a3,a4,a5], S1)) ()) := by
 kernel_rfl
theorem zH.r7  : jC Try.prog ⟨false, false, false⟩ (jc Try.prog O) (reg Try.f18 7) (reg Try.f18 7).toList ([x0,a,x2,x3,x4,x5,x6,x7,x8,x9,b,c,d,f,g,i,j,k,l,m,n,o,p,q,r,s,t,u,v,w,x,y,z,A,B,C,D,E,F,G,H,I,J,K,L,M,N,P,Q,R,U,V,W,X,Y,Z,a0,a1,a2,a3,a4,a5]) S =
  (zI (zy Try.prog 30 a 0 S) (fun v0 S1 => zI (jf Try.prog false 3 v0 S1) (fun v1 S2 => zI (wu Try.prog BinOp.eql 3 v1 (Value.int IntKind.i64 1) S2) (fun v2 S3 => some ([x0,a,x2,x3,x4,x5,x6,x7,x8,x9,b,c,d,f,g,i,j,k,l,m,n,o,p,q,r,s,t,u,v,w,x,y,z,A,B,C,D,E,F,G,H,I,v0,v1,v2,M,N,P,Q,R,U,V,W,X,Y,Z,a0,a1,a2,a3,a4,a5], S3)) ()) ()) ()) := by
 kernel_rfl
theorem zH.r8  : jC Try.prog ⟨false, false, false⟩ (jc Try.prog O) (reg Try.f18 8) (reg Try.f18 8).toList ([x0,a,x2,x3,x4,x5,x6,x7,x8,x9,b,c,d,f,g,i,j,k,l,m,n,o,p,q,r,s,t,u,v,w,x,y,z,A,B,C,D,E,F,G,H,I,J,K,L,M,N,P,Q,R,U,V,W,X,Y,Z,a0,a1,a2,a3,a4,a5]) S =
  (zI (zy Try.prog 30 a 7 S) (fun v0 S1 => zI (jf Try.prog false 28 v0 S1) (fun v1 S2 => zI ((jc Try.prog O) 44 [(dem v1)] S2) (fun v2 S3 => zI (zU v2 0 S3) (fun v4 S4 => zI (zU (zS 0 v2) 1 S4) (fun v5 S5 => some ([x0,a,x2,x3,x4,x5,x6,x7,v4,v5,b,c,d,f,g,i,j,k,l,m,n,o,p,q,r,s,t,u,v,w,x,y,z,A,B,C,D,E,F,G,H,I,J,K,L,zS 1 (zS 0 v2),v0,v1,dem v2,dem v4,dem v5,V,W,X,Y,Z,a0,a1,a2,a3,a4,a5], S5)) ()) ()) ()) ()) ()) := by
 kernel_rfl
theorem zH.r9  : jC Try.prog ⟨false, false, false⟩ (jc Try.prog O) (reg Try.f18 9) (reg Try.f18 9).toList ([x0,a,x2,x3,x4,x5,x6,x7,x8,x9,b,c,d,f,g,i,j,k,l,m,n,o,p,q,r,s,t,u,v,w,x,y,z,A,B,C,D,E,F,G,H,I,J,K,L,M,N,P,Q,R,U,V,W,X,Y,Z,a0,a1,a2,a3,a4,a5]) S =
  (zI (wY Try.prog 23 23 x4 (dem x8) S) (fun v2 S1 => some ([x0,a,x2,x3,v2,x5,x6,x7,x8,x9,b,c,d,f,g,i,j,k,l,m,n,o,p,q,r,s,t,u,v,w,x,y,z,A,B,C,D,E,F,G,H,I,J,K,L,M,N,P,Q,R,U,dem x4,dem x8,dem v2,Y,Z,a0,a1,a2,a3,a4,a5], S1)) ()) := by
 kernel_rfl
theorem zH.r10  : jC Try.prog ⟨false, false, false⟩ (jc Try.prog O) (reg Try.f18 10) (reg Try.f18 10).toList ([x0,a,x2,x3,x4,x5,x6,x7,x8,x9,b,c,d,f,g,i,j,k,l,m,n,o,p,q,r,s,t,u,v,w,x,y,z,A,B,C,D,E,F,G,H,I,J,K,L,M,N,P,Q,R,U,V,W,X,Y,Z,a0,a1,a2,a3,a4,a5]) S =
  (zI (zy Try.prog 30 a 1 S) (fun v0 S1 => zI (jf Try.prog false 3 v0 S1) (fun v1 S2 => zI ((jc Try.prog O) 23 [(dem v1)] S2) (fun v2 S3 => zI ((jc Try.prog O) 22 [(dem v2), (dem (dem x4))] S3) (fun v4 S4 => zI ((jc Try.prog O) 17 [(dem v4)] S4) (fun v5 S5 => zI (wY Try.prog 23 23 v5 (dem x4) S5) (fun v7 S6 => some ([x0,a,v7,Value.int IntKind.i64 0,x4,x5,x6,x7,x8,x9,b,c,d,f,g,i,j,k,l,m,n,o,p,q,r,s,t,u,v,w,x,y,z,A,B,C,D,E,F,G,H,I,J,K,L,M,N,P,Q,R,U,V,W,X,v0,v1,v2,dem x4,v4,dem v5,dem x4,dem v7], S6)) ()) ()) ()) ()) ()) ()) := by
 kernel_rfl
theorem zH.rs : type_of% (And.intro @zH.r0 (And.intro @zH.r1 (And.intro @zH.r2 (And.intro @zH.r3 (And.intro @zH.r4 (And.intro @zH.r5 (And.intro @zH.r6 (And.intro @zH.r7 (And.intro @zH.r8 (And.intro @zH.r9 (@zH.r10))))))))))) := And.intro @zH.r0 (And.intro @zH.r1 (And.intro @zH.r2 (And.intro @zH.r3 (And.intro @zH.r4 (And.intro @zH.r5 (And.intro @zH.r6 (And.intro @zH.r7 (And.intro @zH.r8 (And.intro @zH.r9 (@zH.r10))))))))))
theorem zH.runs {x0 : Value} {S S1 : zk} {e : AEx} {T : List Value} (h : zF Try.prog O false zH.code ([x0,undef,undef,undef,undef,undef,undef,undef,undef,undef,undef,undef,undef,undef,undef,undef,undef,undef,undef,undef,undef,undef,undef,undef,undef,undef,undef,undef,undef,undef,undef,undef,undef,undef,undef,undef,undef,undef,undef,undef,undef,undef,undef,undef,undef,undef,undef,undef,undef,undef,undef,undef,undef,undef,undef,undef,undef,undef,undef,undef,undef,undef]) zk.empty = some (e, T, S1)) (he : e = .normal ∨ e = .ret)  (h0 : jW (T.getD 2 undef) = true) (h1 : jW (T.getD 3 undef) = true) (hca : [x0].all (jH 16) = true) (hcv : jH 16 (Value.tuple #[T.getD 2 undef, T.getD 3 undef]) = true) : jc Try.prog O 18 [x0] S = some (Value.tuple #[T.getD 2 undef, T.getD 3 undef], S) :=
 yh rfl rfl Try.func18 (by decide) zH.body (by exact h) he ((yP ((show zO Try.prog T S1 Try.f18.results.toList = zO Try.prog T S1 [(ResultVar.tmp 2), (ResultVar.tmp 3)] from by kernel_rfl).trans (by simp only [zO])) (by kernel_rfl) (by simp only [List.all_cons, List.all_nil, h0, h1, Bool.and_true])).trans rfl) hca hcv
end Go.Proofs.Ytbgcphbbchndkaa
namespace Go.Proofs.Ytbgcphbbchndkaa
open Go.Abs
abbrev jq.id : FuncId := 14
noncomputable def jq.code : Code := (Code.seq (Code.region 0 (reg Try.f14 0) false) (Code.seq (Code.seq (Code.region 1 (reg Try.f14 1) true) (Code.cond (Operand.tmp 27) (Code.seq (Code.region 2 (reg Try.f14 2) false) Code.ret) Code.skip)) (Code.seq (Code.seq (Code.region 3 (reg Try.f14 3) false) (Code.block 0 (Code.seq (Code.region 4 (reg Try.f14 4) false) (Code.cond (Operand.tmp 30) (Code.seq (Code.region 5 (reg Try.f14 5) false) Code.ret) (Code.seq (Code.region 6 (reg Try.f14 6) false) (Code.cond (Operand.tmp 35) (Code.seq (Code.region 7 (reg Try.f14 7) false) Code.ret) (Code.seq (Code.region 8 (reg Try.f14 8) false) (Code.cond (Operand.tmp 40) (Code.seq (Code.region 9 (reg Try.f14 9) false) (Code.cond (Operand.tmp 51) (Code.seq (Code.region 10 (reg Try.f14 10) false) Code.ret) Code.skip)) Code.skip)))))))) (Code.seq (Code.region 11 (reg Try.f14 11) false) Code.ret))))
theorem jq.body : Try.f14.body = some jq.code := by kernel_rfl
variable (x0 b x2 x3 x4 x5 x6 x7 x8 x9 d f g i k l m n o p q r s t u w x y z c A B C D E F G H I J K L M N P Q R U V W X Y Z a0 a1 a2 a3 a4 a5 a6 a7 a8 a9 b0 b1 b2 b3 b4 b5 b6 b7 b8 b9 c0 : Value) (S : zk)
theorem jq.r0  : jC Try.prog ⟨false, false, false⟩ (jc Try.prog O) (reg Try.f14 0) (reg Try.f14 0).toList ([x0,b,x2,x3,x4,x5,x6,x7,x8,x9,d,f,g,i,k,l,m,n,o,p,q,r,s,t,u,w,x,y,z,c,A,B,C,D,E,F,G,H,I,J,K,L,M,N,P,Q,R,U,V,W,X,Y,Z,a0,a1,a2,a3,a4,a5,a6,a7,a8,a9,b0,b1,b2,b3,b4,b5,b6,b7,b8,b9,c0]) S =
  (zI (J5 (dem x0) S) (fun v0 S1 => some ([x0,v0,Value.bool false,x3,x4,x5,x6,x7,x8,x9,d,f,g,i,k,l,m,n,o,p,q,r,s,t,u,w,x,y,z,c,A,B,C,D,E,F,G,H,I,J,K,L,M,N,P,Q,R,U,V,W,X,Y,Z,a0,a1,a2,a3,a4,a5,a6,a7,a8,a9,b0,b1,b2,b3,b4,b5,b6,b7,b8,b9,c0], S1)) ()) := by
 kernel_rfl
theorem jq.d1 : qW Try.prog (reg Try.f14 1) = true := by kernel_rfl
theorem jq.ff1 : fixed Try.prog (reg Try.f14 1) = false := by kernel_rfl
theorem jq.k1 : checked Try.prog (reg Try.f14 1) = [19] := by kernel_rfl
theorem jq.g1 : again Try.prog (reg Try.f14 1) = [(19, 21)] := by kernel_rfl
theorem jq.r1  : zF Try.prog O false (.region 1 (reg Try.f14 1) true) ([x0,b,x2,x3,x4,x5,x6,x7,x8,x9,d,f,g,i,k,l,m,n,o,p,q,r,s,t,u,w,x,y,z,c,A,B,C,D,E,F,G,H,I,J,K,L,M,N,P,Q,R,U,V,W,X,Y,Z,a0,a1,a2,a3,a4,a5,a6,a7,a8,a9,b0,b1,b2,b3,b4,b5,b6,b7,b8,b9,c0]) S =
  Jm (zI (zy Try.prog 30 b 0 S) (fun v0 S1 => zI (jf Try.prog false 3 v0 S1) (fun v1 S2 => zI (wu Try.prog BinOp.lss 3 v1 (Value.int IntKind.i64 0) S2) (fun v2 S3 => gdK (dem v2) false (zy Try.prog 30 b 0) S3 (fun v4 S4 => gdK (dem v2) false (jf Try.prog false 3 v4) S4 (fun v5 S5 => gdK (dem v2) false (wu Try.prog BinOp.gtr 3 v5 (Value.int IntKind.i64 6)) S5 (fun v6 S6 => zI (wJ (dem v2) (Value.bool true) v6 S6) (fun v7 S7 => gdK (dem v7) false (zy Try.prog 30 b 1) S7 (fun v9 S8 => gdK (dem v7) false (jf Try.prog false 3 v9) S8 (fun c5 S9 => gdK (dem v7) false (wu Try.prog BinOp.lss 3 c5 (Value.int IntKind.i64 0)) S9 (fun c6 d4 => zI (wJ (dem v7) (Value.bool true) c6 d4) (fun c2 d5 => gdK (dem c2) false (zy Try.prog 30 b 1) d5 (fun c3 d6 => gdK (dem c2) false (jf Try.prog false 3 c3) d6 (fun c7 d7 => gdK (dem c2) false (wu Try.prog BinOp.geq 3 c7 (Value.int IntKind.i64 7)) d7 (fun c8 d8 => zI (wJ (dem c2) (Value.bool true) c8 d8) (fun c1 d2 => afF (dem c1) false (jf Try.prog false 30 b) d2 (fun c9 d9 => gdK (dem c1) false (jf Try.prog false 30 b) d9 (fun d0 f0 => gdK (dem c1) false ((jc Try.prog O) 37 [(dem d0)]) f0 (fun c4 d3 => gdK (dem c1) false ((jc Try.prog O) 15 [(dem c9), (dem c4)]) d3 (fun f1 f3 => gdK (dem c1) false (aUn Try.prog UnOp.not f1) f3 (fun f2 f4 => zI (wJ (dem c1) (Value.bool true) f2 f4) (fun f5 f6 => ckK (qB b d2 d3 && (true)) (some ([x0,b,x2,v0,v1,v2,dem v2,v4,v5,v6,v7,dem v7,v9,c5,c6,c2,dem c2,c3,c7,c8,c1,dem c1,c9,d0,c4,f1,f2,f5,z,c,A,B,C,D,E,F,G,H,I,J,K,L,M,N,P,Q,R,U,V,W,X,Y,Z,a0,a1,a2,a3,a4,a5,a6,a7,a8,a9,b0,b1,b2,b3,b4,b5,b6,b7,b8,b9,c0], f6)) ()) ()) ()) ()) ()) ()) ()) ()) ()) ()) ()) ()) ()) ()) ()) ()) ()) ()) ()) ()) ()) ()) := by
 rw [yO jq.d1 jq.ff1 jq.k1 jq.g1]
 refine congrArg Jm ?_
 refine uD Try.f14 1 0 (pe := undef) (fun v0 S1 => ?_)
 refine uD Try.f14 1 1 (pe := v0) (fun v1 S2 => ?_)
 refine uD Try.f14 1 2 (pe := undef) (fun v2 S3 => ?_)
 refine uP Try.f14 1 3 (v := v2) (pe := undef) ?_
 refine uG Try.f14 1 4 (j := 3) (pe := undef) (fun v4 S4 => ?_)
 refine uG Try.f14 1 5 (j := 3) (pe := v4) (fun v5 S5 => ?_)
 refine uG Try.f14 1 6 (j := 3) (pe := undef) (fun v6 S6 => ?_)
 refine uD Try.f14 1 7 (pe := undef) (fun v7 S7 => ?_)
 refine uP Try.f14 1 8 (v := v7) (pe := undef) ?_
 refine uG Try.f14 1 9 (j := 8) (pe := undef) (fun v9 S8 => ?_)
 refine uG Try.f14 1 10 (j := 8) (pe := v9) (fun c5 S9 => ?_)
 refine uG Try.f14 1 11 (j := 8) (pe := undef) (fun c6 d4 => ?_)
 refine uD Try.f14 1 12 (pe := undef) (fun c2 d5 => ?_)
 refine uP Try.f14 1 13 (v := c2) (pe := undef) ?_
 refine uG Try.f14 1 14 (j := 13) (pe := undef) (fun c3 d6 => ?_)
 refine uG Try.f14 1 15 (j := 13) (pe := c3) (fun c7 d7 => ?_)
 refine uG Try.f14 1 16 (j := 13) (pe := undef) (fun c8 d8 => ?_)
 refine uD Try.f14 1 17 (pe := undef) (fun c1 d2 => ?_)
 refine uP Try.f14 1 18 (v := c1) (pe := undef) ?_
 refine uGC Try.f14 1 19 (j := 18) (pe := b) (fun c9 d9 => ?_)
 refine uG Try.f14 1 20 (j := 18) (pe := b) (fun d0 f0 => ?_)
 refine uG Try.f14 1 21 (j := 18) (pe := undef) (fun c4 d3 => ?_)
 refine uG Try.f14 1 22 (j := 18) (pe := undef) (fun f1 f3 => ?_)
 refine uG Try.f14 1 23 (j := 18) (pe := undef) (fun f2 f4 => ?_)
 refine uD Try.f14 1 24 (pe := undef) (fun f5 f6 => ?_)
 kernel_rfl
theorem jq.r2  : jC Try.prog ⟨false, false, false⟩ (jc Try.prog O) (reg Try.f14 2) (reg Try.f14 2).toList ([x0,b,x2,x3,x4,x5,x6,x7,x8,x9,d,f,g,i,k,l,m,n,o,p,q,r,s,t,u,w,x,y,z,c,A,B,C,D,E,F,G,H,I,J,K,L,M,N,P,Q,R,U,V,W,X,Y,Z,a0,a1,a2,a3,a4,a5,a6,a7,a8,a9,b0,b1,b2,b3,b4,b5,b6,b7,b8,b9,c0]) S =
  ( some ([x0,b,Value.bool false,x3,x4,x5,x6,x7,x8,x9,d,f,g,i,k,l,m,n,o,p,q,r,s,t,u,w,x,y,z,c,A,B,C,D,E,F,G,H,I,J,K,L,M,N,P,Q,R,U,V,W,X,Y,Z,a0,a1,a2,a3,a4,a5,a6,a7,a8,a9,b0,b1,b2,b3,b4,b5,b6,b7,b8,b9,c0], S)) := by
 kernel_rfl
theorem jq.r3  : jC Try.prog ⟨false, false, false⟩ (jc Try.prog O) (reg Try.f14 3) (reg Try.f14 3).toList ([x0,b,x2,x3,x4,x5,x6,x7,x8,x9,d,f,g,i,k,l,m,n,o,p,q,r,s,t,u,w,x,y,z,c,A,B,C,D,E,F,G,H,I,J,K,L,M,N,P,Q,R,U,V,W,X,Y,Z,a0,a1,a2,a3,a4,a5,a6,a7,a8,a9,b0,b1,b2,b3,b4,b5,b6,b7,b8,b9,c0]) S =
  (zI (zy Try.prog 30 b 0 S) (fun v0 S1 => zI (jf Try.prog false 3 v0 S1) (fun v1 S2 => some ([x0,b,x2,x3,x4,x5,x6,x7,x8,x9,d,f,g,i,k,l,m,n,o,p,q,r,s,t,u,w,x,y,v0,v1,A,B,C,D,E,F,G,H,I,J,K,L,M,N,P,Q,R,U,V,W,X,Y,Z,a0,a1,a2,a3,a4,a5,a6,a7,a8,a9,b0,b1,b2,b3,b4,b5,b6,b7,b8,b9,c0], S2)) ()) ()) := by
 kernel_rfl
theorem jq.r4  : jC Try.prog ⟨false, false, false⟩ (jc Try.prog O) (reg Try.f14 4) (reg Try.f14 4).toList ([x0,b,x2,x3,x4,x5,x6,x7,x8,x9,d,f,g,i,k,l,m,n,o,p,q,r,s,t,u,w,x,y,z,c,A,B,C,D,E,F,G,H,I,J,K,L,M,N,P,Q,R,U,V,W,X,Y,Z,a0,a1,a2,a3,a4,a5,a6,a7,a8,a9,b0,b1,b2,b3,b4,b5,b6,b7,b8,b9,c0]) S =
  (zI (wu Try.prog BinOp.eql 3 c (Value.int IntKind.i64 0) S) (fun v0 S1 => some ([x0,b,x2,x3,x4,x5,x6,x7,x8,x9,d,f,g,i,k,l,m,n,o,p,q,r,s,t,u,w,x,y,z,c,v0,dem v0,C,D,E,F,G,H,I,J,K,L,M,N,P,Q,R,U,V,W,X,Y,Z,a0,a1,a2,a3,a4,a5,a6,a7,a8,a9,b0,b1,b2,b3,b4,b5,b6,b7,b8,b9,c0], S1)) ()) := by
 kernel_rfl
theorem jq.r5  : jC Try.prog ⟨false, false, false⟩ (jc Try.prog O) (reg Try.f14 5) (reg Try.f14 5).toList ([x0,b,x2,x3,x4,x5,x6,x7,x8,x9,d,f,g,i,k,l,m,n,o,p,q,r,s,t,u,w,x,y,z,c,A,B,C,D,E,F,G,H,I,J,K,L,M,N,P,Q,R,U,V,W,X,Y,Z,a0,a1,a2,a3,a4,a5,a6,a7,a8,a9,b0,b1,b2,b3,b4,b5,b6,b7,b8,b9,c0]) S =
  (zI (zy Try.prog 30 b 6 S) (fun v0 S1 => zI (jf Try.prog false 25 v0 S1) (fun v1 S2 => zI ((jc Try.prog O) 38 [(dem v1)] S2) (fun v2 S3 => some ([x0,b,v2,x3,x4,x5,x6,x7,x8,x9,d,f,g,i,k,l,m,n,o,p,q,r,s,t,u,w,x,y,z,c,A,B,v0,v1,dem v2,F,G,H,I,J,K,L,M,N,P,Q,R,U,V,W,X,Y,Z,a0,a1,a2,a3,a4,a5,a6,a7,a8,a9,b0,b1,b2,b3,b4,b5,b6,b7,b8,b9,c0], S3)) ()) ()) ()) := by
 kernel_rfl
theorem jq.r6  : jC Try.prog ⟨false, false, false⟩ (jc Try.prog O) (reg Try.f14 6) (reg Try.f14 6).toList ([x0,b,x2,x3,x4,x5,x6,x7,x8,x9,d,f,g,i,k,l,m,n,o,p,q,r,s,t,u,w,x,y,z,c,A,B,C,D,E,F,G,H,I,J,K,L,M,N,P,Q,R,U,V,W,X,Y,Z,a0,a1,a2,a3,a4,a5,a6,a7,a8,a9,b0,b1,b2,b3,b4,b5,b6,b7,b8,b9,c0]) S =
  (zI (wu Try.prog BinOp.eql 3 c (Value.int IntKind.i64 1) S) (fun v0 S1 => some ([x0,b,x2,x3,x4,x5,x6,x7,x8,x9,d,f,g,i,k,l,m,n,o,p,q,r,s,t,u,w,x,y,z,c,A,B,C,D,E,v0,dem v0,H,I,J,K,L,M,N,P,Q,R,U,V,W,X,Y,Z,a0,a1,a2,a3,a4,a5,a6,a7,a8,a9,b0,b1,b2,b3,b4,b5,b6,b7,b8,b9,c0], S1)) ()) := by
 kernel_rfl
theorem jq.r7  : jC Try.prog ⟨false, false, false⟩ (jc Try.prog O) (reg Try.f14 7) (reg Try.f14 7).toList ([x0,b,x2,x3,x4,x5,x6,x7,x8,x9,d,f,g,i,k,l,m,n,o,p,q,r,s,t,u,w,x,y,z,c,A,B,C,D,E,F,G,H,I,J,K,L,M,N,P,Q,R,U,V,W,X,Y,Z,a0,a1,a2,a3,a4,a5,a6,a7,a8,a9,b0,b1,b2,b3,b4,b5,b6,b7,b8,b9,c0]) S =
  (zI (zy Try.prog 30 b 7 S) (fun v0 S1 => zI (jf Try.prog false 28 v0 S1) (fun v1 S2 => zI ((jc Try.prog O) 39 [(dem v1)] S2) (fun v2 S3 => some ([x0,b,v2,x3,x4,x5,x6,x7,x8,x9,d,f,g,i,k,l,m,n,o,p,q,r,s,t,u,w,x,y,z,c,A,B,C,D,E,F,G,v0,v1,dem v2,K,L,M,N,P,Q,R,U,V,W,X,Y,Z,a0,a1,a2,a3,a4,a5,a6,a7,a8,a9,b0,b1,b2,b3,b4,b5,b6,b7,b8,b9,c0], S3)) ()) ()) ()) := by
 kernel_rfl
theorem jq.r8  : jC Try.prog ⟨false, false, false⟩ (jc Try.prog O) (reg Try.f14 8) (reg Try.f14 8).toList ([x0,b,x2,x3,x4,x5,x6,x7,x8,x9,d,f,g,i,k,l,m,n,o,p,q,r,s,t,u,w,x,y,z,c,A,B,C,D,E,F,G,H,I,J,K,L,M,N,P,Q,R,U,V,W,X,Y,Z,a0,a1,a2,a3,a4,a5,a6,a7,a8,a9,b0,b1,b2,b3,b4,b5,b6,b7,b8,b9,c0]) S =
  (zI (wu Try.prog BinOp.eql 3 c (Value.int IntKind.i64 3) S) (fun v0 S1 => some ([x0,b,x2,x3,x4,x5,x6,x7,x8,x9,d,f,g,i,k,l,m,n,o,p,q,r,s,t,u,w,x,y,z,c,A,B,C,D,E,F,G,H,I,J,v0,dem v0,M,N,P,Q,R,U,V,W,X,Y,Z,a0,a1,a2,a3,a4,a5,a6,a7,a8,a9,b0,b1,b2,b3,b4,b5,b6,b7,b8,b9,c0], S1)) ()) := by
 kernel_rfl
theorem jq.r9  : jC Try.prog ⟨false, false, false⟩ (jc Try.prog O) (reg Try.f14 9) (reg Try.f14 9).toList ([x0,b,x2,x3,x4,x5,x6,x7,x8,x9,d,f,g,i,k,l,m,n,o,p,q,r,s,t,u,w,x,y,z,c,A,B,C,D,E,F,G,H,I,J,K,L,M,N,P,Q,R,U,V,W,X,Y,Z,a0,a1,a2,a3,a4,a5,a6,a7,a8,a9,b0,b1,b2,b3,b4,b5,b6,b7,b8,b9,c0]) S =
  (zI (zy Try.prog 30 b 5 S) (fun v0 S1 => zI (jf Try.prog false 3 v0 S1) (fun v1 S2 => zI (wu Try.prog BinOp.lss 3 v1 (Value.int IntKind.i64 (-1)) S2) (fun v2 S3 => gdK (dem v2) false (zy Try.prog 30 b 5) S3 (fun v4 S4 => gdK (dem v2) false (jf Try.prog false 3 v4) S4 (fun v5 S5 => gdK (dem v2) false (zy Try.prog 30 b 3) S5 (fun v6 S6 => gdK (dem v2) false (jf Try.prog false 3 v6) S6 (fun v7 S7 => gdK (dem v2) false (wu Try.prog BinOp.geq 3 v5 v7) S7 (fun v8 S8 => zI (wJ (dem v2) (Value.bool true) v8 S8) (fun v9 S9 => some ([x0,b,x2,x3,x4,x5,x6,x7,x8,x9,d,f,g,i,k,l,m,n,o,p,q,r,s,t,u,w,x,y,z,c,A,B,C,D,E,F,G,H,I,J,K,L,v0,v1,v2,dem v2,v4,v5,v6,v7,v8,v9,Z,a0,a1,a2,a3,a4,a5,a6,a7,a8,a9,b0,b1,b2,b3,b4,b5,b6,b7,b8,b9,c0], S9)) ()) ()) ()) ()) ()) ()) ()) ()) ()) := by
 refine sD Try.f14 9 0 (fun v0 S1 => ?_)
 refine sD Try.f14 9 1 (fun v1 S2 => ?_)
 refine sD Try.f14 9 2 (fun v2 S3 => ?_)
 refine sP Try.f14 9 3 (v := v2) ?_
 refine sG Try.f14 9 4 (j := 3) (fun v4 S4 => ?_)
 refine sG Try.f14 9 5 (j := 3) (fun v5 S5 => ?_)
 refine sG Try.f14 9 6 (j := 3) (fun v6 S6 => ?_)
 refine sG Try.f14 9 7 (j := 3) (fun v7 S7 => ?_)
 refine sG Try.f14 9 8 (j := 3) (fun v8 S8 => ?_)
 refine sD Try.f14 9 9 (fun v9 S9 => ?_)
 kernel_rfl
theorem jq.r10  : jC Try.prog ⟨false, false, false⟩ (jc Try.prog O) (reg Try.f14 10) (reg Try.f14 10).toList ([x0,b,x2,x3,x4,x5,x6,x7,x8,x9,d,f,g,i,k,l,m,n,o,p,q,r,s,t,u,w,x,y,z,c,A,B,C,D,E,F,G,H,I,J,K,L,M,N,P,Q,R,U,V,W,X,Y,Z,a0,a1,a2,a3,a4,a5,a6,a7,a8,a9,b0,b1,b2,b3,b4,b5,b6,b7,b8,b9,c0]) S =
  ( some ([x0,b,Value.bool false,x3,x4,x5,x6,x7,x8,x9,d,f,g,i,k,l,m,n,o,p,q,r,s,t,u,w,x,y,z,c,A,B,C,D,E,F,G,H,I,J,K,L,M,N,P,Q,R,U,V,W,X,Y,Z,a0,a1,a2,a3,a4,a5,a6,a7,a8,a9,b0,b1,b2,b3,b4,b5,b6,b7,b8,b9,c0], S)) := by
 kernel_rfl
theorem jq.r11  : jC Try.prog ⟨false, false, false⟩ (jc Try.prog O) (reg Try.f14 11) (reg Try.f14 11).toList ([x0,b,x2,x3,x4,x5,x6,x7,x8,x9,d,f,g,i,k,l,m,n,o,p,q,r,s,t,u,w,x,y,z,c,A,B,C,D,E,F,G,H,I,J,K,L,M,N,P,Q,R,U,V,W,X,Y,Z,a0,a1,a2,a3,a4,a5,a6,a7,a8,a9,b0,b1,b2,b3,b4,b5,b6,b7,b8,b9,c0]) S =
  (zI (zy Try.prog 30 b 2 S) (fun v0 S1 => zI (jf Try.prog false 3 v0 S1) (fun v1 S2 => zI (wu Try.prog BinOp.geq 3 v1 (Value.int IntKind.i64 0) S2) (fun v2 S3 => gdK (dem v2) true (zy Try.prog 30 b 2) S3 (fun v4 S4 => gdK (dem v2) true (jf Try.prog false 3 v4) S4 (fun v5 S5 => gdK (dem v2) true (wu Try.prog BinOp.leq 3 v5 (Value.int IntKind.i64 1000)) S5 (fun v6 S6 => zI (wJ (dem v2) v6 (Value.bool false) S6) (fun v7 S7 => gdK (dem v7) true (zy Try.prog 30 b 3) S7 (fun v9 S8 => gdK (dem v7) true (jf Try.prog false 3 v9) S8 (fun c5 S9 => gdK (dem v7) true (wu Try.prog BinOp.geq 3 c5 (Value.int IntKind.i64 0)) S9 (fun c6 d4 => zI (wJ (dem v7) c6 (Value.bool false) d4) (fun c2 d5 => gdK (dem c2) true (zy Try.prog 30 b 3) d5 (fun c3 d6 => gdK (dem c2) true (jf Try.prog false 3 c3) d6 (fun c7 d7 => gdK (dem c2) true (wu Try.prog BinOp.leq 3 c7 (Value.int IntKind.i64 1000)) d7 (fun c8 d8 => zI (wJ (dem c2) c8 (Value.bool false) d8) (fun c1 d2 => gdK (dem c1) true (jf Try.prog false 30 b) d2 (fun c9 d9 => gdK (dem c1) true ((jc Try.prog O) 40 [(dem c9)]) d9 (fun d0 f0 => zI (wJ (dem c1) d0 (Value.bool false) f0) (fun c4 d3 => some ([x0,b,c4,x3,x4,x5,x6,x7,x8,x9,d,f,g,i,k,l,m,n,o,p,q,r,s,t,u,w,x,y,z,c,A,B,C,D,E,F,G,H,I,J,K,L,M,N,P,Q,R,U,V,W,X,Y,v0,v1,v2,dem v2,v4,v5,v6,v7,dem v7,v9,c5,c6,c2,dem c2,c3,c7,c8,c1,dem c1,c9,d0,dem c4], d3)) ()) ()) ()) ()) ()) ()) ()) ()) ()) ()) ()) ()) ()) ()) ()) ()) ()) ()) := by
 refine sD Try.f14 11 0 (fun v0 S1 => ?_)
 refine sD Try.f14 11 1 (fun v1 S2 => ?_)
 refine sD Try.f14 11 2 (fun v2 S3 => ?_)
 refine sP Try.f14 11 3 (v := v2) ?_
 refine sG Try.f14 11 4 (j := 3) (fun v4 S4 => ?_)
 refine sG Try.f14 11 5 (j := 3) (fun v5 S5 => ?_)
 refine sG Try.f14 11 6 (j := 3) (fun v6 S6 => ?_)
 refine sD Try.f14 11 7 (fun v7 S7 => ?_)
 refine sP Try.f14 11 8 (v := v7) ?_
 refine sG Try.f14 11 9 (j := 8) (fun v9 S8 => ?_)
 refine sG Try.f14 11 10 (j := 8) (fun c5 S9 => ?_)
 refine sG Try.f14 11 11 (j := 8) (fun c6 d4 => ?_)
 refine sD Try.f14 11 12 (fun c2 d5 => ?_)
 refine sP Try.f14 11 13 (v := c2) ?_
 refine sG Try.f14 11 14 (j := 13) (fun c3 d6 => ?_)
 refine sG Try.f14 11 15 (j := 13) (fun c7 d7 => ?_)
 refine sG Try.f14 11 16 (j := 13) (fun c8 d8 => ?_)
 refine sD Try.f14 11 17 (fun c1 d2 => ?_)
 refine sP Try.f14 11 18 (v := c1) ?_
 refine sG Try.f14 11 19 (j := 18) (fun c9 d9 => ?_)
 refine sG Try.f14 11 20 (j := 18) (fun d0 f0 => ?_)
 refine sD Try.f14 11 21 (fun c4 d3 => ?_)
 refine sP Try.f14 11 22 (v := c4) ?_
 kernel_rfl
theorem jq.rs : type_of% (And.intro @jq.r0 (And.intro @jq.r1 (And.intro @jq.r2 (And.intro @jq.r3 (And.intro @jq.r4 (And.intro @jq.r5 (And.intro @jq.r6 (And.intro @jq.r7 (And.intro @jq.r8 (And.intro @jq.r9 (And.intro @jq.r10 (@jq.r11)))))))))))) := And.intro @jq.r0 (And.intro @jq.r1 (And.intro @jq.r2 (And.intro @jq.r3 (And.intro @jq.r4 (And.intro @jq.r5 (And.intro @jq.r6 (And.intro @jq.r7 (And.intro @jq.r8 (And.intro @jq.r9 (And.intro @jq.r10 (@jq.r11)))))))))))
theorem jq.runs {x0 : Value} {S S1 : zk} {e : AEx} {T : List Value} (h : zF Try.prog O false jq.code ([x0,undef,undef,undef,undef,undef,undef,undef,undef,undef,undef,undef,undef,undef,undef,undef,undef,undef,undef,undef,undef,undef,undef,undef,undef,undef,undef,undef,undef,undef,undef,undef,undef,undef,undef,undef,undef,undef,undef,undef,undef,undef,undef,undef,undef,undef,undef,undef,undef,undef,undef,undef,undef,undef,undef,undef,undef,undef,undef,undef,undef,undef,undef,undef,undef,undef,undef,undef,undef,undef,undef,undef,undef,undef]) zk.empty = some (e, T, S1)) (he : e = .normal ∨ e = .ret) (hca : [x0].all (jH 16) = true) (hcv : jH 16 (T.getD 2 undef) = true) : jc Try.prog O 14 [x0] S = some (T.getD 2 undef, S) :=
 yh rfl rfl Try.func14 (by decide) jq.body (by exact h) he (yN (a := T.getD 2 undef) ((show zO Try.prog T S1 Try.f14.results.toList = zO Try.prog T S1 [(ResultVar.tmp 2)] from by kernel_rfl).trans (by simp only [zO])) (by kernel_rfl)) hca hcv
end Go.Proofs.Ytbgcphbbchndkaa
