/-
The law MsgBack returns true for every input, and leaves it as it was; no condition. Part 4 of 6 of the texts (put together by a program: own names are short, what isn't needed is left out).
-/
import Derived.Test.YtbgcphbbchndkaaZMsgBack3
import Derived.KernelRfl
import Derived.Test.YtbgcphbbchndkaaChecked
set_option linter.unusedVariables false
set_option linter.unusedSimpArgs false
set_option maxRecDepth 100000
namespace Go.Abs
open Go.RowKit
def WI (P : Program) (call : FuncId → List Value → M Value) : Prop := ∀ g args aargs S v S', call g args S = some (v, S') → ∀ μ H ω, GI μ S H → L0 μ H args aargs → Dom μ H ω → (∀ r s, ω r = some s → s = .ext) →
 ∃ a H' μ' ω', lim P g aargs H = some (a, H') ∧ GI μ' S' H' ∧ Later μ H μ' H' ∧ Kept ω H ω' H' ∧ Dom μ' H' ω' ∧ VV μ' H' ω' (some (.res none)) v a
section
variable {P : Program} {call : FuncId → List Value → M Value} {μ : Mu} {ω : Nat → Option qc} {S S' H : zh} {T A : List Value}
theorem aex (hc : WI P call) {g : FuncId} {args aargs : List Value} {v : Value} (hG : GI μ S H) (hT : TI μ H ω T A) (h : call g args S = some (v, S')) (ha : L0 μ H args aargs) : Out μ ω H A T S' v (lim P g aargs H) := by
 obtain ⟨a, H', μ', ω', h1, h2, h3, h4, h5, h6⟩ := hc g args aargs S v S' h μ H (fun r => (ω r).map fun _ => .ext) hG ha (fun r s hs => by
  cases hr : ω r with
  | none => simp [hr] at hs
  | some s0 => exact hT.dom r s0 hr) (fun r s hs => by
  cases hr : ω r with
  | none => simp [hr] at hs
  | some s0 => simp [hr] at hs; exact hs.symm)
 have kept : ∀ r s, ω r = some s → ω' r = some .ext ∧ H'.get r = H.get r := fun r s hs => h4 r (by dsimp only; rw [hs]; rfl)
 refine ⟨a, H', μ', fun r => match ω' r with | some .ext => ω r | some (.slot _ _) => none | x => x, h1, h2, h3, fun r hr => ?_, fun r s hs => ?_, hT.len, fun i => ?_, ?_⟩
 ·
  obtain ⟨k1, k2⟩ := kept r _ hr
  exact ⟨by (try dsimp only); rw [k1]; exact hr, k2⟩
 ·
  dsimp only at hs
  cases hr : ω' r with
  | none => rw [hr] at hs; cases hs
  | some s0 =>
   have := h5 r s0 hr
   exact this
 ·
  refine (hT.slots i).later h3 (K := fun _ => True) (fun _ _ _ _ _ => trivial) (fun r s _ hr => ?_) (fun _ _ => trivial)
  obtain ⟨k1, k2⟩ := kept r s hr
  exact ⟨by (try dsimp only); rw [k1]; exact hr, k2⟩
 ·
  refine h6.later (Later.refl _ _) (K := fun s => ∃ j, s = .res j) (fun s i t ⟨j, hj⟩ ht => by subst hj; cases j <;> cases ht; exact ⟨_, rfl⟩) (fun r s ⟨j, hj⟩ hr => ?_) (fun s hs => by cases hs; exact ⟨_, rfl⟩)
  subst hj
  exact ⟨by (try dsimp only); rw [hr], rfl⟩
def JJ (t : Nat) : qc → Option qc
 | .slot i j => if i = t then some (.res j) else some (.slot i j)
 | s => some s
def WR (t k : Nat) : qc → Option qc
 | .slot i (some j) => if i = t ∧ j = k then some (.res none) else some (.slot i (some j))
 | s => some s
theorem aaw {x : Operand} (hG : GI μ S H) (hT : TI μ H ω T A) (hx : qM x = true) : Out μ ω H A (yu T x) S (zX T x) (some (zX A x, H)) := by
 cases x with
 | const v => exact Out.same hG hT (VV.yB hx)
 | global g => cases hx
 | func f => exact Out.same hG hT (hT.eval (x := .func f) rfl)
 | tmp t =>
  refine ⟨_, H, μ, fun r => (ω r).bind (JJ t), rfl, hG, Later.refl μ H, fun r hr => ⟨by dsimp only; rw [hr]; rfl, rfl⟩, fun r s hs => ?_, by simp [yu, qL, hT.len], fun i => ?_, ?_⟩
  ·
   dsimp only at hs
   cases hr : ω r with
   | none => rw [hr] at hs; cases hs
   | some s0 => exact hT.dom r s0 hr
  ·
   dsimp only [yu, qL]
   rw [y9]
   by_cases hi : i = t
   ·
    subst hi
    by_cases hlt : i < T.length
    ·
     rw [if_pos ⟨rfl, hlt⟩]
     exact (hT.slots i).v0.at0
    ·
     rw [if_neg (fun h => hlt h.2)]
     rw [List.getD_eq_getElem?_getD, List.getElem?_eq_none (Nat.le_of_not_lt hlt), List.getD_eq_getElem?_getD, List.getElem?_eq_none (by rw [← hT.len]; omega)]
     exact .nores
   ·
    rw [if_neg (fun h => hi h.1)]
    refine (hT.slots i).QI (fun _ => rfl) _ (fun s hs => ?_)
    cases hs
    refine ⟨_, rfl, by simp only [JJ]; rw [if_neg hi], fun k t' ht => ?_⟩
    cases ht
    exact ⟨_, rfl, by simp only [JJ]; rw [if_neg hi]⟩
  ·
   refine (hT.slots t).QI (fun _ => rfl) _ (fun s hs => ?_)
   cases hs
   refine ⟨_, rfl, by simp only [JJ, if_true], fun k t' ht => ?_⟩
   cases ht
   exact ⟨_, rfl, by simp only [JJ, if_true]⟩
theorem getD_modify (vs : Array Value) (i k : Nat) (f : Value → Value) (hf : f undef = undef) : (vs.modify i f).getD k undef = if k = i then f (vs.getD k undef) else vs.getD k undef := by
 rw [Array.getD_eq_getD_getElem?, Array.getD_eq_getD_getElem?, Array.getElem?_modify]
 by_cases h : i = k
 ·
  subst h
  rw [if_pos rfl, if_pos rfl]
  cases vs[i]? with
  | none => exact hf.symm
  | some v => rfl
 ·
  rw [if_neg h, if_neg (fun e => h e.symm)]
theorem VV.part {ω' : Nat → Option qc} {ℓ ℓ' : Option qc} {v a : Value} (h : VV μ H ω ℓ v a) (hℓ : ∀ s, ℓ = some s → ∀ k, s.comp k = none) : VV μ H ω' ℓ' (Go.Abs.qO v) a := by
 by_cases ht : ∃ x, v = .tuple x
 ·
  obtain ⟨x, rfl⟩ := ht
  show VV μ H ω' ℓ' (.tuple x) a
  cases h with
  | sg hs => simp [Go.Abs.sg] at hs
  | nores => exact .nores
  | tuple hx hh =>
   refine .tuple hx fun i => ?_
   have := hh i
   cases ℓ with
   | none => exact this.at0
   | some s =>
    have e : (some s).bind (·.comp i) = none := hℓ s rfl i
    rw [e] at this
    exact this.at0
 ·
  have e : Go.Abs.dem v = Go.Abs.qO v := by
   cases v <;> first | rfl | exact absurd ⟨_, rfl⟩ ht
  rw [← e]
  exact h.v0.at0
def J6 (T : List Value) (i : Nat) : Operand → List Value
 | .tmp t => T.set t (zH i (T.getD t undef))
 | _ => T
theorem Va {x : Operand} {i : Nat} {v : Value} (hG : GI μ S H) (hT : TI μ H ω T A) (hx : qM x = true) (h : zx (zX T x) i S = some (v, S')) :
  Out μ ω H A (J6 T i x) S' v (zx (zX A x) i H) := by
 cases x with
 | const w =>
  exfalso
  unfold zx at h
  split at h
  ·
   rename_i vs he
   simp only [zX] at he
   subst he
   simp [qM, ground, Go.Abs.sg] at hx
  ·
   cases h
 | global g => cases hx
 | func f => simp [zX, zx] at h
 | tmp t =>
  simp only [zX, J6] at h ⊢
  unfold zx at h
  split at h
  ·
   rename_i vs hvs
   split at h <;> first | (cases h; done) | skip
   rename_i w hw
   cases h
   have hs := hT.slots t
   rw [hvs] at hs
   have hil : i < vs.size := (Array.getElem?_eq_some_iff.1 hw).1
   have hlt : t < T.length := by
    rcases Nat.lt_or_ge t T.length with h | h
    ·
     exact h
    ·
     rw [List.getD_eq_getElem?_getD, List.getElem?_eq_none h] at hvs
     cases hvs
     simp at hil
   generalize hA : A.getD t undef = at' at hs
   cases hs with
   | sg hs => simp [Go.Abs.sg] at hs
   | nores => simp at hil
   | @tuple _ _ y hxs hxx =>
    have hiy : i < y.size := by rw [← hxs]; exact hil
    have hrun : zx (.tuple y) i H = some (y[i], H) := by simp only [zx, Array.getElem?_eq_getElem hiy]
    rw [hrun]
    have hcomp := hxx i
    rw [Array.getD_eq_getD_getElem?, hw, Array.getD_eq_getD_getElem?, Array.getElem?_eq_getElem hiy] at hcomp
    simp only [Option.getD_some] at hcomp
    refine ⟨_, H, μ, fun r => (ω r).bind (WR t i), rfl, hG, Later.refl μ H, fun r hr => ⟨by dsimp only; rw [hr]; rfl, rfl⟩, fun r s hs => ?_, by simp [hT.len], fun k => ?_, ?_⟩
    ·
     dsimp only at hs
     cases hr : ω r with
     | none => rw [hr] at hs; cases hs
     | some s0 => exact hT.dom r s0 hr
    ·
     rw [y9]
     by_cases hk : k = t
     ·
      subst hk
      rw [if_pos ⟨rfl, hlt⟩, hA, hvs]
      simp only [zH]
      refine .tuple (by simpa using hxs) fun j => ?_
      rw [getD_modify _ _ _ _ rfl]
      by_cases hj : j = i
      ·
       subst hj
       rw [if_pos rfl]
       exact (hxx j).part (fun s hs k => by cases hs; rfl)
      ·
       rw [if_neg hj]
       refine (hxx j).QI (fun _ => rfl) _ (fun s hs => ?_)
       cases hs
       refine ⟨_, rfl, by simp only [WR]; rw [if_neg (fun e => hj e.2)], fun a b hb => by cases hb⟩
     ·
      rw [if_neg (fun e => hk e.1)]
      refine (hT.slots k).QI (fun _ => rfl) _ (fun s hs => ?_)
      cases hs
      refine ⟨_, rfl, rfl, fun a b hb => ?_⟩
      cases hb
      exact ⟨_, rfl, by simp only [WR]; rw [if_neg (fun e => hk e.1)]⟩
    ·
     refine hcomp.QI (fun _ => rfl) _ (fun s hs => ?_)
     cases hs
     exact ⟨_, rfl, by simp [WR], fun a b hb => by cases hb⟩
  ·
   cases h
theorem ahk (hT : TI μ H ω T A) : ∀ (xs : List Operand), xs.all qM = true → L0 μ H (xs.map fun x => dem (zX T x)) (xs.map (zX A)) := by
 intro xs h
 exact LV.map fun x hx => hT.eval (List.all_eq_true.1 h x hx)
theorem Yh {xs : List Operand} (hT : TI μ H ω T A) (h : xs.all qM = true) (hg : (xs.map (zX T)).all ground = true) : xs.map (zX A) = xs.map (zX T) := by
 apply List.map_congr_left
 intro x hx
 exact jr (hT.eval (List.all_eq_true.1 h x hx)) (List.all_eq_true.1 hg _ (List.mem_map.2 ⟨x, hx, rfl⟩))
theorem afv {o : Oper} (h : hands o = false) (hc : ∀ c, o.op ≠ .call c) : moved o T = T := by
 unfold moved
 unfold hands at h
 split <;> first | rfl | (rename_i he; exact absurd he (hc _)) | (rename_i he; rw [he] at h; cases h)
theorem aeO {fx : Fx} (hc : WI P call) {o : Oper} {v : Value} (hG : GI μ S H) (hT : TI μ H ω T A) (h : yA P fx call T o S = some (v, S')) : Out μ ω H A (moved o T) S' v (yG P (lim P) A o H) := by
 unfold yA at h
 split at h <;> first | (cases h; done) | skip
 rename_i hok
 unfold yG
 rw [if_pos hok]
 have hargs : o.op.operands.toList.all qM = true := hok
 have hev : ∀ x ∈ o.op.operands.toList, V0 μ H (dem (zX T x)) (zX A x) := fun x hx => hT.eval (List.all_eq_true.1 hargs x hx)
 have hoka : ∀ x ∈ o.op.operands.toList, qM x = true := fun x hx => List.all_eq_true.1 hargs x hx
 obtain ⟨dst, op, type, pos, after, guard⟩ := o
 by_cases hcall : ∃ c, op = .call c
 ·
  obtain ⟨c, rfl⟩ := hcall
  dsimp only at h hev hoka hargs ⊢
  have hcargs : c.args.toList.all qM = true := by
   rw [List.all_eq_true]
   intro x hx
   refine hoka x ?_
   simp only [Op.operands, Call.operands]
   cases c.callee <;> simp <;> first | exact .inr (by simpa using hx) | exact (by simpa using hx)
  cases hcal : c.callee with
  | value f =>
   rw [hcal] at h
   dsimp only at h ⊢
   have hf := hev f (by simp [Op.operands, Call.operands, hcal])
   split at h <;> first | (cases h; done) | skip
   rename_i g first captured hfe
   rw [hfe] at hf
   have hf : V0 μ H (.func (.func g) first captured) (zX A f) := hf
   generalize hfa : zX A f = fa at hf
   cases hf with
   | sg hs => simp [Go.Abs.sg] at hs
   | func _ hx hcs h1 h2 =>
    rename_i x' c'
    dsimp only
    have l1 : L0 μ H first.toList x'.toList := ⟨by simpa using hx, fun i => by rw [getD_toList, getD_toList]; exact h1 i⟩
    have l2 : L0 μ H captured.toList c'.toList := ⟨by simpa using hcs, fun i => by rw [getD_toList, getD_toList]; exact h2 i⟩
    have hm : moved ⟨dst, .call c, type, pos, after, guard⟩ T = T := by simp only [moved, hcal]
    rw [hm]
    exact aex hc hG hT h ((l1.append (ahk hT _ hcargs)).append l2)
  | invoke r m => rw [hcal] at h; cases h
  | builtin b =>
   rw [hcal] at h
   dsimp only at h ⊢
   unfold QM at h
   unfold kL
   cases b <;> dsimp only at h ⊢ <;> first | (cases h; done) | skip
   case len =>
    split at h <;> first | (cases h; done) | skip
    rename_i t x0 ht ha
    obtain ⟨x, hx, rfl⟩ : ∃ x, c.args.toList = [x] ∧ zX T x = x0 := by
     match hl : c.args.toList with
     | [] => rw [hl] at ha; cases ha
     | [y] => rw [hl] at ha; simp at ha; exact ⟨y, rfl, ha⟩
     | y :: z :: w => rw [hl] at ha; simp at ha
    have hm : moved ⟨dst, .call c, type, pos, after, guard⟩ T = T := by simp only [moved, hcal]
    rw [hm, ht, hx]
    rw [hx] at hcargs
    obtain ⟨rfl, a, h1, h2⟩ := aci h (hT.eval (List.all_eq_true.1 hcargs x (by simp)))
    simp only [List.map_cons, List.map_nil]
    rw [h1]
    exact Out.same hG hT h2
   case append =>
    split at h <;> first | (cases h; done) | skip
    rename_i t tx s0 x0 ht ha
    obtain ⟨so, x, hx, rfl, rfl⟩ : ∃ so x, c.args.toList = [so, x] ∧ zX T so = s0 ∧ zX T x = x0 := by
     match hl : c.args.toList with
     | [] => rw [hl] at ha; cases ha
     | [y] => rw [hl] at ha; simp at ha
     | [y, z] => rw [hl] at ha; simp at ha; exact ⟨y, z, rfl, ha.1, ha.2⟩
     | y :: z :: w :: u => rw [hl] at ha; simp at ha
    rw [hx] at hcargs
    have hso := List.all_eq_true.1 hcargs so (by simp)
    have hm : moved ⟨dst, .call c, type, pos, after, guard⟩ T = yu T so := by
     simp only [moved, hcal, hx]
     cases so <;> rfl
    rw [hm, ht, hx]
    exact aa9 hG hT hso h (hT.eval (List.all_eq_true.1 hcargs x (by simp)))
   case copy =>
    split at h <;> first | (cases h; done) | skip
    rename_i t tx s0 x0 ht ha
    obtain ⟨so, x, hx, rfl, rfl⟩ : ∃ so x, c.args.toList = [so, x] ∧ zX T so = s0 ∧ zX T x = x0 := by
     match hl : c.args.toList with
     | [] => rw [hl] at ha; cases ha
     | [y] => rw [hl] at ha; simp at ha
     | [y, z] => rw [hl] at ha; simp at ha; exact ⟨y, z, rfl, ha.1, ha.2⟩
     | y :: z :: w :: u => rw [hl] at ha; simp at ha
    rw [hx] at hcargs
    have hm : moved ⟨dst, .call c, type, pos, after, guard⟩ T = T := by simp only [moved, hcal]
    rw [hm, ht, hx]
    exact afD hG hT h (hT.eval (List.all_eq_true.1 hcargs so (by simp))) (hT.eval (List.all_eq_true.1 hcargs x (by simp)))
   case clear =>
    split at h <;> first | (cases h; done) | skip
    rename_i t x0 ht ha
    obtain ⟨x, hx, rfl⟩ : ∃ x, c.args.toList = [x] ∧ zX T x = x0 := by
     match hl : c.args.toList with
     | [] => rw [hl] at ha; cases ha
     | [y] => rw [hl] at ha; simp at ha; exact ⟨y, rfl, ha⟩
     | y :: z :: w => rw [hl] at ha; simp at ha
    have hm : moved ⟨dst, .call c, type, pos, after, guard⟩ T = T := by simp only [moved, hcal]
    rw [hm, ht, hx]
    rw [hx] at hcargs
    exact ach hG hT h (hT.eval (List.all_eq_true.1 hcargs x (by simp)))
   case min =>
    obtain ⟨rfl, hg, hga, hh⟩ := wV (H := H) h
    have hm : moved ⟨dst, .call c, type, pos, after, guard⟩ T = T := by simp only [moved, hcal]
    rw [hm, Yh hT hcargs hga, hh]
    exact Out.same hG hT (V0.ground hg)
   case max =>
    obtain ⟨rfl, hg, hga, hh⟩ := wV (H := H) h
    have hm : moved ⟨dst, .call c, type, pos, after, guard⟩ T = T := by simp only [moved, hcal]
    rw [hm, Yh hT hcargs hga, hh]
    exact Out.same hG hT (V0.ground hg)
 ·
  have hnc : ∀ c, op ≠ .call c := fun c hc => hcall ⟨c, hc⟩
  have hV : vOp P fx (zX T) ⟨dst, op, type, pos, after, guard⟩ S = some (v, S') := by
   cases op <;> first | exact h | exact absurd rfl (hnc _)
  suffices hs : Out μ ω H A (moved ⟨dst, op, type, pos, after, guard⟩ T) S' v (aOp P (zX A) ⟨dst, op, type, pos, after, guard⟩ H) by
   cases op <;> first | exact hs | exact absurd rfl (hnc _)
  by_cases hh : hands ⟨dst, op, type, pos, after, guard⟩ = true
  ·
   cases op <;> first | (cases hh; done) | skip
   case move x =>
    cases hV
    have := aaw hG hT (hoka x (by simp [Op.operands]))
    have hm : moved ⟨dst, .move x, type, pos, after, guard⟩ T = yu T x := by cases x <;> rfl
    rw [hm]; exact this
   case assign x =>
    cases hV
    have := aaw hG hT (hoka x (by simp [Op.operands]))
    have hm : moved ⟨dst, .assign x, type, pos, after, guard⟩ T = yu T x := by cases x <;> rfl
    rw [hm]; exact this
   case extract x i =>
    have := Va hG hT (hoka x (by simp [Op.operands])) hV
    have hm : moved ⟨dst, .extract x i, type, pos, after, guard⟩ T = (J6 T i x) := by cases x <;> rfl
    rw [hm]; exact this
  ·
   have hh : hands ⟨dst, op, type, pos, after, guard⟩ = false := by simpa using hh
   rw [afv hh hnc]
   by_cases hch : Ze P ⟨dst, op, type, pos, after, guard⟩ = false
   ·
    obtain ⟨rfl, a, h1, h2, h3⟩ := Xa hV hch hev (.inr hG) (.inr hG)
    rw [h1]
    exact Out.same hG hT (h3 hh)
   ·
    unfold vOp at hV
    unfold aOp
    cases op <;> dsimp only at hV hev ⊢ <;> first | (cases hV; done) | (exact absurd rfl hch) | (cases hh; done) | skip
    case alloc e => exact acF hG hT hV
    case box x _ => exact agM hG hT hV (hev x (by simp [Op.operands]))
    case buildSlice t len parts _ =>
     have hps := Xc (μ := μ) (H := H) (parts := parts.toList) (ρ := zX T) (ρA := zX A) fun p hp => hev p.2 (by simp [Op.operands]; exact ⟨p.1, by simpa using hp⟩)
     split at hV
     ·
      exact XH hG hT hV hps
     ·
      exact YW hG hT hV hps
    case makeMap t r _ => exact VB hG hT hV (fun h => by cases r <;> simp at h ⊢)
    case mapUpdate t x k w _ => exact Qy hG hT hV (hev x (by simp [Op.operands])) (hev k (by simp [Op.operands])) (hev w (by simp [Op.operands]))
    case store a x _ => exact abZ hG hT hV (hev a (by simp [Op.operands])) (hev x (by simp [Op.operands]))
    case makeSlice l c _ =>
     split at hV
     ·
      exact VE hG hT hV (hev l (by simp [Op.operands])) (hev c (by simp [Op.operands]))
     ·
      exact KG hG hT hV (hev l (by simp [Op.operands])) (hev c (by simp [Op.operands]))
    case convert dst' x _ =>
     have hd : ∃ e, P.underlying dst' = some (.slice e) := by
      unfold Ze at hch
      dsimp only at hch
      split at hch
      ·
       exact ⟨_, by assumption⟩
      ·
       exact absurd rfl hch
     obtain ⟨e, hd⟩ := hd
     cases x with
     | tmp t => exact YM hG hT hV (hT.slots t) hd
     | const w => exact YM hG hT hV (VV.yB (ℓ := none) (hoka (.const w) (by simp [Op.operands]))) hd
     | global g => have := hoka (.global g) (by simp [Op.operands]); cases this
     | func f => exact YM hG hT hV (ℓ := none) ((hT.eval (x := .func f) rfl).at0) hd
theorem adA {ops : Array Oper} (hT : TI μ H ω T A) (j : Nat) : ynd ops T j = ynd ops A j := by
 unfold ynd
 cases hd : (ops[j]?).bind (·.dst) with
 | none => rfl
 | some d =>
  simp only [Option.bind_some]
  have := hT.slots d
  have e := hT.len
  by_cases hlt : d < T.length
  ·
   have hlt' : d < A.length := by rw [← e]; exact hlt
   simp only [List.getD_eq_getElem?_getD, List.getElem?_eq_getElem hlt, List.getElem?_eq_getElem hlt', Option.getD_some] at this
   rw [List.getElem?_eq_getElem hlt, List.getElem?_eq_getElem hlt']
   generalize T[d] = u at *
   generalize A[d] = u' at *
   cases this <;> rfl
  ·
   have hlt' : A.length ≤ d := by rw [← e]; exact Nat.le_of_not_lt hlt
   rw [List.getElem?_eq_none (Nat.le_of_not_lt hlt), List.getElem?_eq_none hlt']
theorem TI.moved (hT : TI μ H ω T A) (o : Oper) : TI μ H ω (moved o T) A := by
 have slot : ∀ t, TI μ H ω (qL T t) A := by
  intro t
  refine ⟨by simp [qL, hT.len], fun i => ?_, hT.dom, hT.nores⟩
  rw [qL, y9]
  split
  ·
   rename_i h; rw [h.1]; exact (hT.slots t).dem
  ·
   exact hT.slots i
 unfold Go.Abs.moved
 split
 ·
  exact slot _
 ·
  exact slot _
 ·
  rename_i t i _
  refine ⟨by simp [hT.len], fun k => ?_, hT.dom, hT.nores⟩
  rw [y9]
  split
  ·
   rename_i h
   rw [h.1]
   have := hT.slots t
   generalize T.getD t undef = w at this
   cases w with
   | tuple vs =>
    simp only [zH]
    generalize A.getD t undef = a at this
    cases this with
    | sg hs => simp [Go.Abs.sg] at hs
    | nores => rw [show (#[] : Array Value).modify i Go.Abs.qO = #[] by simp]; exact .nores
    | @tuple _ _ y hxs hxx =>
     refine .tuple (by simpa using hxs) fun j => ?_
     rw [getD_modify _ _ _ _ rfl]
     by_cases hj : j = i
     ·
      subst hj
      rw [if_pos rfl]
      exact (hxx j).part (fun s hs k => by cases hs; rfl)
     ·
      rw [if_neg hj]; exact hxx j
   | _ => exact this
  ·
   exact hT.slots k
 ·
  split
  ·
   exact slot _
  ·
   exact hT
 ·
  exact hT
def After (μ : Mu) (ω : Nat → Option qc) (H : zh) (T' : List Value) (S' : zh) (R : Option (List Value × zh)) : Prop :=
 ∃ A' H' μ' ω', R = some (A', H') ∧ GI μ' S' H' ∧ Later μ H μ' H' ∧ Kept ω H ω' H' ∧ TI μ' H' ω' T' A'
theorem aaD {fx : Fx} (hc : WI P call) {o : Oper} {rest : List Oper} {v : Value} (hG : GI μ S H) (hT : TI μ H ω T A) (h : yA P fx call T o S = some (v, S')) :
  ∃ a H' μ' ω', yG P (lim P) A o H = some (a, H') ∧ GI μ' S' H' ∧ Later μ H μ' H' ∧ Kept ω H ω' H' ∧ TI μ' H' ω' (vU o rest T v) (JK A o.dst a) := by
 unfold vU
 split
 ·
  rename_i hl
  have hm : ∃ x, o.op = .move x := by
   unfold ai3 at hl
   split at hl
   ·
    rename_i x _ he _; exact ⟨x, he⟩
   ·
    cases hl
  obtain ⟨x, hx⟩ := hm
  unfold yA at h
  split at h <;> first | (cases h; done) | skip
  rename_i hok
  have hox : qM x = true := List.all_eq_true.1 (show o.op.operands.toList.all qM = true from hok) x (by rw [hx]; simp [Op.operands])
  rw [hx] at h
  dsimp only at h
  unfold vOp at h
  rw [hx] at h
  cases h
  have ha : yG P (lim P) A o H = some (zX A x, H) := by
   unfold yG
   rw [if_pos hok, hx]
   dsimp only
   unfold aOp
   rw [hx]
   rfl
  rw [ha]
  exact (Out.same hG hT (hT.eval hox)).put o.dst
 ·
  exact (aeO hc hG hT h).put o.dst
theorem Wp {o : Oper} {rest : List Oper} (hG : GI μ S H) (hT : TI μ H ω T A) : ∃ μ' ω', GI μ' S H ∧ Later μ H μ' H ∧ Kept ω H ω' H ∧ TI μ' H ω' (vU o rest T undef) (JK A o.dst undef) := by
 unfold vU
 split
 ·
  rw [show dem undef = undef from Zj]
  obtain ⟨a, H1, μ1, ω1, h1, h2, h3, h4, h5⟩ := (Out.same hG hT (VV.undef)).put o.dst
  cases h1
  exact ⟨μ1, ω1, h2, h3, h4, h5⟩
 ·
  obtain ⟨a, H1, μ1, ω1, h1, h2, h3, h4, h5⟩ := (Out.same hG (hT.moved o) (VV.undef)).put o.dst
  cases h1
  exact ⟨μ1, ω1, h2, h3, h4, h5⟩
theorem ahl {fx : Fx} (hc : WI P call) {ops : Array Oper} : ∀ (l : List Oper) (T T' A : List Value) (S S' H : zh) (μ : Mu) (ω : Nat → Option qc), jd P fx call ops l T S = some (T', S') → GI μ S H → TI μ H ω T A → After μ ω H T' S' (X3 P (lim P) ops l A H) := by
 intro l
 induction l with
 | nil =>
  intro T T' A S S' H μ ω h hG hT
  simp only [jd, Option.some.injEq, Prod.mk.injEq] at h
  obtain ⟨rfl, rfl⟩ := h
  exact ⟨A, H, μ, ω, rfl, hG, Later.refl _ _, Kept.refl _ _, hT⟩
 | cons o l ih =>
  intro T T' A S S' H μ ω h hG hT
  have hy : (ynd ops T) = ynd ops A := funext fun j => adA hT j
  simp only [jd] at h
  simp only [X3, ← hy]
  split at h
  ·
   rename_i hw
   split at h
   ·
    rename_i v S1 hs
    obtain ⟨a, H1, μ1, ω1, h1, h2, h3, h4, h5⟩ := aaD (rest := l) hc hG hT hs
    obtain ⟨A2, H2, μ2, ω2, k1, k2, k3, k4, k5⟩ := ih _ _ _ _ _ _ _ _ h h2 h5
    refine ⟨A2, H2, μ2, ω2, ?_, k2, h3.trans k3, h4.trans k4, k5⟩
    rw [if_pos hw, h1]
    exact k1
   ·
    cases h
  ·
   rename_i hw
   obtain ⟨μ1, ω1, h2, h3, h4, h5⟩ := Wp (o := o) (rest := l) hG hT
   obtain ⟨A2, H2, μ2, ω2, k1, k2, k3, k4, k5⟩ := ih _ _ _ _ _ _ _ _ h h2 h5
   refine ⟨A2, H2, μ2, ω2, ?_, k2, h3.trans k3, h4.trans k4, k5⟩
   rw [if_neg hw]
   exact k1
end
end Go.Abs
namespace Go.Abs
open Go.RowKit
section
variable {P : Program} {call : FuncId → List Value → M Value} {μ μ2 : Mu} {S S' G H H2 : zh} {T A : List Value}
theorem Zb.two {s : M Value} (hs : Zb s) {a : Value} {G' : zh} (h : s G = some (a, G')) : ∀ H, s H = some (a, H) := by
 obtain ⟨o, ho⟩ := hs
 rw [ho] at h
 cases o with
 | none => cases h
 | some w =>
  simp only [Option.map_some, Option.some.injEq, Prod.mk.injEq] at h
  intro H
  rw [ho, h.1]; rfl
theorem Vf {t : TypeId} {ps : List (Nat × Value)} : Zb (yg P t ps) := by
 refine ⟨(yg P t ps zh.empty).map (·.1), fun H => ?_⟩
 unfold yg
 split
 ·
  split
  ·
   split
   ·
    split
    ·
     split <;> rfl
    ·
     rfl
   ·
    split
    ·
     split <;> rfl
    ·
     rfl
   ·
    rfl
  ·
   rfl
 ·
  rfl
theorem YX {x : Value} : Zb (kQ x) := by
 refine ⟨(kQ x zh.empty).map (·.1), fun H => ?_⟩
 unfold kQ
 split <;> rfl
theorem X6 {t : TypeId} {x i : Value} : Zb (xJ P t x i) := by
 unfold xJ
 refine ⟨(xJ P t x i zh.empty).map (·.1), fun H => ?_⟩
 unfold xJ
 dsimp only
 split
 ·
  split
  ·
   split
   ·
    split <;> rfl
   ·
    rfl
  ·
   rfl
 ·
  obtain ⟨o, ho⟩ := yN (P := P) _ _
  rw [ho, ho]
  cases o <;> rfl
 ·
  rfl
theorem abN {t : TypeId} {x : Value} (hx : ∀ m, x ≠ .map m) : Zb (X4 P t x) := by
 refine ⟨(X4 P t x zh.empty).map (·.1), fun H => ?_⟩
 unfold X4
 split <;> first | rfl | exact absurd rfl (hx _)
theorem YR {d : Nat} {v : Value} (h : okq d v = true) : okq d (dem v) = true := by
 cases v with
 | iface k v => cases d <;> rfl
 | tuple vs => cases d <;> cases h
 | _ => exact h
theorem WZ : ∀ (d : Nat) {v a : Value}, okq d v = true → V0 μ H v a → abJ d a a = true := by
 intro d
 induction d with
 | zero =>
  intro v a h hv
  cases hv <;> first | (cases h; done) | (simp [abJ]; done) | skip
  rename_i hs
  cases v <;> first | (simp [abJ]; done) | (simp [Go.Abs.sg] at hs; done) | skip
 | succ d ih =>
  intro v a h hv
  cases hv <;> first | (cases h; done) | (simp [abJ]; done) | skip
  ·
   rename_i hs
   cases v <;> first | (simp [abJ]; done) | (simp [Go.Abs.sg] at hs; done) | skip
  ·
   rename_i x x' hx hh
   unfold abJ
   simp only [decide_true, Bool.true_and]
   rw [List.all_eq_true]
   intro p hp
   obtain ⟨i, hi, he⟩ := List.mem_iff_getElem.1 hp
   simp only [List.length_zip, Nat.min_self] at hi
   rw [List.getElem_zip] at he
   subst he
   have hi' : i < x'.size := by simpa using hi
   have hi2 : i < x.size := by rw [hx]; exact hi'
   have h2 := hh i
   rw [Array.getD_eq_getD_getElem?, Array.getElem?_eq_getElem hi2, Array.getD_eq_getD_getElem?, Array.getElem?_eq_getElem hi'] at h2
   have h3 : okq d x[i] = true := List.all_eq_true.1 (show x.toList.all (okq d) = true from h) _ (by simp)
   have := ih h3 h2
   simpa using this
theorem aaH (x : Value) : Xw (dem x) = Xw x := by cases x <;> rfl
theorem agy {fx : Fx} {o : Oper} {v : Value} (hdr : fx.dr = true) (h : yA P fx call T o S = some (v, S')) (hn : Ze P o = false) (hr : kM o = false) (ho : ∀ x ∈ o.op.operands.toList, V0 μ G (dem (zX T x)) (zX A x)) :
  ∃ a, V0 μ G (dem v) a ∧ ∀ H, aOp P (zX A) o H = some (a, H) ∧ yG P (lim P) A o H = some (a, H) := by
 have hrm : qZ o = false := by
  unfold kM at hr
  unfold qZ
  split <;> simp_all
 unfold yA at h
 split at h <;> first | (cases h; done) | skip
 rename_i hok
 obtain ⟨dst, op, type, pos, after, guard⟩ := o
 by_cases hcall : ∃ c, op = .call c
 ·
  obtain ⟨c, rfl⟩ := hcall
  dsimp only at h ho
  unfold Ze at hn
  dsimp only at hn
  have hcargs : ∀ x ∈ c.args.toList, V0 μ G (dem (zX T x)) (zX A x) := by
   intro x hx
   refine ho x ?_
   simp only [Op.operands, Call.operands]
   cases c.callee <;> simp <;> first | exact .inr (by simpa using hx) | exact (by simpa using hx)
  have step : ∀ {b : Builtin} (a : Value), c.callee = .builtin b → (∀ H, kL P b c.argTypes type (c.args.toList.map (zX A)) H = some (a, H)) → ∀ H, aOp P (zX A) ⟨dst, .call c, type, pos, after, guard⟩ H = some (a, H) ∧ yG P (lim P) A ⟨dst, .call c, type, pos, after, guard⟩ H = some (a, H) := by
   intro b a hb hall H
   constructor
   ·
    unfold aOp; dsimp only; rw [hb]; exact hall H
   ·
    unfold yG; rw [if_pos hok]; dsimp only; rw [hb]; exact hall H
  cases hcal : c.callee with
  | value f => rw [hcal] at hn; cases hn
  | invoke r m => rw [hcal] at hn; cases hn
  | builtin b =>
   rw [hcal] at h
   dsimp only at h
   unfold QM at h
   rw [hcal] at hn
   have gargs : (c.args.toList.map (zX T)).all ground = true → c.args.toList.map (zX A) = c.args.toList.map (zX T) := by
    intro hg
    apply List.map_congr_left
    intro x hx
    exact jr (hcargs x hx) (List.all_eq_true.1 hg _ (List.mem_map.2 ⟨x, hx, rfl⟩))
   cases b <;> dsimp only at h hn <;> first | (cases h; done) | (cases hn; done) | skip
   case len =>
    split at h <;> first | (cases h; done) | skip
    rename_i t x0 ht ha
    obtain ⟨x, hx, rfl⟩ : ∃ x, c.args.toList = [x] ∧ zX T x = x0 := by
     match hl : c.args.toList with
     | [] => rw [hl] at ha; cases ha
     | [y] => rw [hl] at ha; simp at ha; exact ⟨y, rfl, ha⟩
     | y :: z :: w => rw [hl] at ha; simp at ha
    have hxv := hcargs x (by rw [hx]; simp)
    obtain ⟨rfl, a, h1, h2⟩ := aci h hxv
    have hmap : ∀ m, zX A x ≠ .map m := by
     intro m hm
     rw [hm] at hxv
     generalize hu : dem (zX T x) = u at hxv
     have hum : ∃ m', u = .map m' := by cases hxv <;> exact ⟨_, rfl⟩
     obtain ⟨m', rfl⟩ := hum
     have : zX T x = .map m' := by
      cases hv : zX T x <;> rw [hv] at hu <;> simp [dem, qO] at hu <;> rw [hu]
     rw [this] at h
     simp [Jc] at h
    refine ⟨a, h2.dem, step a hcal fun H => ?_⟩
    unfold kL
    dsimp only
    rw [ht, hx]
    exact (abN hmap).two h1 H
   case min =>
    obtain ⟨rfl, hg, hga, hh⟩ := wV (H := G) h
    refine ⟨v, (V0.ground hg).dem, step v hcal fun H => ?_⟩
    unfold kL
    dsimp only
    rw [gargs hga]
    exact (yN _ _).two hh H
   case max =>
    obtain ⟨rfl, hg, hga, hh⟩ := wV (H := G) h
    refine ⟨v, (V0.ground hg).dem, step v hcal fun H => ?_⟩
    unfold kL
    dsimp only
    rw [gargs hga]
    exact (yN _ _).two hh H
 ·
  have hnc : ∀ c, op ≠ .call c := fun c hc => hcall ⟨c, hc⟩
  have hV : vOp P fx (zX T) ⟨dst, op, type, pos, after, guard⟩ S = some (v, S') := by
   cases op <;> first | exact h | exact absurd rfl (hnc _)
  obtain ⟨rfl, a, h1, h2, h3⟩ := Xa (ρA := zX A) hV hn ho (.inl (JZ hrm)) (.inl hdr)
  have hA : ∀ H, yG P (lim P) A ⟨dst, op, type, pos, after, guard⟩ H = aOp P (zX A) ⟨dst, op, type, pos, after, guard⟩ H := by
   intro H
   unfold yG
   rw [if_pos hok]
   cases op <;> first | rfl | exact absurd rfl (hnc _)
  refine ⟨a, h2, fun H => ?_⟩
  rw [hA]
  have key : aOp P (zX A) ⟨dst, op, type, pos, after, guard⟩ H = some (a, H) := by
   have hf : Zb (aOp P (zX A) ⟨dst, op, type, pos, after, guard⟩) := by
    unfold Ze at hn
    unfold kM at hr
    unfold aOp
    unfold vOp at hV
    cases op <;> dsimp only at hn hr hV ⊢ <;> first | (cases hn; done) | (cases hr; done) | (cases hV; done) | skip
    ·
     exact YI _
    ·
     exact YI _
    ·
     exact aaT _ _ _
    ·
     exact Vf
    ·
     exact YX
    ·
     exact KW _ _ _ _
    ·
     exact aeD _ _
    ·
     exact YI _
    ·
     exact Yy _ _ _
    ·
     exact Vo _ _ _
    ·
     exact WW _ _ _
    ·
     exact X6
    ·
     exact KA _ _
   exact hf.two h1 H
  exact ⟨key, key⟩
theorem ac1 {t : TypeId} {r o e : Nat} {l : List Value} {own own' : Own} {a : Value} (hg : G.get r = some (.cells l own e)) (hg' : H2.get r = some (.cells l own' e)) (h : qj P t (.pointer (some ⟨r, o, none⟩)) G = some (a, G)) :
  qj P t (.pointer (some ⟨r, o, none⟩)) H2 = some (a, H2) := by
 simp only [qj, hg] at h
 simp only [qj, hg']
 (repeat' split at h) <;> first | (cases h; done) | skip
 all_goals simp_all
theorem VV.backed {v : Value} {r o n c : Nat} (h : V0 μ G v (.slice (some ⟨r, o, none⟩) n c)) (hv : Xw v = false) : ∃ l own e, r < G.next ∧ YT μ r ∧ G.get r = some (.cells l own e) := by
 cases h with
 | sg hs => simp [Go.Abs.sg] at hs
 | slm hm => simp [Xw] at hv
 | sl hr hp hg _ _ _ => exact ⟨_, _, _, hr, hp, hg⟩
theorem aaY {x : Value} {n : Nat} {cs : List Value} (hx : ∀ r o n c, x = .slice (some ⟨r, o, none⟩) n c → ∃ l own own' e, G.get r = some (.cells l own e) ∧ H2.get r = some (.cells l own' e)) (h : qo x n G = some cs) : qo x n H2 = some cs := by
 unfold qo at h ⊢
 split at h
 ·
  rename_i r o k c
  obtain ⟨l, own, own', e, hg, hg'⟩ := hx _ _ _ _ rfl
  rw [hg] at h
  rw [hg']
  exact h
 ·
  exact h
 ·
  exact h
 ·
  cases h
theorem abT {src dst : TypeId} {x a : Value} (hd : ∀ e, P.underlying dst ≠ some (.slice e)) (hx : ∀ r o n c, x = .slice (some ⟨r, o, none⟩) n c → ∃ l own own' e, G.get r = some (.cells l own e) ∧ H2.get r = some (.cells l own' e)) (h : yF P src dst x G = some (a, G)) :
  yF P src dst x H2 = some (a, H2) := by
 unfold yF at h ⊢
 split at h
 ·
  rename_i b n c
  (try dsimp only)
  split at h
  ·
   rename_i e hs hdd
   split at h <;> first | (cases h; done) | skip
   rename_i he
   split at h <;> first | (cases h; done) | skip
   rename_i cs hcs
   rw [aaY hx hcs]
   (try dsimp only)
   split at h <;> first | (cases h; done) | skip
   rename_i bs hbs
   (try rw [hbs])
   cases h
   rfl
  ·
   rename_i e0 e hs hdd
   exact absurd hdd (hd e)
  ·
   cases h
 ·
  rename_i s
  (try dsimp only)
  split at h
  ·
   rename_i d e hs hdd
   exact absurd hdd (hd e)
  ·
   exact (yN _ _).two h H2
 ·
  exact (yN _ _).two h H2
theorem abC {t : TypeId} {x a : Value} {lo hi : Option Value} (hx : ∀ r o n c, x = .slice (some ⟨r, o, none⟩) n c → ∃ l own own' e, G.get r = some (.cells l own e) ∧ H2.get r = some (.cells l own' e)) (h : kF P t x lo hi G = some (a, G)) :
  kF P t x lo hi H2 = some (a, H2) := by
 unfold kF at h ⊢
 split at h
 ·
  rename_i s hu
  exact (yN _ _).two h H2
 ·
  rename_i e b n c hu
  (try dsimp only)
  split at h <;> first | (cases h; done) | skip
  rename_i size l hh hs hl hhi
  (try simp only [hs, hl, hhi])
  split at h <;> first | (cases h; done) | skip
  rename_i c0
  split at h <;> first | (cases h; done) | skip
  rename_i c1
  split at h <;> first | (cases h; done) | skip
  rename_i c2
  rw [if_pos c0, if_pos c1, if_pos c2]
  split at h
  ·
   split at h <;> first | (cases h; done) | skip
   rename_i hn
   cases h
   rw [if_pos hn]
  ·
   rename_i r o
   obtain ⟨l2, own, own', e2, hg, hg'⟩ := hx _ _ _ _ rfl
   rw [hg] at h
   rw [hg']
   dsimp only at h ⊢
   split at h <;> first | (cases h; done) | skip
   rename_i he
   rw [if_pos he]
   cases h
   rfl
  ·
   split at h <;> first | (cases h; done) | skip
   rename_i hn
   cases h
   rw [if_pos hn]
  ·
   cases h
 ·
  cases h
theorem abG {t : TypeId} {r o : Nat} {a : Value} {G' : zh} (hg : H2.get r = G.get r) (h : qj P t (.pointer (some ⟨r, o, none⟩)) G = some (a, G')) : qj P t (.pointer (some ⟨r, o, none⟩)) H2 = some (a, H2) := by
 simp only [qj] at h ⊢
 rw [hg]
 (repeat' split at h) <;> first | (cases h; done) | skip
 all_goals simp_all
theorem XL {t : TypeId} {x k : Value} {ok : Bool} {a : Value} {G' : zh} (hg : ∀ r, x = .map (some r) → H2.get r = G.get r) (h : wW P t x k ok G = some (a, G')) : wW P t x k ok H2 = some (a, H2) := by
 have e : ∀ H : zh, wW P t x k ok H = (wW P t x k ok H).map (fun r => (r.1, H)) := by
  intro H
  unfold wW
  (try dsimp only)
  (repeat' split) <;> rfl
 have e2 : (wW P t x k ok H2).map (·.1) = (wW P t x k ok G).map (·.1) := by
  cases x with
  | map b =>
   cases b with
   | none => unfold wW; dsimp only; (repeat' split) <;> rfl
   | some r =>
    unfold wW
    dsimp only
    rw [hg r rfl]
    (repeat' split) <;> rfl
  | _ => unfold wW; (try dsimp only) <;> (try ((repeat' split) <;> rfl))
 rw [h] at e2
 rw [e H2]
 cases hh : wW P t x k ok H2 with
 | none => rw [hh] at e2; cases e2
 | some w =>
  rw [hh] at e2
  simp only [Option.map_some, Option.some.injEq] at e2 ⊢
  rw [e2]
theorem ahf {fx : Fx} {o : Oper} {v : Value} (hdr : fx.dr = true) (h : yA P fx call T o S = some (v, S')) (hn : Ze P o = false) (hm : vM (zX T) o) (ho : ∀ x ∈ o.op.operands.toList, V0 μ G (dem (zX T x)) (zX A x)) (hL : Later μ G μ2 H2) :
  ∃ a, V0 μ G (dem v) a ∧ aOp P (zX A) o G = some (a, G) ∧ aOp P (zX A) o H2 = some (a, H2) ∧ yG P (lim P) A o G = some (a, G) ∧ yG P (lim P) A o H2 = some (a, H2) := by
 by_cases hr : kM o = false
 ·
  obtain ⟨a, h1, h2⟩ := agy hdr h hn hr ho
  exact ⟨a, h1, (h2 G).1, (h2 H2).1, (h2 G).2, (h2 H2).2⟩
 ·
  unfold yA at h
  split at h <;> first | (cases h; done) | skip
  rename_i hok
  obtain ⟨dst, op, type, pos, after, guard⟩ := o
  unfold kM at hr
  cases op <;> dsimp only at h hr <;> first | (exact absurd rfl hr) | skip
  case load t addr =>
   obtain ⟨rfl, a, h1, h2, h3⟩ := Xa (ρA := zX A) h hn ho (.inl hm) (.inl hdr)
   have hA : ∀ H, yG P (lim P) A ⟨dst, .load t addr, type, pos, after, guard⟩ H = aOp P (zX A) ⟨dst, .load t addr, type, pos, after, guard⟩ H := fun H => by unfold yG; rw [if_pos hok]
   have key : aOp P (zX A) ⟨dst, .load t addr, type, pos, after, guard⟩ H2 = some (a, H2) := by
    have hx := ho addr (by simp [Op.operands])
    have h : zO P fx.nm t (zX T addr) S' = some (v, S') := h
    unfold aOp at h1 ⊢
    dsimp only at h1 ⊢
    unfold zO at h
    split at h
    ·
     rename_i k cs he
     split at h <;> first | (cases h; done) | skip
     rename_i hk
     subst hk
     rw [he] at hx
     have hx : V0 μ G (.iface 3 (.agg cs)) (zX A addr) := hx
     generalize hq : zX A addr = q at hx h1 ⊢
     cases hx with
     | sg hs => simp [Go.Abs.sg] at hs
     | ep hr hp hg hl hc =>
      obtain ⟨own', hg'⟩ := hL.cells _ _ _ _ hr hp hg
      exact ac1 hg hg' h1
    ·
     rename_i ad he
     exact absurd he (hm ad)
    ·
     cases h
   exact ⟨a, h2, h1, key, by rw [hA]; exact h1, by rw [hA]; exact key⟩
  case convert src d x =>
   obtain ⟨rfl, a, h1, h2, h3⟩ := Xa (ρA := zX A) h hn ho (.inl hm) (.inl hdr)
   have hA : ∀ H, yG P (lim P) A ⟨dst, .convert src d x, type, pos, after, guard⟩ H = aOp P (zX A) ⟨dst, .convert src d x, type, pos, after, guard⟩ H := fun H => by unfold yG; rw [if_pos hok]
   have key : aOp P (zX A) ⟨dst, .convert src d x, type, pos, after, guard⟩ H2 = some (a, H2) := by
    have hx := ho x (by simp [Op.operands])
    unfold aOp at h1 ⊢
    dsimp only at h1 ⊢
    refine abT (fun e he => ?_) (fun r o n c hq => ?_) h1
    ·
     unfold Ze at hn
     dsimp only at hn
     rw [he] at hn; cases hn
    ·
     rw [hq] at hx
     have hh : Xw (dem (zX T x)) = false := by
      rw [aaH]
      have h : ql P fx.hp fx.dr src d (zX T x) S' = some (v, S') := h
      unfold ql at h
      split at h
      ·
       first | (cases h; done) | (rw [hdr] at h; simp at h)
      ·
       rename_i hh; simpa using hh
     obtain ⟨l, own, e, hr, hp, hg⟩ := hx.backed hh
     obtain ⟨own', hg'⟩ := hL.cells _ _ _ _ hr hp hg
     exact ⟨l, own, own', e, hg, hg'⟩
   exact ⟨a, h2, h1, key, by rw [hA]; exact h1, by rw [hA]; exact key⟩
  case slice t x lo hi mx =>
   obtain ⟨rfl, a, h1, h2, h3⟩ := Xa (ρA := zX A) h hn ho (.inl hm) (.inl hdr)
   have hA : ∀ H, yG P (lim P) A ⟨dst, .slice t x lo hi mx, type, pos, after, guard⟩ H = aOp P (zX A) ⟨dst, .slice t x lo hi mx, type, pos, after, guard⟩ H := fun H => by unfold yG; rw [if_pos hok]
   have key : aOp P (zX A) ⟨dst, .slice t x lo hi mx, type, pos, after, guard⟩ H2 = some (a, H2) := by
    have hx := ho x (by simp [Op.operands])
    unfold aOp at h1 ⊢
    cases mx with
    | some m => cases h1
    | none =>
     dsimp only at h1 ⊢
     refine abC (fun r o n c hq => ?_) h1
     rw [hq] at hx
     have hh : Xw (dem (zX T x)) = false := by
      rw [aaH]
      have h : xW P fx.dr t (zX T x) (lo.map (zX T)) (hi.map (zX T)) S' = some (v, S') := h
      unfold xW at h
      split at h
      ·
       first | (cases h; done) | (rw [hdr] at h; simp at h)
      ·
       rename_i hh; simpa using hh
     obtain ⟨l, own, e, hr, hp, hg⟩ := hx.backed hh
     obtain ⟨own', hg'⟩ := hL.cells _ _ _ _ hr hp hg
     exact ⟨l, own, own', e, hg, hg'⟩
   exact ⟨a, h2, h1, key, by rw [hA]; exact h1, by rw [hA]; exact key⟩
  case lookup t x k ok =>
   exact hm.elim
end
end Go.Abs
namespace Go.Abs
open Go.RowKit
structure Line (P : Program) (fx : Fx) (chk : List Nat) (call : FuncId → List Value → M Value) (ops : Array Oper) (k0 : Nat) (l : List Oper) (Ts As : Nat → List Value) (Ss Hs : Nat → zh) (μs : Nat → Mu) (ωs : Nat → Nat → Option qc) (vs zf : Nat → Value) : Prop where
  inv : ∀ k, k ≤ l.length → GI (μs k) (Ss k) (Hs k) ∧ TI (μs k) (Hs k) (ωs k) (Ts k) (As k)
  step : ∀ k o, l[k]? = some o → Later (μs k) (Hs k) (μs (k + 1)) (Hs (k + 1)) ∧ Kept (ωs k) (Hs k) (ωs (k + 1)) (Hs (k + 1)) ∧
    ((Region.wanted o (ynd ops (As k)) = true ∧ yA P fx call (Ts k) o (Ss k) = some (vs k, Ss (k + 1)) ∧ yG P (lim P) (As k) o (Hs k) = some (zf k, Hs (k + 1)) ∧
        Ts (k + 1) = vU o (l.drop (k + 1)) (Ts k) (vs k) ∧ As (k + 1) = JK (As k) o.dst (zf k) ∧ (chk.contains (k0 + k) = true → okq 3 (vs k) = true)) ∨
     (Region.wanted o (ynd ops (As k)) = false ∧ zf k = undef ∧ Ts (k + 1) = vU o (l.drop (k + 1)) (Ts k) undef ∧ As (k + 1) = JK (As k) o.dst undef ∧ Hs (k + 1) = Hs k))
section
variable {P : Program} {call : FuncId → List Value → M Value}
theorem ag6 {fx : Fx} {chk : List Nat} {nl : List (Nat × Nat)} (hc : WI P call) {ops : Array Oper} : ∀ (l : List Oper) (k0 : Nat) (hist : List (Value × zh)) (T T' A : List Value) (S S' H : zh) (μ : Mu) (ω : Nat → Option qc), wP P fx chk nl call ops k0 hist l T S = some (T', S') → GI μ S H → TI μ H ω T A →
    ∃ Ts As Ss Hs μs ωs vs zf tr, Line P fx chk call ops k0 l Ts As Ss Hs μs ωs vs zf ∧ Ts 0 = T ∧ As 0 = A ∧ Ss 0 = S ∧ Hs 0 = H ∧ μs 0 = μ ∧ ωs 0 = ω ∧ Ts l.length = T' ∧ Ss l.length = S' ∧
      qH P (lim P) ops l A H = some (tr, As l.length, Hs l.length) ∧ (∀ k, k < l.length → tr[k]? = some (As k, Hs k, zf k)) ∧ (∀ k, k ≤ l.length → (tr.map (·.2.1) ++ [Hs l.length])[k]? = some (Hs k)) ∧
      ∃ hs : List (Value × zh), hs.length = l.length ∧ (∀ k o, l[k]? = some o → hs[k]? = some (xI (Ts k) o, Ss k)) ∧ (nl.isEmpty = false → nl.all (aaJ (hist ++ hs ++ [(undef, S')])) = true) := by
  intro l
  induction l with
  | nil =>
    intro k0 hist T T' A S S' H μ ω h hG hT
    simp only [wP] at h
    split at h <;> first | (cases h; done) | skip
    rename_i hst
    cases h
    refine ⟨fun _ => T, fun _ => A, fun _ => S, fun _ => H, fun _ => μ, fun _ => ω, fun _ => undef, fun _ => undef, [], ⟨fun k _ => ⟨hG, hT⟩, fun k o ho => by simp at ho⟩, rfl, rfl, rfl, rfl, rfl, rfl, rfl, rfl, rfl, fun k hk => by simp at hk, fun k hk => ?_, [], rfl, fun k o ho => by simp at ho, fun he => ?_⟩
    · have : k = 0 := by simpa using hk
      subst this
      rfl
    · simpa [xu, he] using hst
  | cons o l ih =>
    intro k0 hist T T' A S S' H μ ω h hG hT
    have hy : (ynd ops T) = ynd ops A := funext fun j => adA hT j
    simp only [wP] at h
    have glue : ∀ (T1 A1 : List Value) (S1 H1 : zh) (μ1 : Mu) (ω1 : Nat → Option qc) (v a : Value), wP P fx chk nl call ops (k0 + 1) (xu nl hist (xI T o) S) l T1 S1 = some (T', S') → GI μ1 S1 H1 → TI μ1 H1 ω1 T1 A1 → Later μ H μ1 H1 → Kept ω H ω1 H1 →
        ((Region.wanted o (ynd ops A) = true ∧ yA P fx call T o S = some (v, S1) ∧ yG P (lim P) A o H = some (a, H1) ∧ T1 = vU o l T v ∧ A1 = JK A o.dst a ∧ (chk.contains k0 = true → okq 3 v = true)) ∨
         (Region.wanted o (ynd ops A) = false ∧ a = undef ∧ T1 = vU o l T undef ∧ A1 = JK A o.dst undef ∧ H1 = H)) →
        (∀ tr A2 H2, qH P (lim P) ops l A1 H1 = some (tr, A2, H2) → qH P (lim P) ops (o :: l) A H = some ((A, H, a) :: tr, A2, H2)) →
        ∃ Ts As Ss Hs μs ωs vs zf tr, Line P fx chk call ops k0 (o :: l) Ts As Ss Hs μs ωs vs zf ∧ Ts 0 = T ∧ As 0 = A ∧ Ss 0 = S ∧ Hs 0 = H ∧ μs 0 = μ ∧ ωs 0 = ω ∧ Ts (o :: l).length = T' ∧ Ss (o :: l).length = S' ∧
          qH P (lim P) ops (o :: l) A H = some (tr, As (o :: l).length, Hs (o :: l).length) ∧ (∀ k, k < (o :: l).length → tr[k]? = some (As k, Hs k, zf k)) ∧ (∀ k, k ≤ (o :: l).length → (tr.map (·.2.1) ++ [Hs (o :: l).length])[k]? = some (Hs k)) ∧
          ∃ hs : List (Value × zh), hs.length = (o :: l).length ∧ (∀ k o', (o :: l)[k]? = some o' → hs[k]? = some (xI (Ts k) o', Ss k)) ∧ (nl.isEmpty = false → nl.all (aaJ (hist ++ hs ++ [(undef, S')])) = true) := by
      intro T1 A1 S1 H1 μ1 ω1 v a hrest hG1 hT1 hL hK hstep htr
      obtain ⟨Ts, As, Ss, Hs, μs, ωs, vs, zf, tr, hline, e1, e2, e3, e4, e5, e6, e7, e8, e9, e10, e11, hs, e12, e13, e14⟩ := ih _ _ _ _ _ _ _ _ _ _ hrest hG1 hT1
      refine ⟨fun k => match k with | 0 => T | k + 1 => Ts k, fun k => match k with | 0 => A | k + 1 => As k, fun k => match k with | 0 => S | k + 1 => Ss k, fun k => match k with | 0 => H | k + 1 => Hs k,
        fun k => match k with | 0 => μ | k + 1 => μs k, fun k => match k with | 0 => ω | k + 1 => ωs k, fun k => match k with | 0 => v | k + 1 => vs k, fun k => match k with | 0 => a | k + 1 => zf k, (A, H, a) :: tr,
        ⟨fun k hk => ?_, fun k o' ho => ?_⟩, rfl, rfl, rfl, rfl, rfl, rfl, e7, e8, htr _ _ _ e9, fun k hk => ?_, fun k hk => ?_, (xI T o, S) :: hs, by simp [e12], fun k o' ho => ?_, fun he => ?_⟩
      · cases k with
        | zero => exact ⟨hG, hT⟩
        | succ k => exact hline.inv k (by simpa using hk)
      · cases k with
        | zero =>
          simp only [List.getElem?_cons_zero, Option.some.injEq] at ho
          subst ho
          dsimp only
          rw [e1, e2, e3, e4, e5, e6]
          exact ⟨hL, hK, hstep⟩
        | succ k =>
          have := hline.step k o' (by simpa using ho)
          rw [show k0 + 1 + k = k0 + (k + 1) by omega] at this
          exact this
      · cases k with
        | zero => rfl
        | succ k => simpa using e10 k (by simpa using hk)
      · cases k with
        | zero => rfl
        | succ k => simpa using e11 k (by simpa using hk)
      · cases k with
        | zero =>
          simp only [List.getElem?_cons_zero, Option.some.injEq] at ho
          subst ho
          rfl
        | succ k => simpa using e13 k o' (by simpa using ho)
      · have := e14 he
        rw [show xu nl hist (xI T o) S = hist ++ [(xI T o, S)] by simp [xu, he]] at this
        simpa using this
    split at h
    · rename_i hw
      split at h
      · rename_i v S1 hs
        split at h <;> first | (cases h; done) | skip
        rename_i hchk
        obtain ⟨a, H1, μ1, ω1, h1, h2, h3, h4, h5⟩ := aaD (rest := l) hc hG hT hs
        have hw' : Region.wanted o (ynd ops A) = true := by rw [← hy]; exact hw
        refine glue _ _ _ H1 μ1 ω1 v a h h2 h5 h3 h4 (.inl ⟨hw', hs, h1, rfl, rfl, fun hk => ?_⟩) (fun tr A2 H2 ht => ?_)
        · rw [hk] at hchk; simpa using hchk
        · simp only [qH, hw', if_true, h1, ht]
      · cases h
    · rename_i hw
      obtain ⟨μ1, ω1, h2, h3, h4, h5⟩ := Wp (o := o) (rest := l) hG hT
      have hw' : Region.wanted o (ynd ops A) = false := by rw [← hy]; simpa using hw
      refine glue _ _ _ H μ1 ω1 undef undef h h2 h5 h3 h4 (.inr ⟨hw', rfl, rfl, rfl, rfl⟩) (fun tr A2 H2 ht => ?_)
      simp only [qH, hw', ht]
      rfl
variable {fx : Fx} {chk : List Nat} {ops : Array Oper} {k0 : Nat} {l : List Oper} {Ts As : Nat → List Value} {Ss Hs : Nat → zh} {μs : Nat → Mu} {ωs : Nat → Nat → Option qc} {vs zf : Nat → Value}
theorem Line.later (hl : Line P fx chk call ops k0 l Ts As Ss Hs μs ωs vs zf) {i : Nat} : ∀ (d : Nat), i + d ≤ l.length → Later (μs i) (Hs i) (μs (i + d)) (Hs (i + d)) := by
 intro d
 induction d with
 | zero => intro _; exact Later.refl _ _
 | succ d ih =>
  intro hd
  have ho : l[i + d]? = some l[i + d] := List.getElem?_eq_getElem (by omega)
  exact (ih (by omega)).trans (hl.step (i + d) _ ho).1
theorem Line.kept (hl : Line P fx chk call ops k0 l Ts As Ss Hs μs ωs vs zf) : ∀ (d : Nat), d ≤ l.length → Kept (ωs 0) (Hs 0) (ωs d) (Hs d) := by
 intro d
 induction d with
 | zero => intro _; exact Kept.refl _ _
 | succ d ih =>
  intro hd
  have ho : l[d]? = some l[d] := List.getElem?_eq_getElem (by omega)
  exact (ih (by omega)).trans (hl.step d _ ho).2.1
theorem VA (i : Nat) (w : Value) : dem (zH i w) = dem w := by
 cases w with
 | tuple vs =>
  simp only [zH, dem]
  congr 1
  apply Array.ext (by simp)
  intro k h1 h2
  rw [Array.getElem_map, Array.getElem_map, Array.getElem_modify]
  split
  ·
   have : ∀ v, qO (qO v) = qO v := by
    intro v
    cases v with
    | iface k v =>
     simp only [qO]
     by_cases h : k = 2
     ·
      rw [if_pos h, if_neg (by decide)]
     ·
      rw [if_neg h, if_neg h]
    | _ => rfl
   exact this _
  ·
   rfl
 | _ => rfl
theorem Xr (o : Oper) (T : List Value) (t : Nat) : dem ((moved o T).getD t undef) = dem (T.getD t undef) := by
 have slot : ∀ t', dem ((qL T t').getD t undef) = dem (T.getD t undef) := by
  intro t'
  rw [qL, y9]
  split
  ·
   rename_i h; rw [h.1, QN]
  ·
   rfl
 unfold moved
 split
 ·
  exact slot _
 ·
  exact slot _
 ·
  rw [y9]
  split
  ·
   rename_i h; rw [h.1, VA]
  ·
   rfl
 ·
  split
  ·
   exact slot _
  ·
   rfl
 ·
  rfl
theorem moved_length (o : Oper) (T : List Value) : (moved o T).length = T.length := by
 unfold moved
 split <;> first | simp [qL] | rfl | skip
 split <;> first | simp [qL] | rfl
theorem Xe {o : Oper} {rest : List Oper} {T : List Value} {v : Value} (hd : o.dst = none) (t : Nat) : dem ((vU o rest T v).getD t undef) = dem (T.getD t undef) := by
 unfold vU
 rw [hd]
 split
 ·
  rfl
 ·
  exact Xr o T t
theorem Xq {o : Oper} {rest : List Oper} {T : List Value} {v : Value} {d : Nat} (hd : o.dst = some d) (t : Nat) : dem ((vU o rest T v).getD t undef) = if t = d ∧ d < T.length then dem v else dem (T.getD t undef) := by
 unfold vU
 rw [hd]
 split
 ·
  simp only [JK]
  rw [y9]
  split
  ·
   exact QN v
  ·
   rfl
 ·
  simp only [JK]
  rw [y9, moved_length]
  split
  ·
   rfl
  ·
   exact Xr o T t
def Clear (μ : Mu) (G : zh) (bad : List Nat) (T A : List Value) : Prop := ∀ t, bad.contains t = false → V0 μ G (dem (T.getD t undef)) (A.getD t undef)
theorem Clear.operands {μ : Mu} {G : zh} {bad : List Nat} {T A : List Value} (h : Clear μ G bad T A) {o : Oper} (hok : aen o = true) (hc : qF bad o = true) : ∀ x ∈ o.op.operands.toList, V0 μ G (dem (zX T x)) (zX A x) := by
 intro x hx
 have h1 := List.all_eq_true.1 (show o.op.operands.toList.all qM = true from hok) x hx
 have h2 := List.all_eq_true.1 hc x hx
 cases x with
 | tmp t => exact h t (by simpa using h2)
 | const v => exact (VV.yB (μ := μ) (H := G) (ω := W0) (ℓ := none) h1).v0
 | global g => cases h1
 | func f =>
  have : V0 μ G (.func (.func f) #[] #[]) (.func (.func f) #[] #[]) := .func _ rfl rfl (fun i => by simpa using VV.undef) (fun i => by simpa using VV.undef)
  exact this
theorem ZH {T : List Value} {o : Oper} {S S' : zh} {v : Value} (h : yA P fx call T o S = some (v, S')) : aen o = true := by
 unfold yA at h
 split at h
 ·
  assumption
 ·
  cases h
theorem aa5 {fx : Fx} {o : Oper} {T A : List Value} {v : Value} {S S' H : zh} {μ : Mu} (h : yA P fx call T o S = some (v, S')) (hnm : fx.nm = true) (hm : ¬ vM (zX T) o) (hG : GI μ S H) (ho : ∀ x ∈ o.op.operands.toList, V0 μ H (dem (zX T x)) (zX A x)) :
  ground v = true ∧ ∃ a, yG P (lim P) A o H = some (a, H) ∧ a = v := by
 have hok := ZH h
 unfold yA at h
 rw [if_pos hok] at h
 obtain ⟨dst, op, type, pos, after, guard⟩ := o
 unfold vM at hm
 cases op <;> dsimp only at h hm <;> first | (exact absurd True.intro hm) | skip
 case load t a =>
  have h : zO P fx.nm t (zX T a) S = some (v, S') := h
  obtain ⟨q, hq⟩ : ∃ q, zX T a = .pointer q := Classical.byContradiction fun hn => hm fun q hq => hn ⟨q, hq⟩
  obtain ⟨rfl, w, k1, k2⟩ := WT h (ho a (by simp [Op.operands])) (.inr hG)
  rw [hnm] at h
  have hgr : ground v = true := by
   unfold zO at h
   rw [hq] at h
   dsimp only at h
   split at h <;> first | (cases h; done) | skip
   ·
    split at h
    ·
     split at h <;> first | (cases h; done) | skip
     rename_i hg
     cases h
     exact hg
    ·
     rename_i hf; exact absurd rfl hf
   ·
    split at h
    ·
     split at h <;> first | (cases h; done) | skip
     rename_i hg
     cases h
     exact hg
    ·
     rename_i hf; exact absurd rfl hf
  refine ⟨hgr, w, ?_, k2.kN hgr⟩
  unfold yG
  rw [if_pos hok]
  exact k1
 case lookup t x k ok =>
  have h : xQ P fx.nm t (zX T x) (zX T k) ok S = some (v, S') := h
  unfold xQ at h
  rw [hnm] at h
  simp at h
theorem Line.clear (hdr : fx.dr = true) (hl : Line P fx chk call ops k0 l Ts As Ss Hs μs ωs vs zf) {j : Nat} (hj : j ≤ l.length) : ∀ (rest : List Oper) (bad : List Nat) (k : Nat), j ≤ k → l.drop k = rest → Clear (μs j) (Hs j) bad (Ts k) (As k) →
  ∀ d, d ≤ rest.length → Clear (μs j) (Hs j) ((ac0 P fx.nm rest bad).getD d []) (Ts (k + d)) (As (k + d)) := by
 intro rest
 induction rest with
 | nil =>
  intro bad k hjk hr hC d hd
  have : d = 0 := by simpa using hd
  subst this
  exact hC
 | cons o rest ih =>
  intro bad k hjk hr hC d hd
  have hkl : k < l.length := by
   have := congrArg List.length hr
   simp at this; omega
  have ho : l[k]? = some o := by
   have := congrArg (·[0]?) hr
   simpa [List.getElem?_drop] using this
  cases d with
  | zero => exact hC
  | succ d =>
   simp only [ac0, List.getD_cons_succ]
   rw [show k + (d + 1) = k + 1 + d by omega]
   refine ih _ (k + 1) (by omega) ?_ ?_ d (by simpa using hd)
   ·
    rw [← List.drop_drop, hr]; rfl
   ·
    obtain ⟨hL, _, hor⟩ := hl.step k o ho
    obtain ⟨hG, hT⟩ := hl.inv k (by omega)
    have hlen := hT.len
    intro t ht
    cases hd : o.dst with
    | none =>
     rw [hd] at ht
     rcases hor with ⟨_, _, _, e1, e2, _⟩ | ⟨_, _, e1, e2, _⟩
     ·
      rw [e1, Xe hd, e2, hd]; exact hC t ht
     ·
      rw [e1, Xe hd, e2, hd]; exact hC t ht
    | some dd =>
     rw [hd] at ht
     dsimp only at ht
     have htb : bad.contains t = false := by
      split at ht
      ·
       simp only [List.contains_cons, Bool.or_eq_false_iff] at ht; exact ht.2
      ·
       exact ht
     rcases hor with ⟨hw, hv, ha, e1, e2, _⟩ | ⟨_, _, e1, e2, _⟩
     ·
      rw [e1, Xq hd, e2, hd]
      simp only [JK]
      rw [y9, hlen]
      by_cases hc : t = dd ∧ dd < (As k).length
      ·
       rw [if_pos hc, if_pos hc]
       have hcond : ¬ (Ze P o || !qF bad o || (qZ o && !fx.nm)) = true := by
        intro hh
        rw [if_pos hh] at ht
        simp [hc.1] at ht
       simp only [Bool.or_eq_true, not_or, Bool.not_eq_true, Bool.not_eq_eq_eq_not, Bool.not_true, Bool.and_eq_true, not_and] at hcond
       obtain ⟨⟨q1, q2⟩, q3⟩ := hcond
       have q2' : qF bad o = true := by simpa using q2
       have hLj : Later (μs j) (Hs j) (μs k) (Hs k) := by
        have := hl.later (i := j) (k - j) (by omega)
        rwa [show j + (k - j) = k by omega] at this
       by_cases hm : vM (zX (Ts k)) o
       ·
        obtain ⟨a, h1, _, _, _, h5⟩ := ahf hdr hv q1 hm (hC.operands (ZH hv) q2') hLj
        rw [ha] at h5
        have e : zf k = a := by simpa using congrArg (Option.map Prod.fst) h5
        subst e
        exact h1
       ·
        have hrm : qZ o = true := by
         cases hrm : qZ o with
         | true => rfl
         | false => exact absurd (JZ hrm) hm
        have hnm : fx.nm = true := by have := q3 hrm; simpa using this
        obtain ⟨g1, a, g2, g3⟩ := aa5 hv hnm hm hG (fun x hx => hT.eval (List.all_eq_true.1 (show o.op.operands.toList.all qM = true from ZH hv) x hx))
        rw [ha] at g2
        have e : zf k = a := by simpa using congrArg (Option.map Prod.fst) g2
        subst e
        rw [g3, Qb g1]
        exact V0.ground g1
      ·
       rw [if_neg hc, if_neg hc]
       exact hC t htb
     ·
      rw [e1, Xq hd, e2, hd]
      simp only [JK]
      rw [y9, hlen]
      by_cases hc : t = dd ∧ dd < (As k).length
      ·
       rw [if_pos hc, if_pos hc, show dem undef = undef from Zj]
       exact .nores
      ·
       rw [if_neg hc, if_neg hc]
       exact hC t htb
theorem acW {hp0 : Bool} (hc : WI P call) {T T' A : List Value} {S S' H : zh} {μ : Mu} {ω : Nat → Option qc} (hd : ku P ops = true) (h : wP P ⟨hp0, !(checked P ops).isEmpty, fixed P ops⟩ (checked P ops) (again P ops) call ops 0 [] ops.toList T S = some (T', S')) (hG : GI μ S H) (hT : TI μ H ω T A) :
  After μ ω H T' S' (vX P (lim P) ops A H) := by
 obtain ⟨Ts, As, Ss, Hs, μs, ωs, vs, zf, tr, hline, rfl, rfl, rfl, rfl, rfl, rfl, rfl, rfl, e9, e10, e11, hs, e12, e13, e14⟩ := ag6 hc _ _ _ _ _ _ _ _ _ _ _ h hG hT
 obtain ⟨hGn, hTn⟩ := hline.inv ops.toList.length (Nat.le_refl _)
 have hLn := hline.later (i := 0) ops.toList.length (by omega)
 rw [Nat.zero_add] at hLn
 refine ⟨As ops.toList.length, Hs ops.toList.length, μs ops.toList.length, ωs ops.toList.length, ?_, hGn, hLn, hline.kept _ (Nat.le_refl _), hTn⟩
 simp only [ku, Q9, Bool.and_eq_true] at hd
 refine ae2 hd.1 e9 fun p hp => ?_
 have hchk : (checked P ops).contains p.1 = true := by
  unfold checked
  simp only [List.contains_eq_mem, decide_eq_true_eq]
  exact List.mem_map.2 ⟨p, hp, rfl⟩
 have hdr : (Fx.mk hp0 (!(checked P ops).isEmpty) (fixed P ops)).dr = true := by
  show (!(checked P ops).isEmpty) = true
  cases hl : checked P ops with
  | nil => rw [hl] at hchk; cases hchk
  | cons a b => rfl
 have hp2 := List.all_eq_true.1 hd.2 p hp
 have hp0 := hp
 unfold need at hp
 obtain ⟨i, hi, hp⟩ := List.mem_flatMap.1 hp
 obtain ⟨j, hj, hp⟩ := List.mem_filterMap.1 hp
 have hi : i < ops.toList.length := List.mem_range.1 hi
 have hj : j < ops.toList.length := List.mem_range.1 hj
 split at hp <;> first | (cases hp; done) | skip
 rename_i oi oj hoi hoj
 split at hp <;> first | (cases hp; done) | skip
 rename_i hcond
 cases hp
 simp only [Bool.and_eq_true, Bool.not_eq_true'] at hcond
 obtain ⟨⟨hni, hcj⟩, _⟩ := hcond
 dsimp only at hp2 hchk ⊢
 rw [hoi] at hp2
 dsimp only at hp2
 have hij : i ≠ j := by
  intro e; subst e
  rw [hoi] at hoj; cases hoj
  rw [hni] at hcj; cases hcj
 have hGj : (tr.map (·.2.1) ++ [Hs ops.toList.length])[if j < i then j else j + 1]? = some (Hs (if j < i then j else j + 1)) := e11 _ (by split <;> omega)
 unfold Yg
 rw [hoi, e10 i hi, hGj]
 dsimp only
 obtain ⟨_, _, hor⟩ := hline.step i oi hoi
 rcases hor with ⟨hw, hv, ha, heT, heA, hq⟩ | ⟨hw, _⟩
 ·
  rw [hw]
  simp only [Bool.not_true, Bool.false_or]
  obtain ⟨hGi, hTi⟩ := hline.inv i (by omega)
  have hops : ∀ x ∈ oi.op.operands.toList, V0 (μs i) (Hs i) (dem (zX (Ts i) x)) (zX (As i) x) := fun x hx => hTi.eval (List.all_eq_true.1 (show oi.op.operands.toList.all qM = true from ZH hv) x hx)
  have hq3 : okq 3 (vs i) = true := hq (by rw [Nat.zero_add]; exact hchk)
  have same : ∃ G', aOp P (zX (As i)) oi (Hs (if j < i then j else j + 1)) = some (zf i, G') ∧ abJ 3 (zf i) (zf i) = true := by
   by_cases hm : vM (zX (Ts i)) oi
   case neg =>
    have hrm : qZ oi = true := by
     cases hrm : qZ oi with
     | true => rfl
     | false => exact absurd (JZ hrm) hm
    have hin : (i, j) ∈ again P ops := List.mem_filter.2 ⟨hp0, by dsimp only; rw [hoi]; exact hrm⟩
    have hne : (again P ops).isEmpty = false := by
     cases hl : again P ops with
     | nil => rw [hl] at hin; cases hin
     | cons a b => rfl
    have hst := List.all_eq_true.1 (e14 hne) _ hin
    rw [List.nil_append] at hst
    have hi1 : (hs ++ [(undef, Ss ops.toList.length)])[i]? = some (xI (Ts i) oi, Ss i) := by
     rw [List.getElem?_append_left (by omega)]; exact e13 i oi hoi
    have hj1 : ∃ p2, (hs ++ [(undef, Ss ops.toList.length)])[if j < i then j else j + 1]? = some (p2, Ss (if j < i then j else j + 1)) := by
     by_cases hjl : (if j < i then j else j + 1) < ops.toList.length
     ·
      rw [List.getElem?_append_left (by omega)]
      exact ⟨_, e13 _ _ (List.getElem?_eq_getElem hjl)⟩
     ·
      have : (if j < i then j else j + 1) = ops.toList.length := by split at hjl <;> (rename_i hh; simp only [hh, if_true, if_false]; omega)
      rw [this, List.getElem?_append_right (by omega), e12, Nat.sub_self]
      exact ⟨_, rfl⟩
    obtain ⟨p2, hj1⟩ := hj1
    unfold aaJ at hst
    dsimp only at hst
    rw [hi1, hj1] at hst
    dsimp only at hst
    have obj : ∀ q r b, μs i q = some (r, b) → (∀ Sa Sb, qm (xI (Ts i) oi) Sa Sb = true → (∃ o, Sa.get q = some o ∧ o.alive = true) ∧ q ∉ Sb.log.take (Sb.log.length - Sa.log.length)) → (Hs (if j < i then j else j + 1)).get r = (Hs i).get r := by
     intro q r b hq hQ
     by_cases hji : j < i
     ·
      rw [if_pos hji] at hst ⊢
      rw [if_pos hji] at hst
      obtain ⟨⟨o1, g1, g2⟩, g3⟩ := hQ _ _ hst
      obtain ⟨hGj3, _⟩ := hline.inv j (by omega)
      obtain ⟨r0, _, g4, _⟩ := hGj3.obj q o1 g1 g2
      have hL := hline.later (i := j) (i - j) (by omega)
      rw [show j + (i - j) = i by omega] at hL
      obtain ⟨b', hb'⟩ := hL.mu q r0 true g4
      rw [hq] at hb'
      cases hb'
      obtain ⟨new, n1, n2⟩ := hL.still
      rw [hGj3.log, hGi.log] at n1
      rw [n1] at g3
      simp only [List.length_append, Nat.add_sub_cancel, List.take_left] at g3
      exact (n2 q r g4 g3).2.symm
     ·
      rw [if_neg hji] at hst ⊢
      rw [if_neg hji] at hst
      obtain ⟨⟨o1, g1, g2⟩, g3⟩ := hQ _ _ hst
      have hb := hGi.at hq g1 g2
      subst hb
      have hL := hline.later (i := i) (j + 1 - i) (by omega)
      rw [show i + (j + 1 - i) = j + 1 by omega] at hL
      obtain ⟨hGj3, _⟩ := hline.inv (j + 1) (by omega)
      obtain ⟨new, n1, n2⟩ := hL.still
      rw [hGj3.log, hGi.log] at n1
      rw [n1] at g3
      simp only [List.length_append, Nat.add_sub_cancel, List.take_left] at g3
      exact (n2 q r hq g3).2
    clear hst hi1 hj1
    have hok := ZH hv
    have hvo := hv
    unfold yA at hv
    rw [if_pos hok] at hv
    obtain ⟨dst, op, type, pos, after, guard⟩ := oi
    unfold vM at hm
    cases op <;> dsimp only at hv hm <;> first | (exact absurd True.intro hm) | skip
    case load t a =>
     have hv : zO P (fixed P ops) t (zX (Ts i) a) (Ss i) = some (vs i, Ss (i + 1)) := hv
     obtain ⟨ad, hq⟩ : ∃ q, zX (Ts i) a = .pointer q := Classical.byContradiction fun hn => hm fun q hq => hn ⟨q, hq⟩
     have hx := hops a (by simp [Op.operands])
     obtain ⟨_, w, k1, k2⟩ := WT hv hx (.inr hGi)
     have hA : yG P (lim P) (As i) ⟨dst, .load t a, type, pos, after, guard⟩ (Hs i) = qj P t (zX (As i) a) (Hs i) := by unfold yG; rw [if_pos hok]; rfl
     rw [hA, k1] at ha
     have e : w = zf i := by simpa using congrArg (Option.map Prod.fst) ha
     subst e
     rw [hq] at hx
     have hx : V0 (μs i) (Hs i) (.pointer ad) (zX (As i) a) := hx
     generalize hpa : zX (As i) a = pa at hx k1
     have hres : qj P t pa (Hs (if j < i then j else j + 1)) = some (zf i, Hs (if j < i then j else j + 1)) := by
      cases hx with
      | sg hs =>
       cases ad with
       | none => simp [qj] at k1
       | some ad => simp [Go.Abs.sg] at hs
      | @ptr _ q o r b hmq =>
       refine abG (obj q r b hmq fun Sa Sb hQ => ?_) k1
       have hQ : qm (zX (Ts i) a) Sa Sb = true := hQ
       rw [hq] at hQ
       simp only [qm, Bool.and_eq_true, Bool.not_eq_true', List.contains_eq_mem, decide_eq_false_iff_not] at hQ
       refine ⟨?_, hQ.2⟩
       have h1 := hQ.1
       split at h1 <;> first | (cases h1; done) | skip
       rename_i hsa
       exact ⟨_, hsa, rfl⟩
     rw [← hpa] at hres
     exact ⟨_, hres, WZ 3 (YR hq3) k2.dem⟩
    case lookup t x k ok =>
     have hv : xQ P (fixed P ops) t (zX (Ts i) x) (zX (Ts i) k) ok (Ss i) = some (vs i, Ss (i + 1)) := hv
     have hx := hops x (by simp [Op.operands])
     obtain ⟨_, w, k1, k2⟩ := Qr hv hx (hops k (by simp [Op.operands])) (.inr hGi)
     have hA : yG P (lim P) (As i) ⟨dst, .lookup t x k ok, type, pos, after, guard⟩ (Hs i) = wW P t (zX (As i) x) (zX (As i) k) ok (Hs i) := by unfold yG; rw [if_pos hok]; rfl
     rw [hA, k1] at ha
     have e : w = zf i := by simpa using congrArg (Option.map Prod.fst) ha
     subst e
     have hres : wW P t (zX (As i) x) (zX (As i) k) ok (Hs (if j < i then j else j + 1)) = some (zf i, Hs (if j < i then j else j + 1)) := by
      refine XL (fun r hr => ?_) k1
      rw [hr] at hx
      generalize hu : dem (zX (Ts i) x) = u at hx
      have hum : ∃ q b, u = .map (some q) ∧ μs i q = some (r, b) := by
       cases hx with
       | sg hs => simp [Go.Abs.sg] at hs
       | map hmq => exact ⟨_, _, rfl, hmq⟩
      obtain ⟨q, b, rfl, hmq⟩ := hum
      have hxe : zX (Ts i) x = .map (some q) := by
       cases hvx : zX (Ts i) x <;> rw [hvx] at hu <;> simp [dem, qO] at hu <;> rw [hu]
      refine obj q r b hmq fun Sa Sb hQ => ?_
      have hQ : qm (zX (Ts i) x) Sa Sb = true := hQ
      rw [hxe] at hQ
      simp only [qm, Bool.and_eq_true, Bool.not_eq_true', List.contains_eq_mem, decide_eq_false_iff_not] at hQ
      refine ⟨?_, hQ.2⟩
      have h1 := hQ.1
      split at h1 <;> first | (cases h1; done) | skip
      rename_i hsa
      exact ⟨_, hsa, rfl⟩
     exact ⟨_, hres, WZ 3 (YR hq3) k2.dem⟩
   by_cases hrd : kM oi = false
   ·
    obtain ⟨a, h1, h2⟩ := agy hdr hv hni hrd hops
    have h3 := (h2 (Hs i)).2
    rw [ha] at h3
    have e : zf i = a := by simpa using congrArg (Option.map Prod.fst) h3
    subst e
    exact ⟨_, (h2 _).1, WZ 3 (YR hq3) h1⟩
   ·
    have hrd : kM oi = true := by simpa using hrd
    by_cases hlt : i < j
    ·
     rw [if_neg (by omega)]
     have hL := hline.later (i := i) (j + 1 - i) (by omega)
     rw [show i + (j + 1 - i) = j + 1 by omega] at hL
     obtain ⟨a, h1, _, h3, h4, _⟩ := ahf hdr hv hni hm hops hL
     rw [ha] at h4
     have e : zf i = a := by simpa using congrArg (Option.map Prod.fst) h4
     subst e
     exact ⟨_, h3, WZ 3 (YR hq3) h1⟩
    ·
     rw [if_pos (by omega)]
     rw [hrd] at hp2
     have hcl : qF ((ac0 P (fixed P ops) (ops.toList.drop j) []).getD (i - j) []) oi = true := by
      simpa [hlt] using hp2
     obtain ⟨hGj2, hTj⟩ := hline.inv j (by omega)
     have hC0 : Clear (μs j) (Hs j) [] (Ts j) (As j) := fun t _ => (hTj.slots t).v0
     have hC := hline.clear hdr (j := j) (by omega) _ [] j (Nat.le_refl _) rfl hC0 (i - j) (by rw [List.length_drop]; omega)
     rw [show j + (i - j) = i by omega] at hC
     have hL := hline.later (i := j) (i - j) (by omega)
     rw [show j + (i - j) = i by omega] at hL
     obtain ⟨a, h1, h2, _, _, h5⟩ := ahf hdr hv hni hm (hC.operands (ZH hv) hcl) hL
     rw [ha] at h5
     have e : zf i = a := by simpa using congrArg (Option.map Prod.fst) h5
     subst e
     exact ⟨_, h2, WZ 3 (YR hq3) h1⟩
  obtain ⟨G', h1, h2⟩ := same
  unfold recheck
  rw [h1]
  exact h2
 ·
  rw [hw]
  rfl
end
end Go.Abs
namespace Go.Abs
open Go.RowKit
section
variable {P : Program} {call : FuncId → List Value → M Value}
def agf (μ : Mu) (ω : Nat → Option qc) (H : zh) (e : AEx) (T' : List Value) (S' : zh) (R : St) : Prop :=
 ∃ A' H' μ' ω', R = some (e, A', H') ∧ GI μ' S' H' ∧ Later μ H μ' H' ∧ Kept ω H ω' H' ∧ TI μ' H' ω' T' A'
theorem afw {hp : Bool} (hc : WI P call) (fuel : Nat) : ∀ (c : Code) (T T' A : List Value) (S S' H : zh) (μ : Mu) (ω : Nat → Option qc) (e : AEx), yO P hp call fuel c T S = some (e, T', S') → GI μ S H → TI μ H ω T A → agf μ ω H e T' S' (yP P c A H) := by
 intro c
 induction c with
 | skip =>
  intro T T' A S S' H μ ω e h hG hT
  simp only [yO, Option.some.injEq, Prod.mk.injEq] at h
  obtain ⟨rfl, rfl, rfl⟩ := h
  exact ⟨A, H, μ, ω, rfl, hG, Later.refl _ _, Kept.refl _ _, hT⟩
 | exit id =>
  intro T T' A S S' H μ ω e h hG hT
  simp only [yO, Option.some.injEq, Prod.mk.injEq] at h
  obtain ⟨rfl, rfl, rfl⟩ := h
  exact ⟨A, H, μ, ω, rfl, hG, Later.refl _ _, Kept.refl _ _, hT⟩
 | ret =>
  intro T T' A S S' H μ ω e h hG hT
  simp only [yO, Option.some.injEq, Prod.mk.injEq] at h
  obtain ⟨rfl, rfl, rfl⟩ := h
  exact ⟨A, H, μ, ω, rfl, hG, Later.refl _ _, Kept.refl _ _, hT⟩
 | region i ops d =>
  intro T T' A S S' H μ ω e h hG hT
  cases d with
  | false =>
   simp only [yO] at h
   split at h <;> first | (cases h; done) | skip
   rename_i T1 S1 ho
   cases h
   obtain ⟨A', H', μ', ω', h1, h2, h3, h4, h5⟩ := ahl hc _ _ _ _ _ _ _ _ _ ho hG hT
   exact ⟨A', H', μ', ω', by simp only [yP, h1], h2, h3, h4, h5⟩
  | true =>
   simp only [yO] at h
   split at h <;> first | (cases h; done) | skip
   rename_i hd
   split at h <;> first | (cases h; done) | skip
   rename_i T1 S1 ho
   cases h
   obtain ⟨A', H', μ', ω', h1, h2, h3, h4, h5⟩ := acW hc hd ho hG hT
   exact ⟨A', H', μ', ω', by simp only [yP, h1], h2, h3, h4, h5⟩
 | seq x y ihx ihy =>
  intro T T' A S S' H μ ω e h hG hT
  simp only [yO] at h
  split at h
  ·
   rename_i T1 S1 hx
   obtain ⟨A1, H1, μ1, ω1, h1, h2, h3, h4, h5⟩ := ihx _ _ _ _ _ _ _ _ _ hx hG hT
   obtain ⟨A2, H2, μ2, ω2, k1, k2, k3, k4, k5⟩ := ihy _ _ _ _ _ _ _ _ _ h h2 h5
   exact ⟨A2, H2, μ2, ω2, by simp only [yP, h1]; exact k1, k2, h3.trans k3, h4.trans k4, k5⟩
  ·
   rename_i hne
   obtain ⟨A1, H1, μ1, ω1, h1, h2, h3, h4, h5⟩ := ihx _ _ _ _ _ _ _ _ _ h hG hT
   refine ⟨A1, H1, μ1, ω1, ?_, h2, h3, h4, h5⟩
   simp only [yP, h1]
   cases e with
   | normal => exact absurd h (hne _ _)
   | exit id => rfl
   | ret => rfl
 | cond c x y ihx ihy =>
  intro T T' A S S' H μ ω e h hG hT
  simp only [yO] at h
  split at h <;> first | (cases h; done) | skip
  rename_i hok
  have hv := hT.eval hok
  split at h
  ·
   rename_i hb
   have : zX A c = .bool true := jr hv (by rw [hb]; rfl) |>.trans hb
   obtain ⟨A1, H1, μ1, ω1, h1, h2, h3, h4, h5⟩ := ihx _ _ _ _ _ _ _ _ _ h hG hT
   exact ⟨A1, H1, μ1, ω1, by simp only [yP, hok, if_true, this]; exact h1, h2, h3, h4, h5⟩
  ·
   rename_i hb
   have : zX A c = .bool false := jr hv (by rw [hb]; rfl) |>.trans hb
   obtain ⟨A1, H1, μ1, ω1, h1, h2, h3, h4, h5⟩ := ihy _ _ _ _ _ _ _ _ _ h hG hT
   exact ⟨A1, H1, μ1, ω1, by simp only [yP, hok, if_true, this]; exact h1, h2, h3, h4, h5⟩
  ·
   cases h
 | block id c ih =>
  intro T T' A S S' H μ ω e h hG hT
  simp only [yO] at h
  split at h
  ·
   rename_i id' T1 S1 hx
   obtain ⟨A1, H1, μ1, ω1, h1, h2, h3, h4, h5⟩ := ih _ _ _ _ _ _ _ _ _ hx hG hT
   by_cases hid : id' = id
   ·
    rw [if_pos hid] at h
    cases h
    exact ⟨A1, H1, μ1, ω1, by simp only [yP, h1, if_pos hid], h2, h3, h4, h5⟩
   ·
    rw [if_neg hid] at h
    cases h
    exact ⟨A1, H1, μ1, ω1, by simp only [yP, h1, if_neg hid], h2, h3, h4, h5⟩
  ·
   rename_i hne
   obtain ⟨A1, H1, μ1, ω1, h1, h2, h3, h4, h5⟩ := ih _ _ _ _ _ _ _ _ _ h hG hT
   refine ⟨A1, H1, μ1, ω1, ?_, h2, h3, h4, h5⟩
   simp only [yP, h1]
   cases e with
   | normal => rfl
   | exit id' => exact absurd h (hne _ _ _)
   | ret => rfl
 | loop c ih =>
  have key : ∀ (n : Nat) (T T' A : List Value) (S S' H : zh) (μ : Mu) (ω : Nat → Option qc) (e : AEx), qx n (yO P hp call fuel c) T S = some (e, T', S') → GI μ S H → TI μ H ω T A → agf μ ω H e T' S' (qJ (yP P c) A H) := by
   intro n
   induction n with
   | zero => intro T T' A S S' H μ ω e h; cases h
   | succ n ihn =>
    intro T T' A S S' H μ ω e h hG hT
    simp only [qx] at h
    split at h
    ·
     rename_i T1 S1 hx
     obtain ⟨A1, H1, μ1, ω1, h1, h2, h3, h4, h5⟩ := ih _ _ _ _ _ _ _ _ _ hx hG hT
     obtain ⟨A2, H2, μ2, ω2, k1, k2, k3, k4, k5⟩ := ihn _ _ _ _ _ _ _ _ _ h h2 h5
     exact ⟨A2, H2, μ2, ω2, by rw [yV h1]; exact k1, k2, h3.trans k3, h4.trans k4, k5⟩
    ·
     rename_i hne
     obtain ⟨A1, H1, μ1, ω1, h1, h2, h3, h4, h5⟩ := ih _ _ _ _ _ _ _ _ _ h hG hT
     exact ⟨A1, H1, μ1, ω1, wo h1 (fun he => by subst he; exact hne _ _ h), h2, h3, h4, h5⟩
  intro T T' A S S' H μ ω e h hG hT
  simp only [yO] at h
  obtain ⟨A1, H1, μ1, ω1, h1, h2⟩ := key fuel _ _ _ _ _ _ _ _ _ h hG hT
  exact ⟨A1, H1, μ1, ω1, by simp only [yP]; exact h1, h2⟩
 | _ => intro T T' A S S' H μ ω e h; simp only [yO] at h; cases h
theorem VV.ah5 {μ : Mu} {H : zh} {ω ω' : Nat → Option qc} {f : qc → Option qc} (hω : ∀ r, ω' r = (ω r).bind f) {s s' : qc} (hs : f s = some s') {v a : Value} (h : VV μ H ω (some s) v a) (hv : jD v = true) : VV μ H ω' (some s') v a := by
 cases h with
 | sg h => exact .sg h
 | ptr h => exact .ptr h
 | map h => exact .map h
 | slm h => exact .slm h
 | slE => exact .slE
 | sl hr hp hg hl hl' hc => exact .sl hr hp hg hl hl' (fun i hi => (hc i hi).at0)
 | so h hr hp hg hl hl' hc => exact .so (by rw [hω, h]; exact hs) hr hp hg hl hl' (fun i hi => (hc i hi).at0)
 | ep hr hp hg hl hc => exact .ep hr hp hg hl (fun i hi => (hc i hi).at0)
 | func fn hx hc h1 h2 => exact .func fn hx hc (fun i => (h1 i).at0) (fun i => (h2 i).at0)
 | agg hx hh => exact .agg hx (fun i => (hh i).at0)
 | nores => exact .nores
 | @tuple _ x x' hx hh =>
  have h0 : x.size = 0 := by simpa [jD] using hv
  have e1 : x = #[] := Array.eq_empty_of_size_eq_zero h0
  have e2 : x' = #[] := Array.eq_empty_of_size_eq_zero (by rw [← hx]; exact h0)
  subst e1 e2
  exact .nores
def place (rs : List ResultVar) : qc → Option qc
 | .ext => some .ext
 | .res _ => none
 | .slot i j => match rs with
  | [.tmp t] => if i = t then some (.res j) else none
  | _ => match j with
   | none => (rs.findIdx? (afC i)).map fun k => .res (some k)
   | some _ => none
theorem aaV {rs : List ResultVar} {i : Nat} (h : ∀ t, rs ≠ [.tmp t]) : place rs (.slot i none) = (rs.findIdx? (afC i)).map fun k => .res (some k) := by
 match rs, h with
 | [], _ => rfl
 | [.tmp t], h => exact absurd rfl (h t)
 | [.cell _ _], _ => rfl
 | .tmp _ :: _ :: _, _ => rfl
 | .cell _ _ :: _ :: _, _ => rfl
theorem Vj {μ : Mu} {ω : Nat → Option qc} {S H : zh} {T A : List Value} (hG : GI μ S H) (hT : TI μ H ω T A) : ∀ (l : List ResultVar) (vs : List Value), zC P T S l = some vs →
  ∃ zf, xR P A H l = some zf ∧ vs.length = l.length ∧ zf.length = l.length ∧ ∀ i : Nat, match (l[i]? : Option ResultVar) with
   | some (.tmp t) => vs.getD i undef = T.getD t undef ∧ zf.getD i undef = A.getD t undef
   | _ => V0 μ H (vs.getD i undef) (zf.getD i undef) := by
 intro l
 induction l with
 | nil =>
  intro vs h
  simp only [zC, Option.some.injEq] at h
  subst h
  exact ⟨[], rfl, rfl, rfl, fun i => by simpa using VV.undef⟩
 | cons x l ih =>
  intro vs h
  cases x with
  | tmp t =>
   simp only [zC] at h
   split at h <;> first | (cases h; done) | skip
   rename_i vs' hr
   cases h
   obtain ⟨zf, h1, h2, h3, h4⟩ := ih _ hr
   refine ⟨A.getD t undef :: zf, by simp only [xR, h1], by simp [h2], by simp [h3], fun i => ?_⟩
   cases i with
   | zero => exact ⟨rfl, rfl⟩
   | succ i => simpa using h4 i
  | cell a t =>
   simp only [zC] at h
   split at h <;> first | (cases h; done) | skip
   rename_i v S1 vs' hl hr
   cases h
   obtain ⟨zf, h1, h2, h3, h4⟩ := ih _ hr
   obtain ⟨_, w, k1, k2⟩ := WT hl (hT.slots a).v0 (.inr hG)
   refine ⟨w :: zf, by simp only [xR, k1, h1], by simp [h2], by simp [h3], fun i => ?_⟩
   cases i with
   | zero => exact k2
   | succ i => simpa using h4 i
theorem ahs {μ : Mu} {ω : Nat → Option qc} {S S' H : zh} {T A : List Value} {fn : Func} {v : Value} (hG : GI μ S H) (hT : TI μ H ω T A) (h : abW P fn T S = some (v, S')) :
  S' = S ∧ ∃ a, aeQ P fn A H = some (a, H) ∧ VV μ H (fun r => (ω r).bind (place fn.results.toList)) (some (.res none)) v a := by
 unfold abW at h
 split at h <;> first | (cases h; done) | skip
 rename_i vs hvs
 split at h <;> first | (cases h; done) | skip
 rename_i hok
 obtain ⟨zf, h1, h2, h3, h4⟩ := Vj hG hT _ _ hvs
 generalize hrs : fn.results.toList = rs at *
 split at h
 ·
  rename_i v1
  cases h
  obtain ⟨a, rfl⟩ : ∃ a, zf = [a] := by
   match zf, h3.trans h2.symm with
   | [a], _ => exact ⟨a, rfl⟩
  refine ⟨rfl, a, by simp only [aeQ, hrs, h1], ?_⟩
  match rs, h2 with
  | [x], _ =>
   have := h4 0
   cases x with
   | tmp t =>
    simp only [List.getElem?_cons_zero, List.getD_cons_zero] at this
    obtain ⟨rfl, rfl⟩ := this
    refine (hT.slots t).QI (fun _ => rfl) _ (fun s hs => ?_)
    cases hs
    refine ⟨_, rfl, by simp only [place, if_true], fun k t' ht => ?_⟩
    cases ht
    exact ⟨_, rfl, by simp only [place, if_true]⟩
   | cell b t => exact (show V0 μ H v a from this).at0
 ·
  rename_i hne
  split at h <;> first | (cases h; done) | skip
  rename_i hnt
  cases h
  refine ⟨rfl, .tuple zf.toArray, ?_, .tuple (by simp [h2, h3]) fun i => ?_⟩
  ·
   simp only [aeQ, hrs, h1]
   match zf, vs, h3.trans h2.symm, hne with
   | [], _, _, _ => rfl
   | [a], [v], _, hne => exact absurd rfl (hne v)
   | a :: b :: c, _, _, _ => rfl
  ·
   have e1 : vs.toArray.getD i undef = vs.getD i undef := by rw [← getD_toList, List.toList_toArray]
   have e2 : zf.toArray.getD i undef = zf.getD i undef := by rw [← getD_toList, List.toList_toArray]
   rw [e1, e2]
   have h5 := h4 i
   cases hx : rs[i]? with
   | none => rw [hx] at h5; exact (show V0 μ H _ _ from h5).at0
   | some x =>
    rw [hx] at h5
    cases x with
    | cell b t => exact (show V0 μ H _ _ from h5).at0
    | tmp t =>
     dsimp only at h5
     have hi : i < rs.length := (List.getElem?_eq_some_iff.1 hx).1
     have hid : rs.findIdx? (afC t) = some i := by
      have := List.all_eq_true.1 hok i (List.mem_range.2 hi)
      rw [hx] at this
      simpa using this
     have hnt2 : jD (T.getD t undef) = true := by
      rw [← h5.1, List.getD_eq_getElem?_getD, List.getElem?_eq_getElem (by omega)]
      exact List.all_eq_true.1 hnt _ (List.getElem_mem _)
     rw [h5.1, h5.2]
     refine (hT.slots t).ah5 (fun _ => rfl) (s' := .res (some i)) ?_ hnt2
     have hne1 : ∀ t', rs ≠ [.tmp t'] := by
      intro t' e
      rw [e] at h2
      match vs, h2 with
      | [v], _ => exact hne v rfl
     rw [aaV hne1, hid]; rfl
def ac6 (P : Program) (O : Ora) : Prop := ∀ f q, O.fn f = some q → WI P (fun g args => if g = f then q args else fun _ => none)
open Classical in
noncomputable def VU (μ μ1 : Mu) (ω : Nat → Option qc) : Nat → Option qc := fun r => if ∃ q, μ q = some (r, true) ∧ ¬ μ1 q = some (r, true) then some .ext else ω r
theorem aeu {call : FuncId → List Value → M Value} (hc : WI P call) {hps : FuncId → Bool} {hp : Bool} : WI P (xP hps hp call) := by
 cases hp with
 | false => exact hc
 | true =>
  intro g args aargs S v S' h μ H ω hG hA hD hE
  unfold xP at h
  dsimp only at h
  split at h
  ·
   exact hc g args aargs S v S' h μ H ω hG hA hD hE
  ·
   split at h <;> first | (cases h; done) | skip
   rename_i m S1 hf
   obtain ⟨μ1, h1, h2, h3⟩ := X9 _ _ _ _ _ _ hf hG hA
   split at h <;> first | (cases h; done) | skip
   rename_i r0 hr0
   obtain ⟨v0, S2⟩ := r0
   simp only [Option.some.injEq] at h
   unfold ad8 at h
   dsimp only at h
   split at h
   ·
    rename_i hb
    cases h
    simp only [Bool.and_eq_true, beq_iff_eq] at hb
    obtain ⟨⟨_, hgr⟩, hlog⟩ := hb
    have hlent : ∀ q r, μ q = some (r, true) → ¬ μ1 q = some (r, true) → r < H.next ∧ YT μ1 r := fun q r hq hn =>
     ⟨hG.lt q r _ hq, fun q' hq' => by
      rcases h2.new q' r hq' with h5 | h5
      ·
       have := hG.inj q q' r hq h5
       subst this
       exact hn hq'
      ·
       have := hG.lt q r _ hq; omega, by rw [h2.hid]; exact hG.vis q r hq⟩
    have hDL : Dom μ1 H (VU μ μ1 ω) := fun r s hs => by
     unfold VU at hs
     split at hs
     ·
      rename_i hx
      obtain ⟨q, hq, hn⟩ := hx
      exact hlent q r hq hn
     ·
      exact ⟨(hD r s hs).1, h2.priv (hD r s hs).1 (hD r s hs).2⟩
    have hEL : ∀ r s, VU μ μ1 ω r = some s → s = .ext := fun r s hs => by
     unfold VU at hs
     split at hs
     ·
      cases hs; rfl
     ·
      exact hE r s hs
    obtain ⟨a, H', μ', ω', k1, k2, k3, k4, k5, k6⟩ := hc g m aargs S1 v S2 hr0 μ1 H (VU μ μ1 ω) h1 h3 hDL hEL
    have hsame : ∀ q r, μ q = some (r, true) → H'.get r = H.get r := fun q r hq => by
     by_cases hn : μ1 q = some (r, true)
     ·
      obtain ⟨new, e1, e2⟩ := k3.still
      have : new = [] := by
       rw [k2.log, h1.log, hlog] at e1
       exact List.append_cancel_right (bs := S1.log) (by rw [← e1]; rfl)
      subst this
      exact (e2 q r hn (by simp)).2
     ·
      exact (k4 r (by unfold VU; rw [if_pos ⟨q, hq, hn⟩])).2
    have hL : Later μ H μ H' := ⟨fun _ _ b h => ⟨b, h⟩, k3.next, fun _ _ h => .inl h, rfl, fun r hr hh => k3.same r hr (by rw [h2.hid]; exact hh), ⟨[], rfl, fun q r hq _ => ⟨hq, hsame q r hq⟩⟩,
     fun r l own e hr hp hg => k3.cells r l own e hr (h2.priv hr hp) hg⟩
    refine ⟨a, H', μ, ω, k1, hG.later hL rfl hsame, hL, fun r hr => ⟨hr, (k4 r ?_).2⟩, fun r s hs => ⟨Nat.lt_of_lt_of_le (hD r s hs).1 k3.next, (hD r s hs).2⟩, ?_⟩
    ·
     unfold VU
     split
     ·
      rfl
     ·
      exact hr
    ·
     rw [VV.kN hgr k6]
     exact VV.yB hgr
   ·
    cases h
    obtain ⟨a, H', μ', ω', k1, k2, k3, k4, k5, k6⟩ := hc g m aargs S1 v S' hr0 μ1 H ω h1 h3 (fun r s hs => ⟨(hD r s hs).1, h2.priv (hD r s hs).1 (hD r s hs).2⟩) hE
    exact ⟨a, H', μ', ω', k1, k2, h2.trans k3, k4, k5, k6⟩
theorem VV.clean {μ μ' : Mu} {H : zh} {ω : Nat → Option qc} (hp : ∀ r, YT μ r → YT μ' r) {ℓ : Option qc} {v a : Value} (h : VV μ H ω ℓ v a) : ∀ d, jf d v = true → VV μ' H ω ℓ v a := by
 induction h with
 | sg h => exact fun _ _ => .sg h
 | ptr h => intro d hc; cases d <;> simp [jf] at hc
 | map h => intro d hc; cases d <;> simp [jf] at hc
 | slm h => intro d hc; cases d <;> simp [jf] at hc
 | slE => exact fun _ _ => .slE
 | sl hr hpr hg hl hn hc ih =>
  intro d hcl
  obtain ⟨d, rfl⟩ : ∃ k, d = k + 4 := by
   match d, hcl with
   | 0, h => cases h
   | 1, h => simp [jf] at h
   | 2, h => simp [jf] at h
   | 3, h => simp [jf] at h
   | k + 4, _ => exact ⟨k, rfl⟩
  simp only [jf] at hcl
  refine .sl hr (hp _ hpr) hg hl hn (fun i hi => ih i hi d ?_)
  rw [List.getD_eq_getElem?_getD, List.getElem?_eq_getElem (by omega)]
  exact List.all_eq_true.1 hcl _ (List.getElem_mem _)
 | so hω hr hpr hg hl hn hc ih =>
  intro d hcl
  obtain ⟨d, rfl⟩ : ∃ k, d = k + 4 := by
   match d, hcl with
   | 0, h => cases h
   | 1, h => simp [jf] at h
   | 2, h => simp [jf] at h
   | 3, h => simp [jf] at h
   | k + 4, _ => exact ⟨k, rfl⟩
  simp only [jf] at hcl
  refine .so hω hr (hp _ hpr) hg hl hn (fun i hi => ih i hi d ?_)
  rw [List.getD_eq_getElem?_getD, List.getElem?_eq_getElem (by omega)]
  exact List.all_eq_true.1 hcl _ (List.getElem_mem _)
 | ep hr hpr hg hl hc ih =>
  intro d hcl
  obtain ⟨d, rfl⟩ : ∃ k, d = k + 2 := by
   match d, hcl with
   | 0, h => cases h
   | 1, h => simp [jf] at h
   | k + 2, _ => exact ⟨k, rfl⟩
  simp only [jf] at hcl
  refine .ep hr (hp _ hpr) hg hl (fun i hi => ih i hi d ?_)
  rw [List.getD_eq_getElem?_getD, List.getElem?_eq_getElem hi]
  exact List.all_eq_true.1 hcl _ (List.getElem_mem _)
 | func fn hx hc h1 h2 => intro d hc; cases d <;> simp [jf] at hc
 | @agg ℓ x x' hx hh ih =>
  intro d hcl
  obtain ⟨d, rfl⟩ : ∃ k, d = k + 1 := by
   match d, hcl with
   | 0, h => cases h
   | k + 1, _ => exact ⟨k, rfl⟩
  simp only [jf] at hcl
  refine .agg hx (fun i => ?_)
  by_cases hi : i < x.size
  ·
   refine ih i d ?_
   rw [Array.getD_eq_getD_getElem?, Array.getElem?_eq_getElem hi]
   exact List.all_eq_true.1 hcl _ (by simp)
  ·
   rw [Array.getD_eq_getD_getElem?, Array.getElem?_eq_none (Nat.le_of_not_lt hi), Array.getD_eq_getD_getElem?, Array.getElem?_eq_none (by omega)]
   exact .nores
 | nores => exact fun _ _ => .nores
 | @tuple ℓ x x' hx hh ih =>
  intro d hcl
  obtain ⟨d, rfl⟩ : ∃ k, d = k + 1 := by
   match d, hcl with
   | 0, h => cases h
   | k + 1, _ => exact ⟨k, rfl⟩
  simp only [jf] at hcl
  refine .tuple hx (fun i => ?_)
  by_cases hi : i < x.size
  ·
   refine ih i d ?_
   rw [Array.getD_eq_getD_getElem?, Array.getElem?_eq_getElem hi]
   exact List.all_eq_true.1 hcl _ (by simp)
  ·
   rw [Array.getD_eq_getD_getElem?, Array.getElem?_eq_none (Nat.le_of_not_lt hi), Array.getD_eq_getD_getElem?, Array.getElem?_eq_none (by omega)]
   exact .nores
open Classical in
noncomputable def Zk (μ : Mu) : Mu := ⟨fun _ => none, fun r => μ.hid r || decide (∃ q, μ q = some (r, true)), []⟩
theorem YF {μ : Mu} {r : Nat} (h : YT μ r) : YT (Zk μ) r := ⟨fun q hq => (by cases hq), by
 simp only [Zk, h.2, Bool.false_or, decide_eq_false_iff_not]
 rintro ⟨q, hq⟩
 exact h.1 q hq⟩
theorem ad5 {μ : Mu} {r : Nat} (h : (Zk μ).hid r = false) : YT μ r := by
 simp only [Zk, Bool.or_eq_false_iff, decide_eq_false_iff_not] at h
 exact ⟨fun q hq => h.2 ⟨q, hq⟩, h.1⟩
def aiN (P : Program) (g : FuncId) (args : List Value) (run : M Value) : Prop := ∀ aargs S v S', run S = some (v, S') → ∀ μ H ω, GI μ S H → L0 μ H args aargs → Dom μ H ω → (∀ r s, ω r = some s → s = .ext) →
 ∃ a H' μ' ω', lim P g aargs H = some (a, H') ∧ GI μ' S' H' ∧ Later μ H μ' H' ∧ Kept ω H ω' H' ∧ Dom μ' H' ω' ∧ VV μ' H' ω' (some (.res none)) v a
theorem aei {g : FuncId} {args : List Value} {run : M Value} (hr : aiN P g args run) : aiN P g args (adL run args) := by
 intro aargs S v S' h μ H ω hG hA hD hE
 unfold adL at h
 split at h <;> first | (cases h; done) | skip
 rename_i hca
 split at h <;> first | (cases h; done) | skip
 rename_i w S1 hrun
 split at h <;> first | (cases h; done) | skip
 rename_i hcw
 cases h
 have hG0 : GI (Zk μ) zh.empty H := ⟨fun q o h => (by cases h), fun q q' r h => (by cases h), fun q r b h => (by cases h), fun q _ => rfl, fun q r h => (by cases h), fun r h => by
  simp only [Zk, Bool.or_eq_true, decide_eq_true_eq] at h
  rcases h with h | ⟨q, hq⟩
  ·
   exact hG.hlt r h
  ·
   exact hG.lt q r _ hq, rfl, fun q cs anc e h => (by cases h)⟩
 have hA0 : L0 (Zk μ) H args aargs := ⟨hA.1, fun i => by
  by_cases hi : i < args.length
  ·
   refine (hA.2 i).clean (fun r h => YF h) 16 ?_
   rw [List.getD_eq_getElem?_getD, List.getElem?_eq_getElem hi]
   exact List.all_eq_true.1 hca _ (List.getElem_mem _)
  ·
   rw [List.getD_eq_getElem?_getD, List.getElem?_eq_none (Nat.le_of_not_lt hi), List.getD_eq_getElem?_getD, List.getElem?_eq_none (by rw [← hA.1]; omega)]
   exact .nores⟩
 obtain ⟨a, H1, μ1, ω1, k1, k2, k3, k4, k5, k6⟩ := hr aargs _ _ _ hrun (Zk μ) H ω hG0 hA0 (fun r s h => ⟨(hD r s h).1, YF (hD r s h).2⟩) hE
 have hp1 : ∀ r, YT μ1 r → YT μ r := fun r h => ad5 (by rw [← k3.hid]; exact h.2)
 have hL : Later μ H μ H1 := ⟨fun _ _ b h => ⟨b, h⟩, k3.next, fun _ _ h => .inl h, rfl, fun r hr hh => k3.same r hr (by simp only [Zk, hh, Bool.true_or]), ⟨[], rfl, fun q r hq _ => ⟨hq, k3.same r (hG.lt q r _ hq) (by
  simp only [Zk, Bool.or_eq_true, decide_eq_true_eq]
  exact .inr ⟨q, hq⟩)⟩⟩, fun r l own e hr hp hg => k3.cells r l own e hr (YF hp) hg⟩
 refine ⟨a, H1, μ, ω1, k1, ?_, hL, k4, fun r s h => ⟨(k5 r s h).1, hp1 r (k5 r s h).2⟩, k6.clean hp1 16 hcw⟩
 exact hG.later hL rfl fun q r hq => k3.same r (hG.lt q r _ hq) (by
  simp only [Zk, Bool.or_eq_true, decide_eq_true_eq]
  exact .inr ⟨q, hq⟩)
theorem ae9 {O : Ora} (hO : ac6 P O) : ∀ n, WI P (xZ P O n) := by
 intro n
 induction n with
 | zero => intro g args aargs S v S' h; cases h
 | succ n ih =>
  intro g args aargs S v S' h μ H ω hG hA hD hE
  simp only [xZ] at h
  cases ho : O.fn g with
  | some q =>
   rw [ho] at h
   exact hO g q ho g args aargs S v S' (by simpa using h) μ H ω hG hA hD hE
  | none =>
   rw [ho] at h
   dsimp only at h
   cases hf : P.funcs[g]? with
   | none => rw [hf] at h; cases h
   | some fn =>
    rw [hf] at h
    dsimp only at h
    split at h <;> first | (cases h; done) | skip
    rename_i hn
    cases hb : fn.body with
    | none => rw [hb] at h; cases h
    | some c =>
     rw [hb] at h
     dsimp only at h
     have hrun : aiN P g args (aeb P (O.hp g) (xP O.hp (O.hp g) (xZ P O n)) n fn c args) := by
      intro aargs S v S' h μ H ω hG hA hD hE
      have hT0 : TI μ H ω (args ++ List.replicate (fn.ntmps - args.length) undef) (aargs ++ List.replicate (fn.ntmps - aargs.length) undef) := by
       have hl : L0 μ H (args ++ List.replicate (fn.ntmps - args.length) undef) (aargs ++ List.replicate (fn.ntmps - aargs.length) undef) := by
        refine hA.append (VL.ofRange (by rw [hA.1]) fun i hi => ?_)
        have hi2 : i < fn.ntmps - args.length := by simpa using hi
        rw [List.getD_eq_getElem?_getD, List.getElem?_replicate, if_pos hi2, List.getD_eq_getElem?_getD, List.getElem?_replicate, if_pos (by rw [← hA.1]; exact hi2)]
        exact .nores
       exact ⟨hl.1, fun i => (hl.2 i).at0, hD, fun r j hr => by have := hE r _ hr; cases this⟩
      have fin : ∀ (e : AEx) (T1 : List Value) (S1 : zh), (e = .normal ∨ e = .ret) → yO P (O.hp g) (xP O.hp (O.hp g) (xZ P O n)) n c (args ++ List.replicate (fn.ntmps - args.length) undef) S = some (e, T1, S1) → abW P fn T1 S1 = some (v, S') →
        ∃ a H' μ' ω', lim P g aargs H = some (a, H') ∧ GI μ' S' H' ∧ Later μ H μ' H' ∧ Kept ω H ω' H' ∧ Dom μ' H' ω' ∧ VV μ' H' ω' (some (.res none)) v a := by
       intro e T1 S1 he hcode hres
       obtain ⟨A1, H1, μ1, ω1, h1, h2, h3, h4, h5⟩ := afw (aeu ih) n c _ _ _ _ _ _ _ _ _ hcode hG hT0
       obtain ⟨rfl, a, k1, k2⟩ := ahs (P := P) h2 h5 hres
       refine ⟨a, H1, μ1, fun r => (ω1 r).bind (place fn.results.toList), aeB hf hn hb h1 he k1, h2, h3, fun r hr => ?_, fun r s hs => ?_, k2⟩
       ·
        obtain ⟨q1, q2⟩ := h4 r hr
        exact ⟨by simp [q1, place], q2⟩
       ·
        cases hr : ω1 r with
        | none => simp [hr] at hs
        | some s0 => exact h5.dom r s0 hr
      unfold aeb at h
      split at h
      ·
       rename_i T1 S1 hx; exact fin .normal _ _ (.inl rfl) hx h
      ·
       rename_i T1 S1 hx; exact fin .ret _ _ (.inr rfl) hx h
      ·
       cases h
     split at h
     ·
      exact aei hrun aargs S v S' h μ H ω hG hA hD hE
     ·
      exact hrun aargs S v S' h μ H ω hG hA hD hE
end
end Go.Abs
namespace Go.Abs
open Go.RowKit
open Classical
noncomputable def zM (P : Program) (O : Ora) (g : FuncId) (args : List Value) : M Value := fun S =>
 if h : ∃ r, ∃ k0, ∀ k, k0 ≤ k → xZ P O k g args S = some r then some (Classical.choose h) else none
section
variable {P : Program} {O : Ora}
theorem XP {g : FuncId} {args : List Value} {S : zh} {r : Value × zh} (h : zM P O g args S = some r) : ∃ k0, ∀ k, k0 ≤ k → xZ P O k g args S = some r := by
 unfold zM at h
 split at h
 ·
  rename_i hx
  have := Classical.choose_spec hx
  cases h
  exact this
 ·
  cases h
theorem VX {g : FuncId} {args : List Value} {S : zh} {r : Value × zh} (h : ∃ k0, ∀ k, k0 ≤ k → xZ P O k g args S = some r) : zM P O g args S = some r := by
 have hx : ∃ r, ∃ k0, ∀ k, k0 ≤ k → xZ P O k g args S = some r := ⟨r, h⟩
 unfold zM
 rw [dif_pos hx]
 obtain ⟨k0, h0⟩ := h
 obtain ⟨k1, h1⟩ := Classical.choose_spec hx
 have e0 := h0 (max k0 k1) (Nat.le_max_left _ _)
 have e1 := h1 (max k0 k1) (Nat.le_max_right _ _)
 rw [e0] at e1
 exact e1.symm
theorem ahz (hO : ac6 P O) : WI P (zM P O) := by
 intro g args aargs S v S' h
 obtain ⟨k, hk⟩ := XP h
 exact ae9 hO k g args aargs S v S' (hk k (Nat.le_refl k))
def ahL (c : FuncId → List Value → M Value) (ck : Nat → FuncId → List Value → M Value) : Prop := ∀ g args S r, c g args S = some r → ∃ k0, ∀ k, k0 ≤ k → ck k g args S = some r
theorem Xp : ahL (zM P O) (fun k => xZ P O k) := fun g args S r h => XP h
theorem Qq {c : FuncId → List Value → M Value} {ck : Nat → FuncId → List Value → M Value} (hl : ahL c ck) {hps : FuncId → Bool} {hp : Bool} : ahL (xP hps hp c) (fun k => xP hps hp (ck k)) := by
 cases hp with
 | false => exact hl
 | true =>
  intro g args S r h
  unfold xP at h
  dsimp only at h
  split at h
  ·
   rename_i hg
   obtain ⟨k0, h0⟩ := hl _ _ _ _ h
   exact ⟨k0, fun k hk => by unfold xP; dsimp only; rw [if_pos hg]; exact h0 k hk⟩
  ·
   rename_i hg
   split at h <;> first | (cases h; done) | skip
   rename_i m S1 hf
   split at h <;> first | (cases h; done) | skip
   rename_i r0 hr0
   obtain ⟨k0, h0⟩ := hl _ _ _ _ hr0
   exact ⟨k0, fun k hk => by unfold xP; dsimp only; rw [if_neg hg, hf]; dsimp only; rw [h0 k hk]; exact h⟩
section
variable {c : FuncId → List Value → M Value} {ck : Nat → FuncId → List Value → M Value}
theorem Xt (hl : ahL c ck) {fx : Fx} {T : List Value} {o : Oper} {S : zh} {r : Value × zh} (h : yA P fx c T o S = some r) : ∃ k0, ∀ k, k0 ≤ k → yA P fx (ck k) T o S = some r := by
 unfold yA at h
 split at h
 ·
  rename_i hok
  split at h
  ·
   rename_i q0 hop
   split at h
   ·
    rename_i f hf
    split at h
    ·
     rename_i g first captured hev
     obtain ⟨k0, hk⟩ := hl _ _ _ _ h
     refine ⟨k0, fun k hkk => ?_⟩
     unfold yA
     rw [if_pos hok]
     simp only [hop, hf, hev]
     exact hk k hkk
    ·
     cases h
   ·
    rename_i b hb
    refine ⟨0, fun k _ => ?_⟩
    unfold yA
    rw [if_pos hok]
    simp only [hop, hb]
    exact h
   ·
    cases h
  ·
   rename_i hop
   refine ⟨0, fun k _ => ?_⟩
   unfold yA
   rw [if_pos hok]
   split
   ·
    rename_i q0 hc; exact absurd hc (hop q0)
   ·
    exact h
 ·
  cases h
theorem aew (hl : ahL c ck) {fx : Fx} {ops : Array Oper} : ∀ (l : List Oper) (T : List Value) (S : zh) (r : List Value × zh), jd P fx c ops l T S = some r → ∃ k0, ∀ k, k0 ≤ k → jd P fx (ck k) ops l T S = some r := by
 intro l
 induction l with
 | nil => intro T S r h; exact ⟨0, fun k _ => h⟩
 | cons o l ih =>
  intro T S r h
  simp only [jd] at h
  split at h
  ·
   rename_i hw
   split at h
   ·
    rename_i v S' hs
    obtain ⟨k1, h1⟩ := Xt hl hs
    obtain ⟨k2, h2⟩ := ih _ _ _ h
    refine ⟨max k1 k2, fun k hk => ?_⟩
    simp only [jd, hw, if_true, h1 k (by omega)]
    exact h2 k (by omega)
   ·
    cases h
  ·
   rename_i hw
   obtain ⟨k2, h2⟩ := ih _ _ _ h
   refine ⟨k2, fun k hk => ?_⟩
   simp only [jd, hw, if_false]
   exact h2 k hk
theorem adW (hl : ahL c ck) {fx : Fx} {chk : List Nat} {nl : List (Nat × Nat)} {ops : Array Oper} : ∀ (l : List Oper) (i : Nat) (hist : List (Value × zh)) (T : List Value) (S : zh) (r : List Value × zh), wP P fx chk nl c ops i hist l T S = some r → ∃ k0, ∀ k, k0 ≤ k → wP P fx chk nl (ck k) ops i hist l T S = some r := by
 intro l
 induction l with
 | nil => intro i hist T S r h; exact ⟨0, fun k _ => h⟩
 | cons o l ih =>
  intro i hist T S r h
  simp only [wP] at h
  split at h
  ·
   rename_i hw
   split at h
   ·
    rename_i v S' hs
    split at h
    ·
     rename_i hq
     obtain ⟨k1, h1⟩ := Xt hl hs
     obtain ⟨k2, h2⟩ := ih _ _ _ _ _ h
     refine ⟨max k1 k2, fun k hk => ?_⟩
     simp only [wP, hw, if_true, h1 k (by omega), hq]
     exact h2 k (by omega)
    ·
     cases h
   ·
    cases h
  ·
   rename_i hw
   obtain ⟨k2, h2⟩ := ih _ _ _ _ _ h
   refine ⟨k2, fun k hk => ?_⟩
   simp only [wP, hw, if_false]
   exact h2 k hk
end
noncomputable def zu (P : Program) (O : Ora) (hp : Bool) : Code → List Value → zh → St
 | .skip, T, H => some (.normal, T, H)
 | .region _ ops false, T, H => match jd P ⟨hp, false, false⟩ (xP O.hp hp (zM P O)) ops ops.toList T H with
  | some (T1, H1) => some (.normal, T1, H1)
  | none => none
 | .region _ ops true, T, H => if ku P ops then match wP P ⟨hp, !(checked P ops).isEmpty, fixed P ops⟩ (checked P ops) (again P ops) (xP O.hp hp (zM P O)) ops 0 [] ops.toList T H with
  | some (T1, H1) => some (.normal, T1, H1)
  | none => none
  else none
 | .seq x y, T, H => match zu P O hp x T H with
  | some (.normal, T1, H1) => zu P O hp y T1 H1
  | r => r
 | .cond c x y, T, H => if qM c then
   match zX T c with
   | .bool true => zu P O hp x T H
   | .bool false => zu P O hp y T H
   | _ => none
  else none
 | .block id c, T, H => match zu P O hp c T H with
  | some (.exit id', T1, H1) => if id' = id then some (.normal, T1, H1) else some (.exit id', T1, H1)
  | r => r
 | .loop c, T, H => qJ (zu P O hp c) T H
 | .exit id, T, H => some (.exit id, T, H)
 | .ret, T, H => some (.ret, T, H)
 | _, _, _ => none
theorem Y4 {hp : Bool} : ∀ (c : Code) (T : List Value) (H : zh) (r), zu P O hp c T H = some r → ∃ k0, ∀ k fuel, k0 ≤ k → k0 ≤ fuel → yO P hp (xP O.hp hp (xZ P O k)) fuel c T H = some r := by
 intro c
 induction c with
 | skip => intro T H r h; exact ⟨0, fun k fuel _ _ => h⟩
 | region i ops d =>
  intro T H r h
  cases d with
  | false =>
   simp only [zu] at h
   split at h
   ·
    rename_i T1 H1 ho
    obtain ⟨k0, h0⟩ := aew (Qq Xp) _ _ _ _ ho
    exact ⟨k0, fun k fuel hk _ => by simp only [yO, h0 k hk]; exact h⟩
   ·
    cases h
  | true =>
   simp only [zu] at h
   split at h
   ·
    rename_i hd
    split at h
    ·
     rename_i T1 H1 ho
     obtain ⟨k0, h0⟩ := adW (Qq Xp) _ _ _ _ _ _ ho
     exact ⟨k0, fun k fuel hk _ => by simp only [yO, hd, if_true, h0 k hk]; exact h⟩
    ·
     cases h
   ·
    cases h
 | seq x y ihx ihy =>
  intro T H r h
  simp only [zu] at h
  split at h
  ·
   rename_i T1 H1 hx
   obtain ⟨k1, h1⟩ := ihx _ _ _ hx
   obtain ⟨k2, h2⟩ := ihy _ _ _ h
   exact ⟨max k1 k2, fun k fuel hk hf => by simp only [yO, h1 k fuel (by omega) (by omega)]; exact h2 k fuel (by omega) (by omega)⟩
  ·
   rename_i hne
   obtain ⟨k1, h1⟩ := ihx _ _ _ h
   refine ⟨k1, fun k fuel hk hf => ?_⟩
   simp only [yO, h1 k fuel hk hf]
   split
   ·
    rename_i T1 H1 he; exact absurd (h.trans he) (hne T1 H1)
   ·
    rfl
 | cond c x y ihx ihy =>
  intro T H r h
  simp only [zu] at h
  split at h
  ·
   rename_i hok
   split at h
   ·
    rename_i hb
    obtain ⟨k1, h1⟩ := ihx _ _ _ h
    exact ⟨k1, fun k fuel hk hf => by simp only [yO, hok, if_true, hb]; exact h1 k fuel hk hf⟩
   ·
    rename_i hb
    obtain ⟨k1, h1⟩ := ihy _ _ _ h
    exact ⟨k1, fun k fuel hk hf => by simp only [yO, hok, if_true, hb]; exact h1 k fuel hk hf⟩
   ·
    cases h
  ·
   cases h
 | block id c ih =>
  intro T H r h
  simp only [zu] at h
  split at h
  ·
   rename_i id' T1 H1 hc
   obtain ⟨k1, h1⟩ := ih _ _ _ hc
   exact ⟨k1, fun k fuel hk hf => by simp only [yO, h1 k fuel hk hf]; exact h⟩
  ·
   rename_i hne
   obtain ⟨k1, h1⟩ := ih _ _ _ h
   refine ⟨k1, fun k fuel hk hf => ?_⟩
   simp only [yO, h1 k fuel hk hf]
   split
   ·
    rename_i id' T1 H1 he; exact absurd (h.trans he) (hne id' T1 H1)
   ·
    rfl
 | loop c ih =>
  intro T H r h
  simp only [zu] at h
  obtain ⟨n, hn⟩ := ZL h
  have key : ∀ (n : Nat) (T : List Value) (H : zh), qx n (zu P O hp c) T H = some r → ∃ k0, ∀ k fuel, k0 ≤ k → k0 ≤ fuel → ∀ j, n ≤ j → qx j (yO P hp (xP O.hp hp (xZ P O k)) fuel c) T H = some r := by
   intro n
   induction n with
   | zero => intro T H h; cases h
   | succ n ihn =>
    intro T H h
    simp only [qx] at h
    split at h
    ·
     rename_i T1 H1 hf
     obtain ⟨k1, h1⟩ := ih _ _ _ hf
     obtain ⟨k2, h2⟩ := ihn _ _ h
     refine ⟨max k1 k2, fun k fuel hk hfu j hj => ?_⟩
     obtain ⟨j, rfl⟩ : ∃ i, j = i + 1 := ⟨j - 1, by omega⟩
     simp only [qx, h1 k fuel (by omega) (by omega)]
     exact h2 k fuel (by omega) (by omega) j (by omega)
    ·
     rename_i hne
     obtain ⟨k1, h1⟩ := ih _ _ _ h
     refine ⟨k1, fun k fuel hk hfu j hj => ?_⟩
     obtain ⟨j, rfl⟩ : ∃ i, j = i + 1 := ⟨j - 1, by omega⟩
     simp only [qx, h1 k fuel hk hfu]
     split
     ·
      rename_i T1 H1 he; exact absurd (h.trans he) (hne T1 H1)
     ·
      rfl
  obtain ⟨k0, h0⟩ := key n T H hn
  exact ⟨max k0 n, fun k fuel hk hf => by simp only [yO]; exact h0 k fuel (by omega) (by omega) fuel (by omega)⟩
 | exit id => intro T H r h; exact ⟨0, fun k fuel _ _ => h⟩
 | ret => intro T H r h; exact ⟨0, fun k fuel _ _ => h⟩
 | _ => intro T H r h; simp only [zu] at h; cases h
theorem yX {f : FuncId} {fn : Func} {c : Code} {args : List Value} {H H1 H' : zh} {e : AEx} {T : List Value} {v : Value} (ho : O.fn f = none) (hpu : O.pu f = false) (hf : P.funcs[f]? = some fn) (hn : fn.name ≠ "runtime.NumGoroutine") (hb : fn.body = some c)
  (h : zu P O (O.hp f) c (args ++ List.replicate (fn.ntmps - args.length) undef) H = some (e, T, H1)) (he : e = .normal ∨ e = .ret) (hres : abW P fn T H1 = some (v, H')) : zM P O f args H = some (v, H') := by
 obtain ⟨k0, h0⟩ := Y4 _ _ _ _ h
 refine VX ⟨k0 + 1, fun k hk => ?_⟩
 obtain ⟨k, rfl⟩ : ∃ i, k = i + 1 := ⟨k - 1, by omega⟩
 simp only [xZ, ho, hf, if_neg hn, hb, hpu, Bool.false_eq_true, if_false, aeb, h0 k k (by omega) (by omega)]
 rcases he with rfl | rfl <;> exact hres
theorem wR {f : FuncId} {fn : Func} {c : Code} {args : List Value} {S H1 H' : zh} {e : AEx} {T : List Value} {v : Value} (ho : O.fn f = none) (hpu : O.pu f = true) (hf : P.funcs[f]? = some fn) (hn : fn.name ≠ "runtime.NumGoroutine") (hb : fn.body = some c)
  (h : zu P O (O.hp f) c (args ++ List.replicate (fn.ntmps - args.length) undef) zh.empty = some (e, T, H1)) (he : e = .normal ∨ e = .ret) (hres : abW P fn T H1 = some (v, H')) (hca : args.all (jf 16) = true) (hcv : jf 16 v = true) : zM P O f args S = some (v, S) := by
 obtain ⟨k0, h0⟩ := Y4 _ _ _ _ h
 refine VX ⟨k0 + 1, fun k hk => ?_⟩
 obtain ⟨k, rfl⟩ : ∃ i, k = i + 1 := ⟨k - 1, by omega⟩
 have hr : aeb P (O.hp f) (xP O.hp (O.hp f) (xZ P O k)) k fn c args zh.empty = some (v, H') := by
  simp only [aeb, h0 k k (by omega) (by omega)]
  rcases he with rfl | rfl <;> exact hres
 simp only [xZ, ho, hf, if_neg hn, hb, hpu, if_true, adL, if_pos hca, hr, if_pos hcv]
def Ty.JL : (t : Ty) → t.Val → List Value
 | .int k, n => [.int k n]
 | .bool, b => [.bool b]
 | .str, s => [.string s]
 | .slc _ e, l => match l with
  | none => [.slice none 0 0]
  | some l => [SL 1 e.sz l.length (l.flatMap e.JL)]
 | .pair a b, (x, y) => a.JL x ++ b.JL y
 | .unit, _ => []
theorem Ty.VO : ∀ (t : Ty) (x : t.Val), (t.JL x).length = t.sz := by
 intro t
 induction t with
 | pair a b iha ihb => rintro ⟨x, y⟩; simp [Ty.JL, Ty.sz, iha, ihb]
 | slc bytes e ih => intro x; cases x <;> rfl
 | _ => intro x; rfl
theorem Wn {e : Ty} (l : List e.Val) : (l.flatMap e.JL).length = l.length * e.sz := by
 induction l with
 | nil => simp
 | cons x l ih => simp [List.flatMap_cons, Ty.VO, ih, Nat.add_mul]; omega
def M0 : Mu := ⟨fun _ => none, fun _ => false, []⟩
theorem GI.none {H : zh} : GI M0 zh.empty H := ⟨(fun q o h => by cases h), (fun q q' r h => by cases h), (fun q r b h => by cases h), (fun q _ => rfl), (fun q r h => by cases h), (fun r h => by cases h), rfl, (fun q cs anc e h => by cases h)⟩
theorem Ty.QF : ∀ (t : Ty) (x : t.Val) (H : zh), Later M0 H M0 (t.place x H).2 ∧ L0 M0 (t.place x H).2 (t.JL x) (t.place x H).1 := by
 intro t
 induction t with
 | int k => intro x H; exact ⟨Later.refl _ _, VL.cons (.sg rfl) VL.nil⟩
 | bool => intro x H; exact ⟨Later.refl _ _, VL.cons (.sg rfl) VL.nil⟩
 | str => intro x H; exact ⟨Later.refl _ _, VL.cons (.sg rfl) VL.nil⟩
 | unit => intro x H; exact ⟨Later.refl _ _, VL.nil⟩
 | pair a b iha ihb =>
  rintro ⟨x, y⟩ H
  obtain ⟨h1, h2⟩ := iha x H
  obtain ⟨h3, h4⟩ := ihb y (a.place x H).2
  exact ⟨h1.trans h3, (h2.later h3).append h4⟩
 | slc bytes e ih =>
  intro x H
  match x with
  | none => exact ⟨Later.refl _ _, VL.cons (.sg rfl) VL.nil⟩
  | some [] => exact ⟨Later.refl _ _, VL.cons (.slE (e := e.sz)) VL.nil⟩
  | some (x :: l) =>
   have key : ∀ (l : List e.Val) (H : zh), Later M0 H M0 (wX e.place l H).2 ∧ L0 M0 (wX e.place l H).2 (l.flatMap e.JL) (wX e.place l H).1 := by
    intro l
    induction l with
    | nil => intro H; exact ⟨Later.refl _ _, VL.nil⟩
    | cons x l ihl =>
     intro H
     obtain ⟨h1, h2⟩ := ih x H
     obtain ⟨h3, h4⟩ := ihl (e.place x H).2
     exact ⟨h1.trans h3, (h2.later h3).append h4⟩
   obtain ⟨h1, h2⟩ := key (x :: l) H
   have hL : Later M0 (wX e.place (x :: l) H).2 M0 ((wX e.place (x :: l) H).2.push (.cells (wX e.place (x :: l) H).1 .ro e.sz)) := Qa (fun q r h => by cases h) _
   refine ⟨h1.trans hL, VL.cons ?_ VL.nil⟩
   have hlen : (wX e.place (x :: l) H).1.length = (l.length + 1) * e.sz := by rw [← h2.1, Wn]; rfl
   show V0 M0 ((wX e.place (x :: l) H).2.push (.cells (wX e.place (x :: l) H).1 .ro e.sz)) (SL 1 e.sz (l.length + 1) ((x :: l).flatMap e.JL)) (.slice (some ⟨(wX e.place (x :: l) H).2.next, 0, none⟩) (l.length + 1) (l.length + 1))
   refine VV.sl (o := 0) (l := (wX e.place (x :: l) H).1) (own := .ro) (by simp) ⟨fun q h => (by cases h), rfl⟩ (by rw [zh.jX, if_pos rfl]) (by omega) (by rw [List.toList_toArray, Wn]; rfl) (fun i hi => ?_)
   rw [Nat.zero_add, List.toList_toArray]
   exact (h2.2 i).vC hL
def Args.JL : (l : List (Bool × Ty)) → Args l → List Value
 | [], _ => []
 | (b, c) :: l, (x, xs) => Zt b (c.JL x) :: Args.JL l xs
theorem aep {H : zh} {b : Bool} {cs cs' : List Value} (h : L0 M0 H cs cs') : V0 M0 H (Zt b cs) (Zt b cs') := by
 unfold Zt
 split
 ·
  exact Yu h
 ·
  rw [ZI, ZI]; exact h.2 0
theorem Args.QF : ∀ (l : List (Bool × Ty)) (x : Args l) (H : zh), Later M0 H M0 (Args.place l x H).2 ∧ L0 M0 (Args.place l x H).2 (Args.JL l x) (Args.place l x H).1 := by
 intro l
 induction l with
 | nil => intro x H; exact ⟨Later.refl _ _, VL.nil⟩
 | cons p l ih =>
  obtain ⟨b, c⟩ := p
  rintro ⟨x, xs⟩ H
  obtain ⟨h1, h2⟩ := c.QF x H
  obtain ⟨h3, h4⟩ := ih xs (c.place x H).2
  exact ⟨h1.trans h3, VL.cons ((aep h2).vC h3) h4⟩
theorem Vh (hO : ac6 P O) {f : FuncId} {codes : List (Bool × Ty)} {x : Args codes} {S' : zh} (h : zM P O f (Args.JL codes x) zh.empty = some (.bool true, S')) :
  ∃ k, (vg P k f (Args.place codes x zh.empty).1 (Args.place codes x zh.empty).2).map (·.1) = some (.bool true) := by
 obtain ⟨h1, h2⟩ := Args.QF codes x zh.empty
 obtain ⟨a, H', μ', ω', k1, k2, k3, k4, k5, k6⟩ := ahz hO f _ _ _ _ _ h M0 _ W0 GI.none h2 (fun r s hs => by cases hs) (fun r s hs => by cases hs)
 have : a = .bool true := jr (k6.v0) rfl
 subst this
 exact aa0 k1
theorem afj {hps pus : FuncId → Bool} : ac6 P ⟨fun _ => none, hps, pus⟩ := fun f q h => by cases h
end
end Go.Abs
namespace Go.Abs
open Go.RowKit
section
variable {R : Type} {P : Program} {O : Ora} {fx : Fx} {hp nm : Bool} {chk : List Nat} {call : FuncId → List Value → M Value} {ops : Array Oper}
def okC (v : Value) (r : Option R) : Option R := if okq 3 v = true then r else none
@[simp] theorem V5 (b : Bool) (r : Option R) : okC (.bool b) r = r := Eq.trans rfl rfl
@[simp] theorem acz (k : IntKind) (n : Int) (r : Option R) : okC (.int k n) r = r := Eq.trans rfl rfl
@[simp] theorem Qg (s : ByteArray) (r : Option R) : okC (.string s) r = r := Eq.trans rfl rfl
@[simp] theorem Xj (a : Option Addr) (n c : Nat) (r : Option R) : okC (.slice a n c) r = r := Eq.trans rfl rfl
@[simp] theorem Xd (k : Nat) (v : Value) (r : Option R) : okC (.iface k v) r = r := Eq.trans rfl rfl
@[simp] theorem agY (a : Option Addr) (r : Option R) : okC (.pointer a) r = r := Eq.trans rfl rfl
def gdC (v : Value) (b : Bool) (s : M Value) (S : zh) (K : Value → zh → Option R) : Option R :=
 if (vb v == some b) = true then andThen (s S) (fun v S1 => okC v (K v S1)) else K undef S
@[simp] theorem af5 (s : M Value) (H : zh) (K : Value → zh → Option R) : gdC (.bool true) true s H K = andThen (s H) (fun v S1 => okC v (K v S1)) := Eq.trans rfl rfl
@[simp] theorem agv (s : M Value) (H : zh) (K : Value → zh → Option R) : gdC (.bool false) false s H K = andThen (s H) (fun v S1 => okC v (K v S1)) := Eq.trans rfl rfl
@[simp] theorem agc (s : M Value) (H : zh) (K : Value → zh → Option R) : gdC (.bool true) false s H K = K undef H := Eq.trans rfl rfl
@[simp] theorem af9 (s : M Value) (H : zh) (K : Value → zh → Option R) : gdC (.bool false) true s H K = K undef H := Eq.trans rfl rfl
@[simp] theorem af2 (s : M Value) (b : Bool) (H : zh) (K : Value → zh → Option R) : gdC undef b s H K = K undef H := Eq.trans rfl rfl
abbrev Jb {α : Type} (a : α) : Type := Unit
def zA (s : Option (Value × zh)) (K : Value → zh → Option R) (p : Jb K) : Option R := andThen s K
def gdK (v : Value) (b : Bool) (s : M Value) (S : zh) (K : Value → zh → Option R) (p : Jb K) : Option R := gd v b s S K
def aeg (v : Value) (b : Bool) (s : M Value) (S : zh) (K : Value → zh → Option R) (p : Jb K) : Option R := gdC v b s S K
def okK (v : Value) (r : Option R) (p : Jb r) : Option R := okC v r
@[simp] theorem YP (v : Value) (H : zh) (K : Value → zh → Option R) (p : Jb K) : zA (some (v, H)) K p = K v H := Eq.trans rfl rfl
@[simp] theorem afU (s : M Value) (H : zh) (K : Value → zh → Option R) (p : Jb K) : gdK (.bool true) true s H K p = zA (s H) K p := Eq.trans rfl rfl
@[simp] theorem afZ (s : M Value) (H : zh) (K : Value → zh → Option R) (p : Jb K) : gdK (.bool false) false s H K p = zA (s H) K p := Eq.trans rfl rfl
@[simp] theorem agk (s : M Value) (H : zh) (K : Value → zh → Option R) (p : Jb K) : gdK (.bool true) false s H K p = K undef H := Eq.trans rfl rfl
@[simp] theorem agq (s : M Value) (H : zh) (K : Value → zh → Option R) (p : Jb K) : gdK (.bool false) true s H K p = K undef H := Eq.trans rfl rfl
@[simp] theorem agz (s : M Value) (b : Bool) (H : zh) (K : Value → zh → Option R) (p : Jb K) : gdK undef b s H K p = K undef H := Eq.trans rfl rfl
@[simp] theorem Vs (s : M Value) (H : zh) (K : Value → zh → Option R) (p : Jb K) : aeg (.bool true) true s H K p = zA (s H) (fun v S1 => okK v (K v S1) ()) () := Eq.trans rfl rfl
@[simp] theorem VP (s : M Value) (H : zh) (K : Value → zh → Option R) (p : Jb K) : aeg (.bool false) false s H K p = zA (s H) (fun v S1 => okK v (K v S1) ()) () := Eq.trans rfl rfl
@[simp] theorem ade (s : M Value) (H : zh) (K : Value → zh → Option R) (p : Jb K) : aeg (.bool true) false s H K p = K undef H := Eq.trans rfl rfl
@[simp] theorem aea (s : M Value) (H : zh) (K : Value → zh → Option R) (p : Jb K) : aeg (.bool false) true s H K p = K undef H := Eq.trans rfl rfl
@[simp] theorem acp (s : M Value) (b : Bool) (H : zh) (K : Value → zh → Option R) (p : Jb K) : aeg undef b s H K p = K undef H := Eq.trans rfl rfl
@[simp] theorem V7 (b : Bool) (r : Option R) (p : Jb r) : okK (.bool b) r p = r := Eq.trans rfl rfl
@[simp] theorem vN (k : IntKind) (n : Int) (r : Option R) (p : Jb r) : okK (.int k n) r p = r := Eq.trans rfl rfl
@[simp] theorem Qj (s : ByteArray) (r : Option R) (p : Jb r) : okK (.string s) r p = r := Eq.trans rfl rfl
@[simp] theorem Xx (a : Option Addr) (n c : Nat) (r : Option R) (p : Jb r) : okK (.slice a n c) r p = r := Eq.trans rfl rfl
@[simp] theorem Yc (a : Option Addr) (r : Option R) (p : Jb r) : okK (.pointer a) r p = r := Eq.trans rfl rfl
theorem Wq {v : Value} (h : okq 3 v = true) (r : Option R) (p : Jb r) : okK v r p = r := if_pos h
theorem abM {l rest : List Oper} {o : Oper} {T : List Value} {T1 : Value → List Value} {S : zh} {v : Value} {r : Option (List Value × zh)} (hl : l = o :: rest) (hg : o.guard = none) (hm : ∀ v, vU o rest T v = T1 v)
  (hs : yA P fx call T o S = some (v, S)) (hK : jd P fx call ops rest (T1 v) S = r) : jd P fx call ops l T S = r := by
 subst hl
 simp only [jd, Region.wanted, hg, if_true, hs, hm]
 exact hK
theorem ahn {l rest : List Oper} {o : Oper} {T : List Value} {T1 : Value → List Value} {S : zh} {s : Option (Value × zh)} {K : Value → zh → Option (List Value × zh)} (hl : l = o :: rest) (hg : o.guard = none) (hm : ∀ v, vU o rest T v = T1 v)
  (hs : yA P fx call T o S = s) (hK : ∀ v S1, jd P fx call ops rest (T1 v) S1 = K v S1) : jd P fx call ops l T S = zA s K () := by
 show _ = andThen s K
 subst hl hs
 simp only [jd, Region.wanted, hg, if_true, hm, hK]
 rfl
theorem agU {l rest : List Oper} {o : Oper} {T : List Value} {T1 : Value → List Value} {S : zh} {j : Nat} {b : Bool} {g : Value} {s : M Value} {K : Value → zh → Option (List Value × zh)} (hl : l = o :: rest) (hg : o.guard = some (j, b)) (hm : ∀ v, vU o rest T v = T1 v)
  (hy : ynd ops T j = vb g) (hs : yA P fx call T o S = s S) (hK : ∀ v S1, jd P fx call ops rest (T1 v) S1 = K v S1) : jd P fx call ops l T S = gdK g b s S K () := by
 show _ = gd g b s S K
 subst hl
 simp only [jd, Region.wanted, hg, hy, hs, hm, hK, gd]
 rfl
theorem ael {l rest : List Oper} {o : Oper} {T : List Value} {T1 : Value → List Value} {S : zh} {k : Nat} {s : Option (Value × zh)} {K : Value → zh → Option (List Value × zh)} (hc : chk.contains k = false) (hl : l = o :: rest) (hg : o.guard = none) (hm : ∀ v, vU o rest T v = T1 v)
  (hs : yA P fx call T o S = s) (hK : ∀ v S1, wP P fx chk [] call ops (k + 1) [] rest (T1 v) S1 = K v S1) : wP P fx chk [] call ops k [] l T S = zA s K () := by
 show _ = andThen s K
 subst hl hs
 simp only [wP, xu, List.isEmpty_nil, if_true, Region.wanted, hg, if_true, hm, hK, hc, Bool.not_false, Bool.true_or]
 rfl
theorem abz {l rest : List Oper} {o : Oper} {T : List Value} {T1 : Value → List Value} {S : zh} {k : Nat} {v : Value} {r : Option (List Value × zh)} (hc : chk.contains k = false) (hl : l = o :: rest) (hg : o.guard = none) (hm : ∀ v, vU o rest T v = T1 v)
  (hs : yA P fx call T o S = some (v, S)) (hK : wP P fx chk [] call ops (k + 1) [] rest (T1 v) S = r) : wP P fx chk [] call ops k [] l T S = r := by
 subst hl
 simp only [wP, xu, List.isEmpty_nil, if_true, Region.wanted, hg, if_true, hs, hm, hc, Bool.not_false, Bool.true_or]
 exact hK
theorem aeP {l rest : List Oper} {o : Oper} {T : List Value} {T1 : Value → List Value} {S : zh} {k : Nat} {s : Option (Value × zh)} {K : Value → zh → Option (List Value × zh)} (hc : chk.contains k = false) {x : Nat × Nat} {nl : List (Nat × Nat)} {hist : List (Value × zh)} {pe : Value} (hpe : xI T o = pe) (hl : l = o :: rest) (hg : o.guard = none) (hm : ∀ v, vU o rest T v = T1 v)
  (hs : yA P fx call T o S = s) (hK : ∀ v S1, wP P fx chk (x :: nl) call ops (k + 1) (hist ++ [(pe, S)]) rest (T1 v) S1 = K v S1) : wP P fx chk (x :: nl) call ops k hist l T S = zA s K () := by
 show _ = andThen s K
 subst hl hs
 simp only [wP, xu, List.isEmpty_cons, Bool.false_eq_true, if_false, hpe, Region.wanted, hg, if_true, hm, hK, hc, Bool.not_false, Bool.true_or]
 rfl
theorem adH {l rest : List Oper} {o : Oper} {T : List Value} {T1 : Value → List Value} {S : zh} {k : Nat} {s : Option (Value × zh)} {K : Value → zh → Option (List Value × zh)} (hc : chk.contains k = true) {x : Nat × Nat} {nl : List (Nat × Nat)} {hist : List (Value × zh)} {pe : Value} (hpe : xI T o = pe) (hl : l = o :: rest) (hg : o.guard = none) (hm : ∀ v, vU o rest T v = T1 v)
  (hs : yA P fx call T o S = s) (hK : ∀ v S1, wP P fx chk (x :: nl) call ops (k + 1) (hist ++ [(pe, S)]) rest (T1 v) S1 = K v S1) : wP P fx chk (x :: nl) call ops k hist l T S = zA s (fun v S1 => okK v (K v S1) ()) () := by
 show _ = andThen s (fun v S1 => okC v (K v S1))
 subst hl hs
 simp only [wP, xu, List.isEmpty_cons, Bool.false_eq_true, if_false, hpe, Region.wanted, hg, if_true, hm, hK, hc, Bool.not_true, Bool.false_or]
 rfl
theorem aaN {l rest : List Oper} {o : Oper} {T : List Value} {T1 : Value → List Value} {S : zh} {k : Nat} {v : Value} {r : Option (List Value × zh)} (hc : chk.contains k = false) {x : Nat × Nat} {nl : List (Nat × Nat)} {hist : List (Value × zh)} {pe : Value} (hpe : xI T o = pe) (hl : l = o :: rest) (hg : o.guard = none) (hm : ∀ v, vU o rest T v = T1 v)
  (hs : yA P fx call T o S = some (v, S)) (hK : wP P fx chk (x :: nl) call ops (k + 1) (hist ++ [(pe, S)]) rest (T1 v) S = r) : wP P fx chk (x :: nl) call ops k hist l T S = r := by
 subst hl
 simp only [wP, xu, List.isEmpty_cons, Bool.false_eq_true, if_false, hpe, Region.wanted, hg, if_true, hs, hm, hc, Bool.not_false, Bool.true_or]
 exact hK
theorem VI {l rest : List Oper} {o : Oper} {T : List Value} {T1 : Value → List Value} {S : zh} {k : Nat} {v : Value} {r : Option (List Value × zh)} (hc : chk.contains k = true) {x : Nat × Nat} {nl : List (Nat × Nat)} {hist : List (Value × zh)} {pe : Value} (hpe : xI T o = pe) (hl : l = o :: rest) (hg : o.guard = none) (hm : ∀ v, vU o rest T v = T1 v)
  (hs : yA P fx call T o S = some (v, S)) (hK : wP P fx chk (x :: nl) call ops (k + 1) (hist ++ [(pe, S)]) rest (T1 v) S = r) : wP P fx chk (x :: nl) call ops k hist l T S = okK v r () := by
 show _ = okC v r
 subst hl
 simp only [wP, xu, List.isEmpty_cons, Bool.false_eq_true, if_false, hpe, Region.wanted, hg, if_true, hs, hm, hc, Bool.not_true, Bool.false_or]
 rw [← hK]
 rfl
theorem aeJ {l rest : List Oper} {o : Oper} {T : List Value} {T1 : Value → List Value} {S : zh} {j k : Nat} {b : Bool} {g : Value} {s : M Value} {K : Value → zh → Option (List Value × zh)} (hc : chk.contains k = false) {x : Nat × Nat} {nl : List (Nat × Nat)} {hist : List (Value × zh)} {pe : Value} (hpe : xI T o = pe) (hl : l = o :: rest) (hg : o.guard = some (j, b)) (hm : ∀ v, vU o rest T v = T1 v)
  (hy : ynd ops T j = vb g) (hs : yA P fx call T o S = s S) (hK : ∀ v S1, wP P fx chk (x :: nl) call ops (k + 1) (hist ++ [(pe, S)]) rest (T1 v) S1 = K v S1) : wP P fx chk (x :: nl) call ops k hist l T S = gdK g b s S K () := by
 show _ = gd g b s S K
 subst hl
 simp only [wP, xu, List.isEmpty_cons, Bool.false_eq_true, if_false, hpe, Region.wanted, hg, hy, hs, hm, hK, gd, hc, Bool.not_false, Bool.true_or, if_true]
 rfl
theorem ad3 {l rest : List Oper} {o : Oper} {T : List Value} {T1 : Value → List Value} {S : zh} {j k : Nat} {b : Bool} {g : Value} {s : M Value} {K : Value → zh → Option (List Value × zh)} (hc : chk.contains k = true) {x : Nat × Nat} {nl : List (Nat × Nat)} {hist : List (Value × zh)} {pe : Value} (hpe : xI T o = pe) (hl : l = o :: rest) (hg : o.guard = some (j, b)) (hm : ∀ v, vU o rest T v = T1 v)
  (hy : ynd ops T j = vb g) (hs : yA P fx call T o S = s S) (hK : ∀ v S1, wP P fx chk (x :: nl) call ops (k + 1) (hist ++ [(pe, S)]) rest (T1 v) S1 = K v S1) : wP P fx chk (x :: nl) call ops k hist l T S = aeg g b s S K () := by
 show _ = gdC g b s S K
 subst hl
 simp only [wP, xu, List.isEmpty_cons, Bool.false_eq_true, if_false, hpe, Region.wanted, hg, hy, hs, hm, hK, gdC, hc, Bool.not_true, Bool.false_or]
 rfl
def ckK (c : Bool) (r : Option R) (p : Jb r) : Option R := if c then r else none
@[simp] theorem aay (r : Option R) (p : Jb r) : ckK true r p = r := Eq.trans rfl rfl
noncomputable def ahd (P : Program) (O : Ora) (hp : Bool) (v : Value) (x y : Code) (T : List Value) (S : zh) : St := aeH v (zu P O hp x T S) (zu P O hp y T S)
@[simp] theorem Qs (x y : Code) (T : List Value) (S : zh) : ahd P O hp (.bool true) x y T S = zu P O hp x T S := Eq.trans rfl rfl
@[simp] theorem Yr (x y : Code) (T : List Value) (S : zh) : ahd P O hp (.bool false) x y T S = zu P O hp y T S := Eq.trans rfl rfl
@[simp] theorem YQ (T : List Value) (H : zh) : zu P O hp .skip T H = some (.normal, T, H) := Eq.trans rfl rfl
@[simp] theorem Qe (T : List Value) (H : zh) : zu P O hp .ret T H = some (.ret, T, H) := Eq.trans rfl rfl
@[simp] theorem Yf (i : Nat) (T : List Value) (H : zh) : zu P O hp (.exit i) T H = some (.exit i, T, H) := Eq.trans rfl rfl
@[simp] theorem Js (i : Nat) (ops : Array Oper) (T : List Value) (H : zh) : zu P O false (.region i ops false) T H = WL (jd P ⟨false, false, false⟩ (zM P O) ops ops.toList T H) := Eq.trans rfl rfl
@[simp] theorem ZR (i : Nat) (ops : Array Oper) (T : List Value) (H : zh) : zu P O true (.region i ops false) T H = WL (jd P ⟨true, false, false⟩ (xP O.hp true (zM P O)) ops ops.toList T H) := Eq.trans rfl rfl
theorem yQ {i : Nat} {ops : Array Oper} (hd : ku P ops = true) (hf : fixed P ops = nm) (hc : checked P ops = chk) {nl : List (Nat × Nat)} (hn : again P ops = nl) (T : List Value) (H : zh) : zu P O false (.region i ops true) T H = WL (wP P ⟨false, !chk.isEmpty, nm⟩ chk nl (zM P O) ops 0 [] ops.toList T H) := by
 subst hf hc hn
 simp only [zu, hd, if_true, xP]
 rfl
@[simp] theorem Y7 (x y : Code) (T : List Value) (H : zh) : zu P O hp (.seq x y) T H = aix (zu P O hp x T H) (zu P O hp y) := Eq.trans rfl rfl
@[simp] theorem WA (i : Nat) (c : Code) (T : List Value) (H : zh) : zu P O hp (.block i c) T H = XK i (zu P O hp c T H) := Eq.trans rfl rfl
@[simp] theorem YC (c : Code) (T : List Value) (H : zh) : zu P O hp (.loop c) T H = qJ (zu P O hp c) T H := Eq.trans rfl rfl
@[simp] theorem Yk (t : Tmp) (x y : Code) (T : List Value) (H : zh) : zu P O hp (.cond (.tmp t) x y) T H = ahd P O hp (T.getD t undef) x y T H := by
 simp only [zu, qM, if_true, zX]
 rfl
@[simp] theorem Yv : dem undef = undef := Zj
@[simp] theorem adz (k : IntKind) (n : Int) : dem (.int k n) = .int k n := Eq.trans rfl rfl
@[simp] theorem aae (b : Bool) : dem (.bool b) = .bool b := Eq.trans rfl rfl
@[simp] theorem Qk (s : ByteArray) : dem (.string s) = .string s := Eq.trans rfl rfl
@[simp] theorem acE : dem (.slice none 0 0) = .slice none 0 0 := Eq.trans rfl rfl
@[simp] theorem acY (x : Array Value) : dem (.agg x) = .agg x := Eq.trans rfl rfl
@[simp] theorem aaj (f : Fn) (x c : Array Value) : dem (.func f x c) = .func f x c := Eq.trans rfl rfl
@[simp] theorem Ye (a : Option Addr) : dem (.pointer a) = .pointer a := Eq.trans rfl rfl
@[simp] theorem aiX (e n : Nat) (cs : List Value) : dem (SL 1 e n cs) = SL 1 e n cs := Eq.trans rfl rfl
@[simp] theorem aiR (e n : Nat) (cs : List Value) : dem (SL 2 e n cs) = SL 1 e n cs := Eq.trans rfl rfl
@[simp] theorem agh (k e n : Nat) (cs : List Value) (r : Option R) (p : Jb r) : okK (SL k e n cs) r p = r := Eq.trans rfl rfl
@[simp] theorem agx (cs : List Value) (r : Option R) (p : Jb r) : okK (EP cs) r p = r := Eq.trans rfl rfl
@[simp] theorem ai5 (k e n : Nat) (cs : List Value) (r : Option R) : okC (SL k e n cs) r = r := Eq.trans rfl rfl
@[simp] theorem afI (cs : List Value) (r : Option R) : okC (EP cs) r = r := Eq.trans rfl rfl
def sv (k e n : Nat) (cs : List Value) : Value := if k = 0 then .slice none 0 0 else SL k e n cs
structure Okv (k n : Nat) (cs : List Value) : Prop where
 le : k ≤ 2
 nil : k = 0 → n = 0 ∧ cs = []
theorem sv0 {e n : Nat} {cs : List Value} : sv 0 e n cs = .slice none 0 0 := rfl
theorem sv1 {e n : Nat} {cs : List Value} : sv 1 e n cs = SL 1 e n cs := rfl
theorem sv2 {e n : Nat} {cs : List Value} : sv 2 e n cs = SL 2 e n cs := rfl
@[simp] theorem aaK (k e n : Nat) (cs : List Value) : dem (sv k e n cs) = sv (if k = 2 then 1 else k) e n cs := by
 unfold sv
 by_cases h0 : k = 0
 ·
  subst h0; rfl
 ·
  by_cases h2 : k = 2
  ·
   subst h2; rfl
  ·
   rw [if_neg h0, if_neg h2, if_neg h0]
   simp only [SL, dem, qO, if_neg h2]
@[simp] theorem Xn (k e n : Nat) (cs : List Value) (r : Option R) : okC (sv k e n cs) r = r := by
 unfold sv; split <;> rfl
@[simp] theorem afP (k e n : Nat) (cs : List Value) (r : Option R) (p : Jb r) : okK (sv k e n cs) r p = r := Xn k e n cs r
theorem adF {k e n : Nat} {cs : List Value} (h : Okv k n cs) : ∃ e', vSl (sv k e n cs) = some (e', n, cs) ∧ (e' = e ∨ n = 0 ∧ cs = []) := by
 unfold sv
 by_cases h0 : k = 0
 ·
  obtain ⟨rfl, rfl⟩ := h.nil h0
  rw [if_pos h0]
  exact ⟨0, rfl, .inr ⟨rfl, rfl⟩⟩
 ·
  rw [if_neg h0]
  have : k = 1 ∨ k = 2 := by have := h.le; omega
  exact ⟨e, by simp [SL, vSl, this], .inl rfl⟩
theorem ahc {t te : TypeId} {k e n : Nat} {cs : List Value} {S : zh} (ht : P.underlying t = some (.slice te)) (h : Okv k n cs) : Jc P t (sv k e n cs) S = some (goInt n, S) := by
 by_cases h0 : k = 0
 ·
  obtain ⟨rfl, rfl⟩ := h.nil h0
  subst h0
  simp only [sv0, Jc, X4, ht]
 ·
  obtain ⟨e', h1, _⟩ := adF (e := e) h
  simp only [sv, if_neg h0] at h1 ⊢
  simp only [SL] at h1 ⊢
  simp only [Jc, ht, h1]
theorem JM {t te : TypeId} {k e n : Nat} {cs : List Value} {S : zh} {ki : IntKind} {i : Int} (ht : P.underlying t = some (.slice te)) (he : xC P te = some e) (h : Okv k n cs) (h0 : 0 ≤ i) (hi : i < n) :
  zW P t (sv k e n cs) (.int ki i) S = some (EP ((cs.drop (i.toNat * e)).take e), S) := by
 have hk : k ≠ 0 := fun e => by have := (h.nil e).1; omega
 have hk2 : k = 1 ∨ k = 2 := by have := h.le; omega
 have h1 : vSl (SL k e n cs) = some (e, n, cs) := by simp [SL, vSl, hk2]
 simp only [sv, if_neg hk]
 simp only [SL] at h1 ⊢
 simp only [zW, ht, h1, he, if_true]
 rw [if_pos ⟨h0, hi⟩]
@[simp] theorem WU {t : TypeId} {v : Value} {S : zh} (ht : qR P t = some false) : zO P nm t (EP [v]) S = some (v, S) := by
 simp [EP, zO, ht]
theorem adG {t : TypeId} {n : Nat} {cs : List Value} {S : zh} (ht : qR P t = some true) (hn : xC P t = some n) (hc : cs.length = n) : zO P nm t (EP cs) S = some (.agg cs.toArray, S) := by
 simp only [EP, zO, ht, hn, if_true, List.toList_toArray]
 rw [if_pos (by omega), ← hc, List.take_length]
theorem ad2 {t te : TypeId} {k e n : Nat} {cs : List Value} {S : zh} {lo hi : Option Value} {i j : Int} (ht : P.underlying t = some (.slice te)) (he : xC P te = some e) (h : Okv k n cs) (hlo : kT 0 lo = some i) (hhi : kT n hi = some j)
  (h0 : 0 ≤ i) (hij : i ≤ j) (hj : j ≤ n) : vZ P t (sv k e n cs) lo hi S = some (sv (if k = 2 then 1 else k) e (j.toNat - i.toNat) ((cs.drop (i.toNat * e)).take ((j.toNat - i.toNat) * e)), S) := by
 by_cases hk : k = 0
 ·
  obtain ⟨rfl, rfl⟩ := h.nil hk
  subst hk
  simp only [sv0, vZ, ht, vSl, he, hlo, hhi, if_pos h0, if_pos hij, if_pos hj]
  rfl
 ·
  have hk2 : k = 1 ∨ k = 2 := by have := h.le; omega
  have h1 : vSl (SL k e n cs) = some (e, n, cs) := by simp [SL, vSl, hk2]
  have h3 : (if k = 2 then 1 else k) = 1 := by rcases hk2 with rfl | rfl <;> rfl
  rw [h3]
  simp only [sv, if_neg hk]
  simp only [SL] at h1 ⊢
  simp only [vZ, ht, h1, he, hlo, hhi, if_pos h0, if_pos hij, if_pos hj, if_true]
  rfl
theorem aej {t te : TypeId} {k e n : Nat} {cs : List Value} {S : zh} (ht : P.underlying t = some (.slice te)) (h : Okv k n cs) : jZ P .eql t (sv k e n cs) (.slice none 0 0) S = some (.bool (decide (k = 0)), S) := by
 by_cases hk : k = 0
 ·
  subst hk
  simp only [sv0, jZ, vO, qK, ht, Zf]
  rfl
 ·
  have hk2 : k = 1 ∨ k = 2 := by have := h.le; omega
  have h1 : vSl (SL k e n cs) = some (e, n, cs) := by simp [SL, vSl, hk2]
  simp only [sv, if_neg hk]
  simp only [SL] at h1 ⊢
  simp only [jZ, ht, h1]
  simp [hk]
@[simp] theorem KT (k e n : Nat) (cs : List Value) : Xw (sv k e n cs) = false := by unfold sv; split <;> rfl
@[simp] theorem J5 (dr : Bool) (t : TypeId) (k e n : Nat) (cs : List Value) (lo hi : Option Value) (S : zh) : xW P dr t (sv k e n cs) lo hi S = vZ P t (sv k e n cs) lo hi S := by
 unfold xW; rw [KT]; rfl
@[simp] theorem ZY (dr : Bool) (t : TypeId) (s : ByteArray) (lo hi : Option Value) (S : zh) : xW P dr t (.string s) lo hi S = vZ P t (.string s) lo hi S := Eq.trans rfl rfl
@[simp] theorem WX (hp dr : Bool) (src dst : TypeId) (k e n : Nat) (cs : List Value) (S : zh) : ql P hp dr src dst (sv k e n cs) S = ZM P src dst (sv k e n cs) S := by
 unfold ql
 rw [KT]
 have : ∀ s, sv k e n cs ≠ .string s := by intro s; unfold sv; split <;> (intro h; cases h)
 cases hp <;> simp only [Bool.false_eq_true, if_false] <;> (split <;> first | rfl | (rename_i h; exact absurd h (this _)) | skip)
@[simp] theorem Y8 (hp dr : Bool) (src dst : TypeId) (k : IntKind) (n : Int) (S : zh) : ql P hp dr src dst (.int k n) S = ZM P src dst (.int k n) S := by cases hp <;> rfl
@[simp] theorem JF (dr : Bool) (src dst : TypeId) (s : ByteArray) (S : zh) : ql P false dr src dst (.string s) S = ZM P src dst (.string s) S := Eq.trans rfl rfl
@[simp] theorem ZW (dr : Bool) (src dst : TypeId) (s : ByteArray) (S : zh) : ql P true dr src dst (.string s) S = yF P src dst (.string s) S := Eq.trans rfl rfl
theorem abI {t te tx tex : TypeId} {k e n j m bytes : Nat} {cs ds : List Value} {z : Value} {S : zh} (ht : P.underlying t = some (.slice te)) (he : xC P te = some e) (hz : zeroOf P te = some z) (hzs : z.cells.size = e) (hb : bytesOf P te = some bytes) (hp : 0 < e)
  (htx : P.underlying tx = some (.slice tex)) (h : Okv k n cs) (hk : k ≠ 1) (hx : Okv j m ds) (hn : cs.length = n * e) (hm : ds.length = m * e) (h1 : cs.all (·.oneCell') = true) (h2 : ds.all (·.oneCell') = true) (hl : (n + m) * bytes ≤ 140737488355328) (hmax : n + m ≤ 4611686018427387903) :
  wB P t tx (sv k e n cs) (sv j e m ds) S = some (sv (if k = 0 ∧ m = 0 then 0 else 2) e (n + m) (cs ++ ds), S) := by
 have hel : kS P t = some te := by simp only [kS, ht]
 have hsrc : aib P tx e (sv j e m ds) = some (m, ds) := by
  obtain ⟨e', q1, q2⟩ := adF (e := e) hx
  have hns : ∀ s, sv j e m ds ≠ .string s := by intro s; unfold sv; split <;> (intro h; cases h)
  have hcond : m = 0 ∨ e' = e := q2.elim .inr fun h => .inl h.1
  unfold aib
  split
  ·
   rename_i s hs; exact absurd hs (hns s)
  ·
   simp only [htx, q1, if_pos hcond, if_pos hm, h2, if_true]
 have hsrc : adT P tx e (sv j e m ds) S = some (m, ds) := by
  unfold adT
  rw [KT]
  exact hsrc
 by_cases hk0 : k = 0
 ·
  obtain ⟨rfl, rfl⟩ := h.nil hk0
  subst hk0
  simp only [sv0, wB, ZG, hel, he, hz, hb, if_pos hp, if_pos hzs, hsrc]
  by_cases hm0 : m = 0
  ·
   subst hm0
   simp [sv0]
  ·
   rw [Nat.zero_add] at hl hmax
   rw [if_neg hm0, if_pos hl, if_pos hmax, if_neg Bool.false_ne_true, if_neg (fun h => hm0 h.2), sv2, Nat.zero_add, List.nil_append]
 ·
  have hk2 : k = 2 := by have := h.le; omega
  subst hk2
  rw [if_neg (fun h => hk0 h.1)]
  have h1' : cs.toArray.toList.all (·.oneCell') = true := by simpa using h1
  simp only [sv2, SL, wB, ZG, hel, he, hz, hb, if_pos hp, if_pos hzs, hsrc, if_true, if_pos hl, if_pos hmax, h1']
@[simp] theorem aas (op : BinOp) (t : TypeId) (k k' : IntKind) (a b : Int) (S : zh) : jZ P op t (.int k a) (.int k' b) S = vO P op t (.int k a) (.int k' b) S := Eq.trans rfl rfl
@[simp] theorem YL (op : BinOp) (t : TypeId) (a b : ByteArray) (S : zh) : jZ P op t (.string a) (.string b) S = vO P op t (.string a) (.string b) S := Eq.trans rfl rfl
@[simp] theorem Xk (op : BinOp) (t : TypeId) (a b : Bool) (S : zh) : jZ P op t (.bool a) (.bool b) S = vO P op t (.bool a) (.bool b) S := Eq.trans rfl rfl
@[simp] theorem aaf (op : BinOp) (t : TypeId) (a b : Array Value) (S : zh) : jZ P op t (.agg a) (.agg b) S = vO P op t (.agg a) (.agg b) S := Eq.trans rfl rfl
@[simp] theorem Qd (b : Bool) (x y : Value) (S : zh) : wY (.bool b) x y S = some (if b then dem x else dem y, S) := Eq.trans rfl rfl
@[simp] theorem XC {src dst : TypeId} (k : IntKind) (n : Int) (S : zh) : ZM P src dst (.int k n) S = yF P src dst (.int k n) S := Eq.trans rfl rfl
@[simp] theorem ZP (vs : List Value) (i : Nat) (S : zh) : zx (.tuple vs.toArray) i S = (vs[i]?).map (·, S) := by
 simp only [zx, List.getElem?_toArray]
 cases vs[i]? <;> rfl
end
end Go.Abs
namespace Go.Abs
theorem yT {P : Program} {fn : Func} {a b : Value} {r : List Value} {T : List Value} {S : zh} (h : zC P T S fn.results.toList = some (a :: b :: r)) (hn : agP fn.results.toList = true) (hall : (a :: b :: r).all jD = true) :
  abW P fn T S = some (.tuple (a :: b :: r).toArray, S) := by
 unfold abW
 rw [h]
 dsimp only
 rw [if_pos hn, if_pos hall]
theorem yD {P : Program} {fn : Func} {a : Value} {T : List Value} {S : zh} (h : zC P T S fn.results.toList = some [a]) (hn : agP fn.results.toList = true) : abW P fn T S = some (a, S) := by
 unfold abW
 rw [h]
 dsimp only
 rw [if_pos hn]
@[simp] theorem jF (k : IntKind) (n : Int) : jD (.int k n) = true := rfl
@[simp] theorem jv (b : Bool) : jD (.bool b) = true := rfl
@[simp] theorem Vq (k e n : Nat) (cs : List Value) : jD (sv k e n cs) = true := by unfold sv; split <;> rfl
@[simp] theorem jG (x : Array Value) : jD (.agg x) = true := rfl
@[simp] theorem jh (a : Option Addr) (n c : Nat) : jD (.slice a n c) = true := rfl
end Go.Abs
namespace Go.Abs
open Go.RowKit
def vs {α : Type} (f : α → List Value) (e k : Nat) (l : List α) : Value := sv k e l.length (l.flatMap f)
structure Okl {α : Type} (k : Nat) (l : List α) : Prop where
 le : k ≤ 2
 nil : k = 0 → l = []
theorem Okl.own {α : Type} {l : List α} : Okl 2 l := ⟨Nat.le_refl 2, (fun h => by cases h)⟩
theorem Okl.read {α : Type} {l : List α} : Okl 1 l := ⟨by omega, (fun h => by cases h)⟩
theorem Okl.none {α : Type} : Okl 0 ([] : List α) := ⟨by omega, fun _ => rfl⟩
theorem Okl.dem {α : Type} {k : Nat} {l : List α} (h : Okl k l) : Okl (if k = 2 then 1 else k) l := ⟨by have := h.le; split <;> omega, fun hk => h.nil (by split at hk <;> omega)⟩
def cb (b : UInt8) : List Value := [.int .u8 b.toNat]
def ci (n : Int) : List Value := [.int .i64 n]
section
variable {R α : Type} {P : Program} {f : α → List Value} {e k j : Nat} {l m : List α} {t te tx tex : TypeId} {S : zh}
theorem Okl.okv (h : Okl k l) : Okv k l.length (l.flatMap f) := ⟨h.le, fun h0 => by rw [h.nil h0]; exact ⟨rfl, rfl⟩⟩
theorem Z5 (hf : ∀ x, (f x).length = e) (l : List α) : (l.flatMap f).length = l.length * e := by
 induction l with
 | nil => simp
 | cons x l ih => simp only [List.flatMap_cons, List.length_append, hf, ih, List.length_cons, Nat.add_mul]; omega
theorem WC (hf : ∀ x, (f x).length = e) (l : List α) : ∀ (i : Nat), (l.flatMap f).drop (i * e) = (l.drop i).flatMap f := by
 induction l with
 | nil => intro i; simp
 | cons x l ih =>
  intro i
  cases i with
  | zero => simp
  | succ i =>
   rw [List.flatMap_cons, List.drop_succ_cons, ← ih i, List.drop_append, List.drop_eq_nil_of_le (by rw [hf, Nat.add_mul]; omega), List.nil_append, hf]
   congr 1
   rw [Nat.add_mul]; omega
theorem WB (hf : ∀ x, (f x).length = e) (l : List α) : ∀ (i : Nat), (l.flatMap f).take (i * e) = (l.take i).flatMap f := by
 induction l with
 | nil => intro i; simp
 | cons x l ih =>
  intro i
  cases i with
  | zero => simp
  | succ i =>
   rw [List.flatMap_cons, List.take_succ_cons, List.flatMap_cons, ← ih i, List.take_append, List.take_of_length_le (by rw [hf, Nat.add_mul]; omega), hf]
   congr 2
   rw [Nat.add_mul]; omega
@[simp] theorem ad7 : dem (vs f e k l) = vs f e (if k = 2 then 1 else k) l := aaK _ _ _ _
@[simp] theorem afK (r : Option R) : okC (vs f e k l) r = r := Xn _ _ _ _ _
@[simp] theorem afN (r : Option R) (p : Jb r) : okK (vs f e k l) r p = r := Xn _ _ _ _ _
@[simp] theorem aiQ : Xw (vs f e k l) = false := KT _ _ _ _
@[simp] theorem Qh (dr : Bool) (lo hi : Option Value) : xW P dr t (vs f e k l) lo hi S = vZ P t (vs f e k l) lo hi S := J5 _ _ _ _ _ _ _ _ _
@[simp] theorem Xz (hp dr : Bool) (src dst : TypeId) : ql P hp dr src dst (vs f e k l) S = ZM P src dst (vs f e k l) S := WX _ _ _ _ _ _ _ _ _
@[simp] theorem jL : jD (vs f e k l) = true := Vq _ _ _ _
theorem ada (ht : P.underlying t = some (.slice te)) (h : Okl k l) : Jc P t (vs f e k l) S = some (goInt l.length, S) := ahc ht h.okv
theorem aeW (ht : P.underlying t = some (.slice te)) (h : Okl k l) : jZ P .eql t (vs f e k l) (.slice none 0 0) S = some (.bool (decide (k = 0)), S) := aej ht h.okv
theorem agT {ki : IntKind} {i : Int} (ht : P.underlying t = some (.slice te)) (he : xC P te = some e) (hf : ∀ x, (f x).length = e) (h : Okl k l) (h0 : 0 ≤ i) (hi : i < l.length) :
  zW P t (vs f e k l) (.int ki i) S = some (EP (f (l[i.toNat]'(by omega))), S) := by
 unfold vs
 rw [JM ht he h.okv h0 hi, WC hf]
 have hlt : i.toNat < l.length := by omega
 have := WB hf (l.drop i.toNat) 1
 rw [Nat.one_mul] at this
 rw [this, List.drop_eq_getElem_cons hlt, List.take_succ_cons, List.take_zero, List.flatMap_cons, List.flatMap_nil, List.append_nil]
theorem afz {lo hi : Option Value} {i j : Int} (ht : P.underlying t = some (.slice te)) (he : xC P te = some e) (hf : ∀ x, (f x).length = e) (h : Okl k l) (hlo : kT 0 lo = some i) (hhi : kT l.length hi = some j) (h0 : 0 ≤ i) (hij : i ≤ j) (hj : j ≤ l.length) :
  vZ P t (vs f e k l) lo hi S = some (vs f e (if k = 2 then 1 else k) ((l.drop i.toNat).take (j.toNat - i.toNat)), S) := by
 unfold vs
 rw [ad2 ht he h.okv hlo hhi h0 hij hj, WC hf, WB hf]
 congr 3
 simp; omega
theorem YG {bytes : Nat} {z : Value} (ht : P.underlying t = some (.slice te)) (he : xC P te = some e) (hz : zeroOf P te = some z) (hzs : z.cells.size = e) (hb : bytesOf P te = some bytes) (hp : 0 < e) (htx : P.underlying tx = some (.slice tex))
  (hf : ∀ x, (f x).length = e) (h1 : ∀ x, (f x).all (·.oneCell') = true) (h : Okl k l) (hk : k ≠ 1) (hm : Okl j m) (hl : (l.length + m.length) * bytes ≤ 140737488355328) (hmax : l.length + m.length ≤ 4611686018427387903) :
  wB P t tx (vs f e k l) (vs f e j m) S = some (vs f e (if k = 0 ∧ m.length = 0 then 0 else 2) (l ++ m), S) := by
 have hone : ∀ l : List α, (l.flatMap f).all (·.oneCell') = true := by
  intro l
  rw [List.all_flatMap, List.all_eq_true]
  exact fun x _ => h1 x
 unfold vs
 rw [abI ht he hz hzs hb hp htx h.okv hk hm.okv (Z5 hf l) (Z5 hf m) (hone l) (hone m) hl hmax, List.flatMap_append, List.length_append]
theorem aag (x : UInt8) : (cb x).length = 1 := rfl
theorem ain (x : UInt8) : (cb x).all (·.oneCell') = true := rfl
theorem af6 (x : Int) : (ci x).length = 1 := rfl
theorem aie (x : Int) : (ci x).all (·.oneCell') = true := rfl
theorem ae0 (l : List UInt8) : yM (l.flatMap cb) = some l := by
 induction l with
 | nil => rfl
 | cons b l ih =>
  have : (b :: l).flatMap cb = .int .u8 b.toNat :: l.flatMap cb := rfl
  rw [this]
  simp only [yM, Yd, ih]
  simp
theorem jC {v : Value} {i j : Nat} {S : zh} (h : j ≠ i) : zx (zH j v) i S = zx v i S := by
 cases v with
 | tuple vs => simp only [zH, zx, Array.getElem?_modify, if_neg h]
 | _ => rfl
theorem ab7 {v : Value} {S : zh} : zx (zH 0 v) 1 S = zx v 1 S := jC (by decide)
theorem adX {v : Value} {S : zh} : zx (zH 0 v) 2 S = zx v 2 S := jC (by decide)
theorem acu {v : Value} {S : zh} : zx (zH 1 v) 2 S = zx v 2 S := jC (by decide)
theorem abQ {v : Value} {S : zh} : zx (zH 0 v) 3 S = zx v 3 S := jC (by decide)
theorem adk {v : Value} {S : zh} : zx (zH 1 v) 3 S = zx v 3 S := jC (by decide)
theorem ab4 {v : Value} {S : zh} : zx (zH 2 v) 3 S = zx v 3 S := jC (by decide)
theorem acf {v : Value} {S : zh} : zx (zH 0 v) 4 S = zx v 4 S := jC (by decide)
theorem acC {v : Value} {S : zh} : zx (zH 1 v) 4 S = zx v 4 S := jC (by decide)
theorem adK {v : Value} {S : zh} : zx (zH 2 v) 4 S = zx v 4 S := jC (by decide)
theorem adU {v : Value} {S : zh} : zx (zH 3 v) 4 S = zx v 4 S := jC (by decide)
theorem acn {v : Value} {S : zh} : zx (zH 0 v) 5 S = zx v 5 S := jC (by decide)
theorem acG {v : Value} {S : zh} : zx (zH 1 v) 5 S = zx v 5 S := jC (by decide)
theorem acK {v : Value} {S : zh} : zx (zH 2 v) 5 S = zx v 5 S := jC (by decide)
theorem acD {v : Value} {S : zh} : zx (zH 3 v) 5 S = zx v 5 S := jC (by decide)
theorem ad1 {v : Value} {S : zh} : zx (zH 4 v) 5 S = zx v 5 S := jC (by decide)
abbrev by_ (k : Nat) (l : List UInt8) : Value := vs cb 1 k l
abbrev iz (k : Nat) (l : List Int) : Value := vs ci 1 k l
theorem adq {src dst : TypeId} {k : Nat} {l : List UInt8} (hs : P.underlying src = some (.slice te)) (he : P.underlying te = some (.int .u8)) (hd : P.underlying dst = some .string) (h : Okl k l) : ZM P src dst (by_ k l) S = some (.string ⟨l.toArray⟩, S) := by
 obtain ⟨e', h1, _⟩ := adF (e := 1) (h.okv (f := cb))
 have hlen : (l.flatMap cb).length = l.length := by rw [Z5 aag]; omega
 have hns : ∀ s, by_ k l ≠ .string s := by intro s; unfold by_ vs sv; split <;> (intro h; cases h)
 unfold ZM
 split
 ·
  rename_i s hs; exact absurd hs (hns s)
 ·
  unfold by_ vs
  rw [h1]
  simp only [hs, hd, he, if_pos hlen, ae0]
end
end Go.Abs
namespace Go.Abs
open Go.RowKit
def CLe (c d : FuncId → List Value → M Value) : Prop := ∀ g a S r, c g a S = some r → d g a S = some r
section
variable {P : Program} {O : Ora} {c d : FuncId → List Value → M Value}
theorem Qm (h : CLe c d) {fx : Fx} {T : List Value} {o : Oper} {S : zh} {r : Value × zh} (hs : yA P fx c T o S = some r) : yA P fx d T o S = some r := by
 unfold yA at hs ⊢
 split at hs
 ·
  rename_i hok
  rw [if_pos hok]
  cases hop : o.op with
  | call q =>
   rw [hop] at hs
   dsimp only at hs ⊢
   cases hcal : q.callee with
   | value f =>
    rw [hcal] at hs
    dsimp only at hs ⊢
    split at hs
    ·
     rename_i g first captured hev
     exact h _ _ _ _ hs
    ·
     cases hs
   | builtin b => rw [hcal] at hs; exact hs
   | invoke a b => rw [hcal] at hs; cases hs
  | _ => rw [hop] at hs; exact hs
 ·
  cases hs
theorem acr (h : CLe c d) {fx : Fx} {ops : Array Oper} : ∀ (l : List Oper) (T : List Value) (S : zh) (r : List Value × zh), jd P fx c ops l T S = some r → jd P fx d ops l T S = some r := by
 intro l
 induction l with
 | nil => intro T S r hs; exact hs
 | cons o l ih =>
  intro T S r hs
  simp only [jd] at hs ⊢
  split at hs
  ·
   rename_i hw
   rw [if_pos hw]
   split at hs
   ·
    rename_i v S' he
    rw [Qm h he]
    exact ih _ _ _ hs
   ·
    cases hs
  ·
   rename_i hw
   rw [if_neg hw]
   exact ih _ _ _ hs
theorem aaS (h : CLe c d) {fx : Fx} {chk : List Nat} {nl : List (Nat × Nat)} {ops : Array Oper} : ∀ (l : List Oper) (i : Nat) (hist : List (Value × zh)) (T : List Value) (S : zh) (r : List Value × zh), wP P fx chk nl c ops i hist l T S = some r → wP P fx chk nl d ops i hist l T S = some r := by
 intro l
 induction l with
 | nil => intro i hist T S r hs; exact hs
 | cons o l ih =>
  intro i hist T S r hs
  simp only [wP] at hs ⊢
  split at hs
  ·
   rename_i hw
   rw [if_pos hw]
   split at hs
   ·
    rename_i v S' he
    rw [Qm h he]
    dsimp only
    split at hs
    ·
     rename_i hq
     rw [if_pos hq]
     exact ih _ _ _ _ _ hs
    ·
     cases hs
   ·
    cases hs
  ·
   rename_i hw
   rw [if_neg hw]
   exact ih _ _ _ _ _ hs
theorem Ql (h : CLe c d) {hp : Bool} {n m : Nat} (hn : n ≤ m) : ∀ (q : Code) (T : List Value) (S : zh) (r), yO P hp c n q T S = some r → yO P hp d m q T S = some r := by
 intro q
 induction q with
 | skip => intro T S r hs; exact hs
 | exit id => intro T S r hs; exact hs
 | ret => intro T S r hs; exact hs
 | region i ops dr =>
  intro T S r hs
  cases dr with
  | false =>
   simp only [yO] at hs ⊢
   split at hs
   ·
    rename_i T1 S1 ho
    rw [acr h _ _ _ _ ho]; exact hs
   ·
    cases hs
  | true =>
   simp only [yO] at hs ⊢
   split at hs
   ·
    rename_i hd
    rw [if_pos hd]
    split at hs
    ·
     rename_i T1 S1 ho
     rw [aaS h _ _ _ _ _ _ ho]; exact hs
    ·
     cases hs
   ·
    cases hs
 | seq x y ihx ihy =>
  intro T S r hs
  simp only [yO] at hs ⊢
  split at hs
  ·
   rename_i T1 S1 hx
   rw [ihx _ _ _ hx]
   exact ihy _ _ _ hs
  ·
   rename_i hne
   rw [ihx _ _ _ hs]
   split
   ·
    rename_i T1 S1 he; exact absurd (hs.trans he) (hne T1 S1)
   ·
    rfl
 | cond x y z ihy ihz =>
  intro T S r hs
  simp only [yO] at hs ⊢
  split at hs
  ·
   rename_i hok
   rw [if_pos hok]
   split at hs
   ·
    rename_i hb; exact ihy _ _ _ hs
   ·
    rename_i hb; exact ihz _ _ _ hs
   ·
    cases hs
  ·
   cases hs
 | block id x ih =>
  intro T S r hs
  simp only [yO] at hs ⊢
  split at hs
  ·
   rename_i id' T1 S1 hx
   rw [ih _ _ _ hx]; exact hs
  ·
   rename_i hne
   rw [ih _ _ _ hs]
   split
   ·
    rename_i id' T1 S1 he; exact absurd (hs.trans he) (hne id' T1 S1)
   ·
    rfl
 | loop x ih =>
  intro T S r hs
  simp only [yO] at hs ⊢
  have key : ∀ (n : Nat) (T : List Value) (S : zh), ∀ k, qx k (yO P hp c n x) T S = some r → (∀ T S r, yO P hp c n x T S = some r → yO P hp d m x T S = some r) → qx k (yO P hp d m x) T S = some r := by
   intro n T S k hk hx
   induction k generalizing T S with
   | zero => cases hk
   | succ k ihk =>
    simp only [qx] at hk ⊢
    split at hk
    ·
     rename_i T1 S1 h1
     rw [hx _ _ _ h1]
     exact ihk _ _ hk
    ·
     rename_i hne
     rw [hx _ _ _ hk]
     split
     ·
      rename_i T1 S1 he; exact absurd (hk.trans he) (hne T1 S1)
     ·
      rfl
  exact QU hn (key n T S n hs ih)
 | _ => intro T S r hs; simp only [yO] at hs; cases hs
theorem aa7 {hps : FuncId → Bool} {hp : Bool} (h : CLe c d) : CLe (xP hps hp c) (xP hps hp d) := by
 cases hp with
 | false => exact h
 | true =>
  intro g a S r hs
  unfold xP at hs ⊢
  dsimp only at hs ⊢
  split at hs
  ·
   rename_i hg; rw [if_pos hg]; exact h _ _ _ _ hs
  ·
   rename_i hg
   rw [if_neg hg]
   split at hs <;> first | (cases hs; done) | skip
   rename_i m S1 hf
   split at hs <;> first | (cases hs; done) | skip
   rename_i r0 hr0
   (try rw [hf])
   (try dsimp only)
   rw [h _ _ _ _ hr0]
   exact hs
theorem XV (h : CLe c d) {hp : Bool} {n m : Nat} (hn : n ≤ m) {fn : Func} {q : Code} {a : List Value} {S : zh} {r : Value × zh} (hs : aeb P hp c n fn q a S = some r) : aeb P hp d m fn q a S = some r := by
 unfold aeb at hs ⊢
 split at hs
 ·
  rename_i T1 S1 hx
  rw [Ql h hn _ _ _ _ hx]; exact hs
 ·
  rename_i T1 S1 hx
  rw [Ql h hn _ _ _ _ hx]; exact hs
 ·
  cases hs
theorem aev : ∀ (n m : Nat), n ≤ m → CLe (xZ P O n) (xZ P O m) := by
 intro n
 induction n with
 | zero => intro m _ g a S r h; cases h
 | succ n ih =>
  intro m hm g a S r h
  obtain ⟨m, rfl⟩ : ∃ k, m = k + 1 := ⟨m - 1, by omega⟩
  simp only [xZ] at h ⊢
  cases ho : O.fn g with
  | some q => rw [ho] at h; exact h
  | none =>
   rw [ho] at h
   dsimp only at h ⊢
   cases hf : P.funcs[g]? with
   | none => rw [hf] at h; cases h
   | some fn =>
    rw [hf] at h
    dsimp only at h ⊢
    split at h
    ·
     cases h
    ·
     rename_i hn
     rw [if_neg hn]
     cases hb : fn.body with
     | none => rw [hb] at h; cases h
     | some q =>
      rw [hb] at h
      dsimp only at h ⊢
      have hc := aa7 (hps := O.hp) (hp := O.hp g) (ih m (by omega))
      split at h
      ·
       rename_i hpu
       rw [if_pos hpu]
       unfold adL at h ⊢
       split at h <;> first | (cases h; done) | skip
       rename_i hca
       rw [if_pos hca]
       split at h <;> first | (cases h; done) | skip
       rename_i v1 S1 hr
       rw [XV hc (by omega) hr]
       exact h
      ·
       rename_i hpu
       rw [if_neg hpu]
       exact XV hc (by omega) h
theorem aeI {n : Nat} {g : FuncId} {args : List Value} {S : zh} {r : Value × zh} (h : xZ P O n g args S = some r) : zM P O g args S = some r :=
 VX ⟨n, fun k hk => aev n k hk _ _ _ _ h⟩
end
end Go.Abs
namespace Go.Abs
open Go.RowKit
theorem aeY (x : (Ty.slc 1 (.int .u8)).Val) (hg : (Ty.slc 1 (.int .u8)).Good x) : ∃ k l, Okl k l ∧ k ≠ 2 ∧ (Ty.slc 1 (.int .u8)).JL x = [by_ k l] ∧ l.length ≤ 140737488351232 := by
 match x, hg with
 | none, _ => exact ⟨0, [], Okl.none, by decide, rfl, by simp⟩
 | some xs, hg =>
  obtain ⟨h1, h2, h3⟩ := hg
  have key : ∀ xs : List Int, (∀ n ∈ xs, (Lit.int .u8 n).wf = true) → (xs.flatMap fun n => [Value.int .u8 n]) = (xs.map fun n => UInt8.ofNat n.toNat).flatMap cb := by
   intro xs
   induction xs with
   | nil => intro _; rfl
   | cons n xs ih =>
    intro h
    have hw := h n (by simp)
    simp [Lit.wf, IntKind.min, IntKind.max, IntKind.signed, IntKind.bits] at hw
    have e : (Value.int .u8 n) = .int .u8 ((UInt8.ofNat n.toNat).toNat : Int) := by
     simp only [UInt8.toNat_ofNat']
     congr 1
     omega
    rw [List.flatMap_cons, ih (fun m hm => h m (by simp [hm])), List.map_cons, List.flatMap_cons, e]
    rfl
  refine ⟨1, (show List Int from xs).map fun n => UInt8.ofNat n.toNat, Okl.read, by decide, ?_, ?_⟩
  ·
   have e := key (show List Int from xs) h3
   show [SL 1 1 (show List Int from xs).length ((show List Int from xs).flatMap fun n => [Value.int .u8 n])] = [_]
   unfold by_ vs
   rw [sv1, List.length_map, ← e]
  ·
   have : (show List Int from xs).length * 1 ≤ 140737488351232 := h1
   rw [List.length_map]; omega
theorem JR {n : Int} (h : (Lit.int .i64 n).wf = true) : -9223372036854775808 ≤ n ∧ n < 9223372036854775808 := by
 simp [Lit.wf, IntKind.min, IntKind.max, IntKind.signed, IntKind.bits] at h
 omega
def ae8 (call : FuncId → List Value → M Value) (g : FuncId) (args : List Value) : M Value := fun S => match JX args S with
 | some (m, S1) => match call g m S1 with
  | some r => some (ad8 S S1 args r)
  | none => none
 | none => none
end Go.Abs
namespace Go.Abs
open Go.RowKit
section
variable {P : Program} {μ μ1 : Mu} {S S1 H H1 : zh} {ω ω1 : Nat → Option qc}
structure Ext (S S1 : zh) : Prop where
 next : S.next ≤ S1.next
 get : ∀ k, k < S.next → S1.get k = S.get k
 log : ∃ new, S1.log = new ++ S.log ∧ ∀ k ∈ new, S.next ≤ k
theorem Ext.refl (S : zh) : Ext S S := ⟨Nat.le_refl _, fun _ _ => rfl, [], rfl, fun k h => by cases h⟩
theorem Ext.trans {S2 : zh} (h : Ext S S1) (k : Ext S1 S2) : Ext S S2 := ⟨Nat.le_trans h.1 k.1, fun q hq => (k.2 q (Nat.lt_of_lt_of_le hq h.1)).trans (h.2 q hq), by
 obtain ⟨n1, e1, f1⟩ := h.log
 obtain ⟨n2, e2, f2⟩ := k.log
 refine ⟨n2 ++ n1, by rw [e2, e1, List.append_assoc], fun q hq => ?_⟩
 rcases List.mem_append.1 hq with hq | hq
 ·
  exact Nat.le_trans h.1 (f2 q hq)
 ·
  exact f1 q hq⟩
theorem Ext.push (S : zh) (o : qI) : Ext S (S.push o) := ⟨by simp, fun k hk => by rw [zh.jX, if_neg (by omega)], [], rfl, fun k h => by cases h⟩
theorem Ext.set {S S1 : zh} (h : Ext S S1) {r : Nat} (hr : S.next ≤ r) (o : qI) : Ext S (S1.set r o) := ⟨by simpa using h.1, fun k hk => by rw [zh.wH, if_neg (by omega)]; exact h.2 k hk, by
 obtain ⟨n1, e1, f1⟩ := h.log
 refine ⟨r :: n1, by rw [zh.QZ, e1]; rfl, fun q hq => ?_⟩
 rcases List.mem_cons.1 hq with rfl | hq
 ·
  exact hr
 ·
  exact f1 q hq⟩
inductive Lower (S : zh) (v1 : Value) (S1 : zh) : Value → Prop
 | same (h : ground v1 = true) : Lower S v1 S1 v1
 | own {r n e : Nat} {cs : List Value} (hv : v1 = .slice (some ⟨r, 0, none⟩) n n) (hr : S.next ≤ r) (hg : S1.get r = some (.cells cs (.own []) e)) (hn : cs.length = n * e) (hs : cs.all sg = true) : Lower S v1 S1 (SL 2 e n cs)
end
end Go.Abs
namespace Go.Abs
open Go.RowKit
section
variable {P : Program} {S : zh} {t te tx tex : TypeId} {q o n c e i r : Nat} {cs : List Value} {own : Own} {anc : List Nat} {v x : Value} {hp : Bool}
theorem aai (h : S.get q = some (.cells cs own e)) (ha : qR P t = some false) (hv : cs[o]? = some v) (hn : ∀ l, v ≠ .agg l) : zO P false t (.pointer (some ⟨q, o, none⟩)) S = some (dem v, S) := by
 unfold zO
 simp only [Bool.false_eq_true, if_false]
 have : qj P t (.pointer (some ⟨q, o, none⟩)) S = some (v, S) := by simp only [qj, h, ha, hv]
 rw [this]
 split
 ·
  rename_i l S2 he; cases he; exact absurd rfl (hn _)
 ·
  rename_i v2 S2 _ he; cases he; rfl
 ·
  rename_i he; cases he
theorem yZ {k : IntKind} {m : Int} (h : S.get q = some (.cells cs own e)) (ha : qR P t = some false) (hv : cs[o]? = some (.int k m)) : zO P false t (.pointer (some ⟨q, o, none⟩)) S = some (.int k m, S) :=
 aai h ha hv (fun l h => by cases h)
theorem Ju (h : S.get q = some (.cells cs own e)) (ha : qR P t = some true) (hs : xC P t = some n) (hle : o + n ≤ cs.length) : zO P false t (.pointer (some ⟨q, o, none⟩)) S = some (.agg (((cs.drop o).take n).toArray.map qO), S) := by
 unfold zO
 simp only [Bool.false_eq_true, if_false]
 have : qj P t (.pointer (some ⟨q, o, none⟩)) S = some (.agg ((cs.drop o).take n).toArray, S) := by simp only [qj, h, ha, hs, if_pos hle]
 rw [this]
theorem qV (h : S.get q = some (.cells cs (.own anc) e)) (hs : xC P t = some n) (hx : x.cells.size = n) (h1 : x.cells.toList.all (·.oneCell') = true) (hle : o + n ≤ cs.length) :
  jO P t (.pointer (some ⟨q, o, none⟩)) x S = some (undef, (S.kills anc).set q (.cells (splice cs o x.cells.toList) (.own []) e)) := by
 simp only [jO, ZQ, h, hs, if_pos hx, if_pos h1, if_pos hle]
end
theorem vT {α : Type} {f : α → List Value} {e k d : Nat} {l : List α} (hk : k ≤ 2) (h : ∀ x ∈ l, (f x).all (jf d) = true) : jf (d + 4) (vs f e k l) = true := by
 unfold vs sv
 split
 ·
  rfl
 ·
  show ((l.flatMap f).toArray.toList.all (jf d)) = true
  rw [List.toList_toArray, List.all_flatMap, List.all_eq_true]
  exact h
theorem y7 {k d : Nat} {l : List UInt8} (hk : k ≤ 2) : jf (d + 5) (by_ k l) = true := vT hk (fun _ _ => rfl)
theorem Xi {l : List Value} {d : Nat} (h : l.all (jf d) = true) : jf (d + 1) (.agg l.toArray) = true := by
 show l.toArray.toList.all (jf d) = true
 simpa using h
theorem wU {l : List Value} {d : Nat} (h : l.all (jf d) = true) : jf (d + 1) (.tuple l.toArray) = true := by
 show l.toArray.toList.all (jf d) = true
 simpa using h
theorem all1 {p : Value → Bool} {a : Value} (h : p a = true) : [a].all p = true := by simp [h]
theorem all2 {p : Value → Bool} {a b : Value} (h : p a = true) (k : p b = true) : [a, b].all p = true := by simp [h, k]
theorem aje {p : Value → Bool} {a b c : Value} (h : p a = true) (k : p b = true) (j : p c = true) : [a, b, c].all p = true := by simp [h, k, j]
theorem aef {k e n : Nat} {cs : List Value} : (sv k e n cs).cells = #[sv k e n cs] := by unfold sv; split <;> rfl
theorem aft {α : Type} {f : α → List Value} {e k : Nat} {l : List α} : (vs f e k l).cells = #[vs f e k l] := aef
theorem ahg {k e n : Nat} {cs : List Value} : qO (sv k e n cs) = sv (if k = 2 then 1 else k) e n cs := by rw [← aaK]; unfold sv; split <;> rfl
theorem Vu {α : Type} {f : α → List Value} {e k : Nat} {l : List α} : qO (vs f e k l) = vs f e (if k = 2 then 1 else k) l := ahg
theorem kV {k : IntKind} {n : Int} : qO (.int k n) = .int k n := rfl
theorem yU {x : Array Value} : (Value.agg x).cells = x := rfl
theorem qg {k : IntKind} {n : Int} : (Value.int k n).cells = #[.int k n] := rfl
@[simp] theorem Xy (a : Option Addr) (n c : Nat) : dem (.slice a n c) = .slice a n c := Eq.trans rfl rfl
@[simp] theorem acU (a : Option Nat) : dem (.map a) = .map a := Eq.trans rfl rfl
theorem wrap_i64 {n : Int} (h0 : -9223372036854775808 ≤ n) (h : n < 9223372036854775808) : IntKind.i64.wrap n = n := by
 simp [IntKind.wrap, IntKind.bits, IntKind.signed]
 split <;> omega
theorem ab2 {l pre suf : List Int} {n : Int} (hl : l = pre ++ n :: suf) (h : Int.toNat (pre.length : Int) < l.length) : l[Int.toNat (pre.length : Int)] = n := by
 subst hl; simp
theorem adM {α : Type} {l pre suf : List α} {n : α} (hl : l = pre ++ n :: suf) (h : Int.toNat (pre.length : Int) < l.length) : l[Int.toNat (pre.length : Int)] = n := by
 subst hl; simp
theorem afT (k : Nat) : (if (if k = 2 then 1 else k) = 2 then 1 else if k = 2 then 1 else k) = if k = 2 then 1 else k := by split <;> simp_all
theorem KP (k : Nat) : (if k = 2 then 1 else k) ≠ 2 := by split <;> omega
theorem WG (Sa Sb : zh) : qm undef Sa Sb = true := rfl
theorem XY (cs : List Value) (Sa Sb : zh) : qm (EP cs) Sa Sb = true := rfl
theorem wM {q o e : Nat} {cs : List Value} {own : Own} {S : zh} (h : S.get q = some (.cells cs own e)) : qm (.pointer (some ⟨q, o, none⟩)) S S = true := by
 simp only [qm, h, Nat.sub_self, List.take_zero, List.contains_nil, Bool.not_false, Bool.and_self]
end Go.Abs
namespace Go.Abs
open Go.RowKit
section
variable {P : Program} {fx : Fx} {chk : List Nat} {call : FuncId → List Value → M Value} {ops : Array Oper}
theorem sP (f : Func) (i n : Nat) {l : List Oper} {T : List Value} {T1 : Value → List Value} {S : zh} {v : Value} {r : Option (List Value × zh)} (hK : jd P fx call ops ((reg f i).toList.drop (n + 1)) (T1 v) S = r) (hl : l = (opAt f i n) :: ((reg f i).toList.drop (n + 1)) := by kernel_rfl) (hg : (opAt f i n).guard = none := by kernel_rfl) (hm : ∀ v, vU (opAt f i n) ((reg f i).toList.drop (n + 1)) T v = T1 v := by exact fun _ => rfl) (hs : yA P fx call T (opAt f i n) S = some (v, S) := by kernel_rfl) : jd P fx call ops l T S = r :=
 abM hl hg hm hs hK
theorem sD (f : Func) (i n : Nat) {l : List Oper} {T : List Value} {T1 : Value → List Value} {S : zh} {s : Option (Value × zh)} {K : Value → zh → Option (List Value × zh)} (hK : ∀ v S1, jd P fx call ops ((reg f i).toList.drop (n + 1)) (T1 v) S1 = K v S1) (hl : l = (opAt f i n) :: ((reg f i).toList.drop (n + 1)) := by kernel_rfl) (hg : (opAt f i n).guard = none := by kernel_rfl) (hm : ∀ v, vU (opAt f i n) ((reg f i).toList.drop (n + 1)) T v = T1 v := by exact fun _ => rfl) (hs : yA P fx call T (opAt f i n) S = s := by kernel_rfl) : jd P fx call ops l T S = zA s K () :=
 ahn hl hg hm hs hK
theorem sG (f : Func) (i n : Nat) {l : List Oper} {T : List Value} {T1 : Value → List Value} {S : zh} {j : Nat} {b : Bool} {g : Value} {s : M Value} {K : Value → zh → Option (List Value × zh)} (hK : ∀ v S1, jd P fx call ops ((reg f i).toList.drop (n + 1)) (T1 v) S1 = K v S1) (hl : l = (opAt f i n) :: ((reg f i).toList.drop (n + 1)) := by kernel_rfl) (hg : (opAt f i n).guard = some (j, b) := by kernel_rfl) (hm : ∀ v, vU (opAt f i n) ((reg f i).toList.drop (n + 1)) T v = T1 v := by exact fun _ => rfl) (hy : ynd ops T j = vb g := by kernel_rfl) (hs : yA P fx call T (opAt f i n) S = s S := by kernel_rfl) : jd P fx call ops l T S = gdK g b s S K () :=
 agU hl hg hm hy hs hK
theorem tD (f : Func) (i n : Nat) {l : List Oper} {T : List Value} {T1 : Value → List Value} {S : zh} {k : Nat} {s : Option (Value × zh)} {K : Value → zh → Option (List Value × zh)} (hK : ∀ v S1, wP P fx chk [] call ops (k + 1) [] ((reg f i).toList.drop (n + 1)) (T1 v) S1 = K v S1) (hc : chk.contains k = false := by kernel_rfl) (hl : l = (opAt f i n) :: ((reg f i).toList.drop (n + 1)) := by kernel_rfl) (hg : (opAt f i n).guard = none := by kernel_rfl) (hm : ∀ v, vU (opAt f i n) ((reg f i).toList.drop (n + 1)) T v = T1 v := by exact fun _ => rfl) (hs : yA P fx call T (opAt f i n) S = s := by kernel_rfl) : wP P fx chk [] call ops k [] l T S = zA s K () :=
 ael hc hl hg hm hs hK
theorem tP (f : Func) (i n : Nat) {l : List Oper} {T : List Value} {T1 : Value → List Value} {S : zh} {k : Nat} {v : Value} {r : Option (List Value × zh)} (hK : wP P fx chk [] call ops (k + 1) [] ((reg f i).toList.drop (n + 1)) (T1 v) S = r) (hc : chk.contains k = false := by kernel_rfl) (hl : l = (opAt f i n) :: ((reg f i).toList.drop (n + 1)) := by kernel_rfl) (hg : (opAt f i n).guard = none := by kernel_rfl) (hm : ∀ v, vU (opAt f i n) ((reg f i).toList.drop (n + 1)) T v = T1 v := by exact fun _ => rfl) (hs : yA P fx call T (opAt f i n) S = some (v, S) := by kernel_rfl) : wP P fx chk [] call ops k [] l T S = r :=
 abz hc hl hg hm hs hK
theorem uD (f : Func) (i n : Nat) {l : List Oper} {T : List Value} {T1 : Value → List Value} {S : zh} {k : Nat} {s : Option (Value × zh)} {K : Value → zh → Option (List Value × zh)} {x : Nat × Nat} {nl : List (Nat × Nat)} {hist : List (Value × zh)} {pe : Value} (hK : ∀ v S1, wP P fx chk (x :: nl) call ops (k + 1) (hist ++ [(pe, S)]) ((reg f i).toList.drop (n + 1)) (T1 v) S1 = K v S1) (hc : chk.contains k = false := by kernel_rfl) (hpe : xI T (opAt f i n) = pe := by kernel_rfl) (hl : l = (opAt f i n) :: ((reg f i).toList.drop (n + 1)) := by kernel_rfl) (hg : (opAt f i n).guard = none := by kernel_rfl) (hm : ∀ v, vU (opAt f i n) ((reg f i).toList.drop (n + 1)) T v = T1 v := by exact fun _ => rfl) (hs : yA P fx call T (opAt f i n) S = s := by kernel_rfl) : wP P fx chk (x :: nl) call ops k hist l T S = zA s K () :=
 aeP hc hpe hl hg hm hs hK
theorem uDC (f : Func) (i n : Nat) {l : List Oper} {T : List Value} {T1 : Value → List Value} {S : zh} {k : Nat} {s : Option (Value × zh)} {K : Value → zh → Option (List Value × zh)} {x : Nat × Nat} {nl : List (Nat × Nat)} {hist : List (Value × zh)} {pe : Value} (hK : ∀ v S1, wP P fx chk (x :: nl) call ops (k + 1) (hist ++ [(pe, S)]) ((reg f i).toList.drop (n + 1)) (T1 v) S1 = K v S1) (hc : chk.contains k = true := by kernel_rfl) (hpe : xI T (opAt f i n) = pe := by kernel_rfl) (hl : l = (opAt f i n) :: ((reg f i).toList.drop (n + 1)) := by kernel_rfl) (hg : (opAt f i n).guard = none := by kernel_rfl) (hm : ∀ v, vU (opAt f i n) ((reg f i).toList.drop (n + 1)) T v = T1 v := by exact fun _ => rfl) (hs : yA P fx call T (opAt f i n) S = s := by kernel_rfl) : wP P fx chk (x :: nl) call ops k hist l T S = zA s (fun v S1 => okK v (K v S1) ()) () :=
 adH hc hpe hl hg hm hs hK
theorem uP (f : Func) (i n : Nat) {l : List Oper} {T : List Value} {T1 : Value → List Value} {S : zh} {k : Nat} {v : Value} {r : Option (List Value × zh)} {x : Nat × Nat} {nl : List (Nat × Nat)} {hist : List (Value × zh)} {pe : Value} (hK : wP P fx chk (x :: nl) call ops (k + 1) (hist ++ [(pe, S)]) ((reg f i).toList.drop (n + 1)) (T1 v) S = r) (hc : chk.contains k = false := by kernel_rfl) (hpe : xI T (opAt f i n) = pe := by kernel_rfl) (hl : l = (opAt f i n) :: ((reg f i).toList.drop (n + 1)) := by kernel_rfl) (hg : (opAt f i n).guard = none := by kernel_rfl) (hm : ∀ v, vU (opAt f i n) ((reg f i).toList.drop (n + 1)) T v = T1 v := by exact fun _ => rfl) (hs : yA P fx call T (opAt f i n) S = some (v, S) := by kernel_rfl) : wP P fx chk (x :: nl) call ops k hist l T S = r :=
 aaN hc hpe hl hg hm hs hK
theorem uPC (f : Func) (i n : Nat) {l : List Oper} {T : List Value} {T1 : Value → List Value} {S : zh} {k : Nat} {v : Value} {r : Option (List Value × zh)} {x : Nat × Nat} {nl : List (Nat × Nat)} {hist : List (Value × zh)} {pe : Value} (hK : wP P fx chk (x :: nl) call ops (k + 1) (hist ++ [(pe, S)]) ((reg f i).toList.drop (n + 1)) (T1 v) S = r) (hc : chk.contains k = true := by kernel_rfl) (hpe : xI T (opAt f i n) = pe := by kernel_rfl) (hl : l = (opAt f i n) :: ((reg f i).toList.drop (n + 1)) := by kernel_rfl) (hg : (opAt f i n).guard = none := by kernel_rfl) (hm : ∀ v, vU (opAt f i n) ((reg f i).toList.drop (n + 1)) T v = T1 v := by exact fun _ => rfl) (hs : yA P fx call T (opAt f i n) S = some (v, S) := by kernel_rfl) : wP P fx chk (x :: nl) call ops k hist l T S = okK v r () :=
 VI hc hpe hl hg hm hs hK
theorem uG (f : Func) (i n : Nat) {l : List Oper} {T : List Value} {T1 : Value → List Value} {S : zh} {j k : Nat} {b : Bool} {g : Value} {s : M Value} {K : Value → zh → Option (List Value × zh)} {x : Nat × Nat} {nl : List (Nat × Nat)} {hist : List (Value × zh)} {pe : Value} (hK : ∀ v S1, wP P fx chk (x :: nl) call ops (k + 1) (hist ++ [(pe, S)]) ((reg f i).toList.drop (n + 1)) (T1 v) S1 = K v S1) (hc : chk.contains k = false := by kernel_rfl) (hpe : xI T (opAt f i n) = pe := by kernel_rfl) (hl : l = (opAt f i n) :: ((reg f i).toList.drop (n + 1)) := by kernel_rfl) (hg : (opAt f i n).guard = some (j, b) := by kernel_rfl) (hm : ∀ v, vU (opAt f i n) ((reg f i).toList.drop (n + 1)) T v = T1 v := by exact fun _ => rfl) (hy : ynd ops T j = vb g := by kernel_rfl) (hs : yA P fx call T (opAt f i n) S = s S := by kernel_rfl) : wP P fx chk (x :: nl) call ops k hist l T S = gdK g b s S K () :=
 aeJ hc hpe hl hg hm hy hs hK
theorem uGC (f : Func) (i n : Nat) {l : List Oper} {T : List Value} {T1 : Value → List Value} {S : zh} {j k : Nat} {b : Bool} {g : Value} {s : M Value} {K : Value → zh → Option (List Value × zh)} {x : Nat × Nat} {nl : List (Nat × Nat)} {hist : List (Value × zh)} {pe : Value} (hK : ∀ v S1, wP P fx chk (x :: nl) call ops (k + 1) (hist ++ [(pe, S)]) ((reg f i).toList.drop (n + 1)) (T1 v) S1 = K v S1) (hc : chk.contains k = true := by kernel_rfl) (hpe : xI T (opAt f i n) = pe := by kernel_rfl) (hl : l = (opAt f i n) :: ((reg f i).toList.drop (n + 1)) := by kernel_rfl) (hg : (opAt f i n).guard = some (j, b) := by kernel_rfl) (hm : ∀ v, vU (opAt f i n) ((reg f i).toList.drop (n + 1)) T v = T1 v := by exact fun _ => rfl) (hy : ynd ops T j = vb g := by kernel_rfl) (hs : yA P fx call T (opAt f i n) S = s S := by kernel_rfl) : wP P fx chk (x :: nl) call ops k hist l T S = aeg g b s S K () :=
 ad3 hc hpe hl hg hm hy hs hK
end
end Go.Abs
namespace Go.Proofs.Ytbgcphbbchndkaa
open Go.Abs
def O : Ora := ⟨fun _ => none, fun f => ([] : List Nat).contains f, fun f => ([9, 10, 11, 12, 13, 14, 15, 18, 19, 20, 21, 25, 29, 30, 31, 33, 34, 37, 38, 39, 40, 41, 43, 44, 45, 46, 47, 49, 52, 53, 56, 61, 64, 65, 66] : List Nat).contains f⟩
theorem ahV : ac6 Try.prog O := afj
end Go.Proofs.Ytbgcphbbchndkaa
namespace Go.Proofs.Ytbgcphbbchndkaa
open Go.Abs
noncomputable def zi.code : Code := (Code.seq (Code.region 0 (reg Try.f5 0) false) (Code.seq (Code.seq (Code.region 1 (reg Try.f5 1) false) (Code.cond (Operand.tmp 14) (Code.seq (Code.region 2 (reg Try.f5 2) false) Code.ret) Code.skip)) (Code.seq (Code.region 3 (reg Try.f5 3) false) (Code.seq (Code.seq (Code.region 4 (reg Try.f5 4) false) (Code.cond (Operand.tmp 24) (Code.seq (Code.region 5 (reg Try.f5 5) false) Code.ret) Code.skip)) (Code.seq (Code.seq (Code.region 6 (reg Try.f5 6) false) (Code.cond (Operand.tmp 26) (Code.seq (Code.region 7 (reg Try.f5 7) false) (Code.seq (Code.region 8 (reg Try.f5 8) false) (Code.cond (Operand.tmp 39) (Code.seq (Code.region 9 (reg Try.f5 9) false) Code.ret) Code.skip))) Code.skip)) (Code.seq (Code.region 10 (reg Try.f5 10) false) (Code.seq (Code.seq (Code.region 11 (reg Try.f5 11) false) (Code.cond (Operand.tmp 48) (Code.seq (Code.region 12 (reg Try.f5 12) false) Code.ret) Code.skip)) (Code.seq (Code.region 13 (reg Try.f5 13) false) (Code.seq (Code.region 14 (reg Try.f5 14) false) Code.ret)))))))))
theorem zi.body : Try.f5.body = some zi.code := by kernel_rfl
variable (x0 x1 x2 x3 x4 x5 x6 x7 x8 x9 c f b g i k l m n o p q r s t u w x y z A B C D E F G H I J K L M N P Q R U V W X Y Z a0 a1 a2 a3 a4 a5 a6 a7 a8 a9 b0 b1 b2 : Value) (S : zh)
theorem zi.r0  : jd Try.prog ⟨false, false, false⟩ (zM Try.prog O) (reg Try.f5 0) (reg Try.f5 0).toList ([x0,x1,x2,x3,x4,x5,x6,x7,x8,x9,c,f,b,g,i,k,l,m,n,o,p,q,r,s,t,u,w,x,y,z,A,B,C,D,E,F,G,H,I,J,K,L,M,N,P,Q,R,U,V,W,X,Y,Z,a0,a1,a2,a3,a4,a5,a6,a7,a8,a9,b0,b1,b2]) S =
  (zA (J7 (dem x0) S) (fun v0 S1 => some ([x0,x1,v0,x3,Value.bool false,x5,x6,x7,x8,x9,c,f,b,g,i,k,l,m,n,o,p,q,r,s,t,u,w,x,y,z,A,B,C,D,E,F,G,H,I,J,K,L,M,N,P,Q,R,U,V,W,X,Y,Z,a0,a1,a2,a3,a4,a5,a6,a7,a8,a9,b0,b1,b2], S1)) ()) := by
 kernel_rfl
theorem zi.r1  : jd Try.prog ⟨false, false, false⟩ (zM Try.prog O) (reg Try.f5 1) (reg Try.f5 1).toList ([x0,x1,x2,x3,x4,x5,x6,x7,x8,x9,c,f,b,g,i,k,l,m,n,o,p,q,r,s,t,u,w,x,y,z,A,B,C,D,E,F,G,H,I,J,K,L,M,N,P,Q,R,U,V,W,X,Y,Z,a0,a1,a2,a3,a4,a5,a6,a7,a8,a9,b0,b1,b2]) S =
  (zA ((zM Try.prog O) 9 [] S) (fun v0 S1 => zA (aUn Try.prog UnOp.not v0 S1) (fun d S2 => some ([x0,x1,x2,x3,x4,x5,x6,x7,x8,x9,c,f,b,v0,d,k,l,m,n,o,p,q,r,s,t,u,w,x,y,z,A,B,C,D,E,F,G,H,I,J,K,L,M,N,P,Q,R,U,V,W,X,Y,Z,a0,a1,a2,a3,a4,a5,a6,a7,a8,a9,b0,b1,b2], S2)) ()) ()) := by
 kernel_rfl
theorem zi.r2  : jd Try.prog ⟨false, false, false⟩ (zM Try.prog O) (reg Try.f5 2) (reg Try.f5 2).toList ([x0,x1,x2,x3,x4,x5,x6,x7,x8,x9,c,f,b,g,i,k,l,m,n,o,p,q,r,s,t,u,w,x,y,z,A,B,C,D,E,F,G,H,I,J,K,L,M,N,P,Q,R,U,V,W,X,Y,Z,a0,a1,a2,a3,a4,a5,a6,a7,a8,a9,b0,b1,b2]) S =
  ( some ([x0,x1,x2,x3,Value.bool false,x5,x6,x7,x8,x9,c,f,b,g,i,k,l,m,n,o,p,q,r,s,t,u,w,x,y,z,A,B,C,D,E,F,G,H,I,J,K,L,M,N,P,Q,R,U,V,W,X,Y,Z,a0,a1,a2,a3,a4,a5,a6,a7,a8,a9,b0,b1,b2], S)) := by
 kernel_rfl
theorem zi.r3  : jd Try.prog ⟨false, false, false⟩ (zM Try.prog O) (reg Try.f5 3) (reg Try.f5 3).toList ([x0,x1,x2,x3,x4,x5,x6,x7,x8,x9,c,f,b,g,i,k,l,m,n,o,p,q,r,s,t,u,w,x,y,z,A,B,C,D,E,F,G,H,I,J,K,L,M,N,P,Q,R,U,V,W,X,Y,Z,a0,a1,a2,a3,a4,a5,a6,a7,a8,a9,b0,b1,b2]) S =
  (zA (zO Try.prog false 30 x2 S) (fun v0 S1 => zA ((zM Try.prog O) 13 [(dem v0)] S1) (fun d S2 => zA (zx d 0 S2) (fun v3 S3 => zA (zx (zH 0 d) 1 S3) (fun v4 S4 => some ([x0,x1,x2,x3,x4,v3,v4,x7,x8,x9,c,f,b,g,i,zH 1 (zH 0 d),v0,dem d,dem v3,dem v4,p,q,r,s,t,u,w,x,y,z,A,B,C,D,E,F,G,H,I,J,K,L,M,N,P,Q,R,U,V,W,X,Y,Z,a0,a1,a2,a3,a4,a5,a6,a7,a8,a9,b0,b1,b2], S4)) ()) ()) ()) ()) := by
 kernel_rfl
theorem zi.r4  : jd Try.prog ⟨false, false, false⟩ (zM Try.prog O) (reg Try.f5 4) (reg Try.f5 4).toList ([x0,x1,x2,x3,x4,x5,x6,x7,x8,x9,c,f,b,g,i,k,l,m,n,o,p,q,r,s,t,u,w,x,y,z,A,B,C,D,E,F,G,H,I,J,K,L,M,N,P,Q,R,U,V,W,X,Y,Z,a0,a1,a2,a3,a4,a5,a6,a7,a8,a9,b0,b1,b2]) S =
  (zA (jZ Try.prog BinOp.eql 31 (dem x6) (Value.int IntKind.i64 0) S) (fun d S1 => zA (zO Try.prog false 30 x2 S1) (fun v2 S2 => zA ((zM Try.prog O) 14 [(dem v2)] S2) (fun v3 S3 => zA (jZ Try.prog BinOp.neq 4 d v3 S3) (fun v4 S4 => some ([x0,x1,x2,x3,x4,x5,x6,x7,x8,x9,c,f,b,g,i,k,l,m,n,o,dem x6,d,v2,v3,v4,u,w,x,y,z,A,B,C,D,E,F,G,H,I,J,K,L,M,N,P,Q,R,U,V,W,X,Y,Z,a0,a1,a2,a3,a4,a5,a6,a7,a8,a9,b0,b1,b2], S4)) ()) ()) ()) ()) := by
 kernel_rfl
theorem zi.r5  : jd Try.prog ⟨false, false, false⟩ (zM Try.prog O) (reg Try.f5 5) (reg Try.f5 5).toList ([x0,x1,x2,x3,x4,x5,x6,x7,x8,x9,c,f,b,g,i,k,l,m,n,o,p,q,r,s,t,u,w,x,y,z,A,B,C,D,E,F,G,H,I,J,K,L,M,N,P,Q,R,U,V,W,X,Y,Z,a0,a1,a2,a3,a4,a5,a6,a7,a8,a9,b0,b1,b2]) S =
  ( some ([x0,x1,x2,x3,Value.bool false,x5,x6,x7,x8,x9,c,f,b,g,i,k,l,m,n,o,p,q,r,s,t,u,w,x,y,z,A,B,C,D,E,F,G,H,I,J,K,L,M,N,P,Q,R,U,V,W,X,Y,Z,a0,a1,a2,a3,a4,a5,a6,a7,a8,a9,b0,b1,b2], S)) := by
 kernel_rfl
theorem zi.r6  : jd Try.prog ⟨false, false, false⟩ (zM Try.prog O) (reg Try.f5 6) (reg Try.f5 6).toList ([x0,x1,x2,x3,x4,x5,x6,x7,x8,x9,c,f,b,g,i,k,l,m,n,o,p,q,r,s,t,u,w,x,y,z,A,B,C,D,E,F,G,H,I,J,K,L,M,N,P,Q,R,U,V,W,X,Y,Z,a0,a1,a2,a3,a4,a5,a6,a7,a8,a9,b0,b1,b2]) S =
  (zA (jZ Try.prog BinOp.eql 31 (dem x6) (Value.int IntKind.i64 0) S) (fun d S1 => some ([x0,x1,x2,x3,x4,x5,x6,x7,x8,x9,c,f,b,g,i,k,l,m,n,o,p,q,r,s,t,dem x6,d,x,y,z,A,B,C,D,E,F,G,H,I,J,K,L,M,N,P,Q,R,U,V,W,X,Y,Z,a0,a1,a2,a3,a4,a5,a6,a7,a8,a9,b0,b1,b2], S1)) ()) := by
 kernel_rfl
theorem zi.r7  : jd Try.prog ⟨false, false, false⟩ (zM Try.prog O) (reg Try.f5 7) (reg Try.f5 7).toList ([x0,x1,x2,x3,x4,x5,x6,x7,x8,x9,c,f,b,g,i,k,l,m,n,o,p,q,r,s,t,u,w,x,y,z,A,B,C,D,E,F,G,H,I,J,K,L,M,N,P,Q,R,U,V,W,X,Y,Z,a0,a1,a2,a3,a4,a5,a6,a7,a8,a9,b0,b1,b2]) S =
  (zA ((zM Try.prog O) 10 [(dem (dem x5))] S) (fun d S1 => zA (zx d 0 S1) (fun v3 S2 => zA (zx (zH 0 d) 1 S2) (fun v4 S3 => zA (wG Try.prog 30 S3) (fun v5 S4 => zA (jO Try.prog 30 v5 (dem v3) S4) (fun v6 S5 => some ([x0,x1,x2,x3,x4,x5,x6,v5,v4,x9,c,f,b,g,i,k,l,m,n,o,p,q,r,s,t,u,w,zH 1 (zH 0 d),dem x5,dem d,v3,dem v4,C,D,E,F,G,H,I,J,K,L,M,N,P,Q,R,U,V,W,X,Y,Z,a0,a1,a2,a3,a4,a5,a6,a7,a8,a9,b0,b1,b2], S5)) ()) ()) ()) ()) ()) := by
 kernel_rfl
theorem zi.r8  : jd Try.prog ⟨false, false, false⟩ (zM Try.prog O) (reg Try.f5 8) (reg Try.f5 8).toList ([x0,x1,x2,x3,x4,x5,x6,x7,x8,x9,c,f,b,g,i,k,l,m,n,o,p,q,r,s,t,u,w,x,y,z,A,B,C,D,E,F,G,H,I,J,K,L,M,N,P,Q,R,U,V,W,X,Y,Z,a0,a1,a2,a3,a4,a5,a6,a7,a8,a9,b0,b1,b2]) S =
  (zA (jZ Try.prog BinOp.neq 31 (dem x8) (Value.int IntKind.i64 0) S) (fun d S1 => gdK (dem d) false (zO Try.prog false 30 x7) S1 (fun v3 S2 => gdK (dem d) false (zO Try.prog false 30 x2) S2 (fun v4 S3 => gdK (dem d) false ((zM Try.prog O) 15 [(dem v3), (dem v4)]) S3 (fun v5 S4 => gdK (dem d) false (aUn Try.prog UnOp.not v5) S4 (fun v6 S5 => zA (wY (dem d) (Value.bool true) v6 S5) (fun v7 S6 => some ([x0,x1,x2,x3,x4,x5,x6,x7,x8,x9,c,f,b,g,i,k,l,m,n,o,p,q,r,s,t,u,w,x,y,z,A,B,dem x8,d,dem d,v3,v4,v5,v6,v7,K,L,M,N,P,Q,R,U,V,W,X,Y,Z,a0,a1,a2,a3,a4,a5,a6,a7,a8,a9,b0,b1,b2], S6)) ()) ()) ()) ()) ()) ()) := by
 refine sP Try.f5 8 0 (v := x8) ?_
 refine sD Try.f5 8 1 (fun d S1 => ?_)
 refine sP Try.f5 8 2 (v := d) ?_
 refine sG Try.f5 8 3 (j := 2) (fun v3 S2 => ?_)
 refine sG Try.f5 8 4 (j := 2) (fun v4 S3 => ?_)
 refine sG Try.f5 8 5 (j := 2) (fun v5 S4 => ?_)
 refine sG Try.f5 8 6 (j := 2) (fun v6 S5 => ?_)
 refine sD Try.f5 8 7 (fun v7 S6 => ?_)
 kernel_rfl
theorem zi.r9  : jd Try.prog ⟨false, false, false⟩ (zM Try.prog O) (reg Try.f5 9) (reg Try.f5 9).toList ([x0,x1,x2,x3,x4,x5,x6,x7,x8,x9,c,f,b,g,i,k,l,m,n,o,p,q,r,s,t,u,w,x,y,z,A,B,C,D,E,F,G,H,I,J,K,L,M,N,P,Q,R,U,V,W,X,Y,Z,a0,a1,a2,a3,a4,a5,a6,a7,a8,a9,b0,b1,b2]) S =
  ( some ([x0,x1,x2,x3,Value.bool false,x5,x6,x7,x8,x9,c,f,b,g,i,k,l,m,n,o,p,q,r,s,t,u,w,x,y,z,A,B,C,D,E,F,G,H,I,J,K,L,M,N,P,Q,R,U,V,W,X,Y,Z,a0,a1,a2,a3,a4,a5,a6,a7,a8,a9,b0,b1,b2], S)) := by
 kernel_rfl
theorem zi.r10  : jd Try.prog ⟨false, false, false⟩ (zM Try.prog O) (reg Try.f5 10) (reg Try.f5 10).toList ([x0,x1,x2,x3,x4,x5,x6,x7,x8,x9,c,f,b,g,i,k,l,m,n,o,p,q,r,s,t,u,w,x,y,z,A,B,C,D,E,F,G,H,I,J,K,L,M,N,P,Q,R,U,V,W,X,Y,Z,a0,a1,a2,a3,a4,a5,a6,a7,a8,a9,b0,b1,b2]) S =
  (zA (jB Try.prog 23 0 [] S) (fun v0 S1 => zA (wB Try.prog 23 23 v0 (dem x1) S1) (fun v2 S2 => zA ((zM Try.prog O) 10 [(dem v2)] S2) (fun v3 S3 => zA (zx v3 0 S3) (fun v5 S4 => zA (zx (zH 0 v3) 1 S4) (fun v6 S5 => zA (wG Try.prog 30 S5) (fun v7 S6 => zA (jO Try.prog 30 v7 (dem v5) S6) (fun v8 S7 => some ([x0,x1,x2,x3,x4,x5,x6,x7,x8,v7,v6,f,b,g,i,k,l,m,n,o,p,q,r,s,t,u,w,x,y,z,A,B,C,D,E,F,G,H,I,J,zH 1 (zH 0 v3),dem v0,dem x1,v2,dem v3,v5,dem v6,U,V,W,X,Y,Z,a0,a1,a2,a3,a4,a5,a6,a7,a8,a9,b0,b1,b2], S7)) ()) ()) ()) ()) ()) ()) ()) := by
 kernel_rfl
theorem zi.r11  : jd Try.prog ⟨false, false, false⟩ (zM Try.prog O) (reg Try.f5 11) (reg Try.f5 11).toList ([x0,x1,x2,x3,x4,x5,x6,x7,x8,x9,c,f,b,g,i,k,l,m,n,o,p,q,r,s,t,u,w,x,y,z,A,B,C,D,E,F,G,H,I,J,K,L,M,N,P,Q,R,U,V,W,X,Y,Z,a0,a1,a2,a3,a4,a5,a6,a7,a8,a9,b0,b1,b2]) S =
  (zA (jZ Try.prog BinOp.neq 31 (dem c) (Value.int IntKind.i64 0) S) (fun d S1 => some ([x0,x1,x2,x3,x4,x5,x6,x7,x8,x9,c,f,b,g,i,k,l,m,n,o,p,q,r,s,t,u,w,x,y,z,A,B,C,D,E,F,G,H,I,J,K,L,M,N,P,Q,R,dem c,d,W,X,Y,Z,a0,a1,a2,a3,a4,a5,a6,a7,a8,a9,b0,b1,b2], S1)) ()) := by
 kernel_rfl
theorem zi.r12  : jd Try.prog ⟨false, false, false⟩ (zM Try.prog O) (reg Try.f5 12) (reg Try.f5 12).toList ([x0,x1,x2,x3,x4,x5,x6,x7,x8,x9,c,f,b,g,i,k,l,m,n,o,p,q,r,s,t,u,w,x,y,z,A,B,C,D,E,F,G,H,I,J,K,L,M,N,P,Q,R,U,V,W,X,Y,Z,a0,a1,a2,a3,a4,a5,a6,a7,a8,a9,b0,b1,b2]) S =
  (zA (zO Try.prog false 30 x9 S) (fun v0 S1 => zA (yg Try.prog 30 [] S1) (fun d S2 => zA ((zM Try.prog O) 15 [(dem v0), (dem d)] S2) (fun v2 S3 => some ([x0,x1,x2,x3,v2,x5,x6,x7,x8,x9,c,f,b,g,i,k,l,m,n,o,p,q,r,s,t,u,w,x,y,z,A,B,C,D,E,F,G,H,I,J,K,L,M,N,P,Q,R,U,V,v0,d,dem v2,Z,a0,a1,a2,a3,a4,a5,a6,a7,a8,a9,b0,b1,b2], S3)) ()) ()) ()) := by
 kernel_rfl
theorem zi.r13  : jd Try.prog ⟨false, false, false⟩ (zM Try.prog O) (reg Try.f5 13) (reg Try.f5 13).toList ([x0,x1,x2,x3,x4,x5,x6,x7,x8,x9,c,f,b,g,i,k,l,m,n,o,p,q,r,s,t,u,w,x,y,z,A,B,C,D,E,F,G,H,I,J,K,L,M,N,P,Q,R,U,V,W,X,Y,Z,a0,a1,a2,a3,a4,a5,a6,a7,a8,a9,b0,b1,b2]) S =
  (zA (zO Try.prog false 30 x9 S) (fun v0 S1 => zA ((zM Try.prog O) 13 [(dem v0)] S1) (fun d S2 => zA (zx d 0 S2) (fun v3 S3 => zA (zx (zH 0 d) 1 S3) (fun v4 S4 => some ([x0,x1,x2,x3,x4,x5,x6,x7,x8,x9,c,v3,v4,g,i,k,l,m,n,o,p,q,r,s,t,u,w,x,y,z,A,B,C,D,E,F,G,H,I,J,K,L,M,N,P,Q,R,U,V,W,X,Y,zH 1 (zH 0 d),v0,dem d,dem v3,dem v4,a4,a5,a6,a7,a8,a9,b0,b1,b2], S4)) ()) ()) ()) ()) := by
 kernel_rfl
theorem zi.r14  : jd Try.prog ⟨false, false, false⟩ (zM Try.prog O) (reg Try.f5 14) (reg Try.f5 14).toList ([x0,x1,x2,x3,x4,x5,x6,x7,x8,x9,c,f,b,g,i,k,l,m,n,o,p,q,r,s,t,u,w,x,y,z,A,B,C,D,E,F,G,H,I,J,K,L,M,N,P,Q,R,U,V,W,X,Y,Z,a0,a1,a2,a3,a4,a5,a6,a7,a8,a9,b0,b1,b2]) S =
  (zA (jZ Try.prog BinOp.eql 31 (dem b) (Value.int IntKind.i64 0) S) (fun d S1 => gdK (dem d) true (ret f) S1 (fun v3 S2 => gdK (dem d) true (ql Try.prog false false 23 9 (dem v3)) S2 (fun v4 S3 => gdK (dem d) true (ret x1) S3 (fun v5 S4 => gdK (dem d) true (ql Try.prog false false 23 9 (dem v5)) S4 (fun v6 S5 => gdK (dem d) true (jZ Try.prog BinOp.eql 9 v4 v6) S5 (fun v7 S6 => zA (wY (dem d) v7 (Value.bool false) S6) (fun v8 S7 => some ([x0,x1,x2,x3,v8,x5,x6,x7,x8,x9,c,f,b,g,i,k,l,m,n,o,p,q,r,s,t,u,w,x,y,z,A,B,C,D,E,F,G,H,I,J,K,L,M,N,P,Q,R,U,V,W,X,Y,Z,a0,a1,a2,a3,dem b,d,dem d,dem v3,v4,dem v5,v6,v7,dem v8], S7)) ()) ()) ()) ()) ()) ()) ()) := by
 refine sP Try.f5 14 0 (v := b) ?_
 refine sD Try.f5 14 1 (fun d S1 => ?_)
 refine sP Try.f5 14 2 (v := d) ?_
 refine sG Try.f5 14 3 (j := 2) (fun v3 S2 => ?_)
 refine sG Try.f5 14 4 (j := 2) (fun v4 S3 => ?_)
 refine sG Try.f5 14 5 (j := 2) (fun v5 S4 => ?_)
 refine sG Try.f5 14 6 (j := 2) (fun v6 S5 => ?_)
 refine sG Try.f5 14 7 (j := 2) (fun v7 S6 => ?_)
 refine sD Try.f5 14 8 (fun v8 S7 => ?_)
 refine sP Try.f5 14 9 (v := v8) ?_
 kernel_rfl
theorem zi.rs : type_of% (And.intro @zi.r0 (And.intro @zi.r1 (And.intro @zi.r2 (And.intro @zi.r3 (And.intro @zi.r4 (And.intro @zi.r5 (And.intro @zi.r6 (And.intro @zi.r7 (And.intro @zi.r8 (And.intro @zi.r9 (And.intro @zi.r10 (And.intro @zi.r11 (And.intro @zi.r12 (And.intro @zi.r13 (@zi.r14))))))))))))))) := And.intro @zi.r0 (And.intro @zi.r1 (And.intro @zi.r2 (And.intro @zi.r3 (And.intro @zi.r4 (And.intro @zi.r5 (And.intro @zi.r6 (And.intro @zi.r7 (And.intro @zi.r8 (And.intro @zi.r9 (And.intro @zi.r10 (And.intro @zi.r11 (And.intro @zi.r12 (And.intro @zi.r13 (@zi.r14))))))))))))))
theorem zi.runs {x0 x1 : Value} {S S1 : zh} {e : AEx} {T : List Value} (h : zu Try.prog O false zi.code ([x0,x1,undef,undef,undef,undef,undef,undef,undef,undef,undef,undef,undef,undef,undef,undef,undef,undef,undef,undef,undef,undef,undef,undef,undef,undef,undef,undef,undef,undef,undef,undef,undef,undef,undef,undef,undef,undef,undef,undef,undef,undef,undef,undef,undef,undef,undef,undef,undef,undef,undef,undef,undef,undef,undef,undef,undef,undef,undef,undef,undef,undef,undef,undef,undef,undef]) S = some (e, T, S1)) (he : e = .normal ∨ e = .ret) : zM Try.prog O 5 [x0, x1] S = some (T.getD 4 undef, S1) :=
 yX rfl rfl Try.func5 (by decide) zi.body (by exact h) he (yD (a := T.getD 4 undef) ((show zC Try.prog T S1 Try.f5.results.toList = zC Try.prog T S1 [(ResultVar.tmp 4)] from by kernel_rfl).trans (by simp only [zC])) (by kernel_rfl))
end Go.Proofs.Ytbgcphbbchndkaa
namespace Go.Proofs.Ytbgcphbbchndkaa
open Go.Abs
abbrev jg.id : FuncId := 10
noncomputable def jg.code : Code := (Code.seq (Code.region 0 (reg Try.f10 0) false) (Code.seq (Code.region 1 (reg Try.f10 1) false) (Code.seq (Code.seq (Code.region 2 (reg Try.f10 2) false) (Code.cond (Operand.tmp 16) (Code.seq (Code.region 3 (reg Try.f10 3) false) Code.ret) Code.skip)) (Code.seq (Code.region 4 (reg Try.f10 4) false) (Code.seq (Code.seq (Code.region 5 (reg Try.f10 5) false) (Code.cond (Operand.tmp 33) (Code.seq (Code.region 6 (reg Try.f10 6) false) Code.ret) Code.skip)) (Code.seq (Code.region 7 (reg Try.f10 7) false) Code.ret))))))
theorem jg.body : Try.f10.body = some jg.code := by kernel_rfl
variable (F M H Q N I K L J P b c d f g i k l m n o p q r s t u w x y z A B C D E : Value) (S : zh)
theorem jg.r0  : jd Try.prog ⟨false, false, false⟩ (zM Try.prog O) (reg Try.f10 0) (reg Try.f10 0).toList ([F,M,H,Q,N,I,K,L,J,P,b,c,d,f,g,i,k,l,m,n,o,p,q,r,s,t,u,w,x,y,z,A,B,C,D,E]) S =
  (zA (wG Try.prog 30 S) (fun U G => some ([F,M,U,Value.int IntKind.i64 0,N,I,K,L,J,P,b,c,d,f,g,i,k,l,m,n,o,p,q,r,s,t,u,w,x,y,z,A,B,C,D,E], G)) ()) := by
 kernel_rfl
theorem jg.r1  : jd Try.prog ⟨false, false, false⟩ (zM Try.prog O) (reg Try.f10 1) (reg Try.f10 1).toList ([F,M,H,Q,N,I,K,L,J,P,b,c,d,f,g,i,k,l,m,n,o,p,q,r,s,t,u,w,x,y,z,A,B,C,D,E]) S =
  (zA ((zM Try.prog O) 24 [(dem (dem F))] S) (fun a G => zA (zx a 0 G) (fun V R => zA (zx (zH 0 a) 1 R) (fun W Y => zA (zx (zH 1 (zH 0 a)) 2 Y) (fun X Z => some ([F,M,H,Q,V,W,X,L,J,zH 2 (zH 1 (zH 0 a)),dem F,dem a,dem V,dem W,dem X,i,k,l,m,n,o,p,q,r,s,t,u,w,x,y,z,A,B,C,D,E], Z)) ()) ()) ()) ()) := by
 kernel_rfl
theorem jg.r2  : jd Try.prog ⟨false, false, false⟩ (zM Try.prog O) (reg Try.f10 2) (reg Try.f10 2).toList ([F,M,H,Q,N,I,K,L,J,P,b,c,d,f,g,i,k,l,m,n,o,p,q,r,s,t,u,w,x,y,z,A,B,C,D,E]) S =
  (zA (jZ Try.prog BinOp.neq 31 (dem K) (Value.int IntKind.i64 0) S) (fun a G => some ([F,M,H,Q,N,I,K,L,J,P,b,c,d,f,g,dem K,a,l,m,n,o,p,q,r,s,t,u,w,x,y,z,A,B,C,D,E], G)) ()) := by
 kernel_rfl
theorem jg.r3  : jd Try.prog ⟨false, false, false⟩ (zM Try.prog O) (reg Try.f10 3) (reg Try.f10 3).toList ([F,M,H,Q,N,I,K,L,J,P,b,c,d,f,g,i,k,l,m,n,o,p,q,r,s,t,u,w,x,y,z,A,B,C,D,E]) S =
  (zA (yg Try.prog 30 [] S) (fun U G => zA (jO Try.prog 30 H (dem U) G) (fun a R => some ([F,M,H,Value.int IntKind.i64 121,N,I,K,L,J,P,b,c,d,f,g,i,k,U,m,n,o,p,q,r,s,t,u,w,x,y,z,A,B,C,D,E], R)) ()) ()) := by
 kernel_rfl
theorem jg.r4  : jd Try.prog ⟨false, false, false⟩ (zM Try.prog O) (reg Try.f10 4) (reg Try.f10 4).toList ([F,M,H,Q,N,I,K,L,J,P,b,c,d,f,g,i,k,l,m,n,o,p,q,r,s,t,u,w,x,y,z,A,B,C,D,E]) S =
  (zA ((zM Try.prog O) 25 [(dem (dem I))] S) (fun a G => zA (zx a 0 G) (fun V R => zA (zx (zH 0 a) 1 R) (fun W Y => zA (wG Try.prog 30 Y) (fun X Z => zA (jO Try.prog 30 X (dem V) Z) (fun v6 S5 => some ([F,M,H,Q,N,I,K,X,W,P,b,c,d,f,g,i,k,l,zH 1 (zH 0 a),dem I,dem a,V,dem W,r,s,t,u,w,x,y,z,A,B,C,D,E], S5)) ()) ()) ()) ()) ()) := by
 kernel_rfl
theorem jg.r5  : jd Try.prog ⟨false, false, false⟩ (zM Try.prog O) (reg Try.f10 5) (reg Try.f10 5).toList ([F,M,H,Q,N,I,K,L,J,P,b,c,d,f,g,i,k,l,m,n,o,p,q,r,s,t,u,w,x,y,z,A,B,C,D,E]) S =
  (zA (aUn Try.prog UnOp.not (dem J) S) (fun a G => gdK (dem a) false (zo Try.prog 30 L 1) G (fun V R => gdK (dem a) false (zO Try.prog false 3 V) R (fun W Y => gdK (dem a) false ((zM Try.prog O) 27 [(dem W)]) Y (fun X Z => gdK (dem a) false (ret N) Z (fun v6 S5 => gdK (dem a) false (ret I) S5 (fun v7 S6 => gdK (dem a) false ((zM Try.prog O) 26 [(dem X), (dem (dem v6)), (dem (dem v7))]) S6 (fun v8 S7 => gdK (dem a) false (aUn Try.prog UnOp.not v8) S7 (fun v9 S8 => zA (wY (dem a) (Value.bool true) v9 S8) (fun a0 S9 => some ([F,M,H,Q,N,I,K,L,J,P,b,c,d,f,g,i,k,l,m,n,o,p,q,dem J,a,dem a,V,W,X,dem v6,dem v7,v8,v9,a0,D,E], S9)) ()) ()) ()) ()) ()) ()) ()) ()) ()) := by
 refine sP Try.f10 5 0 (v := J) ?_
 refine sD Try.f10 5 1 (fun a G => ?_)
 refine sP Try.f10 5 2 (v := a) ?_
 refine sG Try.f10 5 3 (j := 2) (fun V R => ?_)
 refine sG Try.f10 5 4 (j := 2) (fun W Y => ?_)
 refine sG Try.f10 5 5 (j := 2) (fun X Z => ?_)
 refine sG Try.f10 5 6 (j := 2) (fun v6 S5 => ?_)
 refine sG Try.f10 5 7 (j := 2) (fun v7 S6 => ?_)
 refine sG Try.f10 5 8 (j := 2) (fun v8 S7 => ?_)
 refine sG Try.f10 5 9 (j := 2) (fun v9 S8 => ?_)
 refine sD Try.f10 5 10 (fun a0 S9 => ?_)
 kernel_rfl
theorem jg.r6  : jd Try.prog ⟨false, false, false⟩ (zM Try.prog O) (reg Try.f10 6) (reg Try.f10 6).toList ([F,M,H,Q,N,I,K,L,J,P,b,c,d,f,g,i,k,l,m,n,o,p,q,r,s,t,u,w,x,y,z,A,B,C,D,E]) S =
  (zA (yg Try.prog 30 [] S) (fun U G => zA (jO Try.prog 30 H (dem U) G) (fun a R => some ([F,M,H,Value.int IntKind.i64 121,N,I,K,L,J,P,b,c,d,f,g,i,k,l,m,n,o,p,q,r,s,t,u,w,x,y,z,A,B,C,U,E], R)) ()) ()) := by
 kernel_rfl
theorem jg.r7  : jd Try.prog ⟨false, false, false⟩ (zM Try.prog O) (reg Try.f10 7) (reg Try.f10 7).toList ([F,M,H,Q,N,I,K,L,J,P,b,c,d,f,g,i,k,l,m,n,o,p,q,r,s,t,u,w,x,y,z,A,B,C,D,E]) S =
  (zA (zO Try.prog false 30 L S) (fun U G => zA (jO Try.prog 30 H (dem U) G) (fun a R => some ([F,M,H,Value.int IntKind.i64 0,N,I,K,L,J,P,b,c,d,f,g,i,k,l,m,n,o,p,q,r,s,t,u,w,x,y,z,A,B,C,D,U], R)) ()) ()) := by
 kernel_rfl
theorem jg.rs : type_of% (And.intro @jg.r0 (And.intro @jg.r1 (And.intro @jg.r2 (And.intro @jg.r3 (And.intro @jg.r4 (And.intro @jg.r5 (And.intro @jg.r6 (@jg.r7)))))))) := And.intro @jg.r0 (And.intro @jg.r1 (And.intro @jg.r2 (And.intro @jg.r3 (And.intro @jg.r4 (And.intro @jg.r5 (And.intro @jg.r6 (@jg.r7)))))))
theorem jg.runs {F : Value} {S G : zh} {e : AEx} {T : List Value} (h : zu Try.prog O false jg.code ([F,undef,undef,undef,undef,undef,undef,undef,undef,undef,undef,undef,undef,undef,undef,undef,undef,undef,undef,undef,undef,undef,undef,undef,undef,undef,undef,undef,undef,undef,undef,undef,undef,undef,undef,undef]) zh.empty = some (e, T, G)) (he : e = .normal ∨ e = .ret) {w0 : Value} (c0 : zO Try.prog false 30 (T.getD 2 undef) G = some (w0, G)) (h0 : jD (w0) = true) (h1 : jD (T.getD 3 undef) = true) (hca : [F].all (jf 16) = true) (hcv : jf 16 (Value.tuple #[w0, T.getD 3 undef]) = true) : zM Try.prog O 10 [F] S = some (Value.tuple #[w0, T.getD 3 undef], S) :=
 wR rfl rfl Try.func10 (by decide) jg.body (by exact h) he ((yT ((show zC Try.prog T G Try.f10.results.toList = zC Try.prog T G [(ResultVar.cell 2 30), (ResultVar.tmp 3)] from by kernel_rfl).trans (by simp only [zC, c0])) (by kernel_rfl) (by simp only [List.all_cons, List.all_nil, h0, h1, Bool.and_true])).trans rfl) hca hcv
end Go.Proofs.Ytbgcphbbchndkaa
namespace Go.Proofs.Ytbgcphbbchndkaa
open Go.Abs
abbrev zy.id : FuncId := 25
noncomputable def zy.code : Code := (Code.seq (Code.region 0 (reg Try.f25 0) false) (Code.seq (Code.region 1 (reg Try.f25 1) false) (Code.seq (Code.seq (Code.region 2 (reg Try.f25 2) false) (Code.cond (Operand.tmp 14) (Code.seq (Code.region 3 (reg Try.f25 3) false) Code.ret) Code.skip)) (Code.seq (Code.region 4 (reg Try.f25 4) true) (Code.seq (Code.seq (Code.region 5 (reg Try.f25 5) false) (Code.block 0 (Code.seq (Code.region 8 (reg Try.f25 8) false) (Code.cond (Operand.tmp 46) (Code.region 9 (reg Try.f25 9) false) (Code.seq (Code.region 10 (reg Try.f25 10) false) (Code.cond (Operand.tmp 54) (Code.region 11 (reg Try.f25 11) false) (Code.seq (Code.region 6 (reg Try.f25 6) false) (Code.seq (Code.region 7 (reg Try.f25 7) true) Code.ret)))))))) (Code.seq (Code.region 12 (reg Try.f25 12) true) Code.ret))))))
theorem zy.body : Try.f25.body = some zy.code := by kernel_rfl
variable (x0 x1 a x3 b x5 x6 x7 x8 x9 d f g i k l m n o p q r s t u w x y z A B C D E F G c H I J K L M N P Q R U V W X Y Z a0 a1 a2 a3 a4 a5 a6 a7 a8 a9 b0 b1 b2 b3 b4 b5 : Value) (S : zh)
theorem zy.r0  : jd Try.prog ⟨false, false, false⟩ (zM Try.prog O) (reg Try.f25 0) (reg Try.f25 0).toList ([x0,x1,a,x3,b,x5,x6,x7,x8,x9,d,f,g,i,k,l,m,n,o,p,q,r,s,t,u,w,x,y,z,A,B,C,D,E,F,G,c,H,I,J,K,L,M,N,P,Q,R,U,V,W,X,Y,Z,a0,a1,a2,a3,a4,a5,a6,a7,a8,a9,b0,b1,b2,b3,b4,b5]) S =
  (zA (wG Try.prog 30 S) (fun v0 S1 => some ([x0,x1,v0,Value.bool false,b,x5,x6,x7,x8,x9,d,f,g,i,k,l,m,n,o,p,q,r,s,t,u,w,x,y,z,A,B,C,D,E,F,G,c,H,I,J,K,L,M,N,P,Q,R,U,V,W,X,Y,Z,a0,a1,a2,a3,a4,a5,a6,a7,a8,a9,b0,b1,b2,b3,b4,b5], S1)) ()) := by
 kernel_rfl
theorem zy.r1  : jd Try.prog ⟨false, false, false⟩ (zM Try.prog O) (reg Try.f25 1) (reg Try.f25 1).toList ([x0,x1,a,x3,b,x5,x6,x7,x8,x9,d,f,g,i,k,l,m,n,o,p,q,r,s,t,u,w,x,y,z,A,B,C,D,E,F,G,c,H,I,J,K,L,M,N,P,Q,R,U,V,W,X,Y,Z,a0,a1,a2,a3,a4,a5,a6,a7,a8,a9,b0,b1,b2,b3,b4,b5]) S =
  (zA ((zM Try.prog O) 51 [(dem (dem x0)), (Value.int IntKind.i64 6)] S) (fun v1 S1 => zA (zx v1 0 S1) (fun v3 S2 => zA (zx (zH 0 v1) 1 S2) (fun v4 S3 => zA (zx (zH 1 (zH 0 v1)) 2 S3) (fun v5 S4 => some ([x0,x1,a,x3,v3,v4,v5,zH 2 (zH 1 (zH 0 v1)),dem x0,dem v1,dem v3,dem v4,dem v5,i,k,l,m,n,o,p,q,r,s,t,u,w,x,y,z,A,B,C,D,E,F,G,c,H,I,J,K,L,M,N,P,Q,R,U,V,W,X,Y,Z,a0,a1,a2,a3,a4,a5,a6,a7,a8,a9,b0,b1,b2,b3,b4,b5], S4)) ()) ()) ()) ()) := by
 kernel_rfl
theorem zy.r2  : jd Try.prog ⟨false, false, false⟩ (zM Try.prog O) (reg Try.f25 2) (reg Try.f25 2).toList ([x0,x1,a,x3,b,x5,x6,x7,x8,x9,d,f,g,i,k,l,m,n,o,p,q,r,s,t,u,w,x,y,z,A,B,C,D,E,F,G,c,H,I,J,K,L,M,N,P,Q,R,U,V,W,X,Y,Z,a0,a1,a2,a3,a4,a5,a6,a7,a8,a9,b0,b1,b2,b3,b4,b5]) S =
  (zA (jZ Try.prog BinOp.neq 31 (dem x6) (Value.int IntKind.i64 0) S) (fun v1 S1 => some ([x0,x1,a,x3,b,x5,x6,x7,x8,x9,d,f,g,dem x6,v1,l,m,n,o,p,q,r,s,t,u,w,x,y,z,A,B,C,D,E,F,G,c,H,I,J,K,L,M,N,P,Q,R,U,V,W,X,Y,Z,a0,a1,a2,a3,a4,a5,a6,a7,a8,a9,b0,b1,b2,b3,b4,b5], S1)) ()) := by
 kernel_rfl
theorem zy.r3  : jd Try.prog ⟨false, false, false⟩ (zM Try.prog O) (reg Try.f25 3) (reg Try.f25 3).toList ([x0,x1,a,x3,b,x5,x6,x7,x8,x9,d,f,g,i,k,l,m,n,o,p,q,r,s,t,u,w,x,y,z,A,B,C,D,E,F,G,c,H,I,J,K,L,M,N,P,Q,R,U,V,W,X,Y,Z,a0,a1,a2,a3,a4,a5,a6,a7,a8,a9,b0,b1,b2,b3,b4,b5]) S =
  (zA (zO Try.prog false 30 a S) (fun v0 S1 => zA (jO Try.prog 30 a (dem v0) S1) (fun v1 S2 => some ([x0,x1,a,Value.bool false,b,x5,x6,x7,x8,x9,d,f,g,i,k,v0,m,n,o,p,q,r,s,t,u,w,x,y,z,A,B,C,D,E,F,G,c,H,I,J,K,L,M,N,P,Q,R,U,V,W,X,Y,Z,a0,a1,a2,a3,a4,a5,a6,a7,a8,a9,b0,b1,b2,b3,b4,b5], S2)) ()) ()) := by
 kernel_rfl
theorem zy.d4 : ku Try.prog (reg Try.f25 4) = true := by kernel_rfl
theorem zy.ff4 : fixed Try.prog (reg Try.f25 4) = false := by kernel_rfl
theorem zy.k4 : checked Try.prog (reg Try.f25 4) = [] := by kernel_rfl
theorem zy.g4 : again Try.prog (reg Try.f25 4) = [] := by kernel_rfl
theorem zy.r4  : zu Try.prog O false (.region 4 (reg Try.f25 4) true) ([x0,x1,a,x3,b,x5,x6,x7,x8,x9,d,f,g,i,k,l,m,n,o,p,q,r,s,t,u,w,x,y,z,A,B,C,D,E,F,G,c,H,I,J,K,L,M,N,P,Q,R,U,V,W,X,Y,Z,a0,a1,a2,a3,a4,a5,a6,a7,a8,a9,b0,b1,b2,b3,b4,b5]) S =
  WL (zA (zW Try.prog 57 (dem b) (Value.int IntKind.i64 0) S) (fun v1 S1 => zA (zO Try.prog false 3 v1 S1) (fun v2 S2 => zA (zW Try.prog 57 (dem b) (Value.int IntKind.i64 1) S2) (fun v4 S3 => zA (zO Try.prog false 3 v4 S3) (fun v5 S4 => zA (zW Try.prog 57 (dem b) (Value.int IntKind.i64 2) S4) (fun v7 S5 => zA (zO Try.prog false 3 v7 S5) (fun v8 S6 => zA (zW Try.prog 57 (dem b) (Value.int IntKind.i64 3) S6) (fun b6 S7 => zA (zO Try.prog false 3 b6 S7) (fun b7 S8 => zA (zW Try.prog 57 (dem b) (Value.int IntKind.i64 4) S8) (fun b8 S9 => zA (zO Try.prog false 3 b8 S9) (fun b9 c4 => zA (zW Try.prog 57 (dem b) (Value.int IntKind.i64 5) c4) (fun c1 c5 => zA (zO Try.prog false 3 c1 c5) (fun c2 c6 => zA (yg Try.prog 30 [(0, (dem v2)), (1, (dem v5)), (2, (dem v8)), (3, (dem b7)), (4, (dem b9)), (5, (dem c2))] c6) (fun c3 c7 => zA (jO Try.prog 30 a (dem c3) c7) (fun c9 c8 => some ([x0,x1,a,x3,b,x5,x6,x7,x8,x9,d,f,g,i,k,l,dem b,v1,v2,dem b,v4,v5,dem b,v7,v8,dem b,b6,b7,dem b,b8,b9,dem b,c1,c2,c3,G,c,H,I,J,K,L,M,N,P,Q,R,U,V,W,X,Y,Z,a0,a1,a2,a3,a4,a5,a6,a7,a8,a9,b0,b1,b2,b3,b4,b5], c8)) ()) ()) ()) ()) ()) ()) ()) ()) ()) ()) ()) ()) ()) ()) := by
 rw [yQ zy.d4 zy.ff4 zy.k4 zy.g4]
 refine congrArg WL ?_
 refine tP Try.f25 4 0 (v := b) ?_
 refine tD Try.f25 4 1 (fun v1 S1 => ?_)
 refine tD Try.f25 4 2 (fun v2 S2 => ?_)
 refine tP Try.f25 4 3 (v := b) ?_
 refine tD Try.f25 4 4 (fun v4 S3 => ?_)
 refine tD Try.f25 4 5 (fun v5 S4 => ?_)
 refine tP Try.f25 4 6 (v := b) ?_
 refine tD Try.f25 4 7 (fun v7 S5 => ?_)
 refine tD Try.f25 4 8 (fun v8 S6 => ?_)
 refine tP Try.f25 4 9 (v := b) ?_
 refine tD Try.f25 4 10 (fun b6 S7 => ?_)
 refine tD Try.f25 4 11 (fun b7 S8 => ?_)
 refine tP Try.f25 4 12 (v := b) ?_
 refine tD Try.f25 4 13 (fun b8 S9 => ?_)
 refine tD Try.f25 4 14 (fun b9 c4 => ?_)
 refine tP Try.f25 4 15 (v := b) ?_
 refine tD Try.f25 4 16 (fun c1 c5 => ?_)
 refine tD Try.f25 4 17 (fun c2 c6 => ?_)
 refine tD Try.f25 4 18 (fun c3 c7 => ?_)
 refine tD Try.f25 4 19 (fun c9 c8 => ?_)
 kernel_rfl
theorem zy.r5  : jd Try.prog ⟨false, false, false⟩ (zM Try.prog O) (reg Try.f25 5) (reg Try.f25 5).toList ([x0,x1,a,x3,b,x5,x6,x7,x8,x9,d,f,g,i,k,l,m,n,o,p,q,r,s,t,u,w,x,y,z,A,B,C,D,E,F,G,c,H,I,J,K,L,M,N,P,Q,R,U,V,W,X,Y,Z,a0,a1,a2,a3,a4,a5,a6,a7,a8,a9,b0,b1,b2,b3,b4,b5]) S =
  (zA (zo Try.prog 30 a 0 S) (fun v0 S1 => zA (zO Try.prog false 3 v0 S1) (fun v1 S2 => some ([x0,x1,a,x3,b,x5,x6,x7,x8,x9,d,f,g,i,k,l,m,n,o,p,q,r,s,t,u,w,x,y,z,A,B,C,D,E,F,v0,v1,H,I,J,K,L,M,N,P,Q,R,U,V,W,X,Y,Z,a0,a1,a2,a3,a4,a5,a6,a7,a8,a9,b0,b1,b2,b3,b4,b5], S2)) ()) ()) := by
 kernel_rfl
theorem zy.r8  : jd Try.prog ⟨false, false, false⟩ (zM Try.prog O) (reg Try.f25 8) (reg Try.f25 8).toList ([x0,x1,a,x3,b,x5,x6,x7,x8,x9,d,f,g,i,k,l,m,n,o,p,q,r,s,t,u,w,x,y,z,A,B,C,D,E,F,G,c,H,I,J,K,L,M,N,P,Q,R,U,V,W,X,Y,Z,a0,a1,a2,a3,a4,a5,a6,a7,a8,a9,b0,b1,b2,b3,b4,b5]) S =
  (zA (jZ Try.prog BinOp.eql 3 c (Value.int IntKind.i64 0) S) (fun v0 S1 => some ([x0,x1,a,x3,b,x5,x6,x7,x8,x9,d,f,g,i,k,l,m,n,o,p,q,r,s,t,u,w,x,y,z,A,B,C,D,E,F,G,c,H,I,J,K,L,M,N,P,Q,v0,dem v0,V,W,X,Y,Z,a0,a1,a2,a3,a4,a5,a6,a7,a8,a9,b0,b1,b2,b3,b4,b5], S1)) ()) := by
 kernel_rfl
theorem zy.r9  : jd Try.prog ⟨false, false, false⟩ (zM Try.prog O) (reg Try.f25 9) (reg Try.f25 9).toList ([x0,x1,a,x3,b,x5,x6,x7,x8,x9,d,f,g,i,k,l,m,n,o,p,q,r,s,t,u,w,x,y,z,A,B,C,D,E,F,G,c,H,I,J,K,L,M,N,P,Q,R,U,V,W,X,Y,Z,a0,a1,a2,a3,a4,a5,a6,a7,a8,a9,b0,b1,b2,b3,b4,b5]) S =
  (zA ((zM Try.prog O) 52 [(dem (dem x5))] S) (fun v1 S1 => zA (zx v1 0 S1) (fun v3 S2 => zA (zx (zH 0 v1) 1 S2) (fun v4 S3 => zA (zo Try.prog 30 a 6 S3) (fun v5 S4 => zA (jO Try.prog 25 v5 (dem v3) S4) (fun v6 S5 => some ([x0,x1,a,x3,b,x5,v4,x7,x8,x9,d,f,g,i,k,l,m,n,o,p,q,r,s,t,u,w,x,y,z,A,B,C,D,E,F,G,c,H,I,J,K,L,M,N,P,Q,R,U,zH 1 (zH 0 v1),dem x5,dem v1,v3,dem v4,v5,a1,a2,a3,a4,a5,a6,a7,a8,a9,b0,b1,b2,b3,b4,b5], S5)) ()) ()) ()) ()) ()) := by
 kernel_rfl
theorem zy.r10  : jd Try.prog ⟨false, false, false⟩ (zM Try.prog O) (reg Try.f25 10) (reg Try.f25 10).toList ([x0,x1,a,x3,b,x5,x6,x7,x8,x9,d,f,g,i,k,l,m,n,o,p,q,r,s,t,u,w,x,y,z,A,B,C,D,E,F,G,c,H,I,J,K,L,M,N,P,Q,R,U,V,W,X,Y,Z,a0,a1,a2,a3,a4,a5,a6,a7,a8,a9,b0,b1,b2,b3,b4,b5]) S =
  (zA (jZ Try.prog BinOp.eql 3 c (Value.int IntKind.i64 1) S) (fun v0 S1 => some ([x0,x1,a,x3,b,x5,x6,x7,x8,x9,d,f,g,i,k,l,m,n,o,p,q,r,s,t,u,w,x,y,z,A,B,C,D,E,F,G,c,H,I,J,K,L,M,N,P,Q,R,U,V,W,X,Y,Z,a0,v0,dem v0,a3,a4,a5,a6,a7,a8,a9,b0,b1,b2,b3,b4,b5], S1)) ()) := by
 kernel_rfl
theorem zy.r11  : jd Try.prog ⟨false, false, false⟩ (zM Try.prog O) (reg Try.f25 11) (reg Try.f25 11).toList ([x0,x1,a,x3,b,x5,x6,x7,x8,x9,d,f,g,i,k,l,m,n,o,p,q,r,s,t,u,w,x,y,z,A,B,C,D,E,F,G,c,H,I,J,K,L,M,N,P,Q,R,U,V,W,X,Y,Z,a0,a1,a2,a3,a4,a5,a6,a7,a8,a9,b0,b1,b2,b3,b4,b5]) S =
  (zA ((zM Try.prog O) 53 [(dem (dem x5))] S) (fun v1 S1 => zA (zx v1 0 S1) (fun v3 S2 => zA (zx (zH 0 v1) 1 S2) (fun v4 S3 => zA (zo Try.prog 30 a 7 S3) (fun v5 S4 => zA (jO Try.prog 28 v5 (dem v3) S4) (fun v6 S5 => some ([x0,x1,a,x3,b,x5,v4,x7,x8,x9,d,f,g,i,k,l,m,n,o,p,q,r,s,t,u,w,x,y,z,A,B,C,D,E,F,G,c,H,I,J,K,L,M,N,P,Q,R,U,V,W,X,Y,Z,a0,a1,a2,zH 1 (zH 0 v1),dem x5,dem v1,v3,dem v4,v5,a9,b0,b1,b2,b3,b4,b5], S5)) ()) ()) ()) ()) ()) := by
 kernel_rfl
theorem zy.r6  : jd Try.prog ⟨false, false, false⟩ (zM Try.prog O) (reg Try.f25 6) (reg Try.f25 6).toList ([x0,x1,a,x3,b,x5,x6,x7,x8,x9,d,f,g,i,k,l,m,n,o,p,q,r,s,t,u,w,x,y,z,A,B,C,D,E,F,G,c,H,I,J,K,L,M,N,P,Q,R,U,V,W,X,Y,Z,a0,a1,a2,a3,a4,a5,a6,a7,a8,a9,b0,b1,b2,b3,b4,b5]) S =
  (zA (Jc Try.prog 23 (dem x5) S) (fun v1 S1 => zA (jZ Try.prog BinOp.eql 3 v1 (Value.int IntKind.i64 0) S1) (fun v2 S2 => some ([x0,x1,a,v2,b,x5,x6,x7,x8,x9,d,f,g,i,k,l,m,n,o,p,q,r,s,t,u,w,x,y,z,A,B,C,D,E,F,G,c,dem x5,v1,dem v2,K,L,M,N,P,Q,R,U,V,W,X,Y,Z,a0,a1,a2,a3,a4,a5,a6,a7,a8,a9,b0,b1,b2,b3,b4,b5], S2)) ()) ()) := by
 kernel_rfl
theorem zy.d7 : ku Try.prog (reg Try.f25 7) = true := by kernel_rfl
theorem zy.ff7 : fixed Try.prog (reg Try.f25 7) = false := by kernel_rfl
theorem zy.k7 : checked Try.prog (reg Try.f25 7) = [0, 5] := by kernel_rfl
theorem zy.g7 : again Try.prog (reg Try.f25 7) = [(0, 4)] := by kernel_rfl
theorem zy.r7  : zu Try.prog O false (.region 7 (reg Try.f25 7) true) ([x0,x1,a,x3,b,x5,x6,x7,x8,x9,d,f,g,i,k,l,m,n,o,p,q,r,s,t,u,w,x,y,z,A,B,C,D,E,F,G,c,H,I,J,K,L,M,N,P,Q,R,U,V,W,X,Y,Z,a0,a1,a2,a3,a4,a5,a6,a7,a8,a9,b0,b1,b2,b3,b4,b5]) S =
  WL (zA (zO Try.prog false 30 a S) (fun v0 S1 => okK v0 ( gdK (dem x3) true (zO Try.prog false 30 a) S1 (fun v3 S2 => gdK (dem x3) true ((zM Try.prog O) 14 [(dem v3)]) S2 (fun v4 S3 => zA (wY (dem x3) v4 (Value.bool false) S3) (fun v5 S4 => okK v5 ( zA (jO Try.prog 30 a (dem v0) S4) (fun v6 S5 => ckK (qm a S S3 && (true)) (some ([x0,x1,a,v5,b,x5,x6,x7,x8,x9,d,f,g,i,k,l,m,n,o,p,q,r,s,t,u,w,x,y,z,A,B,C,D,E,F,G,c,H,I,J,v0,x3,dem x3,v3,v4,dem v5,R,U,V,W,X,Y,Z,a0,a1,a2,a3,a4,a5,a6,a7,a8,a9,b0,b1,b2,b3,b4,b5], S5)) ()) ()) ()) ()) ()) ()) ()) ()) := by
 rw [yQ zy.d7 zy.ff7 zy.k7 zy.g7]
 refine congrArg WL ?_
 refine uDC Try.f25 7 0 (pe := a) (fun v0 S1 => ?_)
 refine uP Try.f25 7 1 (v := x3) (pe := undef) ?_
 refine uP Try.f25 7 2 (v := x3) (pe := undef) ?_
 refine uG Try.f25 7 3 (j := 2) (pe := a) (fun v3 S2 => ?_)
 refine uG Try.f25 7 4 (j := 2) (pe := undef) (fun v4 S3 => ?_)
 refine uDC Try.f25 7 5 (pe := undef) (fun v5 S4 => ?_)
 refine uD Try.f25 7 6 (pe := undef) (fun v6 S5 => ?_)
 refine uP Try.f25 7 7 (v := v5) (pe := undef) ?_
 kernel_rfl
theorem zy.d12 : ku Try.prog (reg Try.f25 12) = true := by kernel_rfl
theorem zy.ajc : fixed Try.prog (reg Try.f25 12) = false := by kernel_rfl
theorem zy.k12 : checked Try.prog (reg Try.f25 12) = [0, 6] := by kernel_rfl
theorem zy.g12 : again Try.prog (reg Try.f25 12) = [(0, 5)] := by kernel_rfl
theorem zy.r12  : zu Try.prog O false (.region 12 (reg Try.f25 12) true) ([x0,x1,a,x3,b,x5,x6,x7,x8,x9,d,f,g,i,k,l,m,n,o,p,q,r,s,t,u,w,x,y,z,A,B,C,D,E,F,G,c,H,I,J,K,L,M,N,P,Q,R,U,V,W,X,Y,Z,a0,a1,a2,a3,a4,a5,a6,a7,a8,a9,b0,b1,b2,b3,b4,b5]) S =
  WL (zA (zO Try.prog false 30 a S) (fun v0 S1 => okK v0 ( zA (jZ Try.prog BinOp.eql 31 (dem x6) (Value.int IntKind.i64 0) S1) (fun v2 S2 => gdK (dem v2) true (zO Try.prog false 30 a) S2 (fun v4 S3 => gdK (dem v2) true ((zM Try.prog O) 14 [(dem v4)]) S3 (fun v5 S4 => zA (wY (dem v2) v5 (Value.bool false) S4) (fun v6 S5 => okK v6 ( zA (jO Try.prog 30 a (dem v0) S5) (fun v7 S6 => ckK (qm a S S4 && (true)) (some ([x0,x1,a,v6,b,x5,x6,x7,x8,x9,d,f,g,i,k,l,m,n,o,p,q,r,s,t,u,w,x,y,z,A,B,C,D,E,F,G,c,H,I,J,K,L,M,N,P,Q,R,U,V,W,X,Y,Z,a0,a1,a2,a3,a4,a5,a6,a7,a8,v0,dem x6,v2,dem v2,v4,v5,dem v6], S6)) ()) ()) ()) ()) ()) ()) ()) ()) ()) := by
 rw [yQ zy.d12 zy.ajc zy.k12 zy.g12]
 refine congrArg WL ?_
 refine uDC Try.f25 12 0 (pe := a) (fun v0 S1 => ?_)
 refine uP Try.f25 12 1 (v := x6) (pe := undef) ?_
 refine uD Try.f25 12 2 (pe := undef) (fun v2 S2 => ?_)
 refine uP Try.f25 12 3 (v := v2) (pe := undef) ?_
 refine uG Try.f25 12 4 (j := 3) (pe := a) (fun v4 S3 => ?_)
 refine uG Try.f25 12 5 (j := 3) (pe := undef) (fun v5 S4 => ?_)
 refine uDC Try.f25 12 6 (pe := undef) (fun v6 S5 => ?_)
 refine uD Try.f25 12 7 (pe := undef) (fun v7 S6 => ?_)
 refine uP Try.f25 12 8 (v := v6) (pe := undef) ?_
 kernel_rfl
theorem zy.rs : type_of% (And.intro @zy.r0 (And.intro @zy.r1 (And.intro @zy.r2 (And.intro @zy.r3 (And.intro @zy.r4 (And.intro @zy.r5 (And.intro @zy.r8 (And.intro @zy.r9 (And.intro @zy.r10 (And.intro @zy.r11 (And.intro @zy.r6 (And.intro @zy.r7 (@zy.r12))))))))))))) := And.intro @zy.r0 (And.intro @zy.r1 (And.intro @zy.r2 (And.intro @zy.r3 (And.intro @zy.r4 (And.intro @zy.r5 (And.intro @zy.r8 (And.intro @zy.r9 (And.intro @zy.r10 (And.intro @zy.r11 (And.intro @zy.r6 (And.intro @zy.r7 (@zy.r12))))))))))))
theorem zy.runs {x0 : Value} {S S1 : zh} {e : AEx} {T : List Value} (h : zu Try.prog O false zy.code ([x0,undef,undef,undef,undef,undef,undef,undef,undef,undef,undef,undef,undef,undef,undef,undef,undef,undef,undef,undef,undef,undef,undef,undef,undef,undef,undef,undef,undef,undef,undef,undef,undef,undef,undef,undef,undef,undef,undef,undef,undef,undef,undef,undef,undef,undef,undef,undef,undef,undef,undef,undef,undef,undef,undef,undef,undef,undef,undef,undef,undef,undef,undef,undef,undef,undef,undef,undef,undef]) zh.empty = some (e, T, S1)) (he : e = .normal ∨ e = .ret) {w0 : Value} (c0 : zO Try.prog false 30 (T.getD 2 undef) S1 = some (w0, S1)) (h0 : jD (w0) = true) (h1 : jD (T.getD 3 undef) = true) (hca : [x0].all (jf 16) = true) (hcv : jf 16 (Value.tuple #[w0, T.getD 3 undef]) = true) : zM Try.prog O 25 [x0] S = some (Value.tuple #[w0, T.getD 3 undef], S) :=
 wR rfl rfl Try.func25 (by decide) zy.body (by exact h) he ((yT ((show zC Try.prog T S1 Try.f25.results.toList = zC Try.prog T S1 [(ResultVar.cell 2 30), (ResultVar.tmp 3)] from by kernel_rfl).trans (by simp only [zC, c0])) (by kernel_rfl) (by simp only [List.all_cons, List.all_nil, h0, h1, Bool.and_true])).trans rfl) hca hcv
end Go.Proofs.Ytbgcphbbchndkaa
namespace Go.Proofs.Ytbgcphbbchndkaa
open Go.Abs
abbrev zQ.id : FuncId := 13
noncomputable def zQ.code : Code := (Code.seq (Code.region 0 (reg Try.f13 0) false) (Code.seq (Code.seq (Code.region 1 (reg Try.f13 1) false) (Code.cond (Operand.tmp 12) (Code.seq (Code.region 2 (reg Try.f13 2) false) Code.ret) Code.skip)) (Code.seq (Code.region 3 (reg Try.f13 3) false) (Code.seq (Code.seq (Code.region 4 (reg Try.f13 4) false) (Code.block 0 (Code.seq (Code.region 5 (reg Try.f13 5) false) (Code.cond (Operand.tmp 32) (Code.seq (Code.region 6 (reg Try.f13 6) false) (Code.region 7 (reg Try.f13 7) false)) (Code.seq (Code.region 8 (reg Try.f13 8) false) (Code.cond (Operand.tmp 43) (Code.seq (Code.region 9 (reg Try.f13 9) false) (Code.region 10 (reg Try.f13 10) false)) Code.skip)))))) (Code.seq (Code.region 11 (reg Try.f13 11) false) Code.ret)))))
theorem zQ.body : Try.f13.body = some zQ.code := by kernel_rfl
variable (x0 x1 x2 x3 x4 x5 x6 x7 x8 x9 b c d f g i j k l m n o p q r s t u v w x a y z A B C D E F G H I J K L M N P Q R U V W X Y Z a0 a1 a2 a3 a4 a5 : Value) (S : zh)
theorem zQ.r0  : jd Try.prog ⟨false, false, false⟩ (zM Try.prog O) (reg Try.f13 0) (reg Try.f13 0).toList ([x0,x1,x2,x3,x4,x5,x6,x7,x8,x9,b,c,d,f,g,i,j,k,l,m,n,o,p,q,r,s,t,u,v,w,x,a,y,z,A,B,C,D,E,F,G,H,I,J,K,L,M,N,P,Q,R,U,V,W,X,Y,Z,a0,a1,a2,a3,a4,a5]) S =
  (zA (J7 (dem x0) S) (fun v0 S1 => some ([x0,v0,Value.slice none 0 0,Value.int IntKind.i64 0,x4,x5,x6,x7,x8,x9,b,c,d,f,g,i,j,k,l,m,n,o,p,q,r,s,t,u,v,w,x,a,y,z,A,B,C,D,E,F,G,H,I,J,K,L,M,N,P,Q,R,U,V,W,X,Y,Z,a0,a1,a2,a3,a4,a5], S1)) ()) := by
 kernel_rfl
theorem zQ.r1  : jd Try.prog ⟨false, false, false⟩ (zM Try.prog O) (reg Try.f13 1) (reg Try.f13 1).toList ([x0,x1,x2,x3,x4,x5,x6,x7,x8,x9,b,c,d,f,g,i,j,k,l,m,n,o,p,q,r,s,t,u,v,w,x,a,y,z,A,B,C,D,E,F,G,H,I,J,K,L,M,N,P,Q,R,U,V,W,X,Y,Z,a0,a1,a2,a3,a4,a5]) S =
  (zA (zO Try.prog false 30 x1 S) (fun v0 S1 => zA ((zM Try.prog O) 14 [(dem v0)] S1) (fun v1 S2 => zA (aUn Try.prog UnOp.not v1 S2) (fun v2 S3 => some ([x0,x1,x2,x3,x4,x5,x6,x7,x8,x9,v0,v1,v2,f,g,i,j,k,l,m,n,o,p,q,r,s,t,u,v,w,x,a,y,z,A,B,C,D,E,F,G,H,I,J,K,L,M,N,P,Q,R,U,V,W,X,Y,Z,a0,a1,a2,a3,a4,a5], S3)) ()) ()) ()) := by
 kernel_rfl
theorem zQ.r2  : jd Try.prog ⟨false, false, false⟩ (zM Try.prog O) (reg Try.f13 2) (reg Try.f13 2).toList ([x0,x1,x2,x3,x4,x5,x6,x7,x8,x9,b,c,d,f,g,i,j,k,l,m,n,o,p,q,r,s,t,u,v,w,x,a,y,z,A,B,C,D,E,F,G,H,I,J,K,L,M,N,P,Q,R,U,V,W,X,Y,Z,a0,a1,a2,a3,a4,a5]) S =
  ( some ([x0,x1,Value.slice none 0 0,Value.int IntKind.i64 121,x4,x5,x6,x7,x8,x9,b,c,d,f,g,i,j,k,l,m,n,o,p,q,r,s,t,u,v,w,x,a,y,z,A,B,C,D,E,F,G,H,I,J,K,L,M,N,P,Q,R,U,V,W,X,Y,Z,a0,a1,a2,a3,a4,a5], S)) := by
 kernel_rfl
theorem zQ.r3  : jd Try.prog ⟨false, false, false⟩ (zM Try.prog O) (reg Try.f13 3) (reg Try.f13 3).toList ([x0,x1,x2,x3,x4,x5,x6,x7,x8,x9,b,c,d,f,g,i,j,k,l,m,n,o,p,q,r,s,t,u,v,w,x,a,y,z,A,B,C,D,E,F,G,H,I,J,K,L,M,N,P,Q,R,U,V,W,X,Y,Z,a0,a1,a2,a3,a4,a5]) S =
  (zA (zo Try.prog 30 x1 0 S) (fun v0 S1 => zA (zO Try.prog false 3 v0 S1) (fun v1 S2 => zA (zo Try.prog 30 x1 1 S2) (fun v2 S3 => zA (zO Try.prog false 3 v2 S3) (fun v3 S4 => zA (zo Try.prog 30 x1 2 S4) (fun v4 S5 => zA (zO Try.prog false 3 v4 S5) (fun v5 S6 => zA (zo Try.prog 30 x1 3 S6) (fun v6 S7 => zA (zO Try.prog false 3 v6 S7) (fun v7 S8 => zA (zo Try.prog 30 x1 4 S8) (fun v8 S9 => zA (zO Try.prog false 3 v8 S9) (fun v9 b2 => zA (zo Try.prog 30 x1 5 b2) (fun a7 b3 => zA (zO Try.prog false 3 a7 b3) (fun a8 b4 => zA (jB Try.prog 57 6 [(0, v1), (1, v3), (2, v5), (3, v7), (4, v9), (5, a8)] b4) (fun a9 b5 => zA ((zM Try.prog O) 32 [(dem a9)] b5) (fun a6 b6 => zA (zx a6 0 b6) (fun b0 b7 => zA (zx (zH 0 a6) 1 b7) (fun b1 b8 => some ([x0,x1,x2,x3,b0,b1,x6,x7,x8,x9,b,c,d,zH 1 (zH 0 a6),v0,v1,v2,v3,v4,v5,v6,v7,v8,v9,a7,a8,a9,dem a6,dem b0,dem b1,x,a,y,z,A,B,C,D,E,F,G,H,I,J,K,L,M,N,P,Q,R,U,V,W,X,Y,Z,a0,a1,a2,a3,a4,a5], b8)) ()) ()) ()) ()) ()) ()) ()) ()) ()) ()) ()) ()) ()) ()) ()) ()) := by
 kernel_rfl
theorem zQ.r4  : jd Try.prog ⟨false, false, false⟩ (zM Try.prog O) (reg Try.f13 4) (reg Try.f13 4).toList ([x0,x1,x2,x3,x4,x5,x6,x7,x8,x9,b,c,d,f,g,i,j,k,l,m,n,o,p,q,r,s,t,u,v,w,x,a,y,z,A,B,C,D,E,F,G,H,I,J,K,L,M,N,P,Q,R,U,V,W,X,Y,Z,a0,a1,a2,a3,a4,a5]) S =
  (zA (zo Try.prog 30 x1 0 S) (fun v0 S1 => zA (zO Try.prog false 3 v0 S1) (fun v1 S2 => some ([x0,x1,x2,x3,x4,x5,x6,x7,x8,x9,b,c,d,f,g,i,j,k,l,m,n,o,p,q,r,s,t,u,v,w,v0,v1,y,z,A,B,C,D,E,F,G,H,I,J,K,L,M,N,P,Q,R,U,V,W,X,Y,Z,a0,a1,a2,a3,a4,a5], S2)) ()) ()) := by
 kernel_rfl
theorem zQ.r5  : jd Try.prog ⟨false, false, false⟩ (zM Try.prog O) (reg Try.f13 5) (reg Try.f13 5).toList ([x0,x1,x2,x3,x4,x5,x6,x7,x8,x9,b,c,d,f,g,i,j,k,l,m,n,o,p,q,r,s,t,u,v,w,x,a,y,z,A,B,C,D,E,F,G,H,I,J,K,L,M,N,P,Q,R,U,V,W,X,Y,Z,a0,a1,a2,a3,a4,a5]) S =
  (zA (jZ Try.prog BinOp.eql 3 a (Value.int IntKind.i64 0) S) (fun v0 S1 => some ([x0,x1,x2,x3,x4,x5,x6,x7,x8,x9,b,c,d,f,g,i,j,k,l,m,n,o,p,q,r,s,t,u,v,w,x,a,v0,dem v0,A,B,C,D,E,F,G,H,I,J,K,L,M,N,P,Q,R,U,V,W,X,Y,Z,a0,a1,a2,a3,a4,a5], S1)) ()) := by
 kernel_rfl
theorem zQ.r6  : jd Try.prog ⟨false, false, false⟩ (zM Try.prog O) (reg Try.f13 6) (reg Try.f13 6).toList ([x0,x1,x2,x3,x4,x5,x6,x7,x8,x9,b,c,d,f,g,i,j,k,l,m,n,o,p,q,r,s,t,u,v,w,x,a,y,z,A,B,C,D,E,F,G,H,I,J,K,L,M,N,P,Q,R,U,V,W,X,Y,Z,a0,a1,a2,a3,a4,a5]) S =
  (zA (zo Try.prog 30 x1 6 S) (fun v0 S1 => zA (zO Try.prog false 25 v0 S1) (fun v1 S2 => zA ((zM Try.prog O) 33 [(dem v1)] S2) (fun v2 S3 => zA (zx v2 0 S3) (fun v4 S4 => zA (zx (zH 0 v2) 1 S4) (fun v5 S5 => some ([x0,x1,x2,x3,x4,x5,v4,v5,x8,x9,b,c,d,f,g,i,j,k,l,m,n,o,p,q,r,s,t,u,v,w,x,a,y,z,zH 1 (zH 0 v2),v0,v1,dem v2,dem v4,dem v5,G,H,I,J,K,L,M,N,P,Q,R,U,V,W,X,Y,Z,a0,a1,a2,a3,a4,a5], S5)) ()) ()) ()) ()) ()) := by
 kernel_rfl
theorem zQ.r7  : jd Try.prog ⟨false, false, false⟩ (zM Try.prog O) (reg Try.f13 7) (reg Try.f13 7).toList ([x0,x1,x2,x3,x4,x5,x6,x7,x8,x9,b,c,d,f,g,i,j,k,l,m,n,o,p,q,r,s,t,u,v,w,x,a,y,z,A,B,C,D,E,F,G,H,I,J,K,L,M,N,P,Q,R,U,V,W,X,Y,Z,a0,a1,a2,a3,a4,a5]) S =
  (zA (wB Try.prog 23 23 x4 (dem x6) S) (fun v2 S1 => some ([x0,x1,x2,x3,v2,x5,x6,x7,x8,x9,b,c,d,f,g,i,j,k,l,m,n,o,p,q,r,s,t,u,v,w,x,a,y,z,A,B,C,D,E,F,dem x4,dem x6,dem v2,J,K,L,M,N,P,Q,R,U,V,W,X,Y,Z,a0,a1,a2,a3,a4,a5], S1)) ()) := by
 kernel_rfl
theorem zQ.r8  : jd Try.prog ⟨false, false, false⟩ (zM Try.prog O) (reg Try.f13 8) (reg Try.f13 8).toList ([x0,x1,x2,x3,x4,x5,x6,x7,x8,x9,b,c,d,f,g,i,j,k,l,m,n,o,p,q,r,s,t,u,v,w,x,a,y,z,A,B,C,D,E,F,G,H,I,J,K,L,M,N,P,Q,R,U,V,W,X,Y,Z,a0,a1,a2,a3,a4,a5]) S =
  (zA (jZ Try.prog BinOp.eql 3 a (Value.int IntKind.i64 1) S) (fun v0 S1 => some ([x0,x1,x2,x3,x4,x5,x6,x7,x8,x9,b,c,d,f,g,i,j,k,l,m,n,o,p,q,r,s,t,u,v,w,x,a,y,z,A,B,C,D,E,F,G,H,I,v0,dem v0,L,M,N,P,Q,R,U,V,W,X,Y,Z,a0,a1,a2,a3,a4,a5], S1)) ()) := by
 kernel_rfl
theorem zQ.r9  : jd Try.prog ⟨false, false, false⟩ (zM Try.prog O) (reg Try.f13 9) (reg Try.f13 9).toList ([x0,x1,x2,x3,x4,x5,x6,x7,x8,x9,b,c,d,f,g,i,j,k,l,m,n,o,p,q,r,s,t,u,v,w,x,a,y,z,A,B,C,D,E,F,G,H,I,J,K,L,M,N,P,Q,R,U,V,W,X,Y,Z,a0,a1,a2,a3,a4,a5]) S =
  (zA (zo Try.prog 30 x1 7 S) (fun v0 S1 => zA (zO Try.prog false 28 v0 S1) (fun v1 S2 => zA ((zM Try.prog O) 34 [(dem v1)] S2) (fun v2 S3 => zA (zx v2 0 S3) (fun v4 S4 => zA (zx (zH 0 v2) 1 S4) (fun v5 S5 => some ([x0,x1,x2,x3,x4,x5,x6,x7,v4,v5,b,c,d,f,g,i,j,k,l,m,n,o,p,q,r,s,t,u,v,w,x,a,y,z,A,B,C,D,E,F,G,H,I,J,K,zH 1 (zH 0 v2),v0,v1,dem v2,dem v4,dem v5,U,V,W,X,Y,Z,a0,a1,a2,a3,a4,a5], S5)) ()) ()) ()) ()) ()) := by
 kernel_rfl
theorem zQ.r10  : jd Try.prog ⟨false, false, false⟩ (zM Try.prog O) (reg Try.f13 10) (reg Try.f13 10).toList ([x0,x1,x2,x3,x4,x5,x6,x7,x8,x9,b,c,d,f,g,i,j,k,l,m,n,o,p,q,r,s,t,u,v,w,x,a,y,z,A,B,C,D,E,F,G,H,I,J,K,L,M,N,P,Q,R,U,V,W,X,Y,Z,a0,a1,a2,a3,a4,a5]) S =
  (zA (wB Try.prog 23 23 x4 (dem x8) S) (fun v2 S1 => some ([x0,x1,x2,x3,v2,x5,x6,x7,x8,x9,b,c,d,f,g,i,j,k,l,m,n,o,p,q,r,s,t,u,v,w,x,a,y,z,A,B,C,D,E,F,G,H,I,J,K,L,M,N,P,Q,R,dem x4,dem x8,dem v2,X,Y,Z,a0,a1,a2,a3,a4,a5], S1)) ()) := by
 kernel_rfl
theorem zQ.r11  : jd Try.prog ⟨false, false, false⟩ (zM Try.prog O) (reg Try.f13 11) (reg Try.f13 11).toList ([x0,x1,x2,x3,x4,x5,x6,x7,x8,x9,b,c,d,f,g,i,j,k,l,m,n,o,p,q,r,s,t,u,v,w,x,a,y,z,A,B,C,D,E,F,G,H,I,J,K,L,M,N,P,Q,R,U,V,W,X,Y,Z,a0,a1,a2,a3,a4,a5]) S =
  (zA (zo Try.prog 30 x1 1 S) (fun v0 S1 => zA (zO Try.prog false 3 v0 S1) (fun v1 S2 => zA ((zM Try.prog O) 27 [(dem v1)] S2) (fun v2 S3 => zA (jB Try.prog 88 1 [(0, (dem x4))] S3) (fun v4 S4 => zA ((zM Try.prog O) 36 [(dem v2), (dem v4)] S4) (fun v5 S5 => zA ((zM Try.prog O) 35 [(dem v5)] S5) (fun v6 S6 => zA (wB Try.prog 23 23 v6 (dem x4) S6) (fun v8 S7 => some ([x0,x1,v8,Value.int IntKind.i64 0,x4,x5,x6,x7,x8,x9,b,c,d,f,g,i,j,k,l,m,n,o,p,q,r,s,t,u,v,w,x,a,y,z,A,B,C,D,E,F,G,H,I,J,K,L,M,N,P,Q,R,U,V,W,v0,v1,v2,dem x4,v4,v5,dem v6,dem x4,dem v8], S7)) ()) ()) ()) ()) ()) ()) ()) := by
 kernel_rfl
theorem zQ.rs : type_of% (And.intro @zQ.r0 (And.intro @zQ.r1 (And.intro @zQ.r2 (And.intro @zQ.r3 (And.intro @zQ.r4 (And.intro @zQ.r5 (And.intro @zQ.r6 (And.intro @zQ.r7 (And.intro @zQ.r8 (And.intro @zQ.r9 (And.intro @zQ.r10 (@zQ.r11)))))))))))) := And.intro @zQ.r0 (And.intro @zQ.r1 (And.intro @zQ.r2 (And.intro @zQ.r3 (And.intro @zQ.r4 (And.intro @zQ.r5 (And.intro @zQ.r6 (And.intro @zQ.r7 (And.intro @zQ.r8 (And.intro @zQ.r9 (And.intro @zQ.r10 (@zQ.r11)))))))))))
theorem zQ.runs {x0 : Value} {S S1 : zh} {e : AEx} {T : List Value} (h : zu Try.prog O false zQ.code ([x0,undef,undef,undef,undef,undef,undef,undef,undef,undef,undef,undef,undef,undef,undef,undef,undef,undef,undef,undef,undef,undef,undef,undef,undef,undef,undef,undef,undef,undef,undef,undef,undef,undef,undef,undef,undef,undef,undef,undef,undef,undef,undef,undef,undef,undef,undef,undef,undef,undef,undef,undef,undef,undef,undef,undef,undef,undef,undef,undef,undef,undef,undef]) zh.empty = some (e, T, S1)) (he : e = .normal ∨ e = .ret)  (h0 : jD (T.getD 2 undef) = true) (h1 : jD (T.getD 3 undef) = true) (hca : [x0].all (jf 16) = true) (hcv : jf 16 (Value.tuple #[T.getD 2 undef, T.getD 3 undef]) = true) : zM Try.prog O 13 [x0] S = some (Value.tuple #[T.getD 2 undef, T.getD 3 undef], S) :=
 wR rfl rfl Try.func13 (by decide) zQ.body (by exact h) he ((yT ((show zC Try.prog T S1 Try.f13.results.toList = zC Try.prog T S1 [(ResultVar.tmp 2), (ResultVar.tmp 3)] from by kernel_rfl).trans (by simp only [zC])) (by kernel_rfl) (by simp only [List.all_cons, List.all_nil, h0, h1, Bool.and_true])).trans rfl) hca hcv
end Go.Proofs.Ytbgcphbbchndkaa
namespace Go.Proofs.Ytbgcphbbchndkaa
open Go.Abs
abbrev zD.id : FuncId := 14
noncomputable def zD.code : Code := (Code.seq (Code.region 0 (reg Try.f14 0) false) (Code.seq (Code.seq (Code.region 1 (reg Try.f14 1) true) (Code.cond (Operand.tmp 27) (Code.seq (Code.region 2 (reg Try.f14 2) false) Code.ret) Code.skip)) (Code.seq (Code.seq (Code.region 3 (reg Try.f14 3) false) (Code.block 0 (Code.seq (Code.region 4 (reg Try.f14 4) false) (Code.cond (Operand.tmp 30) (Code.seq (Code.region 5 (reg Try.f14 5) false) Code.ret) (Code.seq (Code.region 6 (reg Try.f14 6) false) (Code.cond (Operand.tmp 35) (Code.seq (Code.region 7 (reg Try.f14 7) false) Code.ret) (Code.seq (Code.region 8 (reg Try.f14 8) false) (Code.cond (Operand.tmp 40) (Code.seq (Code.region 9 (reg Try.f14 9) false) (Code.cond (Operand.tmp 51) (Code.seq (Code.region 10 (reg Try.f14 10) false) Code.ret) Code.skip)) Code.skip)))))))) (Code.seq (Code.region 11 (reg Try.f14 11) false) Code.ret))))
theorem zD.body : Try.f14.body = some zD.code := by kernel_rfl
variable (x0 b x2 x3 x4 x5 x6 x7 x8 x9 d f g i k l m n o p q r s t u w x y z c A B C D E F G H I J K L M N P Q R U V W X Y Z a0 a1 a2 a3 a4 a5 a6 a7 a8 a9 b0 b1 b2 b3 b4 b5 b6 b7 b8 b9 c0 : Value) (S : zh)
theorem zD.r0  : jd Try.prog ⟨false, false, false⟩ (zM Try.prog O) (reg Try.f14 0) (reg Try.f14 0).toList ([x0,b,x2,x3,x4,x5,x6,x7,x8,x9,d,f,g,i,k,l,m,n,o,p,q,r,s,t,u,w,x,y,z,c,A,B,C,D,E,F,G,H,I,J,K,L,M,N,P,Q,R,U,V,W,X,Y,Z,a0,a1,a2,a3,a4,a5,a6,a7,a8,a9,b0,b1,b2,b3,b4,b5,b6,b7,b8,b9,c0]) S =
  (zA (J7 (dem x0) S) (fun v0 S1 => some ([x0,v0,Value.bool false,x3,x4,x5,x6,x7,x8,x9,d,f,g,i,k,l,m,n,o,p,q,r,s,t,u,w,x,y,z,c,A,B,C,D,E,F,G,H,I,J,K,L,M,N,P,Q,R,U,V,W,X,Y,Z,a0,a1,a2,a3,a4,a5,a6,a7,a8,a9,b0,b1,b2,b3,b4,b5,b6,b7,b8,b9,c0], S1)) ()) := by
 kernel_rfl
theorem zD.d1 : ku Try.prog (reg Try.f14 1) = true := by kernel_rfl
theorem zD.ff1 : fixed Try.prog (reg Try.f14 1) = false := by kernel_rfl
theorem zD.k1 : checked Try.prog (reg Try.f14 1) = [19] := by kernel_rfl
theorem zD.g1 : again Try.prog (reg Try.f14 1) = [(19, 21)] := by kernel_rfl
theorem zD.r1  : zu Try.prog O false (.region 1 (reg Try.f14 1) true) ([x0,b,x2,x3,x4,x5,x6,x7,x8,x9,d,f,g,i,k,l,m,n,o,p,q,r,s,t,u,w,x,y,z,c,A,B,C,D,E,F,G,H,I,J,K,L,M,N,P,Q,R,U,V,W,X,Y,Z,a0,a1,a2,a3,a4,a5,a6,a7,a8,a9,b0,b1,b2,b3,b4,b5,b6,b7,b8,b9,c0]) S =
  WL (zA (zo Try.prog 30 b 0 S) (fun v0 S1 => zA (zO Try.prog false 3 v0 S1) (fun v1 S2 => zA (jZ Try.prog BinOp.lss 3 v1 (Value.int IntKind.i64 0) S2) (fun v2 S3 => gdK (dem v2) false (zo Try.prog 30 b 0) S3 (fun v4 S4 => gdK (dem v2) false (zO Try.prog false 3 v4) S4 (fun v5 S5 => gdK (dem v2) false (jZ Try.prog BinOp.gtr 3 v5 (Value.int IntKind.i64 6)) S5 (fun v6 S6 => zA (wY (dem v2) (Value.bool true) v6 S6) (fun v7 S7 => gdK (dem v7) false (zo Try.prog 30 b 1) S7 (fun v9 S8 => gdK (dem v7) false (zO Try.prog false 3 v9) S8 (fun c5 S9 => gdK (dem v7) false (jZ Try.prog BinOp.lss 3 c5 (Value.int IntKind.i64 0)) S9 (fun c6 d4 => zA (wY (dem v7) (Value.bool true) c6 d4) (fun c2 d5 => gdK (dem c2) false (zo Try.prog 30 b 1) d5 (fun c3 d6 => gdK (dem c2) false (zO Try.prog false 3 c3) d6 (fun c7 d7 => gdK (dem c2) false (jZ Try.prog BinOp.geq 3 c7 (Value.int IntKind.i64 7)) d7 (fun c8 d8 => zA (wY (dem c2) (Value.bool true) c8 d8) (fun c1 d2 => aeg (dem c1) false (zO Try.prog false 30 b) d2 (fun c9 d9 => gdK (dem c1) false (zO Try.prog false 30 b) d9 (fun d0 f0 => gdK (dem c1) false ((zM Try.prog O) 37 [(dem d0)]) f0 (fun c4 d3 => gdK (dem c1) false ((zM Try.prog O) 15 [(dem c9), (dem c4)]) d3 (fun f1 f3 => gdK (dem c1) false (aUn Try.prog UnOp.not f1) f3 (fun f2 f4 => zA (wY (dem c1) (Value.bool true) f2 f4) (fun f5 f6 => ckK (qm b d2 d3 && (true)) (some ([x0,b,x2,v0,v1,v2,dem v2,v4,v5,v6,v7,dem v7,v9,c5,c6,c2,dem c2,c3,c7,c8,c1,dem c1,c9,d0,c4,f1,f2,f5,z,c,A,B,C,D,E,F,G,H,I,J,K,L,M,N,P,Q,R,U,V,W,X,Y,Z,a0,a1,a2,a3,a4,a5,a6,a7,a8,a9,b0,b1,b2,b3,b4,b5,b6,b7,b8,b9,c0], f6)) ()) ()) ()) ()) ()) ()) ()) ()) ()) ()) ()) ()) ()) ()) ()) ()) ()) ()) ()) ()) ()) ()) := by
 rw [yQ zD.d1 zD.ff1 zD.k1 zD.g1]
 refine congrArg WL ?_
 refine uD Try.f14 1 0 (pe := undef) (fun v0 S1 => ?_)
 refine uD Try.f14 1 1 (pe := v0) (fun v1 S2 => ?_)
 refine uD Try.f14 1 2 (pe := undef) (fun v2 S3 => ?_)
 refine uP Try.f14 1 3 (v := v2) (pe := undef) ?_
 refine uG Try.f14 1 4 (j := 3) (pe := undef) (fun v4 S4 => ?_)
 refine uG Try.f14 1 5 (j := 3) (pe := v4) (fun v5 S5 => ?_)
 refine uG Try.f14 1 6 (j := 3) (pe := undef) (fun v6 S6 => ?_)
 refine uD Try.f14 1 7 (pe := undef) (fun v7 S7 => ?_)
 refine uP Try.f14 1 8 (v := v7) (pe := undef) ?_
 refine uG Try.f14 1 9 (j := 8) (pe := undef) (fun v9 S8 => ?_)
 refine uG Try.f14 1 10 (j := 8) (pe := v9) (fun c5 S9 => ?_)
 refine uG Try.f14 1 11 (j := 8) (pe := undef) (fun c6 d4 => ?_)
 refine uD Try.f14 1 12 (pe := undef) (fun c2 d5 => ?_)
 refine uP Try.f14 1 13 (v := c2) (pe := undef) ?_
 refine uG Try.f14 1 14 (j := 13) (pe := undef) (fun c3 d6 => ?_)
 refine uG Try.f14 1 15 (j := 13) (pe := c3) (fun c7 d7 => ?_)
 refine uG Try.f14 1 16 (j := 13) (pe := undef) (fun c8 d8 => ?_)
 refine uD Try.f14 1 17 (pe := undef) (fun c1 d2 => ?_)
 refine uP Try.f14 1 18 (v := c1) (pe := undef) ?_
 refine uGC Try.f14 1 19 (j := 18) (pe := b) (fun c9 d9 => ?_)
 refine uG Try.f14 1 20 (j := 18) (pe := b) (fun d0 f0 => ?_)
 refine uG Try.f14 1 21 (j := 18) (pe := undef) (fun c4 d3 => ?_)
 refine uG Try.f14 1 22 (j := 18) (pe := undef) (fun f1 f3 => ?_)
 refine uG Try.f14 1 23 (j := 18) (pe := undef) (fun f2 f4 => ?_)
 refine uD Try.f14 1 24 (pe := undef) (fun f5 f6 => ?_)
 kernel_rfl
theorem zD.r2  : jd Try.prog ⟨false, false, false⟩ (zM Try.prog O) (reg Try.f14 2) (reg Try.f14 2).toList ([x0,b,x2,x3,x4,x5,x6,x7,x8,x9,d,f,g,i,k,l,m,n,o,p,q,r,s,t,u,w,x,y,z,c,A,B,C,D,E,F,G,H,I,J,K,L,M,N,P,Q,R,U,V,W,X,Y,Z,a0,a1,a2,a3,a4,a5,a6,a7,a8,a9,b0,b1,b2,b3,b4,b5,b6,b7,b8,b9,c0]) S =
  ( some ([x0,b,Value.bool false,x3,x4,x5,x6,x7,x8,x9,d,f,g,i,k,l,m,n,o,p,q,r,s,t,u,w,x,y,z,c,A,B,C,D,E,F,G,H,I,J,K,L,M,N,P,Q,R,U,V,W,X,Y,Z,a0,a1,a2,a3,a4,a5,a6,a7,a8,a9,b0,b1,b2,b3,b4,b5,b6,b7,b8,b9,c0], S)) := by
 kernel_rfl
theorem zD.r3  : jd Try.prog ⟨false, false, false⟩ (zM Try.prog O) (reg Try.f14 3) (reg Try.f14 3).toList ([x0,b,x2,x3,x4,x5,x6,x7,x8,x9,d,f,g,i,k,l,m,n,o,p,q,r,s,t,u,w,x,y,z,c,A,B,C,D,E,F,G,H,I,J,K,L,M,N,P,Q,R,U,V,W,X,Y,Z,a0,a1,a2,a3,a4,a5,a6,a7,a8,a9,b0,b1,b2,b3,b4,b5,b6,b7,b8,b9,c0]) S =
  (zA (zo Try.prog 30 b 0 S) (fun v0 S1 => zA (zO Try.prog false 3 v0 S1) (fun v1 S2 => some ([x0,b,x2,x3,x4,x5,x6,x7,x8,x9,d,f,g,i,k,l,m,n,o,p,q,r,s,t,u,w,x,y,v0,v1,A,B,C,D,E,F,G,H,I,J,K,L,M,N,P,Q,R,U,V,W,X,Y,Z,a0,a1,a2,a3,a4,a5,a6,a7,a8,a9,b0,b1,b2,b3,b4,b5,b6,b7,b8,b9,c0], S2)) ()) ()) := by
 kernel_rfl
theorem zD.r4  : jd Try.prog ⟨false, false, false⟩ (zM Try.prog O) (reg Try.f14 4) (reg Try.f14 4).toList ([x0,b,x2,x3,x4,x5,x6,x7,x8,x9,d,f,g,i,k,l,m,n,o,p,q,r,s,t,u,w,x,y,z,c,A,B,C,D,E,F,G,H,I,J,K,L,M,N,P,Q,R,U,V,W,X,Y,Z,a0,a1,a2,a3,a4,a5,a6,a7,a8,a9,b0,b1,b2,b3,b4,b5,b6,b7,b8,b9,c0]) S =
  (zA (jZ Try.prog BinOp.eql 3 c (Value.int IntKind.i64 0) S) (fun v0 S1 => some ([x0,b,x2,x3,x4,x5,x6,x7,x8,x9,d,f,g,i,k,l,m,n,o,p,q,r,s,t,u,w,x,y,z,c,v0,dem v0,C,D,E,F,G,H,I,J,K,L,M,N,P,Q,R,U,V,W,X,Y,Z,a0,a1,a2,a3,a4,a5,a6,a7,a8,a9,b0,b1,b2,b3,b4,b5,b6,b7,b8,b9,c0], S1)) ()) := by
 kernel_rfl
theorem zD.r5  : jd Try.prog ⟨false, false, false⟩ (zM Try.prog O) (reg Try.f14 5) (reg Try.f14 5).toList ([x0,b,x2,x3,x4,x5,x6,x7,x8,x9,d,f,g,i,k,l,m,n,o,p,q,r,s,t,u,w,x,y,z,c,A,B,C,D,E,F,G,H,I,J,K,L,M,N,P,Q,R,U,V,W,X,Y,Z,a0,a1,a2,a3,a4,a5,a6,a7,a8,a9,b0,b1,b2,b3,b4,b5,b6,b7,b8,b9,c0]) S =
  (zA (zo Try.prog 30 b 6 S) (fun v0 S1 => zA (zO Try.prog false 25 v0 S1) (fun v1 S2 => zA ((zM Try.prog O) 38 [(dem v1)] S2) (fun v2 S3 => some ([x0,b,v2,x3,x4,x5,x6,x7,x8,x9,d,f,g,i,k,l,m,n,o,p,q,r,s,t,u,w,x,y,z,c,A,B,v0,v1,dem v2,F,G,H,I,J,K,L,M,N,P,Q,R,U,V,W,X,Y,Z,a0,a1,a2,a3,a4,a5,a6,a7,a8,a9,b0,b1,b2,b3,b4,b5,b6,b7,b8,b9,c0], S3)) ()) ()) ()) := by
 kernel_rfl
theorem zD.r6  : jd Try.prog ⟨false, false, false⟩ (zM Try.prog O) (reg Try.f14 6) (reg Try.f14 6).toList ([x0,b,x2,x3,x4,x5,x6,x7,x8,x9,d,f,g,i,k,l,m,n,o,p,q,r,s,t,u,w,x,y,z,c,A,B,C,D,E,F,G,H,I,J,K,L,M,N,P,Q,R,U,V,W,X,Y,Z,a0,a1,a2,a3,a4,a5,a6,a7,a8,a9,b0,b1,b2,b3,b4,b5,b6,b7,b8,b9,c0]) S =
  (zA (jZ Try.prog BinOp.eql 3 c (Value.int IntKind.i64 1) S) (fun v0 S1 => some ([x0,b,x2,x3,x4,x5,x6,x7,x8,x9,d,f,g,i,k,l,m,n,o,p,q,r,s,t,u,w,x,y,z,c,A,B,C,D,E,v0,dem v0,H,I,J,K,L,M,N,P,Q,R,U,V,W,X,Y,Z,a0,a1,a2,a3,a4,a5,a6,a7,a8,a9,b0,b1,b2,b3,b4,b5,b6,b7,b8,b9,c0], S1)) ()) := by
 kernel_rfl
theorem zD.r7  : jd Try.prog ⟨false, false, false⟩ (zM Try.prog O) (reg Try.f14 7) (reg Try.f14 7).toList ([x0,b,x2,x3,x4,x5,x6,x7,x8,x9,d,f,g,i,k,l,m,n,o,p,q,r,s,t,u,w,x,y,z,c,A,B,C,D,E,F,G,H,I,J,K,L,M,N,P,Q,R,U,V,W,X,Y,Z,a0,a1,a2,a3,a4,a5,a6,a7,a8,a9,b0,b1,b2,b3,b4,b5,b6,b7,b8,b9,c0]) S =
  (zA (zo Try.prog 30 b 7 S) (fun v0 S1 => zA (zO Try.prog false 28 v0 S1) (fun v1 S2 => zA ((zM Try.prog O) 39 [(dem v1)] S2) (fun v2 S3 => some ([x0,b,v2,x3,x4,x5,x6,x7,x8,x9,d,f,g,i,k,l,m,n,o,p,q,r,s,t,u,w,x,y,z,c,A,B,C,D,E,F,G,v0,v1,dem v2,K,L,M,N,P,Q,R,U,V,W,X,Y,Z,a0,a1,a2,a3,a4,a5,a6,a7,a8,a9,b0,b1,b2,b3,b4,b5,b6,b7,b8,b9,c0], S3)) ()) ()) ()) := by
 kernel_rfl
theorem zD.r8  : jd Try.prog ⟨false, false, false⟩ (zM Try.prog O) (reg Try.f14 8) (reg Try.f14 8).toList ([x0,b,x2,x3,x4,x5,x6,x7,x8,x9,d,f,g,i,k,l,m,n,o,p,q,r,s,t,u,w,x,y,z,c,A,B,C,D,E,F,G,H,I,J,K,L,M,N,P,Q,R,U,V,W,X,Y,Z,a0,a1,a2,a3,a4,a5,a6,a7,a8,a9,b0,b1,b2,b3,b4,b5,b6,b7,b8,b9,c0]) S =
  (zA (jZ Try.prog BinOp.eql 3 c (Value.int IntKind.i64 3) S) (fun v0 S1 => some ([x0,b,x2,x3,x4,x5,x6,x7,x8,x9,d,f,g,i,k,l,m,n,o,p,q,r,s,t,u,w,x,y,z,c,A,B,C,D,E,F,G,H,I,J,v0,dem v0,M,N,P,Q,R,U,V,W,X,Y,Z,a0,a1,a2,a3,a4,a5,a6,a7,a8,a9,b0,b1,b2,b3,b4,b5,b6,b7,b8,b9,c0], S1)) ()) := by
 kernel_rfl
theorem zD.r9  : jd Try.prog ⟨false, false, false⟩ (zM Try.prog O) (reg Try.f14 9) (reg Try.f14 9).toList ([x0,b,x2,x3,x4,x5,x6,x7,x8,x9,d,f,g,i,k,l,m,n,o,p,q,r,s,t,u,w,x,y,z,c,A,B,C,D,E,F,G,H,I,J,K,L,M,N,P,Q,R,U,V,W,X,Y,Z,a0,a1,a2,a3,a4,a5,a6,a7,a8,a9,b0,b1,b2,b3,b4,b5,b6,b7,b8,b9,c0]) S =
  (zA (zo Try.prog 30 b 5 S) (fun v0 S1 => zA (zO Try.prog false 3 v0 S1) (fun v1 S2 => zA (jZ Try.prog BinOp.lss 3 v1 (Value.int IntKind.i64 (-1)) S2) (fun v2 S3 => gdK (dem v2) false (zo Try.prog 30 b 5) S3 (fun v4 S4 => gdK (dem v2) false (zO Try.prog false 3 v4) S4 (fun v5 S5 => gdK (dem v2) false (zo Try.prog 30 b 3) S5 (fun v6 S6 => gdK (dem v2) false (zO Try.prog false 3 v6) S6 (fun v7 S7 => gdK (dem v2) false (jZ Try.prog BinOp.geq 3 v5 v7) S7 (fun v8 S8 => zA (wY (dem v2) (Value.bool true) v8 S8) (fun v9 S9 => some ([x0,b,x2,x3,x4,x5,x6,x7,x8,x9,d,f,g,i,k,l,m,n,o,p,q,r,s,t,u,w,x,y,z,c,A,B,C,D,E,F,G,H,I,J,K,L,v0,v1,v2,dem v2,v4,v5,v6,v7,v8,v9,Z,a0,a1,a2,a3,a4,a5,a6,a7,a8,a9,b0,b1,b2,b3,b4,b5,b6,b7,b8,b9,c0], S9)) ()) ()) ()) ()) ()) ()) ()) ()) ()) := by
 refine sD Try.f14 9 0 (fun v0 S1 => ?_)
 refine sD Try.f14 9 1 (fun v1 S2 => ?_)
 refine sD Try.f14 9 2 (fun v2 S3 => ?_)
 refine sP Try.f14 9 3 (v := v2) ?_
 refine sG Try.f14 9 4 (j := 3) (fun v4 S4 => ?_)
 refine sG Try.f14 9 5 (j := 3) (fun v5 S5 => ?_)
 refine sG Try.f14 9 6 (j := 3) (fun v6 S6 => ?_)
 refine sG Try.f14 9 7 (j := 3) (fun v7 S7 => ?_)
 refine sG Try.f14 9 8 (j := 3) (fun v8 S8 => ?_)
 refine sD Try.f14 9 9 (fun v9 S9 => ?_)
 kernel_rfl
theorem zD.r10  : jd Try.prog ⟨false, false, false⟩ (zM Try.prog O) (reg Try.f14 10) (reg Try.f14 10).toList ([x0,b,x2,x3,x4,x5,x6,x7,x8,x9,d,f,g,i,k,l,m,n,o,p,q,r,s,t,u,w,x,y,z,c,A,B,C,D,E,F,G,H,I,J,K,L,M,N,P,Q,R,U,V,W,X,Y,Z,a0,a1,a2,a3,a4,a5,a6,a7,a8,a9,b0,b1,b2,b3,b4,b5,b6,b7,b8,b9,c0]) S =
  ( some ([x0,b,Value.bool false,x3,x4,x5,x6,x7,x8,x9,d,f,g,i,k,l,m,n,o,p,q,r,s,t,u,w,x,y,z,c,A,B,C,D,E,F,G,H,I,J,K,L,M,N,P,Q,R,U,V,W,X,Y,Z,a0,a1,a2,a3,a4,a5,a6,a7,a8,a9,b0,b1,b2,b3,b4,b5,b6,b7,b8,b9,c0], S)) := by
 kernel_rfl
theorem zD.r11  : jd Try.prog ⟨false, false, false⟩ (zM Try.prog O) (reg Try.f14 11) (reg Try.f14 11).toList ([x0,b,x2,x3,x4,x5,x6,x7,x8,x9,d,f,g,i,k,l,m,n,o,p,q,r,s,t,u,w,x,y,z,c,A,B,C,D,E,F,G,H,I,J,K,L,M,N,P,Q,R,U,V,W,X,Y,Z,a0,a1,a2,a3,a4,a5,a6,a7,a8,a9,b0,b1,b2,b3,b4,b5,b6,b7,b8,b9,c0]) S =
  (zA (zo Try.prog 30 b 2 S) (fun v0 S1 => zA (zO Try.prog false 3 v0 S1) (fun v1 S2 => zA (jZ Try.prog BinOp.geq 3 v1 (Value.int IntKind.i64 0) S2) (fun v2 S3 => gdK (dem v2) true (zo Try.prog 30 b 2) S3 (fun v4 S4 => gdK (dem v2) true (zO Try.prog false 3 v4) S4 (fun v5 S5 => gdK (dem v2) true (jZ Try.prog BinOp.leq 3 v5 (Value.int IntKind.i64 1000)) S5 (fun v6 S6 => zA (wY (dem v2) v6 (Value.bool false) S6) (fun v7 S7 => gdK (dem v7) true (zo Try.prog 30 b 3) S7 (fun v9 S8 => gdK (dem v7) true (zO Try.prog false 3 v9) S8 (fun c5 S9 => gdK (dem v7) true (jZ Try.prog BinOp.geq 3 c5 (Value.int IntKind.i64 0)) S9 (fun c6 d4 => zA (wY (dem v7) c6 (Value.bool false) d4) (fun c2 d5 => gdK (dem c2) true (zo Try.prog 30 b 3) d5 (fun c3 d6 => gdK (dem c2) true (zO Try.prog false 3 c3) d6 (fun c7 d7 => gdK (dem c2) true (jZ Try.prog BinOp.leq 3 c7 (Value.int IntKind.i64 1000)) d7 (fun c8 d8 => zA (wY (dem c2) c8 (Value.bool false) d8) (fun c1 d2 => gdK (dem c1) true (zO Try.prog false 30 b) d2 (fun c9 d9 => gdK (dem c1) true ((zM Try.prog O) 40 [(dem c9)]) d9 (fun d0 f0 => zA (wY (dem c1) d0 (Value.bool false) f0) (fun c4 d3 => some ([x0,b,c4,x3,x4,x5,x6,x7,x8,x9,d,f,g,i,k,l,m,n,o,p,q,r,s,t,u,w,x,y,z,c,A,B,C,D,E,F,G,H,I,J,K,L,M,N,P,Q,R,U,V,W,X,Y,v0,v1,v2,dem v2,v4,v5,v6,v7,dem v7,v9,c5,c6,c2,dem c2,c3,c7,c8,c1,dem c1,c9,d0,dem c4], d3)) ()) ()) ()) ()) ()) ()) ()) ()) ()) ()) ()) ()) ()) ()) ()) ()) ()) ()) := by
 refine sD Try.f14 11 0 (fun v0 S1 => ?_)
 refine sD Try.f14 11 1 (fun v1 S2 => ?_)
 refine sD Try.f14 11 2 (fun v2 S3 => ?_)
 refine sP Try.f14 11 3 (v := v2) ?_
 refine sG Try.f14 11 4 (j := 3) (fun v4 S4 => ?_)
 refine sG Try.f14 11 5 (j := 3) (fun v5 S5 => ?_)
 refine sG Try.f14 11 6 (j := 3) (fun v6 S6 => ?_)
 refine sD Try.f14 11 7 (fun v7 S7 => ?_)
 refine sP Try.f14 11 8 (v := v7) ?_
 refine sG Try.f14 11 9 (j := 8) (fun v9 S8 => ?_)
 refine sG Try.f14 11 10 (j := 8) (fun c5 S9 => ?_)
 refine sG Try.f14 11 11 (j := 8) (fun c6 d4 => ?_)
 refine sD Try.f14 11 12 (fun c2 d5 => ?_)
 refine sP Try.f14 11 13 (v := c2) ?_
 refine sG Try.f14 11 14 (j := 13) (fun c3 d6 => ?_)
 refine sG Try.f14 11 15 (j := 13) (fun c7 d7 => ?_)
 refine sG Try.f14 11 16 (j := 13) (fun c8 d8 => ?_)
 refine sD Try.f14 11 17 (fun c1 d2 => ?_)
 refine sP Try.f14 11 18 (v := c1) ?_
 refine sG Try.f14 11 19 (j := 18) (fun c9 d9 => ?_)
 refine sG Try.f14 11 20 (j := 18) (fun d0 f0 => ?_)
 refine sD Try.f14 11 21 (fun c4 d3 => ?_)
 refine sP Try.f14 11 22 (v := c4) ?_
 kernel_rfl
theorem zD.rs : type_of% (And.intro @zD.r0 (And.intro @zD.r1 (And.intro @zD.r2 (And.intro @zD.r3 (And.intro @zD.r4 (And.intro @zD.r5 (And.intro @zD.r6 (And.intro @zD.r7 (And.intro @zD.r8 (And.intro @zD.r9 (And.intro @zD.r10 (@zD.r11)))))))))))) := And.intro @zD.r0 (And.intro @zD.r1 (And.intro @zD.r2 (And.intro @zD.r3 (And.intro @zD.r4 (And.intro @zD.r5 (And.intro @zD.r6 (And.intro @zD.r7 (And.intro @zD.r8 (And.intro @zD.r9 (And.intro @zD.r10 (@zD.r11)))))))))))
theorem zD.runs {x0 : Value} {S S1 : zh} {e : AEx} {T : List Value} (h : zu Try.prog O false zD.code ([x0,undef,undef,undef,undef,undef,undef,undef,undef,undef,undef,undef,undef,undef,undef,undef,undef,undef,undef,undef,undef,undef,undef,undef,undef,undef,undef,undef,undef,undef,undef,undef,undef,undef,undef,undef,undef,undef,undef,undef,undef,undef,undef,undef,undef,undef,undef,undef,undef,undef,undef,undef,undef,undef,undef,undef,undef,undef,undef,undef,undef,undef,undef,undef,undef,undef,undef,undef,undef,undef,undef,undef,undef,undef]) zh.empty = some (e, T, S1)) (he : e = .normal ∨ e = .ret) (hca : [x0].all (jf 16) = true) (hcv : jf 16 (T.getD 2 undef) = true) : zM Try.prog O 14 [x0] S = some (T.getD 2 undef, S) :=
 wR rfl rfl Try.func14 (by decide) zD.body (by exact h) he (yD (a := T.getD 2 undef) ((show zC Try.prog T S1 Try.f14.results.toList = zC Try.prog T S1 [(ResultVar.tmp 2)] from by kernel_rfl).trans (by simp only [zC])) (by kernel_rfl)) hca hcv
end Go.Proofs.Ytbgcphbbchndkaa
namespace Go.Proofs.Ytbgcphbbchndkaa
open Go.Abs
abbrev zq.id : FuncId := 37
noncomputable def zq.code : Code := (Code.seq (Code.region 0 (reg Try.f37 0) false) (Code.seq (Code.region 1 (reg Try.f37 1) false) (Code.seq (Code.seq (Code.region 2 (reg Try.f37 2) false) (Code.block 0 (Code.seq (Code.block 6 (Code.seq (Code.block 5 (Code.seq (Code.block 4 (Code.seq (Code.block 3 (Code.seq (Code.block 2 (Code.seq (Code.block 1 (Code.seq (Code.seq (Code.seq (Code.region 3 (reg Try.f37 3) false) (Code.cond (Operand.tmp 11) (Code.exit 1) Code.skip)) (Code.seq (Code.seq (Code.region 4 (reg Try.f37 4) false) (Code.cond (Operand.tmp 13) (Code.exit 2) Code.skip)) (Code.seq (Code.seq (Code.region 5 (reg Try.f37 5) false) (Code.cond (Operand.tmp 15) (Code.exit 3) Code.skip)) (Code.seq (Code.seq (Code.region 6 (reg Try.f37 6) false) (Code.cond (Operand.tmp 17) (Code.exit 4) Code.skip)) (Code.seq (Code.seq (Code.seq (Code.region 7 (reg Try.f37 7) false) (Code.cond (Operand.tmp 19) Code.skip (Code.region 8 (reg Try.f37 8) false))) (Code.cond (Operand.tmp 19) (Code.exit 5) Code.skip)) (Code.seq (Code.region 9 (reg Try.f37 9) false) (Code.cond (Operand.tmp 22) (Code.exit 6) Code.skip))))))) (Code.exit 0))) (Code.seq (Code.region 10 (reg Try.f37 10) false) (Code.exit 0)))) (Code.seq (Code.region 11 (reg Try.f37 11) false) (Code.exit 0)))) (Code.seq (Code.region 12 (reg Try.f37 12) false) (Code.exit 0)))) (Code.region 13 (reg Try.f37 13) false))) (Code.region 14 (reg Try.f37 14) false))) (Code.seq (Code.region 15 (reg Try.f37 15) true) (Code.exit 0))))) (Code.seq (Code.region 16 (reg Try.f37 16) false) Code.ret))))
theorem zq.body : Try.f37.body = some zq.code := by kernel_rfl
variable (U P V Q W X Y Z x8 x9 b d f g i j k l m N n o p q r s t u v w x y z A B C D E F G H I J K L M : Value) (S : zh)
theorem zq.r0  : jd Try.prog ⟨false, false, false⟩ (zM Try.prog O) (reg Try.f37 0) (reg Try.f37 0).toList ([U,P,V,Q,W,X,Y,Z,x8,x9,b,d,f,g,i,j,k,l,m,N,n,o,p,q,r,s,t,u,v,w,x,y,z,A,B,C,D,E,F,G,H,I,J,K,L,M]) S =
  (zA (J7 (dem U) S) (fun c R => zA (wG Try.prog 30 R) (fun v1 S2 => some ([U,c,v1,Q,W,X,Y,Z,x8,x9,b,d,f,g,i,j,k,l,m,N,n,o,p,q,r,s,t,u,v,w,x,y,z,A,B,C,D,E,F,G,H,I,J,K,L,M], S2)) ()) ()) := by
 kernel_rfl
theorem zq.r1  : jd Try.prog ⟨false, false, false⟩ (zM Try.prog O) (reg Try.f37 1) (reg Try.f37 1).toList ([U,P,V,Q,W,X,Y,Z,x8,x9,b,d,f,g,i,j,k,l,m,N,n,o,p,q,r,s,t,u,v,w,x,y,z,A,B,C,D,E,F,G,H,I,J,K,L,M]) S =
  (zA (zo Try.prog 30 P 0 S) (fun c R => zA (zO Try.prog false 3 c R) (fun v1 S2 => zA (zo Try.prog 30 P 1 S2) (fun v2 S3 => zA (zO Try.prog false 3 v2 S3) (fun v3 S4 => zA (yg Try.prog 30 [(0, (dem v1)), (1, (dem v3))] S4) (fun v4 S5 => zA (wG Try.prog 30 S5) (fun v5 S6 => zA (jO Try.prog 30 v5 (dem v4) S6) (fun v6 S7 => some ([U,P,V,v5,c,v1,v2,v3,v4,x9,b,d,f,g,i,j,k,l,m,N,n,o,p,q,r,s,t,u,v,w,x,y,z,A,B,C,D,E,F,G,H,I,J,K,L,M], S7)) ()) ()) ()) ()) ()) ()) ()) := by
 kernel_rfl
theorem zq.r2  : jd Try.prog ⟨false, false, false⟩ (zM Try.prog O) (reg Try.f37 2) (reg Try.f37 2).toList ([U,P,V,Q,W,X,Y,Z,x8,x9,b,d,f,g,i,j,k,l,m,N,n,o,p,q,r,s,t,u,v,w,x,y,z,A,B,C,D,E,F,G,H,I,J,K,L,M]) S =
  (zA (zo Try.prog 30 P 0 S) (fun c R => zA (zO Try.prog false 3 c R) (fun v1 S2 => some ([U,P,V,Q,W,X,Y,Z,x8,c,v1,d,f,g,i,j,k,l,m,N,n,o,p,q,r,s,t,u,v,w,x,y,z,A,B,C,D,E,F,G,H,I,J,K,L,M], S2)) ()) ()) := by
 kernel_rfl
theorem zq.r3  : jd Try.prog ⟨false, false, false⟩ (zM Try.prog O) (reg Try.f37 3) (reg Try.f37 3).toList ([U,P,V,Q,W,X,Y,Z,x8,x9,b,d,f,g,i,j,k,l,m,N,n,o,p,q,r,s,t,u,v,w,x,y,z,A,B,C,D,E,F,G,H,I,J,K,L,M]) S =
  (zA (jZ Try.prog BinOp.eql 3 b (Value.int IntKind.i64 0) S) (fun c R => some ([U,P,V,Q,W,X,Y,Z,x8,x9,b,c,dem c,g,i,j,k,l,m,N,n,o,p,q,r,s,t,u,v,w,x,y,z,A,B,C,D,E,F,G,H,I,J,K,L,M], R)) ()) := by
 kernel_rfl
theorem zq.r4  : jd Try.prog ⟨false, false, false⟩ (zM Try.prog O) (reg Try.f37 4) (reg Try.f37 4).toList ([U,P,V,Q,W,X,Y,Z,x8,x9,b,d,f,g,i,j,k,l,m,N,n,o,p,q,r,s,t,u,v,w,x,y,z,A,B,C,D,E,F,G,H,I,J,K,L,M]) S =
  (zA (jZ Try.prog BinOp.eql 3 b (Value.int IntKind.i64 1) S) (fun c R => some ([U,P,V,Q,W,X,Y,Z,x8,x9,b,d,f,c,dem c,j,k,l,m,N,n,o,p,q,r,s,t,u,v,w,x,y,z,A,B,C,D,E,F,G,H,I,J,K,L,M], R)) ()) := by
 kernel_rfl
theorem zq.r5  : jd Try.prog ⟨false, false, false⟩ (zM Try.prog O) (reg Try.f37 5) (reg Try.f37 5).toList ([U,P,V,Q,W,X,Y,Z,x8,x9,b,d,f,g,i,j,k,l,m,N,n,o,p,q,r,s,t,u,v,w,x,y,z,A,B,C,D,E,F,G,H,I,J,K,L,M]) S =
  (zA (jZ Try.prog BinOp.eql 3 b (Value.int IntKind.i64 2) S) (fun c R => some ([U,P,V,Q,W,X,Y,Z,x8,x9,b,d,f,g,i,c,dem c,l,m,N,n,o,p,q,r,s,t,u,v,w,x,y,z,A,B,C,D,E,F,G,H,I,J,K,L,M], R)) ()) := by
 kernel_rfl
theorem zq.r6  : jd Try.prog ⟨false, false, false⟩ (zM Try.prog O) (reg Try.f37 6) (reg Try.f37 6).toList ([U,P,V,Q,W,X,Y,Z,x8,x9,b,d,f,g,i,j,k,l,m,N,n,o,p,q,r,s,t,u,v,w,x,y,z,A,B,C,D,E,F,G,H,I,J,K,L,M]) S =
  (zA (jZ Try.prog BinOp.eql 3 b (Value.int IntKind.i64 3) S) (fun c R => some ([U,P,V,Q,W,X,Y,Z,x8,x9,b,d,f,g,i,j,k,c,dem c,N,n,o,p,q,r,s,t,u,v,w,x,y,z,A,B,C,D,E,F,G,H,I,J,K,L,M], R)) ()) := by
 kernel_rfl
theorem zq.r7  : jd Try.prog ⟨false, false, false⟩ (zM Try.prog O) (reg Try.f37 7) (reg Try.f37 7).toList ([U,P,V,Q,W,X,Y,Z,x8,x9,b,d,f,g,i,j,k,l,m,N,n,o,p,q,r,s,t,u,v,w,x,y,z,A,B,C,D,E,F,G,H,I,J,K,L,M]) S =
  (zA (jZ Try.prog BinOp.eql 3 b (Value.int IntKind.i64 4) S) (fun c R => some ([U,P,V,Q,W,X,Y,Z,x8,x9,b,d,f,g,i,j,k,l,m,c,dem c,o,p,q,r,s,t,u,v,w,x,y,z,A,B,C,D,E,F,G,H,I,J,K,L,M], R)) ()) := by
 kernel_rfl
theorem zq.r8  : jd Try.prog ⟨false, false, false⟩ (zM Try.prog O) (reg Try.f37 8) (reg Try.f37 8).toList ([U,P,V,Q,W,X,Y,Z,x8,x9,b,d,f,g,i,j,k,l,m,N,n,o,p,q,r,s,t,u,v,w,x,y,z,A,B,C,D,E,F,G,H,I,J,K,L,M]) S =
  (zA (jZ Try.prog BinOp.eql 3 b (Value.int IntKind.i64 5) S) (fun c R => some ([U,P,V,Q,W,X,Y,Z,x8,x9,b,d,f,g,i,j,k,l,m,c,n,dem c,p,q,r,s,t,u,v,w,x,y,z,A,B,C,D,E,F,G,H,I,J,K,L,M], R)) ()) := by
 kernel_rfl
theorem zq.r9  : jd Try.prog ⟨false, false, false⟩ (zM Try.prog O) (reg Try.f37 9) (reg Try.f37 9).toList ([U,P,V,Q,W,X,Y,Z,x8,x9,b,d,f,g,i,j,k,l,m,N,n,o,p,q,r,s,t,u,v,w,x,y,z,A,B,C,D,E,F,G,H,I,J,K,L,M]) S =
  (zA (jZ Try.prog BinOp.eql 3 b (Value.int IntKind.i64 6) S) (fun c R => some ([U,P,V,Q,W,X,Y,Z,x8,x9,b,d,f,g,i,j,k,l,m,N,n,o,c,dem c,r,s,t,u,v,w,x,y,z,A,B,C,D,E,F,G,H,I,J,K,L,M], R)) ()) := by
 kernel_rfl
theorem zq.r10  : jd Try.prog ⟨false, false, false⟩ (zM Try.prog O) (reg Try.f37 10) (reg Try.f37 10).toList ([U,P,V,Q,W,X,Y,Z,x8,x9,b,d,f,g,i,j,k,l,m,N,n,o,p,q,r,s,t,u,v,w,x,y,z,A,B,C,D,E,F,G,H,I,J,K,L,M]) S =
  (zA (zo Try.prog 30 P 6 S) (fun c R => zA (zO Try.prog false 25 c R) (fun v1 S2 => zA (zo Try.prog 30 Q 6 S2) (fun v2 S3 => zA (jO Try.prog 25 v2 (dem v1) S3) (fun v3 S4 => some ([U,P,V,Q,W,X,Y,Z,x8,x9,b,d,f,g,i,j,k,l,m,N,n,o,p,q,c,v1,v2,u,v,w,x,y,z,A,B,C,D,E,F,G,H,I,J,K,L,M], S4)) ()) ()) ()) ()) := by
 kernel_rfl
theorem zq.r11  : jd Try.prog ⟨false, false, false⟩ (zM Try.prog O) (reg Try.f37 11) (reg Try.f37 11).toList ([U,P,V,Q,W,X,Y,Z,x8,x9,b,d,f,g,i,j,k,l,m,N,n,o,p,q,r,s,t,u,v,w,x,y,z,A,B,C,D,E,F,G,H,I,J,K,L,M]) S =
  (zA (zo Try.prog 30 P 7 S) (fun c R => zA (zO Try.prog false 28 c R) (fun v1 S2 => zA (zo Try.prog 30 Q 7 S2) (fun v2 S3 => zA (jO Try.prog 28 v2 (dem v1) S3) (fun v3 S4 => some ([U,P,V,Q,W,X,Y,Z,x8,x9,b,d,f,g,i,j,k,l,m,N,n,o,p,q,r,s,t,c,v1,v2,x,y,z,A,B,C,D,E,F,G,H,I,J,K,L,M], S4)) ()) ()) ()) ()) := by
 kernel_rfl
theorem zq.r12  : jd Try.prog ⟨false, false, false⟩ (zM Try.prog O) (reg Try.f37 12) (reg Try.f37 12).toList ([U,P,V,Q,W,X,Y,Z,x8,x9,b,d,f,g,i,j,k,l,m,N,n,o,p,q,r,s,t,u,v,w,x,y,z,A,B,C,D,E,F,G,H,I,J,K,L,M]) S =
  (zA (zo Try.prog 30 P 4 S) (fun c R => zA (zO Try.prog false 3 c R) (fun v1 S2 => zA (zo Try.prog 30 Q 4 S2) (fun v2 S3 => zA (jO Try.prog 3 v2 (dem v1) S3) (fun v3 S4 => some ([U,P,V,Q,W,X,Y,Z,x8,x9,b,d,f,g,i,j,k,l,m,N,n,o,p,q,r,s,t,u,v,w,c,v1,v2,A,B,C,D,E,F,G,H,I,J,K,L,M], S4)) ()) ()) ()) ()) := by
 kernel_rfl
theorem zq.r13  : jd Try.prog ⟨false, false, false⟩ (zM Try.prog O) (reg Try.f37 13) (reg Try.f37 13).toList ([U,P,V,Q,W,X,Y,Z,x8,x9,b,d,f,g,i,j,k,l,m,N,n,o,p,q,r,s,t,u,v,w,x,y,z,A,B,C,D,E,F,G,H,I,J,K,L,M]) S =
  (zA (zo Try.prog 30 P 5 S) (fun c R => zA (zO Try.prog false 3 c R) (fun v1 S2 => zA (zo Try.prog 30 Q 5 S2) (fun v2 S3 => zA (jO Try.prog 3 v2 (dem v1) S3) (fun v3 S4 => some ([U,P,V,Q,W,X,Y,Z,x8,x9,b,d,f,g,i,j,k,l,m,N,n,o,p,q,r,s,t,u,v,w,x,y,z,c,v1,v2,D,E,F,G,H,I,J,K,L,M], S4)) ()) ()) ()) ()) := by
 kernel_rfl
theorem zq.r14  : jd Try.prog ⟨false, false, false⟩ (zM Try.prog O) (reg Try.f37 14) (reg Try.f37 14).toList ([U,P,V,Q,W,X,Y,Z,x8,x9,b,d,f,g,i,j,k,l,m,N,n,o,p,q,r,s,t,u,v,w,x,y,z,A,B,C,D,E,F,G,H,I,J,K,L,M]) S =
  (zA (zo Try.prog 30 P 3 S) (fun c R => zA (zO Try.prog false 3 c R) (fun v1 S2 => zA (zo Try.prog 30 Q 3 S2) (fun v2 S3 => zA (jO Try.prog 3 v2 (dem v1) S3) (fun v3 S4 => some ([U,P,V,Q,W,X,Y,Z,x8,x9,b,d,f,g,i,j,k,l,m,N,n,o,p,q,r,s,t,u,v,w,x,y,z,A,B,C,c,v1,v2,G,H,I,J,K,L,M], S4)) ()) ()) ()) ()) := by
 kernel_rfl
theorem zq.d15 : ku Try.prog (reg Try.f37 15) = true := by kernel_rfl
theorem zq.ajd : fixed Try.prog (reg Try.f37 15) = false := by kernel_rfl
theorem zq.k15 : checked Try.prog (reg Try.f37 15) = [2, 3] := by kernel_rfl
theorem zq.g15 : again Try.prog (reg Try.f37 15) = [(3, 5)] := by kernel_rfl
theorem zq.r15  : zu Try.prog O false (.region 15 (reg Try.f37 15) true) ([U,P,V,Q,W,X,Y,Z,x8,x9,b,d,f,g,i,j,k,l,m,N,n,o,p,q,r,s,t,u,v,w,x,y,z,A,B,C,D,E,F,G,H,I,J,K,L,M]) S =
  WL (zA (zo Try.prog 30 P 2 S) (fun c R => zA (zO Try.prog false 3 c R) (fun v1 S2 => zA (zo Try.prog 30 P 4 S2) (fun v2 S3 => okK v2 ( zA (zO Try.prog false 3 v2 S3) (fun v3 S4 => okK v3 ( zA (zo Try.prog 30 Q 2 S4) (fun v4 S5 => zA (jO Try.prog 3 v4 (dem v1) S5) (fun v5 S6 => zA (zo Try.prog 30 Q 4 S6) (fun v6 S7 => zA (jO Try.prog 3 v6 (dem v3) S7) (fun v7 S8 => ckK (qm v2 S3 S6 && (true)) (some ([U,P,V,Q,W,X,Y,Z,x8,x9,b,d,f,g,i,j,k,l,m,N,n,o,p,q,r,s,t,u,v,w,x,y,z,A,B,C,D,E,F,c,v1,v2,v3,v4,v6,M], S8)) ()) ()) ()) ()) ()) ()) ()) ()) ()) ()) ()) := by
 rw [yQ zq.d15 zq.ajd zq.k15 zq.g15]
 refine congrArg WL ?_
 refine uD Try.f37 15 0 (pe := undef) (fun c R => ?_)
 refine uD Try.f37 15 1 (pe := c) (fun v1 S2 => ?_)
 refine uDC Try.f37 15 2 (pe := undef) (fun v2 S3 => ?_)
 refine uDC Try.f37 15 3 (pe := v2) (fun v3 S4 => ?_)
 refine uD Try.f37 15 4 (pe := undef) (fun v4 S5 => ?_)
 refine uD Try.f37 15 5 (pe := undef) (fun v5 S6 => ?_)
 refine uD Try.f37 15 6 (pe := undef) (fun v6 S7 => ?_)
 refine uD Try.f37 15 7 (pe := undef) (fun v7 S8 => ?_)
 kernel_rfl
theorem zq.r16  : jd Try.prog ⟨false, false, false⟩ (zM Try.prog O) (reg Try.f37 16) (reg Try.f37 16).toList ([U,P,V,Q,W,X,Y,Z,x8,x9,b,d,f,g,i,j,k,l,m,N,n,o,p,q,r,s,t,u,v,w,x,y,z,A,B,C,D,E,F,G,H,I,J,K,L,M]) S =
  (zA (zO Try.prog false 30 Q S) (fun c R => zA (jO Try.prog 30 V (dem c) R) (fun v1 S2 => some ([U,P,V,Q,W,X,Y,Z,x8,x9,b,d,f,g,i,j,k,l,m,N,n,o,p,q,r,s,t,u,v,w,x,y,z,A,B,C,D,E,F,G,H,I,J,K,L,c], S2)) ()) ()) := by
 kernel_rfl
theorem zq.rs : type_of% (And.intro @zq.r0 (And.intro @zq.r1 (And.intro @zq.r2 (And.intro @zq.r3 (And.intro @zq.r4 (And.intro @zq.r5 (And.intro @zq.r6 (And.intro @zq.r7 (And.intro @zq.r8 (And.intro @zq.r9 (And.intro @zq.r10 (And.intro @zq.r11 (And.intro @zq.r12 (And.intro @zq.r13 (And.intro @zq.r14 (And.intro @zq.r15 (@zq.r16))))))))))))))))) := And.intro @zq.r0 (And.intro @zq.r1 (And.intro @zq.r2 (And.intro @zq.r3 (And.intro @zq.r4 (And.intro @zq.r5 (And.intro @zq.r6 (And.intro @zq.r7 (And.intro @zq.r8 (And.intro @zq.r9 (And.intro @zq.r10 (And.intro @zq.r11 (And.intro @zq.r12 (And.intro @zq.r13 (And.intro @zq.r14 (And.intro @zq.r15 (@zq.r16))))))))))))))))
theorem zq.runs {U : Value} {S R : zh} {e : AEx} {T : List Value} (h : zu Try.prog O false zq.code ([U,undef,undef,undef,undef,undef,undef,undef,undef,undef,undef,undef,undef,undef,undef,undef,undef,undef,undef,undef,undef,undef,undef,undef,undef,undef,undef,undef,undef,undef,undef,undef,undef,undef,undef,undef,undef,undef,undef,undef,undef,undef,undef,undef,undef,undef]) zh.empty = some (e, T, R)) (he : e = .normal ∨ e = .ret) {w0 : Value} (c0 : zO Try.prog false 30 (T.getD 2 undef) R = some (w0, R)) (hca : [U].all (jf 16) = true) (hcv : jf 16 (w0) = true) : zM Try.prog O 37 [U] S = some (w0, S) :=
 wR rfl rfl Try.func37 (by decide) zq.body (by exact h) he (yD (a := w0) ((show zC Try.prog T R Try.f37.results.toList = zC Try.prog T R [(ResultVar.cell 2 30)] from by kernel_rfl).trans (by simp only [zC, c0])) (by kernel_rfl)) hca hcv
end Go.Proofs.Ytbgcphbbchndkaa
namespace Go.Proofs.Ytbgcphbbchndkaa
open Go.Abs
abbrev jk.id : FuncId := 15
noncomputable def jk.code : Code := (Code.seq (Code.region 0 (reg Try.f15 0) false) (Code.seq (Code.region 1 (reg Try.f15 1) false) (Code.seq (Code.region 2 (reg Try.f15 2) false) Code.ret)))
theorem jk.body : Try.f15.body = some jk.code := by kernel_rfl
variable (o p l m x4 g x6 x7 x8 x9 z A B C D E F G H I J K L M N P Q R U V W X Y Z a0 a1 a2 a3 a4 a5 a6 a7 a8 a9 b0 b1 b2 b3 b4 b5 b6 b7 b8 b9 c0 c1 c2 c3 c4 c5 c6 : Value) (S : zh)
theorem jk.r0  : jd Try.prog ⟨false, false, false⟩ (zM Try.prog O) (reg Try.f15 0) (reg Try.f15 0).toList ([o,p,l,m,x4,g,x6,x7,x8,x9,z,A,B,C,D,E,F,G,H,I,J,K,L,M,N,P,Q,R,U,V,W,X,Y,Z,a0,a1,a2,a3,a4,a5,a6,a7,a8,a9,b0,b1,b2,b3,b4,b5,b6,b7,b8,b9,c0,c1,c2,c3,c4,c5,c6]) S =
  (zA (J7 (dem o) S) (fun v0 q => zA (J7 (dem p) q) (fun v1 S2 => some ([o,p,v0,v1,Value.bool false,g,x6,x7,x8,x9,z,A,B,C,D,E,F,G,H,I,J,K,L,M,N,P,Q,R,U,V,W,X,Y,Z,a0,a1,a2,a3,a4,a5,a6,a7,a8,a9,b0,b1,b2,b3,b4,b5,b6,b7,b8,b9,c0,c1,c2,c3,c4,c5,c6], S2)) ()) ()) := by
 kernel_rfl
theorem jk.r1  : jd Try.prog ⟨false, false, false⟩ (zM Try.prog O) (reg Try.f15 1) (reg Try.f15 1).toList ([o,p,l,m,x4,g,x6,x7,x8,x9,z,A,B,C,D,E,F,G,H,I,J,K,L,M,N,P,Q,R,U,V,W,X,Y,Z,a0,a1,a2,a3,a4,a5,a6,a7,a8,a9,b0,b1,b2,b3,b4,b5,b6,b7,b8,b9,c0,c1,c2,c3,c4,c5,c6]) S =
  (zA (zo Try.prog 30 l 0 S) (fun v0 q => zA (zO Try.prog false 3 v0 q) (fun v1 S2 => zA (zo Try.prog 30 m 0 S2) (fun v2 S3 => zA (zO Try.prog false 3 v2 S3) (fun v3 S4 => zA (jZ Try.prog BinOp.eql 3 v1 v3 S4) (fun i S5 => gdK (dem i) true (zo Try.prog 30 l 1) S5 (fun v6 S6 => gdK (dem i) true (zO Try.prog false 3 v6) S6 (fun k S7 => gdK (dem i) true (zo Try.prog 30 m 1) S7 (fun v8 S8 => gdK (dem i) true (zO Try.prog false 3 v8) S8 (fun v9 S9 => gdK (dem i) true (jZ Try.prog BinOp.eql 3 k v9) S9 (fun r c7 => zA (wY (dem i) r (Value.bool false) c7) (fun b c8 => gdK (dem b) true (zo Try.prog 30 l 2) c8 (fun s c9 => gdK (dem b) true (zO Try.prog false 3 s) c9 (fun c d0 => gdK (dem b) true (zo Try.prog 30 m 2) d0 (fun f2 d1 => gdK (dem b) true (zO Try.prog false 3 f2) d1 (fun t d2 => gdK (dem b) true (jZ Try.prog BinOp.eql 3 c t) d2 (fun u d3 => zA (wY (dem b) u (Value.bool false) d3) (fun d d4 => gdK (dem d) true (zo Try.prog 30 l 3) d4 (fun w d5 => gdK (dem d) true (zO Try.prog false 3 w) d5 (fun f d6 => gdK (dem d) true (zo Try.prog 30 m 3) d6 (fun f3 d7 => gdK (dem d) true (zO Try.prog false 3 f3) d7 (fun x d8 => gdK (dem d) true (jZ Try.prog BinOp.eql 3 f x) d8 (fun y d9 => zA (wY (dem d) y (Value.bool false) d9) (fun n f0 => some ([o,p,l,m,x4,n,v0,v1,v2,v3,i,dem i,v6,k,v8,v9,r,b,dem b,s,c,f2,t,u,d,dem d,w,f,f3,x,y,dem n,Y,Z,a0,a1,a2,a3,a4,a5,a6,a7,a8,a9,b0,b1,b2,b3,b4,b5,b6,b7,b8,b9,c0,c1,c2,c3,c4,c5,c6], f0)) ()) ()) ()) ()) ()) ()) ()) ()) ()) ()) ()) ()) ()) ()) ()) ()) ()) ()) ()) ()) ()) ()) ()) := by
 refine sD Try.f15 1 0 (fun v0 q => ?_)
 refine sD Try.f15 1 1 (fun v1 S2 => ?_)
 refine sD Try.f15 1 2 (fun v2 S3 => ?_)
 refine sD Try.f15 1 3 (fun v3 S4 => ?_)
 refine sD Try.f15 1 4 (fun i S5 => ?_)
 refine sP Try.f15 1 5 (v := i) ?_
 refine sG Try.f15 1 6 (j := 5) (fun v6 S6 => ?_)
 refine sG Try.f15 1 7 (j := 5) (fun k S7 => ?_)
 refine sG Try.f15 1 8 (j := 5) (fun v8 S8 => ?_)
 refine sG Try.f15 1 9 (j := 5) (fun v9 S9 => ?_)
 refine sG Try.f15 1 10 (j := 5) (fun r c7 => ?_)
 refine sD Try.f15 1 11 (fun b c8 => ?_)
 refine sP Try.f15 1 12 (v := b) ?_
 refine sG Try.f15 1 13 (j := 12) (fun s c9 => ?_)
 refine sG Try.f15 1 14 (j := 12) (fun c d0 => ?_)
 refine sG Try.f15 1 15 (j := 12) (fun f2 d1 => ?_)
 refine sG Try.f15 1 16 (j := 12) (fun t d2 => ?_)
 refine sG Try.f15 1 17 (j := 12) (fun u d3 => ?_)
 refine sD Try.f15 1 18 (fun d d4 => ?_)
 refine sP Try.f15 1 19 (v := d) ?_
 refine sG Try.f15 1 20 (j := 19) (fun w d5 => ?_)
 refine sG Try.f15 1 21 (j := 19) (fun f d6 => ?_)
 refine sG Try.f15 1 22 (j := 19) (fun f3 d7 => ?_)
 refine sG Try.f15 1 23 (j := 19) (fun x d8 => ?_)
 refine sG Try.f15 1 24 (j := 19) (fun y d9 => ?_)
 refine sD Try.f15 1 25 (fun n f0 => ?_)
 refine sP Try.f15 1 26 (v := n) ?_
 kernel_rfl
theorem jk.r2  : jd Try.prog ⟨false, false, false⟩ (zM Try.prog O) (reg Try.f15 2) (reg Try.f15 2).toList ([o,p,l,m,x4,g,x6,x7,x8,x9,z,A,B,C,D,E,F,G,H,I,J,K,L,M,N,P,Q,R,U,V,W,X,Y,Z,a0,a1,a2,a3,a4,a5,a6,a7,a8,a9,b0,b1,b2,b3,b4,b5,b6,b7,b8,b9,c0,c1,c2,c3,c4,c5,c6]) S =
  (gdK (dem g) true (zo Try.prog 30 l 4) S (fun v2 q => gdK (dem g) true (zO Try.prog false 3 v2) q (fun v3 S2 => gdK (dem g) true (zo Try.prog 30 m 4) S2 (fun i S3 => gdK (dem g) true (zO Try.prog false 3 i) S3 (fun v5 S4 => gdK (dem g) true (jZ Try.prog BinOp.eql 3 v3 v5) S4 (fun v6 S5 => zA (wY (dem g) v6 (Value.bool false) S5) (fun k S6 => gdK (dem k) true (zo Try.prog 30 l 5) S6 (fun v9 S7 => gdK (dem k) true (zO Try.prog false 3 v9) S7 (fun r S8 => gdK (dem k) true (zo Try.prog 30 m 5) S8 (fun b S9 => gdK (dem k) true (zO Try.prog false 3 b) S9 (fun f4 c7 => gdK (dem k) true (jZ Try.prog BinOp.eql 3 r f4) c7 (fun s c8 => zA (wY (dem k) s (Value.bool false) c8) (fun c c9 => gdK (dem c) true (zo Try.prog 30 l 6) c9 (fun t d0 => gdK (dem c) true (zO Try.prog false 25 t) d0 (fun u d1 => gdK (dem c) true (zo Try.prog 30 m 6) d1 (fun d d2 => gdK (dem c) true (zO Try.prog false 25 d) d2 (fun f5 d3 => gdK (dem c) true (jZ Try.prog BinOp.eql 25 u f5) d3 (fun w d4 => zA (wY (dem c) w (Value.bool false) d4) (fun f d5 => gdK (dem f) true (zo Try.prog 30 l 7) d5 (fun x d6 => gdK (dem f) true (zO Try.prog false 28 x) d6 (fun y d7 => gdK (dem f) true (zo Try.prog 30 m 7) d7 (fun n d8 => gdK (dem f) true (zO Try.prog false 28 n) d8 (fun f6 d9 => gdK (dem f) true ((zM Try.prog O) 41 [(dem y), (dem f6)]) d9 (fun f7 f0 => zA (wY (dem f) f7 (Value.bool false) f0) (fun f1 f8 => some ([o,p,l,m,f1,dem g,x6,x7,x8,x9,z,A,B,C,D,E,F,G,H,I,J,K,L,M,N,P,Q,R,U,V,W,X,g,dem g,v2,v3,i,v5,v6,k,dem k,v9,r,b,f4,s,c,dem c,t,u,d,f5,w,f,dem f,x,y,n,f6,f7,dem f1], f8)) ()) ()) ()) ()) ()) ()) ()) ()) ()) ()) ()) ()) ()) ()) ()) ()) ()) ()) ()) ()) ()) ()) ()) ()) := by
 refine sP Try.f15 2 0 (v := g) ?_
 refine sP Try.f15 2 1 (v := g) ?_
 refine sG Try.f15 2 2 (j := 1) (fun v2 q => ?_)
 refine sG Try.f15 2 3 (j := 1) (fun v3 S2 => ?_)
 refine sG Try.f15 2 4 (j := 1) (fun i S3 => ?_)
 refine sG Try.f15 2 5 (j := 1) (fun v5 S4 => ?_)
 refine sG Try.f15 2 6 (j := 1) (fun v6 S5 => ?_)
 refine sD Try.f15 2 7 (fun k S6 => ?_)
 refine sP Try.f15 2 8 (v := k) ?_
 refine sG Try.f15 2 9 (j := 8) (fun v9 S7 => ?_)
 refine sG Try.f15 2 10 (j := 8) (fun r S8 => ?_)
 refine sG Try.f15 2 11 (j := 8) (fun b S9 => ?_)
 refine sG Try.f15 2 12 (j := 8) (fun f4 c7 => ?_)
 refine sG Try.f15 2 13 (j := 8) (fun s c8 => ?_)
 refine sD Try.f15 2 14 (fun c c9 => ?_)
 refine sP Try.f15 2 15 (v := c) ?_
 refine sG Try.f15 2 16 (j := 15) (fun t d0 => ?_)
 refine sG Try.f15 2 17 (j := 15) (fun u d1 => ?_)
 refine sG Try.f15 2 18 (j := 15) (fun d d2 => ?_)
 refine sG Try.f15 2 19 (j := 15) (fun f5 d3 => ?_)
 refine sG Try.f15 2 20 (j := 15) (fun w d4 => ?_)
 refine sD Try.f15 2 21 (fun f d5 => ?_)
 refine sP Try.f15 2 22 (v := f) ?_
 refine sG Try.f15 2 23 (j := 22) (fun x d6 => ?_)
 refine sG Try.f15 2 24 (j := 22) (fun y d7 => ?_)
 refine sG Try.f15 2 25 (j := 22) (fun n d8 => ?_)
 refine sG Try.f15 2 26 (j := 22) (fun f6 d9 => ?_)
 refine sG Try.f15 2 27 (j := 22) (fun f7 f0 => ?_)
 refine sD Try.f15 2 28 (fun f1 f8 => ?_)
 refine sP Try.f15 2 29 (v := f1) ?_
 kernel_rfl
theorem jk.rs : type_of% (And.intro @jk.r0 (And.intro @jk.r1 (@jk.r2))) := And.intro @jk.r0 (And.intro @jk.r1 (@jk.r2))
theorem jk.runs {o p : Value} {S q : zh} {e : AEx} {T : List Value} (h : zu Try.prog O false jk.code ([o,p,undef,undef,undef,undef,undef,undef,undef,undef,undef,undef,undef,undef,undef,undef,undef,undef,undef,undef,undef,undef,undef,undef,undef,undef,undef,undef,undef,undef,undef,undef,undef,undef,undef,undef,undef,undef,undef,undef,undef,undef,undef,undef,undef,undef,undef,undef,undef,undef,undef,undef,undef,undef,undef,undef,undef,undef,undef,undef,undef]) zh.empty = some (e, T, q)) (he : e = .normal ∨ e = .ret) (hca : [o, p].all (jf 16) = true) (hcv : jf 16 (T.getD 4 undef) = true) : zM Try.prog O 15 [o, p] S = some (T.getD 4 undef, S) :=
 wR rfl rfl Try.func15 (by decide) jk.body (by exact h) he (yD (a := T.getD 4 undef) ((show zC Try.prog T q Try.f15.results.toList = zC Try.prog T q [(ResultVar.tmp 4)] from by kernel_rfl).trans (by simp only [zC])) (by kernel_rfl)) hca hcv
end Go.Proofs.Ytbgcphbbchndkaa
namespace Go.Proofs.Ytbgcphbbchndkaa
open Go.Abs
abbrev zV.id : FuncId := 40
noncomputable def zV.code : Code := (Code.seq (Code.region 0 (reg Try.f40 0) false) (Code.seq (Code.region 1 (reg Try.f40 1) false) (Code.seq (Code.region 2 (reg Try.f40 2) false) Code.ret)))
theorem zV.body : Try.f40.body = some zV.code := by kernel_rfl
variable (c f x2 L M N P Q R U k l m n o p q r s t u w x y z A B C D : Value) (S : zh)
theorem zV.r0  : jd Try.prog ⟨false, false, false⟩ (zM Try.prog O) (reg Try.f40 0) (reg Try.f40 0).toList ([c,f,x2,L,M,N,P,Q,R,U,k,l,m,n,o,p,q,r,s,t,u,w,x,y,z,A,B,C,D]) S =
  (zA (J7 (dem c) S) (fun i d => some ([c,i,Value.bool false,L,M,N,P,Q,R,U,k,l,m,n,o,p,q,r,s,t,u,w,x,y,z,A,B,C,D], d)) ()) := by
 kernel_rfl
theorem zV.r1  : jd Try.prog ⟨false, false, false⟩ (zM Try.prog O) (reg Try.f40 1) (reg Try.f40 1).toList ([c,f,x2,L,M,N,P,Q,R,U,k,l,m,n,o,p,q,r,s,t,u,w,x,y,z,A,B,C,D]) S =
  (zA (zo Try.prog 30 f 0 S) (fun i d => zA (zO Try.prog false 3 i d) (fun G V => zA (jZ Try.prog BinOp.eql 3 G (Value.int IntKind.i64 4) V) (fun b W => gdK (dem b) false (zo Try.prog 30 f 0) W (fun H X => gdK (dem b) false (zO Try.prog false 3 H) X (fun I Y => gdK (dem b) false (jZ Try.prog BinOp.eql 3 I (Value.int IntKind.i64 5)) Y (fun J Z => zA (wY (dem b) (Value.bool true) J Z) (fun E S7 => some ([c,f,x2,E,i,G,b,dem b,H,I,J,dem E,m,n,o,p,q,r,s,t,u,w,x,y,z,A,B,C,D], S7)) ()) ()) ()) ()) ()) ()) ()) := by
 refine sD Try.f40 1 0 (fun i d => ?_)
 refine sD Try.f40 1 1 (fun G V => ?_)
 refine sD Try.f40 1 2 (fun b W => ?_)
 refine sP Try.f40 1 3 (v := b) ?_
 refine sG Try.f40 1 4 (j := 3) (fun H X => ?_)
 refine sG Try.f40 1 5 (j := 3) (fun I Y => ?_)
 refine sG Try.f40 1 6 (j := 3) (fun J Z => ?_)
 refine sD Try.f40 1 7 (fun E S7 => ?_)
 refine sP Try.f40 1 8 (v := E) ?_
 kernel_rfl
theorem zV.r2  : jd Try.prog ⟨false, false, false⟩ (zM Try.prog O) (reg Try.f40 2) (reg Try.f40 2).toList ([c,f,x2,L,M,N,P,Q,R,U,k,l,m,n,o,p,q,r,s,t,u,w,x,y,z,A,B,C,D]) S =
  (zA (zo Try.prog 30 f 4 S) (fun i d => zA (zO Try.prog false 3 i d) (fun G V => zA (jZ Try.prog BinOp.eql 3 G (Value.int IntKind.i64 0) V) (fun b W => gdK (dem b) false (zo Try.prog 30 f 4) W (fun H X => gdK (dem b) false (zO Try.prog false 3 H) X (fun I Y => gdK (dem b) false ((zM Try.prog O) 59 [(dem I)]) Y (fun J Z => gdK (dem b) false (jZ Try.prog BinOp.gtr 3 J (Value.int IntKind.i64 0)) Z (fun E S7 => zA (wY (dem b) (Value.bool true) E S7) (fun F S8 => gdK (dem F) false (ret L) S8 (fun a0 S9 => gdK (dem F) false (ret a0) S9 (fun g a5 => gdK (dem g) true (zo Try.prog 30 f 4) a5 (fun a1 a6 => gdK (dem g) true (zO Try.prog false 3 a1) a6 (fun a2 a7 => gdK (dem g) true (jZ Try.prog BinOp.eql 3 a2 (Value.int IntKind.i64 (-1))) a7 (fun a3 a8 => gdK (dem F) false (wY (dem g) a3 (Value.bool false)) a8 (fun a4 a9 => zA (wY (dem F) (Value.bool true) a4 a9) (fun K b0 => some ([c,f,K,dem L,M,N,P,Q,R,U,k,l,i,G,b,dem b,H,I,J,E,F,dem F,a0,dem g,a1,a2,a3,a4,dem K], b0)) ()) ()) ()) ()) ()) ()) ()) ()) ()) ()) ()) ()) ()) ()) ()) := by
 refine sD Try.f40 2 0 (fun i d => ?_)
 refine sD Try.f40 2 1 (fun G V => ?_)
 refine sD Try.f40 2 2 (fun b W => ?_)
 refine sP Try.f40 2 3 (v := b) ?_
 refine sG Try.f40 2 4 (j := 3) (fun H X => ?_)
 refine sG Try.f40 2 5 (j := 3) (fun I Y => ?_)
 refine sG Try.f40 2 6 (j := 3) (fun J Z => ?_)
 refine sG Try.f40 2 7 (j := 3) (fun E S7 => ?_)
 refine sD Try.f40 2 8 (fun F S8 => ?_)
 refine sP Try.f40 2 9 (v := F) ?_
 refine sG Try.f40 2 10 (j := 9) (fun a0 S9 => ?_)
 refine sG Try.f40 2 11 (j := 9) (fun g a5 => ?_)
 refine sG Try.f40 2 12 (j := 11) (fun a1 a6 => ?_)
 refine sG Try.f40 2 13 (j := 11) (fun a2 a7 => ?_)
 refine sG Try.f40 2 14 (j := 11) (fun a3 a8 => ?_)
 refine sG Try.f40 2 15 (j := 9) (fun a4 a9 => ?_)
 refine sD Try.f40 2 16 (fun K b0 => ?_)
 refine sP Try.f40 2 17 (v := K) ?_
 kernel_rfl
theorem zV.rs : type_of% (And.intro @zV.r0 (And.intro @zV.r1 (@zV.r2))) := And.intro @zV.r0 (And.intro @zV.r1 (@zV.r2))
theorem zV.runs {c : Value} {S d : zh} {e : AEx} {T : List Value} (h : zu Try.prog O false zV.code ([c,undef,undef,undef,undef,undef,undef,undef,undef,undef,undef,undef,undef,undef,undef,undef,undef,undef,undef,undef,undef,undef,undef,undef,undef,undef,undef,undef,undef]) zh.empty = some (e, T, d)) (he : e = .normal ∨ e = .ret) (hca : [c].all (jf 16) = true) (hcv : jf 16 (T.getD 2 undef) = true) : zM Try.prog O 40 [c] S = some (T.getD 2 undef, S) :=
 wR rfl rfl Try.func40 (by decide) zV.body (by exact h) he (yD (a := T.getD 2 undef) ((show zC Try.prog T d Try.f40.results.toList = zC Try.prog T d [(ResultVar.tmp 2)] from by kernel_rfl).trans (by simp only [zC])) (by kernel_rfl)) hca hcv
end Go.Proofs.Ytbgcphbbchndkaa
namespace Go.Proofs.Ytbgcphbbchndkaa
open Go.Abs
abbrev yI.id : FuncId := 27
noncomputable def yI.code : Code := (Code.seq (Code.region 0 (reg Try.f27 0) false) (Code.seq (Code.region 1 (reg Try.f27 1) false) Code.ret))
theorem yI.body : Try.f27.body = some yI.code := by kernel_rfl
variable (b d k f g i j : Value) (S : zh)
theorem yI.r0  : jd Try.prog ⟨false, false, false⟩ (zM Try.prog O) (reg Try.f27 0) (reg Try.f27 0).toList ([b,d,k,f,g,i,j]) S =
  ( some ([b,d,Value.int IntKind.u64 0,f,g,i,j], S)) := by
 kernel_rfl
theorem yI.r1  : jd Try.prog ⟨false, false, false⟩ (zM Try.prog O) (reg Try.f27 1) (reg Try.f27 1).toList ([b,d,k,f,g,i,j]) S =
  (zA (ql Try.prog false false 3 42 (dem b) S) (fun l c => zA (jZ Try.prog BinOp.add 42 l (Value.int IntKind.u64 1) c) (fun m o => zA (jZ Try.prog BinOp.mul 42 m (Value.int IntKind.u64 11400714819323198485) o) (fun n p => some ([b,d,n,dem b,l,m,dem n], p)) ()) ()) ()) := by
 kernel_rfl
theorem yI.rs : type_of% (And.intro @yI.r0 (@yI.r1)) := And.intro @yI.r0 (@yI.r1)
theorem yI.runs {b : Value} {S c : zh} {e : AEx} {T : List Value} (h : zu Try.prog O false yI.code ([b,undef,undef,undef,undef,undef,undef]) S = some (e, T, c)) (he : e = .normal ∨ e = .ret) : zM Try.prog O 27 [b] S = some (T.getD 2 undef, c) :=
 yX rfl rfl Try.func27 (by decide) yI.body (by exact h) he (yD (a := T.getD 2 undef) ((show zC Try.prog T c Try.f27.results.toList = zC Try.prog T c [(ResultVar.tmp 2)] from by kernel_rfl).trans (by simp only [zC])) (by kernel_rfl))
end Go.Proofs.Ytbgcphbbchndkaa
namespace Go.Proofs.Ytbgcphbbchndkaa
open Go.Abs
abbrev zZ.id : FuncId := 36
noncomputable def zZ.jJ : Code := (Code.seq (Code.region 6 (reg Try.f36 6) false) (Code.seq (Code.cond (Operand.tmp 21) Code.skip (Code.exit 2)) (Code.seq (Code.block 3 (Code.seq (Code.region 7 (reg Try.f36 7) false) (Code.region 8 (reg Try.f36 8) false))) (Code.region 9 (reg Try.f36 9) false))))
noncomputable def zZ.Xm : Code := (Code.seq (Code.region 3 (reg Try.f36 3) false) (Code.seq (Code.cond (Operand.tmp 15) Code.skip (Code.exit 0)) (Code.seq (Code.block 1 (Code.seq (Code.region 4 (reg Try.f36 4) false) (Code.seq (Code.region 5 (reg Try.f36 5) false) (Code.block 2 (Code.loop zZ.jJ))))) (Code.region 10 (reg Try.f36 10) false))))
noncomputable def zZ.code : Code := (Code.seq (Code.region 0 (reg Try.f36 0) false) (Code.seq (Code.region 1 (reg Try.f36 1) false) (Code.seq (Code.seq (Code.region 2 (reg Try.f36 2) false) (Code.block 0 (Code.loop zZ.Xm))) (Code.seq (Code.region 11 (reg Try.f36 11) false) Code.ret))))
theorem zZ.body : Try.f36.body = some zZ.code := by kernel_rfl
theorem zZ.eta {T : List Value} (h : T.length = 35) : T = [T.getD 0 undef,T.getD 1 undef,T.getD 2 undef,T.getD 3 undef,T.getD 4 undef,T.getD 5 undef,T.getD 6 undef,T.getD 7 undef,T.getD 8 undef,T.getD 9 undef,T.getD 10 undef,T.getD 11 undef,T.getD 12 undef,T.getD 13 undef,T.getD 14 undef,T.getD 15 undef,T.getD 16 undef,T.getD 17 undef,T.getD 18 undef,T.getD 19 undef,T.getD 20 undef,T.getD 21 undef,T.getD 22 undef,T.getD 23 undef,T.getD 24 undef,T.getD 25 undef,T.getD 26 undef,T.getD 27 undef,T.getD 28 undef,T.getD 29 undef,T.getD 30 undef,T.getD 31 undef,T.getD 32 undef,T.getD 33 undef,T.getD 34 undef] := (kE T 35 h).trans (by kernel_rfl)
variable (C D I J M E K G L H j k d f b l m n g i c o p q r s t u v w x y z A B : Value) (S : zh)
theorem zZ.r0  : jd Try.prog ⟨false, false, false⟩ (zM Try.prog O) (reg Try.f36 0) (reg Try.f36 0).toList ([C,D,I,J,M,E,K,G,L,H,j,k,d,f,b,l,m,n,g,i,c,o,p,q,r,s,t,u,v,w,x,y,z,A,B]) S =
  ( some ([C,D,I,J,Value.int IntKind.u64 0,E,K,G,L,H,j,k,d,f,b,l,m,n,g,i,c,o,p,q,r,s,t,u,v,w,x,y,z,A,B], S)) := by
 kernel_rfl
theorem zZ.r1  : jd Try.prog ⟨false, false, false⟩ (zM Try.prog O) (reg Try.f36 1) (reg Try.f36 1).toList ([C,D,I,J,M,E,K,G,L,H,j,k,d,f,b,l,m,n,g,i,c,o,p,q,r,s,t,u,v,w,x,y,z,A,B]) S =
  (zA (jZ Try.prog BinOp.xor 42 (dem C) (Value.int IntKind.u64 14695981039346656037) S) (fun P F => some ([C,D,I,J,M,P,K,G,L,H,dem C,dem P,d,f,b,l,m,n,g,i,c,o,p,q,r,s,t,u,v,w,x,y,z,A,B], F)) ()) := by
 kernel_rfl
theorem zZ.r2  : jd Try.prog ⟨false, false, false⟩ (zM Try.prog O) (reg Try.f36 2) (reg Try.f36 2).toList ([C,D,I,J,M,E,K,G,L,H,j,k,d,f,b,l,m,n,g,i,c,o,p,q,r,s,t,u,v,w,x,y,z,A,B]) S =
  (zA (Jc Try.prog 88 (dem D) S) (fun P F => some ([C,D,I,J,M,E,K,G,L,H,j,k,dem D,P,Value.int IntKind.i64 0,l,m,n,g,i,c,o,p,q,r,s,t,u,v,w,x,y,z,A,B], F)) ()) := by
 kernel_rfl
theorem zZ.r3  : jd Try.prog ⟨false, false, false⟩ (zM Try.prog O) (reg Try.f36 3) (reg Try.f36 3).toList ([C,D,I,J,M,E,K,G,L,H,j,k,d,f,b,l,m,n,g,i,c,o,p,q,r,s,t,u,v,w,x,y,z,A,B]) S =
  (zA (jZ Try.prog BinOp.lss 3 b f S) (fun N F => some ([C,D,I,J,M,E,K,G,L,H,j,k,d,f,b,N,m,n,g,i,c,o,p,q,r,s,t,u,v,w,x,y,z,A,B], F)) ()) := by
 kernel_rfl
theorem zZ.r4  : jd Try.prog ⟨false, false, false⟩ (zM Try.prog O) (reg Try.f36 4) (reg Try.f36 4).toList ([C,D,I,J,M,E,K,G,L,H,j,k,d,f,b,l,m,n,g,i,c,o,p,q,r,s,t,u,v,w,x,y,z,A,B]) S =
  (zA (zW Try.prog 88 d b S) (fun N F => zA (zO Try.prog false 23 N F) (fun P Q => some ([C,D,I,J,M,E,K,P,L,H,j,k,d,f,b,l,N,dem P,g,i,c,o,p,q,r,s,t,u,v,w,x,y,z,A,B], Q)) ()) ()) := by
 kernel_rfl
theorem zZ.r5  : jd Try.prog ⟨false, false, false⟩ (zM Try.prog O) (reg Try.f36 5) (reg Try.f36 5).toList ([C,D,I,J,M,E,K,G,L,H,j,k,d,f,b,l,m,n,g,i,c,o,p,q,r,s,t,u,v,w,x,y,z,A,B]) S =
  (zA (Jc Try.prog 23 (dem G) S) (fun P F => some ([C,D,I,J,M,E,K,G,L,H,j,k,d,f,b,l,m,n,dem G,P,Value.int IntKind.i64 0,o,p,q,r,s,t,u,v,w,x,y,z,A,B], F)) ()) := by
 kernel_rfl
theorem zZ.r6  : jd Try.prog ⟨false, false, false⟩ (zM Try.prog O) (reg Try.f36 6) (reg Try.f36 6).toList ([C,D,I,J,M,E,K,G,L,H,j,k,d,f,b,l,m,n,g,i,c,o,p,q,r,s,t,u,v,w,x,y,z,A,B]) S =
  (zA (jZ Try.prog BinOp.lss 3 c i S) (fun N F => some ([C,D,I,J,M,E,K,G,L,H,j,k,d,f,b,l,m,n,g,i,c,N,p,q,r,s,t,u,v,w,x,y,z,A,B], F)) ()) := by
 kernel_rfl
theorem zZ.r7  : jd Try.prog ⟨false, false, false⟩ (zM Try.prog O) (reg Try.f36 7) (reg Try.f36 7).toList ([C,D,I,J,M,E,K,G,L,H,j,k,d,f,b,l,m,n,g,i,c,o,p,q,r,s,t,u,v,w,x,y,z,A,B]) S =
  (zA (zW Try.prog 23 g c S) (fun N F => zA (zO Try.prog false 5 N F) (fun P Q => some ([C,D,I,J,M,E,K,G,L,P,j,k,d,f,b,l,m,n,g,i,c,o,N,dem P,r,s,t,u,v,w,x,y,z,A,B], Q)) ()) ()) := by
 kernel_rfl
theorem zZ.r8  : jd Try.prog ⟨false, false, false⟩ (zM Try.prog O) (reg Try.f36 8) (reg Try.f36 8).toList ([C,D,I,J,M,E,K,G,L,H,j,k,d,f,b,l,m,n,g,i,c,o,p,q,r,s,t,u,v,w,x,y,z,A,B]) S =
  (zA (ql Try.prog false false 5 42 (dem H) S) (fun R F => zA (jZ Try.prog BinOp.xor 42 (dem E) R F) (fun U Q => zA (jZ Try.prog BinOp.mul 42 U (Value.int IntKind.u64 1099511628211) Q) (fun V W => some ([C,D,I,J,M,V,K,G,L,H,j,k,d,f,b,l,m,n,g,i,c,o,p,q,dem E,dem H,R,U,dem V,w,x,y,z,A,B], W)) ()) ()) ()) := by
 kernel_rfl
theorem zZ.r9  : jd Try.prog ⟨false, false, false⟩ (zM Try.prog O) (reg Try.f36 9) (reg Try.f36 9).toList ([C,D,I,J,M,E,K,G,L,H,j,k,d,f,b,l,m,n,g,i,c,o,p,q,r,s,t,u,v,w,x,y,z,A,B]) S =
  (zA (jZ Try.prog BinOp.add 3 c (Value.int IntKind.i64 1) S) (fun N F => some ([C,D,I,J,M,E,K,G,L,H,j,k,d,f,b,l,m,n,g,i,dem N,o,p,q,r,s,t,u,v,N,x,y,z,A,B], F)) ()) := by
 kernel_rfl
theorem zZ.r10  : jd Try.prog ⟨false, false, false⟩ (zM Try.prog O) (reg Try.f36 10) (reg Try.f36 10).toList ([C,D,I,J,M,E,K,G,L,H,j,k,d,f,b,l,m,n,g,i,c,o,p,q,r,s,t,u,v,w,x,y,z,A,B]) S =
  (zA (jZ Try.prog BinOp.add 3 b (Value.int IntKind.i64 1) S) (fun N F => some ([C,D,I,J,M,E,K,G,L,H,j,k,d,f,dem N,l,m,n,g,i,c,o,p,q,r,s,t,u,v,w,N,y,z,A,B], F)) ()) := by
 kernel_rfl
theorem zZ.r11  : jd Try.prog ⟨false, false, false⟩ (zM Try.prog O) (reg Try.f36 11) (reg Try.f36 11).toList ([C,D,I,J,M,E,K,G,L,H,j,k,d,f,b,l,m,n,g,i,c,o,p,q,r,s,t,u,v,w,x,y,z,A,B]) S =
  (zA (jZ Try.prog BinOp.shr 42 (dem E) (Value.int IntKind.u64 29) S) (fun R F => zA (jZ Try.prog BinOp.xor 42 (dem E) R F) (fun U Q => some ([C,D,I,J,U,E,K,G,L,H,j,k,d,f,b,l,m,n,g,i,c,o,p,q,r,s,t,u,v,w,x,dem E,dem E,R,dem U], Q)) ()) ()) := by
 kernel_rfl
theorem zZ.rs : type_of% (And.intro @zZ.r0 (And.intro @zZ.r1 (And.intro @zZ.r2 (And.intro @zZ.r3 (And.intro @zZ.r4 (And.intro @zZ.r5 (And.intro @zZ.r6 (And.intro @zZ.r7 (And.intro @zZ.r8 (And.intro @zZ.r9 (And.intro @zZ.r10 (@zZ.r11)))))))))))) := And.intro @zZ.r0 (And.intro @zZ.r1 (And.intro @zZ.r2 (And.intro @zZ.r3 (And.intro @zZ.r4 (And.intro @zZ.r5 (And.intro @zZ.r6 (And.intro @zZ.r7 (And.intro @zZ.r8 (And.intro @zZ.r9 (And.intro @zZ.r10 (@zZ.r11)))))))))))
theorem zZ.runs {C D : Value} {S F : zh} {e : AEx} {T : List Value} (h : zu Try.prog O false zZ.code ([C,D,undef,undef,undef,undef,undef,undef,undef,undef,undef,undef,undef,undef,undef,undef,undef,undef,undef,undef,undef,undef,undef,undef,undef,undef,undef,undef,undef,undef,undef,undef,undef,undef,undef]) S = some (e, T, F)) (he : e = .normal ∨ e = .ret) : zM Try.prog O 36 [C, D] S = some (T.getD 4 undef, F) :=
 yX rfl rfl Try.func36 (by decide) zZ.body (by exact h) he (yD (a := T.getD 4 undef) ((show zC Try.prog T F Try.f36.results.toList = zC Try.prog T F [(ResultVar.tmp 4)] from by kernel_rfl).trans (by simp only [zC])) (by kernel_rfl))
end Go.Proofs.Ytbgcphbbchndkaa
namespace Go.Proofs.Ytbgcphbbchndkaa
open Go.Abs
abbrev wF.id : FuncId := 26
noncomputable def wF.code : Code := (Code.seq (Code.region 0 (reg Try.f26 0) false) (Code.seq (Code.region 1 (reg Try.f26 1) false) Code.ret))
theorem wF.body : Try.f26.body = some wF.code := by kernel_rfl
variable (b c d k l m q n o p g i j : Value) (S : zh)
theorem wF.r0  : jd Try.prog ⟨false, false, false⟩ (zM Try.prog O) (reg Try.f26 0) (reg Try.f26 0).toList ([b,c,d,k,l,m,q,n,o,p,g,i,j]) S =
  ( some ([b,c,d,k,l,m,Value.bool false,n,o,p,g,i,j], S)) := by
 kernel_rfl
theorem wF.r1  : jd Try.prog ⟨false, false, false⟩ (zM Try.prog O) (reg Try.f26 1) (reg Try.f26 1).toList ([b,c,d,k,l,m,q,n,o,p,g,i,j]) S =
  (zA (jB Try.prog 88 1 [(0, (dem d))] S) (fun r f => zA ((zM Try.prog O) 36 [(dem (dem b)), (dem r)] f) (fun s u => zA (jZ Try.prog BinOp.eql 42 s (dem c) u) (fun t v => some ([b,c,d,k,l,m,t,dem b,dem d,r,s,dem c,dem t], v)) ()) ()) ()) := by
 kernel_rfl
theorem wF.rs : type_of% (And.intro @wF.r0 (@wF.r1)) := And.intro @wF.r0 (@wF.r1)
theorem wF.runs {b c d : Value} {S f : zh} {e : AEx} {T : List Value} (h : zu Try.prog O false wF.code ([b,c,d,undef,undef,undef,undef,undef,undef,undef,undef,undef,undef]) S = some (e, T, f)) (he : e = .normal ∨ e = .ret) : zM Try.prog O 26 [b, c, d] S = some (T.getD 6 undef, f) :=
 yX rfl rfl Try.func26 (by decide) wF.body (by exact h) he (yD (a := T.getD 6 undef) ((show zC Try.prog T f Try.f26.results.toList = zC Try.prog T f [(ResultVar.tmp 6)] from by kernel_rfl).trans (by simp only [zC])) (by kernel_rfl))
end Go.Proofs.Ytbgcphbbchndkaa
