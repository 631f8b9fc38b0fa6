/-
The law MsgTells returns true for every input, and leaves it as it was; no condition. Part 4 of 6 of the texts (put together by a program: own names are short, what isn't needed is left out).
-/
import Derived.Test.YtbgcphbbchndkaaZMsgTells3
import Derived.KernelRfl
import Derived.Test.YtbgcphbbchndkaaChecked
set_option linter.unusedVariables false
set_option linter.unusedSimpArgs false
set_option maxRecDepth 100000
namespace Go.Abs
open Go.RowKit
def WO (P : Program) (call : FuncId → List Value → M Value) : Prop := ∀ g args aargs S v S', call g args S = some (v, S') → ∀ μ H ω, GI μ S H → L0 μ H args aargs → Dom μ H ω → (∀ r s, ω r = some s → s = .ext) →
 ∃ a H' μ' ω', lim P g aargs H = some (a, H') ∧ GI μ' S' H' ∧ Later μ H μ' H' ∧ Kept ω H ω' H' ∧ Dom μ' H' ω' ∧ VV μ' H' ω' (some (.res none)) v a
section
variable {P : Program} {call : FuncId → List Value → M Value} {μ : Mu} {ω : Nat → Option qp} {S S' H : zk} {T A : List Value}
theorem aew (hc : WO P call) {g : FuncId} {args aargs : List Value} {v : Value} (hG : GI μ S H) (hT : TI μ H ω T A) (h : call g args S = some (v, S')) (ha : L0 μ H args aargs) : Out μ ω H A T S' v (lim P g aargs H) := by
 obtain ⟨a, H', μ', ω', h1, h2, h3, h4, h5, h6⟩ := hc g args aargs S v S' h μ H (fun r => (ω r).map fun _ => .ext) hG ha (fun r s hs => by
  cases hr : ω r with
  | none => simp [hr] at hs
  | some s0 => exact hT.dom r s0 hr) (fun r s hs => by
  cases hr : ω r with
  | none => simp [hr] at hs
  | some s0 => simp [hr] at hs; exact hs.symm)
 have kept : ∀ r s, ω r = some s → ω' r = some .ext ∧ H'.get r = H.get r := fun r s hs => h4 r (by dsimp only; rw [hs]; rfl)
 refine ⟨a, H', μ', fun r => match ω' r with | some .ext => ω r | some (.slot _ _) => none | x => x, h1, h2, h3, fun r hr => ?_, fun r s hs => ?_, hT.len, fun i => ?_, ?_⟩
 ·
  obtain ⟨k1, k2⟩ := kept r _ hr
  exact ⟨by (try dsimp only); rw [k1]; exact hr, k2⟩
 ·
  dsimp only at hs
  cases hr : ω' r with
  | none => rw [hr] at hs; cases hs
  | some s0 =>
   have := h5 r s0 hr
   exact this
 ·
  refine (hT.slots i).later h3 (K := fun _ => True) (fun _ _ _ _ _ => trivial) (fun r s _ hr => ?_) (fun _ _ => trivial)
  obtain ⟨k1, k2⟩ := kept r s hr
  exact ⟨by (try dsimp only); rw [k1]; exact hr, k2⟩
 ·
  refine h6.later (Later.refl _ _) (K := fun s => ∃ j, s = .res j) (fun s i t ⟨j, hj⟩ ht => by subst hj; cases j <;> cases ht; exact ⟨_, rfl⟩) (fun r s ⟨j, hj⟩ hr => ?_) (fun s hs => by cases hs; exact ⟨_, rfl⟩)
  subst hj
  exact ⟨by (try dsimp only); rw [hr], rfl⟩
def JI (t : Nat) : qp → Option qp
 | .slot i j => if i = t then some (.res j) else some (.slot i j)
 | s => some s
def WQ (t k : Nat) : qp → Option qp
 | .slot i (some j) => if i = t ∧ j = k then some (.res none) else some (.slot i (some j))
 | s => some s
theorem V4 {x : Operand} (hG : GI μ S H) (hT : TI μ H ω T A) (hx : qY x = true) : Out μ ω H A (yL T x) S (jC T x) (some (jC A x, H)) := by
 cases x with
 | const v => exact Out.same hG hT (VV.yR hx)
 | global g => cases hx
 | func f => exact Out.same hG hT (hT.eval (x := .func f) rfl)
 | tmp t =>
  refine ⟨_, H, μ, fun r => (ω r).bind (JI t), rfl, hG, Later.refl μ H, fun r hr => ⟨by dsimp only; rw [hr]; rfl, rfl⟩, fun r s hs => ?_, by simp [yL, qV, hT.len], fun i => ?_, ?_⟩
  ·
   dsimp only at hs
   cases hr : ω r with
   | none => rw [hr] at hs; cases hs
   | some s0 => exact hT.dom r s0 hr
  ·
   dsimp only [yL, qV]
   rw [ql]
   by_cases hi : i = t
   ·
    subst hi
    by_cases hlt : i < T.length
    ·
     rw [if_pos ⟨rfl, hlt⟩]
     exact (hT.slots i).v0.at0
    ·
     rw [if_neg (fun h => hlt h.2)]
     rw [List.getD_eq_getElem?_getD, List.getElem?_eq_none (Nat.le_of_not_lt hlt), List.getD_eq_getElem?_getD, List.getElem?_eq_none (by rw [← hT.len]; omega)]
     exact .nores
   ·
    rw [if_neg (fun h => hi h.1)]
    refine (hT.slots i).KD (fun _ => rfl) _ (fun s hs => ?_)
    cases hs
    refine ⟨_, rfl, by simp only [JI]; rw [if_neg hi], fun k t' ht => ?_⟩
    cases ht
    exact ⟨_, rfl, by simp only [JI]; rw [if_neg hi]⟩
  ·
   refine (hT.slots t).KD (fun _ => rfl) _ (fun s hs => ?_)
   cases hs
   refine ⟨_, rfl, by simp only [JI, if_true], fun k t' ht => ?_⟩
   cases ht
   exact ⟨_, rfl, by simp only [JI, if_true]⟩
theorem getD_modify (vs : Array Value) (i k : Nat) (f : Value → Value) (hf : f undef = undef) : (vs.modify i f).getD k undef = if k = i then f (vs.getD k undef) else vs.getD k undef := by
 rw [Array.getD_eq_getD_getElem?, Array.getD_eq_getD_getElem?, Array.getElem?_modify]
 by_cases h : i = k
 ·
  subst h
  rw [if_pos rfl, if_pos rfl]
  cases vs[i]? with
  | none => exact hf.symm
  | some v => rfl
 ·
  rw [if_neg h, if_neg (fun e => h e.symm)]
theorem VV.part {ω' : Nat → Option qp} {ℓ ℓ' : Option qp} {v a : Value} (h : VV μ H ω ℓ v a) (hℓ : ∀ s, ℓ = some s → ∀ k, s.comp k = none) : VV μ H ω' ℓ' (Go.Abs.kC v) a := by
 by_cases ht : ∃ x, v = .tuple x
 ·
  obtain ⟨x, rfl⟩ := ht
  show VV μ H ω' ℓ' (.tuple x) a
  cases h with
  | sg hs => simp [Go.Abs.sg] at hs
  | nores => exact .nores
  | tuple hx hh =>
   refine .tuple hx fun i => ?_
   have := hh i
   cases ℓ with
   | none => exact this.at0
   | some s =>
    have e : (some s).bind (·.comp i) = none := hℓ s rfl i
    rw [e] at this
    exact this.at0
 ·
  have e : Go.Abs.dem v = Go.Abs.kC v := by
   cases v <;> first | rfl | exact absurd ⟨_, rfl⟩ ht
  rw [← e]
  exact h.v0.at0
def J7 (T : List Value) (i : Nat) : Operand → List Value
 | .tmp t => T.set t (jk i (T.getD t undef))
 | _ => T
theorem Vr {x : Operand} {i : Nat} {v : Value} (hG : GI μ S H) (hT : TI μ H ω T A) (hx : qY x = true) (h : zY (jC T x) i S = some (v, S')) :
  Out μ ω H A (J7 T i x) S' v (zY (jC A x) i H) := by
 cases x with
 | const w =>
  exfalso
  unfold zY at h
  split at h
  ·
   rename_i vs he
   simp only [jC] at he
   subst he
   simp [qY, ground, Go.Abs.sg] at hx
  ·
   cases h
 | global g => cases hx
 | func f => simp [jC, zY] at h
 | tmp t =>
  simp only [jC, J7] at h ⊢
  unfold zY at h
  split at h
  ·
   rename_i vs hvs
   split at h <;> first | (cases h; done) | skip
   rename_i w hw
   cases h
   have hs := hT.slots t
   rw [hvs] at hs
   have hil : i < vs.size := (Array.getElem?_eq_some_iff.1 hw).1
   have hlt : t < T.length := by
    rcases Nat.lt_or_ge t T.length with h | h
    ·
     exact h
    ·
     rw [List.getD_eq_getElem?_getD, List.getElem?_eq_none h] at hvs
     cases hvs
     simp at hil
   generalize hA : A.getD t undef = at' at hs
   cases hs with
   | sg hs => simp [Go.Abs.sg] at hs
   | nores => simp at hil
   | @tuple _ _ y hxs hxx =>
    have hiy : i < y.size := by rw [← hxs]; exact hil
    have hrun : zY (.tuple y) i H = some (y[i], H) := by simp only [zY, Array.getElem?_eq_getElem hiy]
    rw [hrun]
    have hcomp := hxx i
    rw [Array.getD_eq_getD_getElem?, hw, Array.getD_eq_getD_getElem?, Array.getElem?_eq_getElem hiy] at hcomp
    simp only [Option.getD_some] at hcomp
    refine ⟨_, H, μ, fun r => (ω r).bind (WQ t i), rfl, hG, Later.refl μ H, fun r hr => ⟨by dsimp only; rw [hr]; rfl, rfl⟩, fun r s hs => ?_, by simp [hT.len], fun k => ?_, ?_⟩
    ·
     dsimp only at hs
     cases hr : ω r with
     | none => rw [hr] at hs; cases hs
     | some s0 => exact hT.dom r s0 hr
    ·
     rw [ql]
     by_cases hk : k = t
     ·
      subst hk
      rw [if_pos ⟨rfl, hlt⟩, hA, hvs]
      simp only [jk]
      refine .tuple (by simpa using hxs) fun j => ?_
      rw [getD_modify _ _ _ _ rfl]
      by_cases hj : j = i
      ·
       subst hj
       rw [if_pos rfl]
       exact (hxx j).part (fun s hs k => by cases hs; rfl)
      ·
       rw [if_neg hj]
       refine (hxx j).KD (fun _ => rfl) _ (fun s hs => ?_)
       cases hs
       refine ⟨_, rfl, by simp only [WQ]; rw [if_neg (fun e => hj e.2)], fun a b hb => by cases hb⟩
     ·
      rw [if_neg (fun e => hk e.1)]
      refine (hT.slots k).KD (fun _ => rfl) _ (fun s hs => ?_)
      cases hs
      refine ⟨_, rfl, rfl, fun a b hb => ?_⟩
      cases hb
      exact ⟨_, rfl, by simp only [WQ]; rw [if_neg (fun e => hk e.1)]⟩
    ·
     refine hcomp.KD (fun _ => rfl) _ (fun s hs => ?_)
     cases hs
     exact ⟨_, rfl, by simp [WQ], fun a b hb => by cases hb⟩
  ·
   cases h
theorem aga (hT : TI μ H ω T A) : ∀ (xs : List Operand), xs.all qY = true → L0 μ H (xs.map fun x => dem (jC T x)) (xs.map (jC A)) := by
 intro xs h
 exact LV.map fun x hx => hT.eval (List.all_eq_true.1 h x hx)
theorem Ye {xs : List Operand} (hT : TI μ H ω T A) (h : xs.all qY = true) (hg : (xs.map (jC T)).all ground = true) : xs.map (jC A) = xs.map (jC T) := by
 apply List.map_congr_left
 intro x hx
 exact jU (hT.eval (List.all_eq_true.1 h x hx)) (List.all_eq_true.1 hg _ (List.mem_map.2 ⟨x, hx, rfl⟩))
theorem aeO {o : Oper} (h : hands o = false) (hc : ∀ c, o.op ≠ .call c) : moved o T = T := by
 unfold moved
 unfold hands at h
 split <;> first | rfl | (rename_i he; exact absurd he (hc _)) | (rename_i he; rw [he] at h; cases h)
theorem ad7 {fx : Fx} (hc : WO P call) {o : Oper} {v : Value} (hG : GI μ S H) (hT : TI μ H ω T A) (h : yT P fx call T o S = some (v, S')) : Out μ ω H A (moved o T) S' v (yU P (lim P) A o H) := by
 unfold yT at h
 split at h <;> first | (cases h; done) | skip
 rename_i hok
 unfold yU
 rw [if_pos hok]
 have hargs : o.op.operands.toList.all qY = true := hok
 have hev : ∀ x ∈ o.op.operands.toList, V0 μ H (dem (jC T x)) (jC A x) := fun x hx => hT.eval (List.all_eq_true.1 hargs x hx)
 have hoka : ∀ x ∈ o.op.operands.toList, qY x = true := fun x hx => List.all_eq_true.1 hargs x hx
 obtain ⟨dst, op, type, pos, after, guard⟩ := o
 by_cases hcall : ∃ c, op = .call c
 ·
  obtain ⟨c, rfl⟩ := hcall
  dsimp only at h hev hoka hargs ⊢
  have hcargs : c.args.toList.all qY = true := by
   rw [List.all_eq_true]
   intro x hx
   refine hoka x ?_
   simp only [Op.operands, Call.operands]
   cases c.callee <;> simp <;> first | exact .inr (by simpa using hx) | exact (by simpa using hx)
  cases hcal : c.callee with
  | value f =>
   rw [hcal] at h
   dsimp only at h ⊢
   have hf := hev f (by simp [Op.operands, Call.operands, hcal])
   split at h <;> first | (cases h; done) | skip
   rename_i g first captured hfe
   rw [hfe] at hf
   have hf : V0 μ H (.func (.func g) first captured) (jC A f) := hf
   generalize hfa : jC A f = fa at hf
   cases hf with
   | sg hs => simp [Go.Abs.sg] at hs
   | func _ hx hcs h1 h2 =>
    rename_i x' c'
    dsimp only
    have l1 : L0 μ H first.toList x'.toList := ⟨by simpa using hx, fun i => by rw [getD_toList, getD_toList]; exact h1 i⟩
    have l2 : L0 μ H captured.toList c'.toList := ⟨by simpa using hcs, fun i => by rw [getD_toList, getD_toList]; exact h2 i⟩
    have hm : moved ⟨dst, .call c, type, pos, after, guard⟩ T = T := by simp only [moved, hcal]
    rw [hm]
    exact aew hc hG hT h ((l1.append (aga hT _ hcargs)).append l2)
  | invoke r m => rw [hcal] at h; cases h
  | builtin b =>
   rw [hcal] at h
   dsimp only at h ⊢
   unfold Ky at h
   unfold kY
   cases b <;> dsimp only at h ⊢ <;> first | (cases h; done) | skip
   case len =>
    split at h <;> first | (cases h; done) | skip
    rename_i t x0 ht ha
    obtain ⟨x, hx, rfl⟩ : ∃ x, c.args.toList = [x] ∧ jC T x = x0 := by
     match hl : c.args.toList with
     | [] => rw [hl] at ha; cases ha
     | [y] => rw [hl] at ha; simp at ha; exact ⟨y, rfl, ha⟩
     | y :: z :: w => rw [hl] at ha; simp at ha
    have hm : moved ⟨dst, .call c, type, pos, after, guard⟩ T = T := by simp only [moved, hcal]
    rw [hm, ht, hx]
    rw [hx] at hcargs
    obtain ⟨rfl, a, h1, h2⟩ := adL h (hT.eval (List.all_eq_true.1 hcargs x (by simp)))
    simp only [List.map_cons, List.map_nil]
    rw [h1]
    exact Out.same hG hT h2
   case append =>
    split at h <;> first | (cases h; done) | skip
    rename_i t tx s0 x0 ht ha
    obtain ⟨so, x, hx, rfl, rfl⟩ : ∃ so x, c.args.toList = [so, x] ∧ jC T so = s0 ∧ jC T x = x0 := by
     match hl : c.args.toList with
     | [] => rw [hl] at ha; cases ha
     | [y] => rw [hl] at ha; simp at ha
     | [y, z] => rw [hl] at ha; simp at ha; exact ⟨y, z, rfl, ha.1, ha.2⟩
     | y :: z :: w :: u => rw [hl] at ha; simp at ha
    rw [hx] at hcargs
    have hso := List.all_eq_true.1 hcargs so (by simp)
    have hm : moved ⟨dst, .call c, type, pos, after, guard⟩ T = yL T so := by
     simp only [moved, hcal, hx]
     cases so <;> rfl
    rw [hm, ht, hx]
    exact abo hG hT hso h (hT.eval (List.all_eq_true.1 hcargs x (by simp)))
   case copy =>
    split at h <;> first | (cases h; done) | skip
    rename_i t tx s0 x0 ht ha
    obtain ⟨so, x, hx, rfl, rfl⟩ : ∃ so x, c.args.toList = [so, x] ∧ jC T so = s0 ∧ jC T x = x0 := by
     match hl : c.args.toList with
     | [] => rw [hl] at ha; cases ha
     | [y] => rw [hl] at ha; simp at ha
     | [y, z] => rw [hl] at ha; simp at ha; exact ⟨y, z, rfl, ha.1, ha.2⟩
     | y :: z :: w :: u => rw [hl] at ha; simp at ha
    rw [hx] at hcargs
    have hm : moved ⟨dst, .call c, type, pos, after, guard⟩ T = T := by simp only [moved, hcal]
    rw [hm, ht, hx]
    exact adQ hG hT h (hT.eval (List.all_eq_true.1 hcargs so (by simp))) (hT.eval (List.all_eq_true.1 hcargs x (by simp)))
   case clear =>
    split at h <;> first | (cases h; done) | skip
    rename_i t x0 ht ha
    obtain ⟨x, hx, rfl⟩ : ∃ x, c.args.toList = [x] ∧ jC T x = x0 := by
     match hl : c.args.toList with
     | [] => rw [hl] at ha; cases ha
     | [y] => rw [hl] at ha; simp at ha; exact ⟨y, rfl, ha⟩
     | y :: z :: w => rw [hl] at ha; simp at ha
    have hm : moved ⟨dst, .call c, type, pos, after, guard⟩ T = T := by simp only [moved, hcal]
    rw [hm, ht, hx]
    rw [hx] at hcargs
    exact acP hG hT h (hT.eval (List.all_eq_true.1 hcargs x (by simp)))
   case min =>
    obtain ⟨rfl, hg, hga, hh⟩ := yD (H := H) h
    have hm : moved ⟨dst, .call c, type, pos, after, guard⟩ T = T := by simp only [moved, hcal]
    rw [hm, Ye hT hcargs hga, hh]
    exact Out.same hG hT (V0.ground hg)
   case max =>
    obtain ⟨rfl, hg, hga, hh⟩ := yD (H := H) h
    have hm : moved ⟨dst, .call c, type, pos, after, guard⟩ T = T := by simp only [moved, hcal]
    rw [hm, Ye hT hcargs hga, hh]
    exact Out.same hG hT (V0.ground hg)
 ·
  have hnc : ∀ c, op ≠ .call c := fun c hc => hcall ⟨c, hc⟩
  have hV : vOp P fx (jC T) ⟨dst, op, type, pos, after, guard⟩ S = some (v, S') := by
   cases op <;> first | exact h | exact absurd rfl (hnc _)
  suffices hs : Out μ ω H A (moved ⟨dst, op, type, pos, after, guard⟩ T) S' v (aOp P (jC A) ⟨dst, op, type, pos, after, guard⟩ H) by
   cases op <;> first | exact hs | exact absurd rfl (hnc _)
  by_cases hh : hands ⟨dst, op, type, pos, after, guard⟩ = true
  ·
   cases op <;> first | (cases hh; done) | skip
   case move x =>
    cases hV
    have := V4 hG hT (hoka x (by simp [Op.operands]))
    have hm : moved ⟨dst, .move x, type, pos, after, guard⟩ T = yL T x := by cases x <;> rfl
    rw [hm]; exact this
   case assign x =>
    cases hV
    have := V4 hG hT (hoka x (by simp [Op.operands]))
    have hm : moved ⟨dst, .assign x, type, pos, after, guard⟩ T = yL T x := by cases x <;> rfl
    rw [hm]; exact this
   case extract x i =>
    have := Vr hG hT (hoka x (by simp [Op.operands])) hV
    have hm : moved ⟨dst, .extract x i, type, pos, after, guard⟩ T = (J7 T i x) := by cases x <;> rfl
    rw [hm]; exact this
  ·
   have hh : hands ⟨dst, op, type, pos, after, guard⟩ = false := by simpa using hh
   rw [aeO hh hnc]
   by_cases hch : Zu P ⟨dst, op, type, pos, after, guard⟩ = false
   ·
    obtain ⟨rfl, a, h1, h2, h3⟩ := Xb hV hch hev (.inr hG) (.inr hG)
    rw [h1]
    exact Out.same hG hT (h3 hh)
   ·
    unfold vOp at hV
    unfold aOp
    cases op <;> dsimp only at hV hev ⊢ <;> first | (cases hV; done) | (exact absurd rfl hch) | (cases hh; done) | skip
    case alloc e => exact abC hG hT hV
    case box x _ => exact afS hG hT hV (hev x (by simp [Op.operands]))
    case buildSlice t len parts _ =>
     have hps := Xu (μ := μ) (H := H) (parts := parts.toList) (ρ := jC T) (ρA := jC A) fun p hp => hev p.2 (by simp [Op.operands]; exact ⟨p.1, by simpa using hp⟩)
     split at hV
     ·
      exact Xy hG hT hV hps
     ·
      exact YP hG hT hV hps
    case makeMap t r _ => exact Vu hG hT hV (fun h => by cases r <;> simp at h ⊢)
    case mapUpdate t x k w _ => exact Qu hG hT hV (hev x (by simp [Op.operands])) (hev k (by simp [Op.operands])) (hev w (by simp [Op.operands]))
    case store a x _ => exact ac0 hG hT hV (hev a (by simp [Op.operands])) (hev x (by simp [Op.operands]))
    case makeSlice l c _ =>
     split at hV
     ·
      exact X5 hG hT hV (hev l (by simp [Op.operands])) (hev c (by simp [Op.operands]))
     ·
      exact KA hG hT hV (hev l (by simp [Op.operands])) (hev c (by simp [Op.operands]))
    case convert dst' x _ =>
     have hd : ∃ e, P.underlying dst' = some (.slice e) := by
      unfold Zu at hch
      dsimp only at hch
      split at hch
      ·
       exact ⟨_, by assumption⟩
      ·
       exact absurd rfl hch
     obtain ⟨e, hd⟩ := hd
     cases x with
     | tmp t => exact YJ hG hT hV (hT.slots t) hd
     | const w => exact YJ hG hT hV (VV.yR (ℓ := none) (hoka (.const w) (by simp [Op.operands]))) hd
     | global g => have := hoka (.global g) (by simp [Op.operands]); cases this
     | func f => exact YJ hG hT hV (ℓ := none) ((hT.eval (x := .func f) rfl).at0) hd
theorem abU {ops : Array Oper} (hT : TI μ H ω T A) (j : Nat) : ynd ops T j = ynd ops A j := by
 unfold ynd
 cases hd : (ops[j]?).bind (·.dst) with
 | none => rfl
 | some d =>
  simp only [Option.bind_some]
  have := hT.slots d
  have e := hT.len
  by_cases hlt : d < T.length
  ·
   have hlt' : d < A.length := by rw [← e]; exact hlt
   simp only [List.getD_eq_getElem?_getD, List.getElem?_eq_getElem hlt, List.getElem?_eq_getElem hlt', Option.getD_some] at this
   rw [List.getElem?_eq_getElem hlt, List.getElem?_eq_getElem hlt']
   generalize T[d] = u at *
   generalize A[d] = u' at *
   cases this <;> rfl
  ·
   have hlt' : A.length ≤ d := by rw [← e]; exact Nat.le_of_not_lt hlt
   rw [List.getElem?_eq_none (Nat.le_of_not_lt hlt), List.getElem?_eq_none hlt']
theorem TI.moved (hT : TI μ H ω T A) (o : Oper) : TI μ H ω (moved o T) A := by
 have slot : ∀ t, TI μ H ω (qV T t) A := by
  intro t
  refine ⟨by simp [qV, hT.len], fun i => ?_, hT.dom, hT.nores⟩
  rw [qV, ql]
  split
  ·
   rename_i h; rw [h.1]; exact (hT.slots t).dem
  ·
   exact hT.slots i
 unfold Go.Abs.moved
 split
 ·
  exact slot _
 ·
  exact slot _
 ·
  rename_i t i _
  refine ⟨by simp [hT.len], fun k => ?_, hT.dom, hT.nores⟩
  rw [ql]
  split
  ·
   rename_i h
   rw [h.1]
   have := hT.slots t
   generalize T.getD t undef = w at this
   cases w with
   | tuple vs =>
    simp only [jk]
    generalize A.getD t undef = a at this
    cases this with
    | sg hs => simp [Go.Abs.sg] at hs
    | nores => rw [show (#[] : Array Value).modify i Go.Abs.kC = #[] by simp]; exact .nores
    | @tuple _ _ y hxs hxx =>
     refine .tuple (by simpa using hxs) fun j => ?_
     rw [getD_modify _ _ _ _ rfl]
     by_cases hj : j = i
     ·
      subst hj
      rw [if_pos rfl]
      exact (hxx j).part (fun s hs k => by cases hs; rfl)
     ·
      rw [if_neg hj]; exact hxx j
   | _ => exact this
  ·
   exact hT.slots k
 ·
  split
  ·
   exact slot _
  ·
   exact hT
 ·
  exact hT
def After (μ : Mu) (ω : Nat → Option qp) (H : zk) (T' : List Value) (S' : zk) (R : Option (List Value × zk)) : Prop :=
 ∃ A' H' μ' ω', R = some (A', H') ∧ GI μ' S' H' ∧ Later μ H μ' H' ∧ Kept ω H ω' H' ∧ TI μ' H' ω' T' A'
theorem V3 {fx : Fx} (hc : WO P call) {o : Oper} {rest : List Oper} {v : Value} (hG : GI μ S H) (hT : TI μ H ω T A) (h : yT P fx call T o S = some (v, S')) :
  ∃ a H' μ' ω', yU P (lim P) A o H = some (a, H') ∧ GI μ' S' H' ∧ Later μ H μ' H' ∧ Kept ω H ω' H' ∧ TI μ' H' ω' (Zv o rest T v) (Jq A o.dst a) := by
 unfold Zv
 split
 ·
  rename_i hl
  have hm : ∃ x, o.op = .move x := by
   unfold ahZ at hl
   split at hl
   ·
    rename_i x _ he _; exact ⟨x, he⟩
   ·
    cases hl
  obtain ⟨x, hx⟩ := hm
  unfold yT at h
  split at h <;> first | (cases h; done) | skip
  rename_i hok
  have hox : qY x = true := List.all_eq_true.1 (show o.op.operands.toList.all qY = true from hok) x (by rw [hx]; simp [Op.operands])
  rw [hx] at h
  dsimp only at h
  unfold vOp at h
  rw [hx] at h
  cases h
  have ha : yU P (lim P) A o H = some (jC A x, H) := by
   unfold yU
   rw [if_pos hok, hx]
   dsimp only
   unfold aOp
   rw [hx]
   rfl
  rw [ha]
  exact (Out.same hG hT (hT.eval hox)).put o.dst
 ·
  exact (ad7 hc hG hT h).put o.dst
theorem Wy {o : Oper} {rest : List Oper} (hG : GI μ S H) (hT : TI μ H ω T A) : ∃ μ' ω', GI μ' S H ∧ Later μ H μ' H ∧ Kept ω H ω' H ∧ TI μ' H ω' (Zv o rest T undef) (Jq A o.dst undef) := by
 unfold Zv
 split
 ·
  rw [show dem undef = undef from ZG]
  obtain ⟨a, H1, μ1, ω1, h1, h2, h3, h4, h5⟩ := (Out.same hG hT (VV.undef)).put o.dst
  cases h1
  exact ⟨μ1, ω1, h2, h3, h4, h5⟩
 ·
  obtain ⟨a, H1, μ1, ω1, h1, h2, h3, h4, h5⟩ := (Out.same hG (hT.moved o) (VV.undef)).put o.dst
  cases h1
  exact ⟨μ1, ω1, h2, h3, h4, h5⟩
theorem afW {fx : Fx} (hc : WO P call) {ops : Array Oper} : ∀ (l : List Oper) (T T' A : List Value) (S S' H : zk) (μ : Mu) (ω : Nat → Option qp), jE P fx call ops l T S = some (T', S') → GI μ S H → TI μ H ω T A → After μ ω H T' S' (XW P (lim P) ops l A H) := by
 intro l
 induction l with
 | nil =>
  intro T T' A S S' H μ ω h hG hT
  simp only [jE, Option.some.injEq, Prod.mk.injEq] at h
  obtain ⟨rfl, rfl⟩ := h
  exact ⟨A, H, μ, ω, rfl, hG, Later.refl _ _, Kept.refl _ _, hT⟩
 | cons o l ih =>
  intro T T' A S S' H μ ω h hG hT
  have hy : (ynd ops T) = ynd ops A := funext fun j => abU hT j
  simp only [jE] at h
  simp only [XW, ← hy]
  split at h
  ·
   rename_i hw
   split at h
   ·
    rename_i v S1 hs
    obtain ⟨a, H1, μ1, ω1, h1, h2, h3, h4, h5⟩ := V3 (rest := l) hc hG hT hs
    obtain ⟨A2, H2, μ2, ω2, k1, k2, k3, k4, k5⟩ := ih _ _ _ _ _ _ _ _ h h2 h5
    refine ⟨A2, H2, μ2, ω2, ?_, k2, h3.trans k3, h4.trans k4, k5⟩
    rw [if_pos hw, h1]
    exact k1
   ·
    cases h
  ·
   rename_i hw
   obtain ⟨μ1, ω1, h2, h3, h4, h5⟩ := Wy (o := o) (rest := l) hG hT
   obtain ⟨A2, H2, μ2, ω2, k1, k2, k3, k4, k5⟩ := ih _ _ _ _ _ _ _ _ h h2 h5
   refine ⟨A2, H2, μ2, ω2, ?_, k2, h3.trans k3, h4.trans k4, k5⟩
   rw [if_neg hw]
   exact k1
end
end Go.Abs
namespace Go.Abs
open Go.RowKit
section
variable {P : Program} {call : FuncId → List Value → M Value} {μ μ2 : Mu} {S S' G H H2 : zk} {T A : List Value}
theorem Zp.two {s : M Value} (hs : Zp s) {a : Value} {G' : zk} (h : s G = some (a, G')) : ∀ H, s H = some (a, H) := by
 obtain ⟨o, ho⟩ := hs
 rw [ho] at h
 cases o with
 | none => cases h
 | some w =>
  simp only [Option.map_some, Option.some.injEq, Prod.mk.injEq] at h
  intro H
  rw [ho, h.1]; rfl
theorem X7 {t : TypeId} {ps : List (Nat × Value)} : Zp (kS P t ps) := by
 refine ⟨(kS P t ps zk.empty).map (·.1), fun H => ?_⟩
 unfold kS
 split
 ·
  split
  ·
   split
   ·
    split
    ·
     split <;> rfl
    ·
     rfl
   ·
    split
    ·
     split <;> rfl
    ·
     rfl
   ·
    rfl
  ·
   rfl
 ·
  rfl
theorem YM {x : Value} : Zp (xk x) := by
 refine ⟨(xk x zk.empty).map (·.1), fun H => ?_⟩
 unfold xk
 split <;> rfl
theorem VP {t : TypeId} {x i : Value} : Zp (vH P t x i) := by
 unfold vH
 refine ⟨(vH P t x i zk.empty).map (·.1), fun H => ?_⟩
 unfold vH
 dsimp only
 split
 ·
  split
  ·
   split
   ·
    split <;> rfl
   ·
    rfl
  ·
   rfl
 ·
  obtain ⟨o, ho⟩ := y7 (P := P) _ _
  rw [ho, ho]
  cases o <;> rfl
 ·
  rfl
theorem ac4 {t : TypeId} {x : Value} (hx : ∀ m, x ≠ .map m) : Zp (XZ P t x) := by
 refine ⟨(XZ P t x zk.empty).map (·.1), fun H => ?_⟩
 unfold XZ
 split <;> first | rfl | exact absurd rfl (hx _)
theorem Yq {d : Nat} {v : Value} (h : okq d v = true) : okq d (dem v) = true := by
 cases v with
 | iface k v => cases d <;> rfl
 | tuple vs => cases d <;> cases h
 | _ => exact h
theorem YA : ∀ (d : Nat) {v a : Value}, okq d v = true → V0 μ H v a → abx d a a = true := by
 intro d
 induction d with
 | zero =>
  intro v a h hv
  cases hv <;> first | (cases h; done) | (simp [abx]; done) | skip
  rename_i hs
  cases v <;> first | (simp [abx]; done) | (simp [Go.Abs.sg] at hs; done) | skip
 | succ d ih =>
  intro v a h hv
  cases hv <;> first | (cases h; done) | (simp [abx]; done) | skip
  ·
   rename_i hs
   cases v <;> first | (simp [abx]; done) | (simp [Go.Abs.sg] at hs; done) | skip
  ·
   rename_i x x' hx hh
   unfold abx
   simp only [decide_true, Bool.true_and]
   rw [List.all_eq_true]
   intro p hp
   obtain ⟨i, hi, he⟩ := List.mem_iff_getElem.1 hp
   simp only [List.length_zip, Nat.min_self] at hi
   rw [List.getElem_zip] at he
   subst he
   have hi' : i < x'.size := by simpa using hi
   have hi2 : i < x.size := by rw [hx]; exact hi'
   have h2 := hh i
   rw [Array.getD_eq_getD_getElem?, Array.getElem?_eq_getElem hi2, Array.getD_eq_getD_getElem?, Array.getElem?_eq_getElem hi'] at h2
   have h3 : okq d x[i] = true := List.all_eq_true.1 (show x.toList.all (okq d) = true from h) _ (by simp)
   have := ih h3 h2
   simpa using this
theorem aas (x : Value) : XK (dem x) = XK x := by cases x <;> rfl
theorem afc {fx : Fx} {o : Oper} {v : Value} (hdr : fx.dr = true) (h : yT P fx call T o S = some (v, S')) (hn : Zu P o = false) (hr : xg o = false) (ho : ∀ x ∈ o.op.operands.toList, V0 μ G (dem (jC T x)) (jC A x)) :
  ∃ a, V0 μ G (dem v) a ∧ ∀ H, aOp P (jC A) o H = some (a, H) ∧ yU P (lim P) A o H = some (a, H) := by
 have hrm : kL o = false := by
  unfold xg at hr
  unfold kL
  split <;> simp_all
 unfold yT at h
 split at h <;> first | (cases h; done) | skip
 rename_i hok
 obtain ⟨dst, op, type, pos, after, guard⟩ := o
 by_cases hcall : ∃ c, op = .call c
 ·
  obtain ⟨c, rfl⟩ := hcall
  dsimp only at h ho
  unfold Zu at hn
  dsimp only at hn
  have hcargs : ∀ x ∈ c.args.toList, V0 μ G (dem (jC T x)) (jC A x) := by
   intro x hx
   refine ho x ?_
   simp only [Op.operands, Call.operands]
   cases c.callee <;> simp <;> first | exact .inr (by simpa using hx) | exact (by simpa using hx)
  have step : ∀ {b : Builtin} (a : Value), c.callee = .builtin b → (∀ H, kY P b c.argTypes type (c.args.toList.map (jC A)) H = some (a, H)) → ∀ H, aOp P (jC A) ⟨dst, .call c, type, pos, after, guard⟩ H = some (a, H) ∧ yU P (lim P) A ⟨dst, .call c, type, pos, after, guard⟩ H = some (a, H) := by
   intro b a hb hall H
   constructor
   ·
    unfold aOp; dsimp only; rw [hb]; exact hall H
   ·
    unfold yU; rw [if_pos hok]; dsimp only; rw [hb]; exact hall H
  cases hcal : c.callee with
  | value f => rw [hcal] at hn; cases hn
  | invoke r m => rw [hcal] at hn; cases hn
  | builtin b =>
   rw [hcal] at h
   dsimp only at h
   unfold Ky at h
   rw [hcal] at hn
   have gargs : (c.args.toList.map (jC T)).all ground = true → c.args.toList.map (jC A) = c.args.toList.map (jC T) := by
    intro hg
    apply List.map_congr_left
    intro x hx
    exact jU (hcargs x hx) (List.all_eq_true.1 hg _ (List.mem_map.2 ⟨x, hx, rfl⟩))
   cases b <;> dsimp only at h hn <;> first | (cases h; done) | (cases hn; done) | skip
   case len =>
    split at h <;> first | (cases h; done) | skip
    rename_i t x0 ht ha
    obtain ⟨x, hx, rfl⟩ : ∃ x, c.args.toList = [x] ∧ jC T x = x0 := by
     match hl : c.args.toList with
     | [] => rw [hl] at ha; cases ha
     | [y] => rw [hl] at ha; simp at ha; exact ⟨y, rfl, ha⟩
     | y :: z :: w => rw [hl] at ha; simp at ha
    have hxv := hcargs x (by rw [hx]; simp)
    obtain ⟨rfl, a, h1, h2⟩ := adL h hxv
    have hmap : ∀ m, jC A x ≠ .map m := by
     intro m hm
     rw [hm] at hxv
     generalize hu : dem (jC T x) = u at hxv
     have hum : ∃ m', u = .map m' := by cases hxv <;> exact ⟨_, rfl⟩
     obtain ⟨m', rfl⟩ := hum
     have : jC T x = .map m' := by
      cases hv : jC T x <;> rw [hv] at hu <;> simp [dem, kC] at hu <;> rw [hu]
     rw [this] at h
     simp [Zw] at h
    refine ⟨a, h2.dem, step a hcal fun H => ?_⟩
    unfold kY
    dsimp only
    rw [ht, hx]
    exact (ac4 hmap).two h1 H
   case min =>
    obtain ⟨rfl, hg, hga, hh⟩ := yD (H := G) h
    refine ⟨v, (V0.ground hg).dem, step v hcal fun H => ?_⟩
    unfold kY
    dsimp only
    rw [gargs hga]
    exact (y7 _ _).two hh H
   case max =>
    obtain ⟨rfl, hg, hga, hh⟩ := yD (H := G) h
    refine ⟨v, (V0.ground hg).dem, step v hcal fun H => ?_⟩
    unfold kY
    dsimp only
    rw [gargs hga]
    exact (y7 _ _).two hh H
 ·
  have hnc : ∀ c, op ≠ .call c := fun c hc => hcall ⟨c, hc⟩
  have hV : vOp P fx (jC T) ⟨dst, op, type, pos, after, guard⟩ S = some (v, S') := by
   cases op <;> first | exact h | exact absurd rfl (hnc _)
  obtain ⟨rfl, a, h1, h2, h3⟩ := Xb (ρA := jC A) hV hn ho (.inl (Wp hrm)) (.inl hdr)
  have hA : ∀ H, yU P (lim P) A ⟨dst, op, type, pos, after, guard⟩ H = aOp P (jC A) ⟨dst, op, type, pos, after, guard⟩ H := by
   intro H
   unfold yU
   rw [if_pos hok]
   cases op <;> first | rfl | exact absurd rfl (hnc _)
  refine ⟨a, h2, fun H => ?_⟩
  rw [hA]
  have key : aOp P (jC A) ⟨dst, op, type, pos, after, guard⟩ H = some (a, H) := by
   have hf : Zp (aOp P (jC A) ⟨dst, op, type, pos, after, guard⟩) := by
    unfold Zu at hn
    unfold xg at hr
    unfold aOp
    unfold vOp at hV
    cases op <;> dsimp only at hn hr hV ⊢ <;> first | (cases hn; done) | (cases hr; done) | (cases hV; done) | skip
    ·
     exact WZ _
    ·
     exact WZ _
    ·
     exact aaZ _ _ _
    ·
     exact X7
    ·
     exact YM
    ·
     exact XI _ _ _ _
    ·
     exact aee _ _
    ·
     exact WZ _
    ·
     exact Yv _ _ _
    ·
     exact VO _ _ _
    ·
     exact Yc _ _ _
    ·
     exact VP
    ·
     exact Q8 _ _
   exact hf.two h1 H
  exact ⟨key, key⟩
theorem ac1 {t : TypeId} {r o e : Nat} {l : List Value} {own own' : Own} {a : Value} (hg : G.get r = some (.cells l own e)) (hg' : H2.get r = some (.cells l own' e)) (h : qB P t (.pointer (some ⟨r, o, none⟩)) G = some (a, G)) :
  qB P t (.pointer (some ⟨r, o, none⟩)) H2 = some (a, H2) := by
 simp only [qB, hg] at h
 simp only [qB, hg']
 (repeat' split at h) <;> first | (cases h; done) | skip
 all_goals simp_all
theorem VV.backed {v : Value} {r o n c : Nat} (h : V0 μ G v (.slice (some ⟨r, o, none⟩) n c)) (hv : XK v = false) : ∃ l own e, r < G.next ∧ YL μ r ∧ G.get r = some (.cells l own e) := by
 cases h with
 | sg hs => simp [Go.Abs.sg] at hs
 | slm hm => simp [XK] at hv
 | sl hr hp hg _ _ _ => exact ⟨_, _, _, hr, hp, hg⟩
theorem abt {x : Value} {n : Nat} {cs : List Value} (hx : ∀ r o n c, x = .slice (some ⟨r, o, none⟩) n c → ∃ l own own' e, G.get r = some (.cells l own e) ∧ H2.get r = some (.cells l own' e)) (h : qF x n G = some cs) : qF x n H2 = some cs := by
 unfold qF at h ⊢
 split at h
 ·
  rename_i r o k c
  obtain ⟨l, own, own', e, hg, hg'⟩ := hx _ _ _ _ rfl
  rw [hg] at h
  rw [hg']
  exact h
 ·
  exact h
 ·
  exact h
 ·
  cases h
theorem abA {src dst : TypeId} {x a : Value} (hd : ∀ e, P.underlying dst ≠ some (.slice e)) (hx : ∀ r o n c, x = .slice (some ⟨r, o, none⟩) n c → ∃ l own own' e, G.get r = some (.cells l own e) ∧ H2.get r = some (.cells l own' e)) (h : yV P src dst x G = some (a, G)) :
  yV P src dst x H2 = some (a, H2) := by
 unfold yV at h ⊢
 split at h
 ·
  rename_i b n c
  (try dsimp only)
  split at h
  ·
   rename_i e hs hdd
   split at h <;> first | (cases h; done) | skip
   rename_i he
   split at h <;> first | (cases h; done) | skip
   rename_i cs hcs
   rw [abt hx hcs]
   (try dsimp only)
   split at h <;> first | (cases h; done) | skip
   rename_i bs hbs
   (try rw [hbs])
   cases h
   rfl
  ·
   rename_i e0 e hs hdd
   exact absurd hdd (hd e)
  ·
   cases h
 ·
  rename_i s
  (try dsimp only)
  split at h
  ·
   rename_i d e hs hdd
   exact absurd hdd (hd e)
  ·
   exact (y7 _ _).two h H2
 ·
  exact (y7 _ _).two h H2
theorem abu {t : TypeId} {x a : Value} {lo hi : Option Value} (hx : ∀ r o n c, x = .slice (some ⟨r, o, none⟩) n c → ∃ l own own' e, G.get r = some (.cells l own e) ∧ H2.get r = some (.cells l own' e)) (h : kR P t x lo hi G = some (a, G)) :
  kR P t x lo hi H2 = some (a, H2) := by
 unfold kR at h ⊢
 split at h
 ·
  rename_i s hu
  exact (y7 _ _).two h H2
 ·
  rename_i e b n c hu
  (try dsimp only)
  split at h <;> first | (cases h; done) | skip
  rename_i size l hh hs hl hhi
  (try simp only [hs, hl, hhi])
  split at h <;> first | (cases h; done) | skip
  rename_i c0
  split at h <;> first | (cases h; done) | skip
  rename_i c1
  split at h <;> first | (cases h; done) | skip
  rename_i c2
  rw [if_pos c0, if_pos c1, if_pos c2]
  split at h
  ·
   split at h <;> first | (cases h; done) | skip
   rename_i hn
   cases h
   rw [if_pos hn]
  ·
   rename_i r o
   obtain ⟨l2, own, own', e2, hg, hg'⟩ := hx _ _ _ _ rfl
   rw [hg] at h
   rw [hg']
   dsimp only at h ⊢
   split at h <;> first | (cases h; done) | skip
   rename_i he
   rw [if_pos he]
   cases h
   rfl
  ·
   split at h <;> first | (cases h; done) | skip
   rename_i hn
   cases h
   rw [if_pos hn]
  ·
   cases h
 ·
  cases h
theorem aaI {t : TypeId} {r o : Nat} {a : Value} {G' : zk} (hg : H2.get r = G.get r) (h : qB P t (.pointer (some ⟨r, o, none⟩)) G = some (a, G')) : qB P t (.pointer (some ⟨r, o, none⟩)) H2 = some (a, H2) := by
 simp only [qB] at h ⊢
 rw [hg]
 (repeat' split at h) <;> first | (cases h; done) | skip
 all_goals simp_all
theorem Xl {t : TypeId} {x k : Value} {ok : Bool} {a : Value} {G' : zk} (hg : ∀ r, x = .map (some r) → H2.get r = G.get r) (h : yE P t x k ok G = some (a, G')) : yE P t x k ok H2 = some (a, H2) := by
 have e : ∀ H : zk, yE P t x k ok H = (yE P t x k ok H).map (fun r => (r.1, H)) := by
  intro H
  unfold yE
  (try dsimp only)
  (repeat' split) <;> rfl
 have e2 : (yE P t x k ok H2).map (·.1) = (yE P t x k ok G).map (·.1) := by
  cases x with
  | map b =>
   cases b with
   | none => unfold yE; dsimp only; (repeat' split) <;> rfl
   | some r =>
    unfold yE
    dsimp only
    rw [hg r rfl]
    (repeat' split) <;> rfl
  | _ => unfold yE; (try dsimp only) <;> (try ((repeat' split) <;> rfl))
 rw [h] at e2
 rw [e H2]
 cases hh : yE P t x k ok H2 with
 | none => rw [hh] at e2; cases e2
 | some w =>
  rw [hh] at e2
  simp only [Option.map_some, Option.some.injEq] at e2 ⊢
  rw [e2]
theorem agl {fx : Fx} {o : Oper} {v : Value} (hdr : fx.dr = true) (h : yT P fx call T o S = some (v, S')) (hn : Zu P o = false) (hm : Zj (jC T) o) (ho : ∀ x ∈ o.op.operands.toList, V0 μ G (dem (jC T x)) (jC A x)) (hL : Later μ G μ2 H2) :
  ∃ a, V0 μ G (dem v) a ∧ aOp P (jC A) o G = some (a, G) ∧ aOp P (jC A) o H2 = some (a, H2) ∧ yU P (lim P) A o G = some (a, G) ∧ yU P (lim P) A o H2 = some (a, H2) := by
 by_cases hr : xg o = false
 ·
  obtain ⟨a, h1, h2⟩ := afc hdr h hn hr ho
  exact ⟨a, h1, (h2 G).1, (h2 H2).1, (h2 G).2, (h2 H2).2⟩
 ·
  unfold yT at h
  split at h <;> first | (cases h; done) | skip
  rename_i hok
  obtain ⟨dst, op, type, pos, after, guard⟩ := o
  unfold xg at hr
  cases op <;> dsimp only at h hr <;> first | (exact absurd rfl hr) | skip
  case load t addr =>
   obtain ⟨rfl, a, h1, h2, h3⟩ := Xb (ρA := jC A) h hn ho (.inl hm) (.inl hdr)
   have hA : ∀ H, yU P (lim P) A ⟨dst, .load t addr, type, pos, after, guard⟩ H = aOp P (jC A) ⟨dst, .load t addr, type, pos, after, guard⟩ H := fun H => by unfold yU; rw [if_pos hok]
   have key : aOp P (jC A) ⟨dst, .load t addr, type, pos, after, guard⟩ H2 = some (a, H2) := by
    have hx := ho addr (by simp [Op.operands])
    have h : zV P fx.nm t (jC T addr) S' = some (v, S') := h
    unfold aOp at h1 ⊢
    dsimp only at h1 ⊢
    unfold zV at h
    split at h
    ·
     rename_i k cs he
     split at h <;> first | (cases h; done) | skip
     rename_i hk
     subst hk
     rw [he] at hx
     have hx : V0 μ G (.iface 3 (.agg cs)) (jC A addr) := hx
     generalize hq : jC A addr = q at hx h1 ⊢
     cases hx with
     | sg hs => simp [Go.Abs.sg] at hs
     | ep hr hp hg hl hc =>
      obtain ⟨own', hg'⟩ := hL.cells _ _ _ _ hr hp hg
      exact ac1 hg hg' h1
    ·
     rename_i ad he
     exact absurd he (hm ad)
    ·
     cases h
   exact ⟨a, h2, h1, key, by rw [hA]; exact h1, by rw [hA]; exact key⟩
  case convert src d x =>
   obtain ⟨rfl, a, h1, h2, h3⟩ := Xb (ρA := jC A) h hn ho (.inl hm) (.inl hdr)
   have hA : ∀ H, yU P (lim P) A ⟨dst, .convert src d x, type, pos, after, guard⟩ H = aOp P (jC A) ⟨dst, .convert src d x, type, pos, after, guard⟩ H := fun H => by unfold yU; rw [if_pos hok]
   have key : aOp P (jC A) ⟨dst, .convert src d x, type, pos, after, guard⟩ H2 = some (a, H2) := by
    have hx := ho x (by simp [Op.operands])
    unfold aOp at h1 ⊢
    dsimp only at h1 ⊢
    refine abA (fun e he => ?_) (fun r o n c hq => ?_) h1
    ·
     unfold Zu at hn
     dsimp only at hn
     rw [he] at hn; cases hn
    ·
     rw [hq] at hx
     have hh : XK (dem (jC T x)) = false := by
      rw [aas]
      have h : qx P fx.hp fx.dr src d (jC T x) S' = some (v, S') := h
      unfold qx at h
      split at h
      ·
       first | (cases h; done) | (rw [hdr] at h; simp at h)
      ·
       rename_i hh; simpa using hh
     obtain ⟨l, own, e, hr, hp, hg⟩ := hx.backed hh
     obtain ⟨own', hg'⟩ := hL.cells _ _ _ _ hr hp hg
     exact ⟨l, own, own', e, hg, hg'⟩
   exact ⟨a, h2, h1, key, by rw [hA]; exact h1, by rw [hA]; exact key⟩
  case slice t x lo hi mx =>
   obtain ⟨rfl, a, h1, h2, h3⟩ := Xb (ρA := jC A) h hn ho (.inl hm) (.inl hdr)
   have hA : ∀ H, yU P (lim P) A ⟨dst, .slice t x lo hi mx, type, pos, after, guard⟩ H = aOp P (jC A) ⟨dst, .slice t x lo hi mx, type, pos, after, guard⟩ H := fun H => by unfold yU; rw [if_pos hok]
   have key : aOp P (jC A) ⟨dst, .slice t x lo hi mx, type, pos, after, guard⟩ H2 = some (a, H2) := by
    have hx := ho x (by simp [Op.operands])
    unfold aOp at h1 ⊢
    cases mx with
    | some m => cases h1
    | none =>
     dsimp only at h1 ⊢
     refine abu (fun r o n c hq => ?_) h1
     rw [hq] at hx
     have hh : XK (dem (jC T x)) = false := by
      rw [aas]
      have h : vT P fx.dr t (jC T x) (lo.map (jC T)) (hi.map (jC T)) S' = some (v, S') := h
      unfold vT at h
      split at h
      ·
       first | (cases h; done) | (rw [hdr] at h; simp at h)
      ·
       rename_i hh; simpa using hh
     obtain ⟨l, own, e, hr, hp, hg⟩ := hx.backed hh
     obtain ⟨own', hg'⟩ := hL.cells _ _ _ _ hr hp hg
     exact ⟨l, own, own', e, hg, hg'⟩
   exact ⟨a, h2, h1, key, by rw [hA]; exact h1, by rw [hA]; exact key⟩
  case lookup t x k ok =>
   exact hm.elim
end
end Go.Abs
namespace Go.Abs
open Go.RowKit
structure Line (P : Program) (fx : Fx) (chk : List Nat) (call : FuncId → List Value → M Value) (ops : Array Oper) (k0 : Nat) (l : List Oper) (Ts As : Nat → List Value) (Ss Hs : Nat → zk) (μs : Nat → Mu) (ωs : Nat → Nat → Option qp) (vs zf : Nat → Value) : Prop where
  inv : ∀ k, k ≤ l.length → GI (μs k) (Ss k) (Hs k) ∧ TI (μs k) (Hs k) (ωs k) (Ts k) (As k)
  step : ∀ k o, l[k]? = some o → Later (μs k) (Hs k) (μs (k + 1)) (Hs (k + 1)) ∧ Kept (ωs k) (Hs k) (ωs (k + 1)) (Hs (k + 1)) ∧
    ((Region.wanted o (ynd ops (As k)) = true ∧ yT P fx call (Ts k) o (Ss k) = some (vs k, Ss (k + 1)) ∧ yU P (lim P) (As k) o (Hs k) = some (zf k, Hs (k + 1)) ∧
        Ts (k + 1) = Zv o (l.drop (k + 1)) (Ts k) (vs k) ∧ As (k + 1) = Jq (As k) o.dst (zf k) ∧ (chk.contains (k0 + k) = true → okq 3 (vs k) = true)) ∨
     (Region.wanted o (ynd ops (As k)) = false ∧ zf k = undef ∧ Ts (k + 1) = Zv o (l.drop (k + 1)) (Ts k) undef ∧ As (k + 1) = Jq (As k) o.dst undef ∧ Hs (k + 1) = Hs k))
section
variable {P : Program} {call : FuncId → List Value → M Value}
theorem ags {fx : Fx} {chk : List Nat} {nl : List (Nat × Nat)} (hc : WO P call) {ops : Array Oper} : ∀ (l : List Oper) (k0 : Nat) (hist : List (Value × zk)) (T T' A : List Value) (S S' H : zk) (μ : Mu) (ω : Nat → Option qp), yK P fx chk nl call ops k0 hist l T S = some (T', S') → GI μ S H → TI μ H ω T A →
    ∃ Ts As Ss Hs μs ωs vs zf tr, Line P fx chk call ops k0 l Ts As Ss Hs μs ωs vs zf ∧ Ts 0 = T ∧ As 0 = A ∧ Ss 0 = S ∧ Hs 0 = H ∧ μs 0 = μ ∧ ωs 0 = ω ∧ Ts l.length = T' ∧ Ss l.length = S' ∧
      qR P (lim P) ops l A H = some (tr, As l.length, Hs l.length) ∧ (∀ k, k < l.length → tr[k]? = some (As k, Hs k, zf k)) ∧ (∀ k, k ≤ l.length → (tr.map (·.2.1) ++ [Hs l.length])[k]? = some (Hs k)) ∧
      ∃ hs : List (Value × zk), hs.length = l.length ∧ (∀ k o, l[k]? = some o → hs[k]? = some (vX (Ts k) o, Ss k)) ∧ (nl.isEmpty = false → nl.all (aai (hist ++ hs ++ [(undef, S')])) = true) := by
  intro l
  induction l with
  | nil =>
    intro k0 hist T T' A S S' H μ ω h hG hT
    simp only [yK] at h
    split at h <;> first | (cases h; done) | skip
    rename_i hst
    cases h
    refine ⟨fun _ => T, fun _ => A, fun _ => S, fun _ => H, fun _ => μ, fun _ => ω, fun _ => undef, fun _ => undef, [], ⟨fun k _ => ⟨hG, hT⟩, fun k o ho => by simp at ho⟩, rfl, rfl, rfl, rfl, rfl, rfl, rfl, rfl, rfl, fun k hk => by simp at hk, fun k hk => ?_, [], rfl, fun k o ho => by simp at ho, fun he => ?_⟩
    · have : k = 0 := by simpa using hk
      subst this
      rfl
    · simpa [vC, he] using hst
  | cons o l ih =>
    intro k0 hist T T' A S S' H μ ω h hG hT
    have hy : (ynd ops T) = ynd ops A := funext fun j => abU hT j
    simp only [yK] at h
    have glue : ∀ (T1 A1 : List Value) (S1 H1 : zk) (μ1 : Mu) (ω1 : Nat → Option qp) (v a : Value), yK P fx chk nl call ops (k0 + 1) (vC nl hist (vX T o) S) l T1 S1 = some (T', S') → GI μ1 S1 H1 → TI μ1 H1 ω1 T1 A1 → Later μ H μ1 H1 → Kept ω H ω1 H1 →
        ((Region.wanted o (ynd ops A) = true ∧ yT P fx call T o S = some (v, S1) ∧ yU P (lim P) A o H = some (a, H1) ∧ T1 = Zv o l T v ∧ A1 = Jq A o.dst a ∧ (chk.contains k0 = true → okq 3 v = true)) ∨
         (Region.wanted o (ynd ops A) = false ∧ a = undef ∧ T1 = Zv o l T undef ∧ A1 = Jq A o.dst undef ∧ H1 = H)) →
        (∀ tr A2 H2, qR P (lim P) ops l A1 H1 = some (tr, A2, H2) → qR P (lim P) ops (o :: l) A H = some ((A, H, a) :: tr, A2, H2)) →
        ∃ Ts As Ss Hs μs ωs vs zf tr, Line P fx chk call ops k0 (o :: l) Ts As Ss Hs μs ωs vs zf ∧ Ts 0 = T ∧ As 0 = A ∧ Ss 0 = S ∧ Hs 0 = H ∧ μs 0 = μ ∧ ωs 0 = ω ∧ Ts (o :: l).length = T' ∧ Ss (o :: l).length = S' ∧
          qR P (lim P) ops (o :: l) A H = some (tr, As (o :: l).length, Hs (o :: l).length) ∧ (∀ k, k < (o :: l).length → tr[k]? = some (As k, Hs k, zf k)) ∧ (∀ k, k ≤ (o :: l).length → (tr.map (·.2.1) ++ [Hs (o :: l).length])[k]? = some (Hs k)) ∧
          ∃ hs : List (Value × zk), hs.length = (o :: l).length ∧ (∀ k o', (o :: l)[k]? = some o' → hs[k]? = some (vX (Ts k) o', Ss k)) ∧ (nl.isEmpty = false → nl.all (aai (hist ++ hs ++ [(undef, S')])) = true) := by
      intro T1 A1 S1 H1 μ1 ω1 v a hrest hG1 hT1 hL hK hstep htr
      obtain ⟨Ts, As, Ss, Hs, μs, ωs, vs, zf, tr, hline, e1, e2, e3, e4, e5, e6, e7, e8, e9, e10, e11, hs, e12, e13, e14⟩ := ih _ _ _ _ _ _ _ _ _ _ hrest hG1 hT1
      refine ⟨fun k => match k with | 0 => T | k + 1 => Ts k, fun k => match k with | 0 => A | k + 1 => As k, fun k => match k with | 0 => S | k + 1 => Ss k, fun k => match k with | 0 => H | k + 1 => Hs k,
        fun k => match k with | 0 => μ | k + 1 => μs k, fun k => match k with | 0 => ω | k + 1 => ωs k, fun k => match k with | 0 => v | k + 1 => vs k, fun k => match k with | 0 => a | k + 1 => zf k, (A, H, a) :: tr,
        ⟨fun k hk => ?_, fun k o' ho => ?_⟩, rfl, rfl, rfl, rfl, rfl, rfl, e7, e8, htr _ _ _ e9, fun k hk => ?_, fun k hk => ?_, (vX T o, S) :: hs, by simp [e12], fun k o' ho => ?_, fun he => ?_⟩
      · cases k with
        | zero => exact ⟨hG, hT⟩
        | succ k => exact hline.inv k (by simpa using hk)
      · cases k with
        | zero =>
          simp only [List.getElem?_cons_zero, Option.some.injEq] at ho
          subst ho
          dsimp only
          rw [e1, e2, e3, e4, e5, e6]
          exact ⟨hL, hK, hstep⟩
        | succ k =>
          have := hline.step k o' (by simpa using ho)
          rw [show k0 + 1 + k = k0 + (k + 1) by omega] at this
          exact this
      · cases k with
        | zero => rfl
        | succ k => simpa using e10 k (by simpa using hk)
      · cases k with
        | zero => rfl
        | succ k => simpa using e11 k (by simpa using hk)
      · cases k with
        | zero =>
          simp only [List.getElem?_cons_zero, Option.some.injEq] at ho
          subst ho
          rfl
        | succ k => simpa using e13 k o' (by simpa using ho)
      · have := e14 he
        rw [show vC nl hist (vX T o) S = hist ++ [(vX T o, S)] by simp [vC, he]] at this
        simpa using this
    split at h
    · rename_i hw
      split at h
      · rename_i v S1 hs
        split at h <;> first | (cases h; done) | skip
        rename_i hchk
        obtain ⟨a, H1, μ1, ω1, h1, h2, h3, h4, h5⟩ := V3 (rest := l) hc hG hT hs
        have hw' : Region.wanted o (ynd ops A) = true := by rw [← hy]; exact hw
        refine glue _ _ _ H1 μ1 ω1 v a h h2 h5 h3 h4 (.inl ⟨hw', hs, h1, rfl, rfl, fun hk => ?_⟩) (fun tr A2 H2 ht => ?_)
        · rw [hk] at hchk; simpa using hchk
        · simp only [qR, hw', if_true, h1, ht]
      · cases h
    · rename_i hw
      obtain ⟨μ1, ω1, h2, h3, h4, h5⟩ := Wy (o := o) (rest := l) hG hT
      have hw' : Region.wanted o (ynd ops A) = false := by rw [← hy]; simpa using hw
      refine glue _ _ _ H μ1 ω1 undef undef h h2 h5 h3 h4 (.inr ⟨hw', rfl, rfl, rfl, rfl⟩) (fun tr A2 H2 ht => ?_)
      simp only [qR, hw', ht]
      rfl
variable {fx : Fx} {chk : List Nat} {ops : Array Oper} {k0 : Nat} {l : List Oper} {Ts As : Nat → List Value} {Ss Hs : Nat → zk} {μs : Nat → Mu} {ωs : Nat → Nat → Option qp} {vs zf : Nat → Value}
theorem Line.later (hl : Line P fx chk call ops k0 l Ts As Ss Hs μs ωs vs zf) {i : Nat} : ∀ (d : Nat), i + d ≤ l.length → Later (μs i) (Hs i) (μs (i + d)) (Hs (i + d)) := by
 intro d
 induction d with
 | zero => intro _; exact Later.refl _ _
 | succ d ih =>
  intro hd
  have ho : l[i + d]? = some l[i + d] := List.getElem?_eq_getElem (by omega)
  exact (ih (by omega)).trans (hl.step (i + d) _ ho).1
theorem Line.kept (hl : Line P fx chk call ops k0 l Ts As Ss Hs μs ωs vs zf) : ∀ (d : Nat), d ≤ l.length → Kept (ωs 0) (Hs 0) (ωs d) (Hs d) := by
 intro d
 induction d with
 | zero => intro _; exact Kept.refl _ _
 | succ d ih =>
  intro hd
  have ho : l[d]? = some l[d] := List.getElem?_eq_getElem (by omega)
  exact (ih (by omega)).trans (hl.step d _ ho).2.1
theorem Vb (i : Nat) (w : Value) : dem (jk i w) = dem w := by
 cases w with
 | tuple vs =>
  simp only [jk, dem]
  congr 1
  apply Array.ext (by simp)
  intro k h1 h2
  rw [Array.getElem_map, Array.getElem_map, Array.getElem_modify]
  split
  ·
   have : ∀ v, kC (kC v) = kC v := by
    intro v
    cases v with
    | iface k v =>
     simp only [kC]
     by_cases h : k = 2
     ·
      rw [if_pos h, if_neg (by decide)]
     ·
      rw [if_neg h, if_neg h]
    | _ => rfl
   exact this _
  ·
   rfl
 | _ => rfl
theorem Xt (o : Oper) (T : List Value) (t : Nat) : dem ((moved o T).getD t undef) = dem (T.getD t undef) := by
 have slot : ∀ t', dem ((qV T t').getD t undef) = dem (T.getD t undef) := by
  intro t'
  rw [qV, ql]
  split
  ·
   rename_i h; rw [h.1, KJ]
  ·
   rfl
 unfold moved
 split
 ·
  exact slot _
 ·
  exact slot _
 ·
  rw [ql]
  split
  ·
   rename_i h; rw [h.1, Vb]
  ·
   rfl
 ·
  split
  ·
   exact slot _
  ·
   rfl
 ·
  rfl
theorem moved_length (o : Oper) (T : List Value) : (moved o T).length = T.length := by
 unfold moved
 split <;> first | simp [qV] | rfl | skip
 split <;> first | simp [qV] | rfl
theorem Xj {o : Oper} {rest : List Oper} {T : List Value} {v : Value} (hd : o.dst = none) (t : Nat) : dem ((Zv o rest T v).getD t undef) = dem (T.getD t undef) := by
 unfold Zv
 rw [hd]
 split
 ·
  rfl
 ·
  exact Xt o T t
theorem Xm {o : Oper} {rest : List Oper} {T : List Value} {v : Value} {d : Nat} (hd : o.dst = some d) (t : Nat) : dem ((Zv o rest T v).getD t undef) = if t = d ∧ d < T.length then dem v else dem (T.getD t undef) := by
 unfold Zv
 rw [hd]
 split
 ·
  simp only [Jq]
  rw [ql]
  split
  ·
   exact KJ v
  ·
   rfl
 ·
  simp only [Jq]
  rw [ql, moved_length]
  split
  ·
   rfl
  ·
   exact Xt o T t
def Clear (μ : Mu) (G : zk) (bad : List Nat) (T A : List Value) : Prop := ∀ t, bad.contains t = false → V0 μ G (dem (T.getD t undef)) (A.getD t undef)
theorem Clear.operands {μ : Mu} {G : zk} {bad : List Nat} {T A : List Value} (h : Clear μ G bad T A) {o : Oper} (hok : aeG o = true) (hc : qP bad o = true) : ∀ x ∈ o.op.operands.toList, V0 μ G (dem (jC T x)) (jC A x) := by
 intro x hx
 have h1 := List.all_eq_true.1 (show o.op.operands.toList.all qY = true from hok) x hx
 have h2 := List.all_eq_true.1 hc x hx
 cases x with
 | tmp t => exact h t (by simpa using h2)
 | const v => exact (VV.yR (μ := μ) (H := G) (ω := W0) (ℓ := none) h1).v0
 | global g => cases h1
 | func f =>
  have : V0 μ G (.func (.func f) #[] #[]) (.func (.func f) #[] #[]) := .func _ rfl rfl (fun i => by simpa using VV.undef) (fun i => by simpa using VV.undef)
  exact this
theorem ZP {T : List Value} {o : Oper} {S S' : zk} {v : Value} (h : yT P fx call T o S = some (v, S')) : aeG o = true := by
 unfold yT at h
 split at h
 ·
  assumption
 ·
  cases h
theorem aa4 {fx : Fx} {o : Oper} {T A : List Value} {v : Value} {S S' H : zk} {μ : Mu} (h : yT P fx call T o S = some (v, S')) (hnm : fx.nm = true) (hm : ¬ Zj (jC T) o) (hG : GI μ S H) (ho : ∀ x ∈ o.op.operands.toList, V0 μ H (dem (jC T x)) (jC A x)) :
  ground v = true ∧ ∃ a, yU P (lim P) A o H = some (a, H) ∧ a = v := by
 have hok := ZP h
 unfold yT at h
 rw [if_pos hok] at h
 obtain ⟨dst, op, type, pos, after, guard⟩ := o
 unfold Zj at hm
 cases op <;> dsimp only at h hm <;> first | (exact absurd True.intro hm) | skip
 case load t a =>
  have h : zV P fx.nm t (jC T a) S = some (v, S') := h
  obtain ⟨q, hq⟩ : ∃ q, jC T a = .pointer q := Classical.byContradiction fun hn => hm fun q hq => hn ⟨q, hq⟩
  obtain ⟨rfl, w, k1, k2⟩ := WS h (ho a (by simp [Op.operands])) (.inr hG)
  rw [hnm] at h
  have hgr : ground v = true := by
   unfold zV at h
   rw [hq] at h
   dsimp only at h
   split at h <;> first | (cases h; done) | skip
   ·
    split at h
    ·
     split at h <;> first | (cases h; done) | skip
     rename_i hg
     cases h
     exact hg
    ·
     rename_i hf; exact absurd rfl hf
   ·
    split at h
    ·
     split at h <;> first | (cases h; done) | skip
     rename_i hg
     cases h
     exact hg
    ·
     rename_i hf; exact absurd rfl hf
  refine ⟨hgr, w, ?_, k2.xu hgr⟩
  unfold yU
  rw [if_pos hok]
  exact k1
 case lookup t x k ok =>
  have h : vJ P fx.nm t (jC T x) (jC T k) ok S = some (v, S') := h
  unfold vJ at h
  rw [hnm] at h
  simp at h
theorem Line.clear (hdr : fx.dr = true) (hl : Line P fx chk call ops k0 l Ts As Ss Hs μs ωs vs zf) {j : Nat} (hj : j ≤ l.length) : ∀ (rest : List Oper) (bad : List Nat) (k : Nat), j ≤ k → l.drop k = rest → Clear (μs j) (Hs j) bad (Ts k) (As k) →
  ∀ d, d ≤ rest.length → Clear (μs j) (Hs j) ((ab8 P fx.nm rest bad).getD d []) (Ts (k + d)) (As (k + d)) := by
 intro rest
 induction rest with
 | nil =>
  intro bad k hjk hr hC d hd
  have : d = 0 := by simpa using hd
  subst this
  exact hC
 | cons o rest ih =>
  intro bad k hjk hr hC d hd
  have hkl : k < l.length := by
   have := congrArg List.length hr
   simp at this; omega
  have ho : l[k]? = some o := by
   have := congrArg (·[0]?) hr
   simpa [List.getElem?_drop] using this
  cases d with
  | zero => exact hC
  | succ d =>
   simp only [ab8, List.getD_cons_succ]
   rw [show k + (d + 1) = k + 1 + d by omega]
   refine ih _ (k + 1) (by omega) ?_ ?_ d (by simpa using hd)
   ·
    rw [← List.drop_drop, hr]; rfl
   ·
    obtain ⟨hL, _, hor⟩ := hl.step k o ho
    obtain ⟨hG, hT⟩ := hl.inv k (by omega)
    have hlen := hT.len
    intro t ht
    cases hd : o.dst with
    | none =>
     rw [hd] at ht
     rcases hor with ⟨_, _, _, e1, e2, _⟩ | ⟨_, _, e1, e2, _⟩
     ·
      rw [e1, Xj hd, e2, hd]; exact hC t ht
     ·
      rw [e1, Xj hd, e2, hd]; exact hC t ht
    | some dd =>
     rw [hd] at ht
     dsimp only at ht
     have htb : bad.contains t = false := by
      split at ht
      ·
       simp only [List.contains_cons, Bool.or_eq_false_iff] at ht; exact ht.2
      ·
       exact ht
     rcases hor with ⟨hw, hv, ha, e1, e2, _⟩ | ⟨_, _, e1, e2, _⟩
     ·
      rw [e1, Xm hd, e2, hd]
      simp only [Jq]
      rw [ql, hlen]
      by_cases hc : t = dd ∧ dd < (As k).length
      ·
       rw [if_pos hc, if_pos hc]
       have hcond : ¬ (Zu P o || !qP bad o || (kL o && !fx.nm)) = true := by
        intro hh
        rw [if_pos hh] at ht
        simp [hc.1] at ht
       simp only [Bool.or_eq_true, not_or, Bool.not_eq_true, Bool.not_eq_eq_eq_not, Bool.not_true, Bool.and_eq_true, not_and] at hcond
       obtain ⟨⟨q1, q2⟩, q3⟩ := hcond
       have q2' : qP bad o = true := by simpa using q2
       have hLj : Later (μs j) (Hs j) (μs k) (Hs k) := by
        have := hl.later (i := j) (k - j) (by omega)
        rwa [show j + (k - j) = k by omega] at this
       by_cases hm : Zj (jC (Ts k)) o
       ·
        obtain ⟨a, h1, _, _, _, h5⟩ := agl hdr hv q1 hm (hC.operands (ZP hv) q2') hLj
        rw [ha] at h5
        have e : zf k = a := by simpa using congrArg (Option.map Prod.fst) h5
        subst e
        exact h1
       ·
        have hrm : kL o = true := by
         cases hrm : kL o with
         | true => rfl
         | false => exact absurd (Wp hrm) hm
        have hnm : fx.nm = true := by have := q3 hrm; simpa using this
        obtain ⟨g1, a, g2, g3⟩ := aa4 hv hnm hm hG (fun x hx => hT.eval (List.all_eq_true.1 (show o.op.operands.toList.all qY = true from ZP hv) x hx))
        rw [ha] at g2
        have e : zf k = a := by simpa using congrArg (Option.map Prod.fst) g2
        subst e
        rw [g3, Y6 g1]
        exact V0.ground g1
      ·
       rw [if_neg hc, if_neg hc]
       exact hC t htb
     ·
      rw [e1, Xm hd, e2, hd]
      simp only [Jq]
      rw [ql, hlen]
      by_cases hc : t = dd ∧ dd < (As k).length
      ·
       rw [if_pos hc, if_pos hc, show dem undef = undef from ZG]
       exact .nores
      ·
       rw [if_neg hc, if_neg hc]
       exact hC t htb
theorem ab7 {hp0 : Bool} (hc : WO P call) {T T' A : List Value} {S S' H : zk} {μ : Mu} {ω : Nat → Option qp} (hd : vN P ops = true) (h : yK P ⟨hp0, !(checked P ops).isEmpty, fixed P ops⟩ (checked P ops) (again P ops) call ops 0 [] ops.toList T S = some (T', S')) (hG : GI μ S H) (hT : TI μ H ω T A) :
  After μ ω H T' S' (Zm P (lim P) ops A H) := by
 obtain ⟨Ts, As, Ss, Hs, μs, ωs, vs, zf, tr, hline, rfl, rfl, rfl, rfl, rfl, rfl, rfl, rfl, e9, e10, e11, hs, e12, e13, e14⟩ := ags hc _ _ _ _ _ _ _ _ _ _ _ h hG hT
 obtain ⟨hGn, hTn⟩ := hline.inv ops.toList.length (Nat.le_refl _)
 have hLn := hline.later (i := 0) ops.toList.length (by omega)
 rw [Nat.zero_add] at hLn
 refine ⟨As ops.toList.length, Hs ops.toList.length, μs ops.toList.length, ωs ops.toList.length, ?_, hGn, hLn, hline.kept _ (Nat.le_refl _), hTn⟩
 simp only [vN, KL, Bool.and_eq_true] at hd
 refine adR hd.1 e9 fun p hp => ?_
 have hchk : (checked P ops).contains p.1 = true := by
  unfold checked
  simp only [List.contains_eq_mem, decide_eq_true_eq]
  exact List.mem_map.2 ⟨p, hp, rfl⟩
 have hdr : (Fx.mk hp0 (!(checked P ops).isEmpty) (fixed P ops)).dr = true := by
  show (!(checked P ops).isEmpty) = true
  cases hl : checked P ops with
  | nil => rw [hl] at hchk; cases hchk
  | cons a b => rfl
 have hp2 := List.all_eq_true.1 hd.2 p hp
 have hp0 := hp
 unfold need at hp
 obtain ⟨i, hi, hp⟩ := List.mem_flatMap.1 hp
 obtain ⟨j, hj, hp⟩ := List.mem_filterMap.1 hp
 have hi : i < ops.toList.length := List.mem_range.1 hi
 have hj : j < ops.toList.length := List.mem_range.1 hj
 split at hp <;> first | (cases hp; done) | skip
 rename_i oi oj hoi hoj
 split at hp <;> first | (cases hp; done) | skip
 rename_i hcond
 cases hp
 simp only [Bool.and_eq_true, Bool.not_eq_true'] at hcond
 obtain ⟨⟨hni, hcj⟩, _⟩ := hcond
 dsimp only at hp2 hchk ⊢
 rw [hoi] at hp2
 dsimp only at hp2
 have hij : i ≠ j := by
  intro e; subst e
  rw [hoi] at hoj; cases hoj
  rw [hni] at hcj; cases hcj
 have hGj : (tr.map (·.2.1) ++ [Hs ops.toList.length])[if j < i then j else j + 1]? = some (Hs (if j < i then j else j + 1)) := e11 _ (by split <;> omega)
 unfold Yx
 rw [hoi, e10 i hi, hGj]
 dsimp only
 obtain ⟨_, _, hor⟩ := hline.step i oi hoi
 rcases hor with ⟨hw, hv, ha, heT, heA, hq⟩ | ⟨hw, _⟩
 ·
  rw [hw]
  simp only [Bool.not_true, Bool.false_or]
  obtain ⟨hGi, hTi⟩ := hline.inv i (by omega)
  have hops : ∀ x ∈ oi.op.operands.toList, V0 (μs i) (Hs i) (dem (jC (Ts i) x)) (jC (As i) x) := fun x hx => hTi.eval (List.all_eq_true.1 (show oi.op.operands.toList.all qY = true from ZP hv) x hx)
  have hq3 : okq 3 (vs i) = true := hq (by rw [Nat.zero_add]; exact hchk)
  have same : ∃ G', aOp P (jC (As i)) oi (Hs (if j < i then j else j + 1)) = some (zf i, G') ∧ abx 3 (zf i) (zf i) = true := by
   by_cases hm : Zj (jC (Ts i)) oi
   case neg =>
    have hrm : kL oi = true := by
     cases hrm : kL oi with
     | true => rfl
     | false => exact absurd (Wp hrm) hm
    have hin : (i, j) ∈ again P ops := List.mem_filter.2 ⟨hp0, by dsimp only; rw [hoi]; exact hrm⟩
    have hne : (again P ops).isEmpty = false := by
     cases hl : again P ops with
     | nil => rw [hl] at hin; cases hin
     | cons a b => rfl
    have hst := List.all_eq_true.1 (e14 hne) _ hin
    rw [List.nil_append] at hst
    have hi1 : (hs ++ [(undef, Ss ops.toList.length)])[i]? = some (vX (Ts i) oi, Ss i) := by
     rw [List.getElem?_append_left (by omega)]; exact e13 i oi hoi
    have hj1 : ∃ p2, (hs ++ [(undef, Ss ops.toList.length)])[if j < i then j else j + 1]? = some (p2, Ss (if j < i then j else j + 1)) := by
     by_cases hjl : (if j < i then j else j + 1) < ops.toList.length
     ·
      rw [List.getElem?_append_left (by omega)]
      exact ⟨_, e13 _ _ (List.getElem?_eq_getElem hjl)⟩
     ·
      have : (if j < i then j else j + 1) = ops.toList.length := by split at hjl <;> (rename_i hh; simp only [hh, if_true, if_false]; omega)
      rw [this, List.getElem?_append_right (by omega), e12, Nat.sub_self]
      exact ⟨_, rfl⟩
    obtain ⟨p2, hj1⟩ := hj1
    unfold aai at hst
    dsimp only at hst
    rw [hi1, hj1] at hst
    dsimp only at hst
    have obj : ∀ q r b, μs i q = some (r, b) → (∀ Sa Sb, kP (vX (Ts i) oi) Sa Sb = true → (∃ o, Sa.get q = some o ∧ o.alive = true) ∧ q ∉ Sb.log.take (Sb.log.length - Sa.log.length)) → (Hs (if j < i then j else j + 1)).get r = (Hs i).get r := by
     intro q r b hq hQ
     by_cases hji : j < i
     ·
      rw [if_pos hji] at hst ⊢
      rw [if_pos hji] at hst
      obtain ⟨⟨o1, g1, g2⟩, g3⟩ := hQ _ _ hst
      obtain ⟨hGj3, _⟩ := hline.inv j (by omega)
      obtain ⟨r0, _, g4, _⟩ := hGj3.obj q o1 g1 g2
      have hL := hline.later (i := j) (i - j) (by omega)
      rw [show j + (i - j) = i by omega] at hL
      obtain ⟨b', hb'⟩ := hL.mu q r0 true g4
      rw [hq] at hb'
      cases hb'
      obtain ⟨new, n1, n2⟩ := hL.still
      rw [hGj3.log, hGi.log] at n1
      rw [n1] at g3
      simp only [List.length_append, Nat.add_sub_cancel, List.take_left] at g3
      exact (n2 q r g4 g3).2.symm
     ·
      rw [if_neg hji] at hst ⊢
      rw [if_neg hji] at hst
      obtain ⟨⟨o1, g1, g2⟩, g3⟩ := hQ _ _ hst
      have hb := hGi.at hq g1 g2
      subst hb
      have hL := hline.later (i := i) (j + 1 - i) (by omega)
      rw [show i + (j + 1 - i) = j + 1 by omega] at hL
      obtain ⟨hGj3, _⟩ := hline.inv (j + 1) (by omega)
      obtain ⟨new, n1, n2⟩ := hL.still
      rw [hGj3.log, hGi.log] at n1
      rw [n1] at g3
      simp only [List.length_append, Nat.add_sub_cancel, List.take_left] at g3
      exact (n2 q r hq g3).2
    clear hst hi1 hj1
    have hok := ZP hv
    have hvo := hv
    unfold yT at hv
    rw [if_pos hok] at hv
    obtain ⟨dst, op, type, pos, after, guard⟩ := oi
    unfold Zj at hm
    cases op <;> dsimp only at hv hm <;> first | (exact absurd True.intro hm) | skip
    case load t a =>
     have hv : zV P (fixed P ops) t (jC (Ts i) a) (Ss i) = some (vs i, Ss (i + 1)) := hv
     obtain ⟨ad, hq⟩ : ∃ q, jC (Ts i) a = .pointer q := Classical.byContradiction fun hn => hm fun q hq => hn ⟨q, hq⟩
     have hx := hops a (by simp [Op.operands])
     obtain ⟨_, w, k1, k2⟩ := WS hv hx (.inr hGi)
     have hA : yU P (lim P) (As i) ⟨dst, .load t a, type, pos, after, guard⟩ (Hs i) = qB P t (jC (As i) a) (Hs i) := by unfold yU; rw [if_pos hok]; rfl
     rw [hA, k1] at ha
     have e : w = zf i := by simpa using congrArg (Option.map Prod.fst) ha
     subst e
     rw [hq] at hx
     have hx : V0 (μs i) (Hs i) (.pointer ad) (jC (As i) a) := hx
     generalize hpa : jC (As i) a = pa at hx k1
     have hres : qB P t pa (Hs (if j < i then j else j + 1)) = some (zf i, Hs (if j < i then j else j + 1)) := by
      cases hx with
      | sg hs =>
       cases ad with
       | none => simp [qB] at k1
       | some ad => simp [Go.Abs.sg] at hs
      | @ptr _ q o r b hmq =>
       refine aaI (obj q r b hmq fun Sa Sb hQ => ?_) k1
       have hQ : kP (jC (Ts i) a) Sa Sb = true := hQ
       rw [hq] at hQ
       simp only [kP, Bool.and_eq_true, Bool.not_eq_true', List.contains_eq_mem, decide_eq_false_iff_not] at hQ
       refine ⟨?_, hQ.2⟩
       have h1 := hQ.1
       split at h1 <;> first | (cases h1; done) | skip
       rename_i hsa
       exact ⟨_, hsa, rfl⟩
     rw [← hpa] at hres
     exact ⟨_, hres, YA 3 (Yq hq3) k2.dem⟩
    case lookup t x k ok =>
     have hv : vJ P (fixed P ops) t (jC (Ts i) x) (jC (Ts i) k) ok (Ss i) = some (vs i, Ss (i + 1)) := hv
     have hx := hops x (by simp [Op.operands])
     obtain ⟨_, w, k1, k2⟩ := Qm hv hx (hops k (by simp [Op.operands])) (.inr hGi)
     have hA : yU P (lim P) (As i) ⟨dst, .lookup t x k ok, type, pos, after, guard⟩ (Hs i) = yE P t (jC (As i) x) (jC (As i) k) ok (Hs i) := by unfold yU; rw [if_pos hok]; rfl
     rw [hA, k1] at ha
     have e : w = zf i := by simpa using congrArg (Option.map Prod.fst) ha
     subst e
     have hres : yE P t (jC (As i) x) (jC (As i) k) ok (Hs (if j < i then j else j + 1)) = some (zf i, Hs (if j < i then j else j + 1)) := by
      refine Xl (fun r hr => ?_) k1
      rw [hr] at hx
      generalize hu : dem (jC (Ts i) x) = u at hx
      have hum : ∃ q b, u = .map (some q) ∧ μs i q = some (r, b) := by
       cases hx with
       | sg hs => simp [Go.Abs.sg] at hs
       | map hmq => exact ⟨_, _, rfl, hmq⟩
      obtain ⟨q, b, rfl, hmq⟩ := hum
      have hxe : jC (Ts i) x = .map (some q) := by
       cases hvx : jC (Ts i) x <;> rw [hvx] at hu <;> simp [dem, kC] at hu <;> rw [hu]
      refine obj q r b hmq fun Sa Sb hQ => ?_
      have hQ : kP (jC (Ts i) x) Sa Sb = true := hQ
      rw [hxe] at hQ
      simp only [kP, Bool.and_eq_true, Bool.not_eq_true', List.contains_eq_mem, decide_eq_false_iff_not] at hQ
      refine ⟨?_, hQ.2⟩
      have h1 := hQ.1
      split at h1 <;> first | (cases h1; done) | skip
      rename_i hsa
      exact ⟨_, hsa, rfl⟩
     exact ⟨_, hres, YA 3 (Yq hq3) k2.dem⟩
   by_cases hrd : xg oi = false
   ·
    obtain ⟨a, h1, h2⟩ := afc hdr hv hni hrd hops
    have h3 := (h2 (Hs i)).2
    rw [ha] at h3
    have e : zf i = a := by simpa using congrArg (Option.map Prod.fst) h3
    subst e
    exact ⟨_, (h2 _).1, YA 3 (Yq hq3) h1⟩
   ·
    have hrd : xg oi = true := by simpa using hrd
    by_cases hlt : i < j
    ·
     rw [if_neg (by omega)]
     have hL := hline.later (i := i) (j + 1 - i) (by omega)
     rw [show i + (j + 1 - i) = j + 1 by omega] at hL
     obtain ⟨a, h1, _, h3, h4, _⟩ := agl hdr hv hni hm hops hL
     rw [ha] at h4
     have e : zf i = a := by simpa using congrArg (Option.map Prod.fst) h4
     subst e
     exact ⟨_, h3, YA 3 (Yq hq3) h1⟩
    ·
     rw [if_pos (by omega)]
     rw [hrd] at hp2
     have hcl : qP ((ab8 P (fixed P ops) (ops.toList.drop j) []).getD (i - j) []) oi = true := by
      simpa [hlt] using hp2
     obtain ⟨hGj2, hTj⟩ := hline.inv j (by omega)
     have hC0 : Clear (μs j) (Hs j) [] (Ts j) (As j) := fun t _ => (hTj.slots t).v0
     have hC := hline.clear hdr (j := j) (by omega) _ [] j (Nat.le_refl _) rfl hC0 (i - j) (by rw [List.length_drop]; omega)
     rw [show j + (i - j) = i by omega] at hC
     have hL := hline.later (i := j) (i - j) (by omega)
     rw [show j + (i - j) = i by omega] at hL
     obtain ⟨a, h1, h2, _, _, h5⟩ := agl hdr hv hni hm (hC.operands (ZP hv) hcl) hL
     rw [ha] at h5
     have e : zf i = a := by simpa using congrArg (Option.map Prod.fst) h5
     subst e
     exact ⟨_, h2, YA 3 (Yq hq3) h1⟩
  obtain ⟨G', h1, h2⟩ := same
  unfold recheck
  rw [h1]
  exact h2
 ·
  rw [hw]
  rfl
end
end Go.Abs
namespace Go.Abs
open Go.RowKit
section
variable {P : Program} {call : FuncId → List Value → M Value}
def aeX (μ : Mu) (ω : Nat → Option qp) (H : zk) (e : AEx) (T' : List Value) (S' : zk) (R : St) : Prop :=
 ∃ A' H' μ' ω', R = some (e, A', H') ∧ GI μ' S' H' ∧ Later μ H μ' H' ∧ Kept ω H ω' H' ∧ TI μ' H' ω' T' A'
theorem aec {hp : Bool} (hc : WO P call) (fuel : Nat) : ∀ (c : Code) (T T' A : List Value) (S S' H : zk) (μ : Mu) (ω : Nat → Option qp) (e : AEx), yZ P hp call fuel c T S = some (e, T', S') → GI μ S H → TI μ H ω T A → aeX μ ω H e T' S' (y5 P c A H) := by
 intro c
 induction c with
 | skip =>
  intro T T' A S S' H μ ω e h hG hT
  simp only [yZ, Option.some.injEq, Prod.mk.injEq] at h
  obtain ⟨rfl, rfl, rfl⟩ := h
  exact ⟨A, H, μ, ω, rfl, hG, Later.refl _ _, Kept.refl _ _, hT⟩
 | exit id =>
  intro T T' A S S' H μ ω e h hG hT
  simp only [yZ, Option.some.injEq, Prod.mk.injEq] at h
  obtain ⟨rfl, rfl, rfl⟩ := h
  exact ⟨A, H, μ, ω, rfl, hG, Later.refl _ _, Kept.refl _ _, hT⟩
 | ret =>
  intro T T' A S S' H μ ω e h hG hT
  simp only [yZ, Option.some.injEq, Prod.mk.injEq] at h
  obtain ⟨rfl, rfl, rfl⟩ := h
  exact ⟨A, H, μ, ω, rfl, hG, Later.refl _ _, Kept.refl _ _, hT⟩
 | region i ops d =>
  intro T T' A S S' H μ ω e h hG hT
  cases d with
  | false =>
   simp only [yZ] at h
   split at h <;> first | (cases h; done) | skip
   rename_i T1 S1 ho
   cases h
   obtain ⟨A', H', μ', ω', h1, h2, h3, h4, h5⟩ := afW hc _ _ _ _ _ _ _ _ _ ho hG hT
   exact ⟨A', H', μ', ω', by simp only [y5, h1], h2, h3, h4, h5⟩
  | true =>
   simp only [yZ] at h
   split at h <;> first | (cases h; done) | skip
   rename_i hd
   split at h <;> first | (cases h; done) | skip
   rename_i T1 S1 ho
   cases h
   obtain ⟨A', H', μ', ω', h1, h2, h3, h4, h5⟩ := ab7 hc hd ho hG hT
   exact ⟨A', H', μ', ω', by simp only [y5, h1], h2, h3, h4, h5⟩
 | seq x y ihx ihy =>
  intro T T' A S S' H μ ω e h hG hT
  simp only [yZ] at h
  split at h
  ·
   rename_i T1 S1 hx
   obtain ⟨A1, H1, μ1, ω1, h1, h2, h3, h4, h5⟩ := ihx _ _ _ _ _ _ _ _ _ hx hG hT
   obtain ⟨A2, H2, μ2, ω2, k1, k2, k3, k4, k5⟩ := ihy _ _ _ _ _ _ _ _ _ h h2 h5
   exact ⟨A2, H2, μ2, ω2, by simp only [y5, h1]; exact k1, k2, h3.trans k3, h4.trans k4, k5⟩
  ·
   rename_i hne
   obtain ⟨A1, H1, μ1, ω1, h1, h2, h3, h4, h5⟩ := ihx _ _ _ _ _ _ _ _ _ h hG hT
   refine ⟨A1, H1, μ1, ω1, ?_, h2, h3, h4, h5⟩
   simp only [y5, h1]
   cases e with
   | normal => exact absurd h (hne _ _)
   | exit id => rfl
   | ret => rfl
 | cond c x y ihx ihy =>
  intro T T' A S S' H μ ω e h hG hT
  simp only [yZ] at h
  split at h <;> first | (cases h; done) | skip
  rename_i hok
  have hv := hT.eval hok
  split at h
  ·
   rename_i hb
   have : jC A c = .bool true := jU hv (by rw [hb]; rfl) |>.trans hb
   obtain ⟨A1, H1, μ1, ω1, h1, h2, h3, h4, h5⟩ := ihx _ _ _ _ _ _ _ _ _ h hG hT
   exact ⟨A1, H1, μ1, ω1, by simp only [y5, hok, if_true, this]; exact h1, h2, h3, h4, h5⟩
  ·
   rename_i hb
   have : jC A c = .bool false := jU hv (by rw [hb]; rfl) |>.trans hb
   obtain ⟨A1, H1, μ1, ω1, h1, h2, h3, h4, h5⟩ := ihy _ _ _ _ _ _ _ _ _ h hG hT
   exact ⟨A1, H1, μ1, ω1, by simp only [y5, hok, if_true, this]; exact h1, h2, h3, h4, h5⟩
  ·
   cases h
 | block id c ih =>
  intro T T' A S S' H μ ω e h hG hT
  simp only [yZ] at h
  split at h
  ·
   rename_i id' T1 S1 hx
   obtain ⟨A1, H1, μ1, ω1, h1, h2, h3, h4, h5⟩ := ih _ _ _ _ _ _ _ _ _ hx hG hT
   by_cases hid : id' = id
   ·
    rw [if_pos hid] at h
    cases h
    exact ⟨A1, H1, μ1, ω1, by simp only [y5, h1, if_pos hid], h2, h3, h4, h5⟩
   ·
    rw [if_neg hid] at h
    cases h
    exact ⟨A1, H1, μ1, ω1, by simp only [y5, h1, if_neg hid], h2, h3, h4, h5⟩
  ·
   rename_i hne
   obtain ⟨A1, H1, μ1, ω1, h1, h2, h3, h4, h5⟩ := ih _ _ _ _ _ _ _ _ _ h hG hT
   refine ⟨A1, H1, μ1, ω1, ?_, h2, h3, h4, h5⟩
   simp only [y5, h1]
   cases e with
   | normal => rfl
   | exit id' => exact absurd h (hne _ _ _)
   | ret => rfl
 | loop c ih =>
  have key : ∀ (n : Nat) (T T' A : List Value) (S S' H : zk) (μ : Mu) (ω : Nat → Option qp) (e : AEx), qK n (yZ P hp call fuel c) T S = some (e, T', S') → GI μ S H → TI μ H ω T A → aeX μ ω H e T' S' (qo (y5 P c) A H) := by
   intro n
   induction n with
   | zero => intro T T' A S S' H μ ω e h; cases h
   | succ n ihn =>
    intro T T' A S S' H μ ω e h hG hT
    simp only [qK] at h
    split at h
    ·
     rename_i T1 S1 hx
     obtain ⟨A1, H1, μ1, ω1, h1, h2, h3, h4, h5⟩ := ih _ _ _ _ _ _ _ _ _ hx hG hT
     obtain ⟨A2, H2, μ2, ω2, k1, k2, k3, k4, k5⟩ := ihn _ _ _ _ _ _ _ _ _ h h2 h5
     exact ⟨A2, H2, μ2, ω2, by rw [yN h1]; exact k1, k2, h3.trans k3, h4.trans k4, k5⟩
    ·
     rename_i hne
     obtain ⟨A1, H1, μ1, ω1, h1, h2, h3, h4, h5⟩ := ih _ _ _ _ _ _ _ _ _ h hG hT
     exact ⟨A1, H1, μ1, ω1, wO h1 (fun he => by subst he; exact hne _ _ h), h2, h3, h4, h5⟩
  intro T T' A S S' H μ ω e h hG hT
  simp only [yZ] at h
  obtain ⟨A1, H1, μ1, ω1, h1, h2⟩ := key fuel _ _ _ _ _ _ _ _ _ h hG hT
  exact ⟨A1, H1, μ1, ω1, by simp only [y5]; exact h1, h2⟩
 | _ => intro T T' A S S' H μ ω e h; simp only [yZ] at h; cases h
theorem VV.ag4 {μ : Mu} {H : zk} {ω ω' : Nat → Option qp} {f : qp → Option qp} (hω : ∀ r, ω' r = (ω r).bind f) {s s' : qp} (hs : f s = some s') {v a : Value} (h : VV μ H ω (some s) v a) (hv : wI v = true) : VV μ H ω' (some s') v a := by
 cases h with
 | sg h => exact .sg h
 | ptr h => exact .ptr h
 | map h => exact .map h
 | slm h => exact .slm h
 | slE => exact .slE
 | sl hr hp hg hl hl' hc => exact .sl hr hp hg hl hl' (fun i hi => (hc i hi).at0)
 | so h hr hp hg hl hl' hc => exact .so (by rw [hω, h]; exact hs) hr hp hg hl hl' (fun i hi => (hc i hi).at0)
 | ep hr hp hg hl hc => exact .ep hr hp hg hl (fun i hi => (hc i hi).at0)
 | func fn hx hc h1 h2 => exact .func fn hx hc (fun i => (h1 i).at0) (fun i => (h2 i).at0)
 | agg hx hh => exact .agg hx (fun i => (hh i).at0)
 | nores => exact .nores
 | @tuple _ x x' hx hh =>
  have h0 : x.size = 0 := by simpa [wI] using hv
  have e1 : x = #[] := Array.eq_empty_of_size_eq_zero h0
  have e2 : x' = #[] := Array.eq_empty_of_size_eq_zero (by rw [← hx]; exact h0)
  subst e1 e2
  exact .nores
def place (rs : List ResultVar) : qp → Option qp
 | .ext => some .ext
 | .res _ => none
 | .slot i j => match rs with
  | [.tmp t] => if i = t then some (.res j) else none
  | _ => match j with
   | none => (rs.findIdx? (adU i)).map fun k => .res (some k)
   | some _ => none
theorem abn {rs : List ResultVar} {i : Nat} (h : ∀ t, rs ≠ [.tmp t]) : place rs (.slot i none) = (rs.findIdx? (adU i)).map fun k => .res (some k) := by
 match rs, h with
 | [], _ => rfl
 | [.tmp t], h => exact absurd rfl (h t)
 | [.cell _ _], _ => rfl
 | .tmp _ :: _ :: _, _ => rfl
 | .cell _ _ :: _ :: _, _ => rfl
theorem VI {μ : Mu} {ω : Nat → Option qp} {S H : zk} {T A : List Value} (hG : GI μ S H) (hT : TI μ H ω T A) : ∀ (l : List ResultVar) (vs : List Value), zO P T S l = some vs →
  ∃ zf, vM P A H l = some zf ∧ vs.length = l.length ∧ zf.length = l.length ∧ ∀ i : Nat, match (l[i]? : Option ResultVar) with
   | some (.tmp t) => vs.getD i undef = T.getD t undef ∧ zf.getD i undef = A.getD t undef
   | _ => V0 μ H (vs.getD i undef) (zf.getD i undef) := by
 intro l
 induction l with
 | nil =>
  intro vs h
  simp only [zO, Option.some.injEq] at h
  subst h
  exact ⟨[], rfl, rfl, rfl, fun i => by simpa using VV.undef⟩
 | cons x l ih =>
  intro vs h
  cases x with
  | tmp t =>
   simp only [zO] at h
   split at h <;> first | (cases h; done) | skip
   rename_i vs' hr
   cases h
   obtain ⟨zf, h1, h2, h3, h4⟩ := ih _ hr
   refine ⟨A.getD t undef :: zf, by simp only [vM, h1], by simp [h2], by simp [h3], fun i => ?_⟩
   cases i with
   | zero => exact ⟨rfl, rfl⟩
   | succ i => simpa using h4 i
  | cell a t =>
   simp only [zO] at h
   split at h <;> first | (cases h; done) | skip
   rename_i v S1 vs' hl hr
   cases h
   obtain ⟨zf, h1, h2, h3, h4⟩ := ih _ hr
   obtain ⟨_, w, k1, k2⟩ := WS hl (hT.slots a).v0 (.inr hG)
   refine ⟨w :: zf, by simp only [vM, k1, h1], by simp [h2], by simp [h3], fun i => ?_⟩
   cases i with
   | zero => exact k2
   | succ i => simpa using h4 i
theorem agy {μ : Mu} {ω : Nat → Option qp} {S S' H : zk} {T A : List Value} {fn : Func} {v : Value} (hG : GI μ S H) (hT : TI μ H ω T A) (h : adz P fn T S = some (v, S')) :
  S' = S ∧ ∃ a, aeT P fn A H = some (a, H) ∧ VV μ H (fun r => (ω r).bind (place fn.results.toList)) (some (.res none)) v a := by
 unfold adz at h
 split at h <;> first | (cases h; done) | skip
 rename_i vs hvs
 split at h <;> first | (cases h; done) | skip
 rename_i hok
 obtain ⟨zf, h1, h2, h3, h4⟩ := VI hG hT _ _ hvs
 generalize hrs : fn.results.toList = rs at *
 split at h
 ·
  rename_i v1
  cases h
  obtain ⟨a, rfl⟩ : ∃ a, zf = [a] := by
   match zf, h3.trans h2.symm with
   | [a], _ => exact ⟨a, rfl⟩
  refine ⟨rfl, a, by simp only [aeT, hrs, h1], ?_⟩
  match rs, h2 with
  | [x], _ =>
   have := h4 0
   cases x with
   | tmp t =>
    simp only [List.getElem?_cons_zero, List.getD_cons_zero] at this
    obtain ⟨rfl, rfl⟩ := this
    refine (hT.slots t).KD (fun _ => rfl) _ (fun s hs => ?_)
    cases hs
    refine ⟨_, rfl, by simp only [place, if_true], fun k t' ht => ?_⟩
    cases ht
    exact ⟨_, rfl, by simp only [place, if_true]⟩
   | cell b t => exact (show V0 μ H v a from this).at0
 ·
  rename_i hne
  split at h <;> first | (cases h; done) | skip
  rename_i hnt
  cases h
  refine ⟨rfl, .tuple zf.toArray, ?_, .tuple (by simp [h2, h3]) fun i => ?_⟩
  ·
   simp only [aeT, hrs, h1]
   match zf, vs, h3.trans h2.symm, hne with
   | [], _, _, _ => rfl
   | [a], [v], _, hne => exact absurd rfl (hne v)
   | a :: b :: c, _, _, _ => rfl
  ·
   have e1 : vs.toArray.getD i undef = vs.getD i undef := by rw [← getD_toList, List.toList_toArray]
   have e2 : zf.toArray.getD i undef = zf.getD i undef := by rw [← getD_toList, List.toList_toArray]
   rw [e1, e2]
   have h5 := h4 i
   cases hx : rs[i]? with
   | none => rw [hx] at h5; exact (show V0 μ H _ _ from h5).at0
   | some x =>
    rw [hx] at h5
    cases x with
    | cell b t => exact (show V0 μ H _ _ from h5).at0
    | tmp t =>
     dsimp only at h5
     have hi : i < rs.length := (List.getElem?_eq_some_iff.1 hx).1
     have hid : rs.findIdx? (adU t) = some i := by
      have := List.all_eq_true.1 hok i (List.mem_range.2 hi)
      rw [hx] at this
      simpa using this
     have hnt2 : wI (T.getD t undef) = true := by
      rw [← h5.1, List.getD_eq_getElem?_getD, List.getElem?_eq_getElem (by omega)]
      exact List.all_eq_true.1 hnt _ (List.getElem_mem _)
     rw [h5.1, h5.2]
     refine (hT.slots t).ag4 (fun _ => rfl) (s' := .res (some i)) ?_ hnt2
     have hne1 : ∀ t', rs ≠ [.tmp t'] := by
      intro t' e
      rw [e] at h2
      match vs, h2 with
      | [v], _ => exact hne v rfl
     rw [abn hne1, hid]; rfl
def acA (P : Program) (O : Ora) : Prop := ∀ f q, O.fn f = some q → WO P (fun g args => if g = f then q args else fun _ => none)
open Classical in
noncomputable def VH (μ μ1 : Mu) (ω : Nat → Option qp) : Nat → Option qp := fun r => if ∃ q, μ q = some (r, true) ∧ ¬ μ1 q = some (r, true) then some .ext else ω r
theorem aeg {call : FuncId → List Value → M Value} (hc : WO P call) {hps : FuncId → Bool} {hp : Bool} : WO P (vK hps hp call) := by
 cases hp with
 | false => exact hc
 | true =>
  intro g args aargs S v S' h μ H ω hG hA hD hE
  unfold vK at h
  dsimp only at h
  split at h
  ·
   exact hc g args aargs S v S' h μ H ω hG hA hD hE
  ·
   split at h <;> first | (cases h; done) | skip
   rename_i m S1 hf
   obtain ⟨μ1, h1, h2, h3⟩ := VN _ _ _ _ _ _ hf hG hA
   split at h <;> first | (cases h; done) | skip
   rename_i r0 hr0
   obtain ⟨v0, S2⟩ := r0
   simp only [Option.some.injEq] at h
   unfold acd at h
   dsimp only at h
   split at h
   ·
    rename_i hb
    cases h
    simp only [Bool.and_eq_true, beq_iff_eq] at hb
    obtain ⟨⟨_, hgr⟩, hlog⟩ := hb
    have hlent : ∀ q r, μ q = some (r, true) → ¬ μ1 q = some (r, true) → r < H.next ∧ YL μ1 r := fun q r hq hn =>
     ⟨hG.lt q r _ hq, fun q' hq' => by
      rcases h2.new q' r hq' with h5 | h5
      ·
       have := hG.inj q q' r hq h5
       subst this
       exact hn hq'
      ·
       have := hG.lt q r _ hq; omega, by rw [h2.hid]; exact hG.vis q r hq⟩
    have hDL : Dom μ1 H (VH μ μ1 ω) := fun r s hs => by
     unfold VH at hs
     split at hs
     ·
      rename_i hx
      obtain ⟨q, hq, hn⟩ := hx
      exact hlent q r hq hn
     ·
      exact ⟨(hD r s hs).1, h2.priv (hD r s hs).1 (hD r s hs).2⟩
    have hEL : ∀ r s, VH μ μ1 ω r = some s → s = .ext := fun r s hs => by
     unfold VH at hs
     split at hs
     ·
      cases hs; rfl
     ·
      exact hE r s hs
    obtain ⟨a, H', μ', ω', k1, k2, k3, k4, k5, k6⟩ := hc g m aargs S1 v S2 hr0 μ1 H (VH μ μ1 ω) h1 h3 hDL hEL
    have hsame : ∀ q r, μ q = some (r, true) → H'.get r = H.get r := fun q r hq => by
     by_cases hn : μ1 q = some (r, true)
     ·
      obtain ⟨new, e1, e2⟩ := k3.still
      have : new = [] := by
       rw [k2.log, h1.log, hlog] at e1
       exact List.append_cancel_right (bs := S1.log) (by rw [← e1]; rfl)
      subst this
      exact (e2 q r hn (by simp)).2
     ·
      exact (k4 r (by unfold VH; rw [if_pos ⟨q, hq, hn⟩])).2
    have hL : Later μ H μ H' := ⟨fun _ _ b h => ⟨b, h⟩, k3.next, fun _ _ h => .inl h, rfl, fun r hr hh => k3.same r hr (by rw [h2.hid]; exact hh), ⟨[], rfl, fun q r hq _ => ⟨hq, hsame q r hq⟩⟩,
     fun r l own e hr hp hg => k3.cells r l own e hr (h2.priv hr hp) hg⟩
    refine ⟨a, H', μ, ω, k1, hG.later hL rfl hsame, hL, fun r hr => ⟨hr, (k4 r ?_).2⟩, fun r s hs => ⟨Nat.lt_of_lt_of_le (hD r s hs).1 k3.next, (hD r s hs).2⟩, ?_⟩
    ·
     unfold VH
     split
     ·
      rfl
     ·
      exact hr
    ·
     rw [VV.xu hgr k6]
     exact VV.yR hgr
   ·
    cases h
    obtain ⟨a, H', μ', ω', k1, k2, k3, k4, k5, k6⟩ := hc g m aargs S1 v S' hr0 μ1 H ω h1 h3 (fun r s hs => ⟨(hD r s hs).1, h2.priv (hD r s hs).1 (hD r s hs).2⟩) hE
    exact ⟨a, H', μ', ω', k1, k2, h2.trans k3, k4, k5, k6⟩
theorem VV.clean {μ μ' : Mu} {H : zk} {ω : Nat → Option qp} (hp : ∀ r, YL μ r → YL μ' r) {ℓ : Option qp} {v a : Value} (h : VV μ H ω ℓ v a) : ∀ d, jB d v = true → VV μ' H ω ℓ v a := by
 induction h with
 | sg h => exact fun _ _ => .sg h
 | ptr h => intro d hc; cases d <;> simp [jB] at hc
 | map h => intro d hc; cases d <;> simp [jB] at hc
 | slm h => intro d hc; cases d <;> simp [jB] at hc
 | slE => exact fun _ _ => .slE
 | sl hr hpr hg hl hn hc ih =>
  intro d hcl
  obtain ⟨d, rfl⟩ : ∃ k, d = k + 4 := by
   match d, hcl with
   | 0, h => cases h
   | 1, h => simp [jB] at h
   | 2, h => simp [jB] at h
   | 3, h => simp [jB] at h
   | k + 4, _ => exact ⟨k, rfl⟩
  simp only [jB] at hcl
  refine .sl hr (hp _ hpr) hg hl hn (fun i hi => ih i hi d ?_)
  rw [List.getD_eq_getElem?_getD, List.getElem?_eq_getElem (by omega)]
  exact List.all_eq_true.1 hcl _ (List.getElem_mem _)
 | so hω hr hpr hg hl hn hc ih =>
  intro d hcl
  obtain ⟨d, rfl⟩ : ∃ k, d = k + 4 := by
   match d, hcl with
   | 0, h => cases h
   | 1, h => simp [jB] at h
   | 2, h => simp [jB] at h
   | 3, h => simp [jB] at h
   | k + 4, _ => exact ⟨k, rfl⟩
  simp only [jB] at hcl
  refine .so hω hr (hp _ hpr) hg hl hn (fun i hi => ih i hi d ?_)
  rw [List.getD_eq_getElem?_getD, List.getElem?_eq_getElem (by omega)]
  exact List.all_eq_true.1 hcl _ (List.getElem_mem _)
 | ep hr hpr hg hl hc ih =>
  intro d hcl
  obtain ⟨d, rfl⟩ : ∃ k, d = k + 2 := by
   match d, hcl with
   | 0, h => cases h
   | 1, h => simp [jB] at h
   | k + 2, _ => exact ⟨k, rfl⟩
  simp only [jB] at hcl
  refine .ep hr (hp _ hpr) hg hl (fun i hi => ih i hi d ?_)
  rw [List.getD_eq_getElem?_getD, List.getElem?_eq_getElem hi]
  exact List.all_eq_true.1 hcl _ (List.getElem_mem _)
 | func fn hx hc h1 h2 => intro d hc; cases d <;> simp [jB] at hc
 | @agg ℓ x x' hx hh ih =>
  intro d hcl
  obtain ⟨d, rfl⟩ : ∃ k, d = k + 1 := by
   match d, hcl with
   | 0, h => cases h
   | k + 1, _ => exact ⟨k, rfl⟩
  simp only [jB] at hcl
  refine .agg hx (fun i => ?_)
  by_cases hi : i < x.size
  ·
   refine ih i d ?_
   rw [Array.getD_eq_getD_getElem?, Array.getElem?_eq_getElem hi]
   exact List.all_eq_true.1 hcl _ (by simp)
  ·
   rw [Array.getD_eq_getD_getElem?, Array.getElem?_eq_none (Nat.le_of_not_lt hi), Array.getD_eq_getD_getElem?, Array.getElem?_eq_none (by omega)]
   exact .nores
 | nores => exact fun _ _ => .nores
 | @tuple ℓ x x' hx hh ih =>
  intro d hcl
  obtain ⟨d, rfl⟩ : ∃ k, d = k + 1 := by
   match d, hcl with
   | 0, h => cases h
   | k + 1, _ => exact ⟨k, rfl⟩
  simp only [jB] at hcl
  refine .tuple hx (fun i => ?_)
  by_cases hi : i < x.size
  ·
   refine ih i d ?_
   rw [Array.getD_eq_getD_getElem?, Array.getElem?_eq_getElem hi]
   exact List.all_eq_true.1 hcl _ (by simp)
  ·
   rw [Array.getD_eq_getD_getElem?, Array.getElem?_eq_none (Nat.le_of_not_lt hi), Array.getD_eq_getD_getElem?, Array.getElem?_eq_none (by omega)]
   exact .nores
open Classical in
noncomputable def ZK (μ : Mu) : Mu := ⟨fun _ => none, fun r => μ.hid r || decide (∃ q, μ q = some (r, true)), []⟩
theorem Yy {μ : Mu} {r : Nat} (h : YL μ r) : YL (ZK μ) r := ⟨fun q hq => (by cases hq), by
 simp only [ZK, h.2, Bool.false_or, decide_eq_false_iff_not]
 rintro ⟨q, hq⟩
 exact h.1 q hq⟩
theorem acF {μ : Mu} {r : Nat} (h : (ZK μ).hid r = false) : YL μ r := by
 simp only [ZK, Bool.or_eq_false_iff, decide_eq_false_iff_not] at h
 exact ⟨fun q hq => h.2 ⟨q, hq⟩, h.1⟩
def ahI (P : Program) (g : FuncId) (args : List Value) (run : M Value) : Prop := ∀ aargs S v S', run S = some (v, S') → ∀ μ H ω, GI μ S H → L0 μ H args aargs → Dom μ H ω → (∀ r s, ω r = some s → s = .ext) →
 ∃ a H' μ' ω', lim P g aargs H = some (a, H') ∧ GI μ' S' H' ∧ Later μ H μ' H' ∧ Kept ω H ω' H' ∧ Dom μ' H' ω' ∧ VV μ' H' ω' (some (.res none)) v a
theorem aeH {g : FuncId} {args : List Value} {run : M Value} (hr : ahI P g args run) : ahI P g args (aby run args) := by
 intro aargs S v S' h μ H ω hG hA hD hE
 unfold aby at h
 split at h <;> first | (cases h; done) | skip
 rename_i hca
 split at h <;> first | (cases h; done) | skip
 rename_i w S1 hrun
 split at h <;> first | (cases h; done) | skip
 rename_i hcw
 cases h
 have hG0 : GI (ZK μ) zk.empty H := ⟨fun q o h => (by cases h), fun q q' r h => (by cases h), fun q r b h => (by cases h), fun q _ => rfl, fun q r h => (by cases h), fun r h => by
  simp only [ZK, Bool.or_eq_true, decide_eq_true_eq] at h
  rcases h with h | ⟨q, hq⟩
  ·
   exact hG.hlt r h
  ·
   exact hG.lt q r _ hq, rfl, fun q cs anc e h => (by cases h)⟩
 have hA0 : L0 (ZK μ) H args aargs := ⟨hA.1, fun i => by
  by_cases hi : i < args.length
  ·
   refine (hA.2 i).clean (fun r h => Yy h) 16 ?_
   rw [List.getD_eq_getElem?_getD, List.getElem?_eq_getElem hi]
   exact List.all_eq_true.1 hca _ (List.getElem_mem _)
  ·
   rw [List.getD_eq_getElem?_getD, List.getElem?_eq_none (Nat.le_of_not_lt hi), List.getD_eq_getElem?_getD, List.getElem?_eq_none (by rw [← hA.1]; omega)]
   exact .nores⟩
 obtain ⟨a, H1, μ1, ω1, k1, k2, k3, k4, k5, k6⟩ := hr aargs _ _ _ hrun (ZK μ) H ω hG0 hA0 (fun r s h => ⟨(hD r s h).1, Yy (hD r s h).2⟩) hE
 have hp1 : ∀ r, YL μ1 r → YL μ r := fun r h => acF (by rw [← k3.hid]; exact h.2)
 have hL : Later μ H μ H1 := ⟨fun _ _ b h => ⟨b, h⟩, k3.next, fun _ _ h => .inl h, rfl, fun r hr hh => k3.same r hr (by simp only [ZK, hh, Bool.true_or]), ⟨[], rfl, fun q r hq _ => ⟨hq, k3.same r (hG.lt q r _ hq) (by
  simp only [ZK, Bool.or_eq_true, decide_eq_true_eq]
  exact .inr ⟨q, hq⟩)⟩⟩, fun r l own e hr hp hg => k3.cells r l own e hr (Yy hp) hg⟩
 refine ⟨a, H1, μ, ω1, k1, ?_, hL, k4, fun r s h => ⟨(k5 r s h).1, hp1 r (k5 r s h).2⟩, k6.clean hp1 16 hcw⟩
 exact hG.later hL rfl fun q r hq => k3.same r (hG.lt q r _ hq) (by
  simp only [ZK, Bool.or_eq_true, decide_eq_true_eq]
  exact .inr ⟨q, hq⟩)
theorem adY {O : Ora} (hO : acA P O) : ∀ n, WO P (vZ P O n) := by
 intro n
 induction n with
 | zero => intro g args aargs S v S' h; cases h
 | succ n ih =>
  intro g args aargs S v S' h μ H ω hG hA hD hE
  simp only [vZ] at h
  cases ho : O.fn g with
  | some q =>
   rw [ho] at h
   exact hO g q ho g args aargs S v S' (by simpa using h) μ H ω hG hA hD hE
  | none =>
   rw [ho] at h
   dsimp only at h
   cases hf : P.funcs[g]? with
   | none => rw [hf] at h; cases h
   | some fn =>
    rw [hf] at h
    dsimp only at h
    split at h <;> first | (cases h; done) | skip
    rename_i hn
    cases hb : fn.body with
    | none => rw [hb] at h; cases h
    | some c =>
     rw [hb] at h
     dsimp only at h
     have hrun : ahI P g args (adO P (O.hp g) (vK O.hp (O.hp g) (vZ P O n)) n fn c args) := by
      intro aargs S v S' h μ H ω hG hA hD hE
      have hT0 : TI μ H ω (args ++ List.replicate (fn.ntmps - args.length) undef) (aargs ++ List.replicate (fn.ntmps - aargs.length) undef) := by
       have hl : L0 μ H (args ++ List.replicate (fn.ntmps - args.length) undef) (aargs ++ List.replicate (fn.ntmps - aargs.length) undef) := by
        refine hA.append (VL.ofRange (by rw [hA.1]) fun i hi => ?_)
        have hi2 : i < fn.ntmps - args.length := by simpa using hi
        rw [List.getD_eq_getElem?_getD, List.getElem?_replicate, if_pos hi2, List.getD_eq_getElem?_getD, List.getElem?_replicate, if_pos (by rw [← hA.1]; exact hi2)]
        exact .nores
       exact ⟨hl.1, fun i => (hl.2 i).at0, hD, fun r j hr => by have := hE r _ hr; cases this⟩
      have fin : ∀ (e : AEx) (T1 : List Value) (S1 : zk), (e = .normal ∨ e = .ret) → yZ P (O.hp g) (vK O.hp (O.hp g) (vZ P O n)) n c (args ++ List.replicate (fn.ntmps - args.length) undef) S = some (e, T1, S1) → adz P fn T1 S1 = some (v, S') →
        ∃ a H' μ' ω', lim P g aargs H = some (a, H') ∧ GI μ' S' H' ∧ Later μ H μ' H' ∧ Kept ω H ω' H' ∧ Dom μ' H' ω' ∧ VV μ' H' ω' (some (.res none)) v a := by
       intro e T1 S1 he hcode hres
       obtain ⟨A1, H1, μ1, ω1, h1, h2, h3, h4, h5⟩ := aec (aeg ih) n c _ _ _ _ _ _ _ _ _ hcode hG hT0
       obtain ⟨rfl, a, k1, k2⟩ := agy (P := P) h2 h5 hres
       refine ⟨a, H1, μ1, fun r => (ω1 r).bind (place fn.results.toList), aeD hf hn hb h1 he k1, h2, h3, fun r hr => ?_, fun r s hs => ?_, k2⟩
       ·
        obtain ⟨q1, q2⟩ := h4 r hr
        exact ⟨by simp [q1, place], q2⟩
       ·
        cases hr : ω1 r with
        | none => simp [hr] at hs
        | some s0 => exact h5.dom r s0 hr
      unfold adO at h
      split at h
      ·
       rename_i T1 S1 hx; exact fin .normal _ _ (.inl rfl) hx h
      ·
       rename_i T1 S1 hx; exact fin .ret _ _ (.inr rfl) hx h
      ·
       cases h
     split at h
     ·
      exact aeH hrun aargs S v S' h μ H ω hG hA hD hE
     ·
      exact hrun aargs S v S' h μ H ω hG hA hD hE
end
end Go.Abs
namespace Go.Abs
open Go.RowKit
open Classical
noncomputable def jf (P : Program) (O : Ora) (g : FuncId) (args : List Value) : M Value := fun S =>
 if h : ∃ r, ∃ k0, ∀ k, k0 ≤ k → vZ P O k g args S = some r then some (Classical.choose h) else none
section
variable {P : Program} {O : Ora}
theorem XH {g : FuncId} {args : List Value} {S : zk} {r : Value × zk} (h : jf P O g args S = some r) : ∃ k0, ∀ k, k0 ≤ k → vZ P O k g args S = some r := by
 unfold jf at h
 split at h
 ·
  rename_i hx
  have := Classical.choose_spec hx
  cases h
  exact this
 ·
  cases h
theorem VF {g : FuncId} {args : List Value} {S : zk} {r : Value × zk} (h : ∃ k0, ∀ k, k0 ≤ k → vZ P O k g args S = some r) : jf P O g args S = some r := by
 have hx : ∃ r, ∃ k0, ∀ k, k0 ≤ k → vZ P O k g args S = some r := ⟨r, h⟩
 unfold jf
 rw [dif_pos hx]
 obtain ⟨k0, h0⟩ := h
 obtain ⟨k1, h1⟩ := Classical.choose_spec hx
 have e0 := h0 (max k0 k1) (Nat.le_max_left _ _)
 have e1 := h1 (max k0 k1) (Nat.le_max_right _ _)
 rw [e0] at e1
 exact e1.symm
theorem agm (hO : acA P O) : WO P (jf P O) := by
 intro g args aargs S v S' h
 obtain ⟨k, hk⟩ := XH h
 exact adY hO k g args aargs S v S' (hk k (Nat.le_refl k))
def agF (c : FuncId → List Value → M Value) (ck : Nat → FuncId → List Value → M Value) : Prop := ∀ g args S r, c g args S = some r → ∃ k0, ∀ k, k0 ≤ k → ck k g args S = some r
theorem Xz : agF (jf P O) (fun k => vZ P O k) := fun g args S r h => XH h
theorem Y1 {c : FuncId → List Value → M Value} {ck : Nat → FuncId → List Value → M Value} (hl : agF c ck) {hps : FuncId → Bool} {hp : Bool} : agF (vK hps hp c) (fun k => vK hps hp (ck k)) := by
 cases hp with
 | false => exact hl
 | true =>
  intro g args S r h
  unfold vK at h
  dsimp only at h
  split at h
  ·
   rename_i hg
   obtain ⟨k0, h0⟩ := hl _ _ _ _ h
   exact ⟨k0, fun k hk => by unfold vK; dsimp only; rw [if_pos hg]; exact h0 k hk⟩
  ·
   rename_i hg
   split at h <;> first | (cases h; done) | skip
   rename_i m S1 hf
   split at h <;> first | (cases h; done) | skip
   rename_i r0 hr0
   obtain ⟨k0, h0⟩ := hl _ _ _ _ hr0
   exact ⟨k0, fun k hk => by unfold vK; dsimp only; rw [if_neg hg, hf]; dsimp only; rw [h0 k hk]; exact h⟩
section
variable {c : FuncId → List Value → M Value} {ck : Nat → FuncId → List Value → M Value}
theorem Xa (hl : agF c ck) {fx : Fx} {T : List Value} {o : Oper} {S : zk} {r : Value × zk} (h : yT P fx c T o S = some r) : ∃ k0, ∀ k, k0 ≤ k → yT P fx (ck k) T o S = some r := by
 unfold yT at h
 split at h
 ·
  rename_i hok
  split at h
  ·
   rename_i q0 hop
   split at h
   ·
    rename_i f hf
    split at h
    ·
     rename_i g first captured hev
     obtain ⟨k0, hk⟩ := hl _ _ _ _ h
     refine ⟨k0, fun k hkk => ?_⟩
     unfold yT
     rw [if_pos hok]
     simp only [hop, hf, hev]
     exact hk k hkk
    ·
     cases h
   ·
    rename_i b hb
    refine ⟨0, fun k _ => ?_⟩
    unfold yT
    rw [if_pos hok]
    simp only [hop, hb]
    exact h
   ·
    cases h
  ·
   rename_i hop
   refine ⟨0, fun k _ => ?_⟩
   unfold yT
   rw [if_pos hok]
   split
   ·
    rename_i q0 hc; exact absurd hc (hop q0)
   ·
    exact h
 ·
  cases h
theorem aeJ (hl : agF c ck) {fx : Fx} {ops : Array Oper} : ∀ (l : List Oper) (T : List Value) (S : zk) (r : List Value × zk), jE P fx c ops l T S = some r → ∃ k0, ∀ k, k0 ≤ k → jE P fx (ck k) ops l T S = some r := by
 intro l
 induction l with
 | nil => intro T S r h; exact ⟨0, fun k _ => h⟩
 | cons o l ih =>
  intro T S r h
  simp only [jE] at h
  split at h
  ·
   rename_i hw
   split at h
   ·
    rename_i v S' hs
    obtain ⟨k1, h1⟩ := Xa hl hs
    obtain ⟨k2, h2⟩ := ih _ _ _ h
    refine ⟨max k1 k2, fun k hk => ?_⟩
    simp only [jE, hw, if_true, h1 k (by omega)]
    exact h2 k (by omega)
   ·
    cases h
  ·
   rename_i hw
   obtain ⟨k2, h2⟩ := ih _ _ _ h
   refine ⟨k2, fun k hk => ?_⟩
   simp only [jE, hw, if_false]
   exact h2 k hk
theorem acM (hl : agF c ck) {fx : Fx} {chk : List Nat} {nl : List (Nat × Nat)} {ops : Array Oper} : ∀ (l : List Oper) (i : Nat) (hist : List (Value × zk)) (T : List Value) (S : zk) (r : List Value × zk), yK P fx chk nl c ops i hist l T S = some r → ∃ k0, ∀ k, k0 ≤ k → yK P fx chk nl (ck k) ops i hist l T S = some r := by
 intro l
 induction l with
 | nil => intro i hist T S r h; exact ⟨0, fun k _ => h⟩
 | cons o l ih =>
  intro i hist T S r h
  simp only [yK] at h
  split at h
  ·
   rename_i hw
   split at h
   ·
    rename_i v S' hs
    split at h
    ·
     rename_i hq
     obtain ⟨k1, h1⟩ := Xa hl hs
     obtain ⟨k2, h2⟩ := ih _ _ _ _ _ h
     refine ⟨max k1 k2, fun k hk => ?_⟩
     simp only [yK, hw, if_true, h1 k (by omega), hq]
     exact h2 k (by omega)
    ·
     cases h
   ·
    cases h
  ·
   rename_i hw
   obtain ⟨k2, h2⟩ := ih _ _ _ _ _ h
   refine ⟨k2, fun k hk => ?_⟩
   simp only [yK, hw, if_false]
   exact h2 k hk
end
noncomputable def zG (P : Program) (O : Ora) (hp : Bool) : Code → List Value → zk → St
 | .skip, T, H => some (.normal, T, H)
 | .region _ ops false, T, H => match jE P ⟨hp, false, false⟩ (vK O.hp hp (jf P O)) ops ops.toList T H with
  | some (T1, H1) => some (.normal, T1, H1)
  | none => none
 | .region _ ops true, T, H => if vN P ops then match yK P ⟨hp, !(checked P ops).isEmpty, fixed P ops⟩ (checked P ops) (again P ops) (vK O.hp hp (jf P O)) ops 0 [] ops.toList T H with
  | some (T1, H1) => some (.normal, T1, H1)
  | none => none
  else none
 | .seq x y, T, H => match zG P O hp x T H with
  | some (.normal, T1, H1) => zG P O hp y T1 H1
  | r => r
 | .cond c x y, T, H => if qY c then
   match jC T c with
   | .bool true => zG P O hp x T H
   | .bool false => zG P O hp y T H
   | _ => none
  else none
 | .block id c, T, H => match zG P O hp c T H with
  | some (.exit id', T1, H1) => if id' = id then some (.normal, T1, H1) else some (.exit id', T1, H1)
  | r => r
 | .loop c, T, H => qo (zG P O hp c) T H
 | .exit id, T, H => some (.exit id, T, H)
 | .ret, T, H => some (.ret, T, H)
 | _, _, _ => none
theorem Qc {hp : Bool} : ∀ (c : Code) (T : List Value) (H : zk) (r), zG P O hp c T H = some r → ∃ k0, ∀ k fuel, k0 ≤ k → k0 ≤ fuel → yZ P hp (vK O.hp hp (vZ P O k)) fuel c T H = some r := by
 intro c
 induction c with
 | skip => intro T H r h; exact ⟨0, fun k fuel _ _ => h⟩
 | region i ops d =>
  intro T H r h
  cases d with
  | false =>
   simp only [zG] at h
   split at h
   ·
    rename_i T1 H1 ho
    obtain ⟨k0, h0⟩ := aeJ (Y1 Xz) _ _ _ _ ho
    exact ⟨k0, fun k fuel hk _ => by simp only [yZ, h0 k hk]; exact h⟩
   ·
    cases h
  | true =>
   simp only [zG] at h
   split at h
   ·
    rename_i hd
    split at h
    ·
     rename_i T1 H1 ho
     obtain ⟨k0, h0⟩ := acM (Y1 Xz) _ _ _ _ _ _ ho
     exact ⟨k0, fun k fuel hk _ => by simp only [yZ, hd, if_true, h0 k hk]; exact h⟩
    ·
     cases h
   ·
    cases h
 | seq x y ihx ihy =>
  intro T H r h
  simp only [zG] at h
  split at h
  ·
   rename_i T1 H1 hx
   obtain ⟨k1, h1⟩ := ihx _ _ _ hx
   obtain ⟨k2, h2⟩ := ihy _ _ _ h
   exact ⟨max k1 k2, fun k fuel hk hf => by simp only [yZ, h1 k fuel (by omega) (by omega)]; exact h2 k fuel (by omega) (by omega)⟩
  ·
   rename_i hne
   obtain ⟨k1, h1⟩ := ihx _ _ _ h
   refine ⟨k1, fun k fuel hk hf => ?_⟩
   simp only [yZ, h1 k fuel hk hf]
   split
   ·
    rename_i T1 H1 he; exact absurd (h.trans he) (hne T1 H1)
   ·
    rfl
 | cond c x y ihx ihy =>
  intro T H r h
  simp only [zG] at h
  split at h
  ·
   rename_i hok
   split at h
   ·
    rename_i hb
    obtain ⟨k1, h1⟩ := ihx _ _ _ h
    exact ⟨k1, fun k fuel hk hf => by simp only [yZ, hok, if_true, hb]; exact h1 k fuel hk hf⟩
   ·
    rename_i hb
    obtain ⟨k1, h1⟩ := ihy _ _ _ h
    exact ⟨k1, fun k fuel hk hf => by simp only [yZ, hok, if_true, hb]; exact h1 k fuel hk hf⟩
   ·
    cases h
  ·
   cases h
 | block id c ih =>
  intro T H r h
  simp only [zG] at h
  split at h
  ·
   rename_i id' T1 H1 hc
   obtain ⟨k1, h1⟩ := ih _ _ _ hc
   exact ⟨k1, fun k fuel hk hf => by simp only [yZ, h1 k fuel hk hf]; exact h⟩
  ·
   rename_i hne
   obtain ⟨k1, h1⟩ := ih _ _ _ h
   refine ⟨k1, fun k fuel hk hf => ?_⟩
   simp only [yZ, h1 k fuel hk hf]
   split
   ·
    rename_i id' T1 H1 he; exact absurd (h.trans he) (hne id' T1 H1)
   ·
    rfl
 | loop c ih =>
  intro T H r h
  simp only [zG] at h
  obtain ⟨n, hn⟩ := ZO h
  have key : ∀ (n : Nat) (T : List Value) (H : zk), qK n (zG P O hp c) T H = some r → ∃ k0, ∀ k fuel, k0 ≤ k → k0 ≤ fuel → ∀ j, n ≤ j → qK j (yZ P hp (vK O.hp hp (vZ P O k)) fuel c) T H = some r := by
   intro n
   induction n with
   | zero => intro T H h; cases h
   | succ n ihn =>
    intro T H h
    simp only [qK] at h
    split at h
    ·
     rename_i T1 H1 hf
     obtain ⟨k1, h1⟩ := ih _ _ _ hf
     obtain ⟨k2, h2⟩ := ihn _ _ h
     refine ⟨max k1 k2, fun k fuel hk hfu j hj => ?_⟩
     obtain ⟨j, rfl⟩ : ∃ i, j = i + 1 := ⟨j - 1, by omega⟩
     simp only [qK, h1 k fuel (by omega) (by omega)]
     exact h2 k fuel (by omega) (by omega) j (by omega)
    ·
     rename_i hne
     obtain ⟨k1, h1⟩ := ih _ _ _ h
     refine ⟨k1, fun k fuel hk hfu j hj => ?_⟩
     obtain ⟨j, rfl⟩ : ∃ i, j = i + 1 := ⟨j - 1, by omega⟩
     simp only [qK, h1 k fuel hk hfu]
     split
     ·
      rename_i T1 H1 he; exact absurd (h.trans he) (hne T1 H1)
     ·
      rfl
  obtain ⟨k0, h0⟩ := key n T H hn
  exact ⟨max k0 n, fun k fuel hk hf => by simp only [yZ]; exact h0 k fuel (by omega) (by omega) fuel (by omega)⟩
 | exit id => intro T H r h; exact ⟨0, fun k fuel _ _ => h⟩
 | ret => intro T H r h; exact ⟨0, fun k fuel _ _ => h⟩
 | _ => intro T H r h; simp only [zG] at h; cases h
theorem yQ {f : FuncId} {fn : Func} {c : Code} {args : List Value} {H H1 H' : zk} {e : AEx} {T : List Value} {v : Value} (ho : O.fn f = none) (hpu : O.pu f = false) (hf : P.funcs[f]? = some fn) (hn : fn.name ≠ "runtime.NumGoroutine") (hb : fn.body = some c)
  (h : zG P O (O.hp f) c (args ++ List.replicate (fn.ntmps - args.length) undef) H = some (e, T, H1)) (he : e = .normal ∨ e = .ret) (hres : adz P fn T H1 = some (v, H')) : jf P O f args H = some (v, H') := by
 obtain ⟨k0, h0⟩ := Qc _ _ _ _ h
 refine VF ⟨k0 + 1, fun k hk => ?_⟩
 obtain ⟨k, rfl⟩ : ∃ i, k = i + 1 := ⟨k - 1, by omega⟩
 simp only [vZ, ho, hf, if_neg hn, hb, hpu, Bool.false_eq_true, if_false, adO, h0 k k (by omega) (by omega)]
 rcases he with rfl | rfl <;> exact hres
theorem yc {f : FuncId} {fn : Func} {c : Code} {args : List Value} {S H1 H' : zk} {e : AEx} {T : List Value} {v : Value} (ho : O.fn f = none) (hpu : O.pu f = true) (hf : P.funcs[f]? = some fn) (hn : fn.name ≠ "runtime.NumGoroutine") (hb : fn.body = some c)
  (h : zG P O (O.hp f) c (args ++ List.replicate (fn.ntmps - args.length) undef) zk.empty = some (e, T, H1)) (he : e = .normal ∨ e = .ret) (hres : adz P fn T H1 = some (v, H')) (hca : args.all (jB 16) = true) (hcv : jB 16 v = true) : jf P O f args S = some (v, S) := by
 obtain ⟨k0, h0⟩ := Qc _ _ _ _ h
 refine VF ⟨k0 + 1, fun k hk => ?_⟩
 obtain ⟨k, rfl⟩ : ∃ i, k = i + 1 := ⟨k - 1, by omega⟩
 have hr : adO P (O.hp f) (vK O.hp (O.hp f) (vZ P O k)) k fn c args zk.empty = some (v, H') := by
  simp only [adO, h0 k k (by omega) (by omega)]
  rcases he with rfl | rfl <;> exact hres
 simp only [vZ, ho, hf, if_neg hn, hb, hpu, if_true, aby, if_pos hca, hr, if_pos hcv]
def Ty.J3 : (t : Ty) → t.Val → List Value
 | .int k, n => [.int k n]
 | .bool, b => [.bool b]
 | .str, s => [.string s]
 | .slc _ e, l => match l with
  | none => [.slice none 0 0]
  | some l => [SL 1 e.sz l.length (l.flatMap e.J3)]
 | .pair a b, (x, y) => a.J3 x ++ b.J3 y
 | .unit, _ => []
theorem Ty.Vl : ∀ (t : Ty) (x : t.Val), (t.J3 x).length = t.sz := by
 intro t
 induction t with
 | pair a b iha ihb => rintro ⟨x, y⟩; simp [Ty.J3, Ty.sz, iha, ihb]
 | slc bytes e ih => intro x; cases x <;> rfl
 | _ => intro x; rfl
theorem WC {e : Ty} (l : List e.Val) : (l.flatMap e.J3).length = l.length * e.sz := by
 induction l with
 | nil => simp
 | cons x l ih => simp [List.flatMap_cons, Ty.Vl, ih, Nat.add_mul]; omega
def M0 : Mu := ⟨fun _ => none, fun _ => false, []⟩
theorem GI.none {H : zk} : GI M0 zk.empty H := ⟨(fun q o h => by cases h), (fun q q' r h => by cases h), (fun q r b h => by cases h), (fun q _ => rfl), (fun q r h => by cases h), (fun r h => by cases h), rfl, (fun q cs anc e h => by cases h)⟩
theorem Ty.Kv : ∀ (t : Ty) (x : t.Val) (H : zk), Later M0 H M0 (t.place x H).2 ∧ L0 M0 (t.place x H).2 (t.J3 x) (t.place x H).1 := by
 intro t
 induction t with
 | int k => intro x H; exact ⟨Later.refl _ _, VL.cons (.sg rfl) VL.nil⟩
 | bool => intro x H; exact ⟨Later.refl _ _, VL.cons (.sg rfl) VL.nil⟩
 | str => intro x H; exact ⟨Later.refl _ _, VL.cons (.sg rfl) VL.nil⟩
 | unit => intro x H; exact ⟨Later.refl _ _, VL.nil⟩
 | pair a b iha ihb =>
  rintro ⟨x, y⟩ H
  obtain ⟨h1, h2⟩ := iha x H
  obtain ⟨h3, h4⟩ := ihb y (a.place x H).2
  exact ⟨h1.trans h3, (h2.later h3).append h4⟩
 | slc bytes e ih =>
  intro x H
  match x with
  | none => exact ⟨Later.refl _ _, VL.cons (.sg rfl) VL.nil⟩
  | some [] => exact ⟨Later.refl _ _, VL.cons (.slE (e := e.sz)) VL.nil⟩
  | some (x :: l) =>
   have key : ∀ (l : List e.Val) (H : zk), Later M0 H M0 (yG e.place l H).2 ∧ L0 M0 (yG e.place l H).2 (l.flatMap e.J3) (yG e.place l H).1 := by
    intro l
    induction l with
    | nil => intro H; exact ⟨Later.refl _ _, VL.nil⟩
    | cons x l ihl =>
     intro H
     obtain ⟨h1, h2⟩ := ih x H
     obtain ⟨h3, h4⟩ := ihl (e.place x H).2
     exact ⟨h1.trans h3, (h2.later h3).append h4⟩
   obtain ⟨h1, h2⟩ := key (x :: l) H
   have hL : Later M0 (yG e.place (x :: l) H).2 M0 ((yG e.place (x :: l) H).2.push (.cells (yG e.place (x :: l) H).1 .ro e.sz)) := Y8 (fun q r h => by cases h) _
   refine ⟨h1.trans hL, VL.cons ?_ VL.nil⟩
   have hlen : (yG e.place (x :: l) H).1.length = (l.length + 1) * e.sz := by rw [← h2.1, WC]; rfl
   show V0 M0 ((yG e.place (x :: l) H).2.push (.cells (yG e.place (x :: l) H).1 .ro e.sz)) (SL 1 e.sz (l.length + 1) ((x :: l).flatMap e.J3)) (.slice (some ⟨(yG e.place (x :: l) H).2.next, 0, none⟩) (l.length + 1) (l.length + 1))
   refine VV.sl (o := 0) (l := (yG e.place (x :: l) H).1) (own := .ro) (by simp) ⟨fun q h => (by cases h), rfl⟩ (by rw [zk.wQ, if_pos rfl]) (by omega) (by rw [List.toList_toArray, WC]; rfl) (fun i hi => ?_)
   rw [Nat.zero_add, List.toList_toArray]
   exact (h2.2 i).vU hL
def Args.J3 : (l : List (Bool × Ty)) → Args l → List Value
 | [], _ => []
 | (b, c) :: l, (x, xs) => ZA b (c.J3 x) :: Args.J3 l xs
theorem aes {H : zk} {b : Bool} {cs cs' : List Value} (h : L0 M0 H cs cs') : V0 M0 H (ZA b cs) (ZA b cs') := by
 unfold ZA
 split
 ·
  exact Yz h
 ·
  rw [Z4, Z4]; exact h.2 0
theorem Args.Kv : ∀ (l : List (Bool × Ty)) (x : Args l) (H : zk), Later M0 H M0 (Args.place l x H).2 ∧ L0 M0 (Args.place l x H).2 (Args.J3 l x) (Args.place l x H).1 := by
 intro l
 induction l with
 | nil => intro x H; exact ⟨Later.refl _ _, VL.nil⟩
 | cons p l ih =>
  obtain ⟨b, c⟩ := p
  rintro ⟨x, xs⟩ H
  obtain ⟨h1, h2⟩ := c.Kv x H
  obtain ⟨h3, h4⟩ := ih xs (c.place x H).2
  exact ⟨h1.trans h3, VL.cons ((aes h2).vU h3) h4⟩
theorem Vy (hO : acA P O) {f : FuncId} {codes : List (Bool × Ty)} {x : Args codes} {S' : zk} (h : jf P O f (Args.J3 codes x) zk.empty = some (.bool true, S')) :
  ∃ k, (vW P k f (Args.place codes x zk.empty).1 (Args.place codes x zk.empty).2).map (·.1) = some (.bool true) := by
 obtain ⟨h1, h2⟩ := Args.Kv codes x zk.empty
 obtain ⟨a, H', μ', ω', k1, k2, k3, k4, k5, k6⟩ := agm hO f _ _ _ _ _ h M0 _ W0 GI.none h2 (fun r s hs => by cases hs) (fun r s hs => by cases hs)
 have : a = .bool true := jU (k6.v0) rfl
 subst this
 exact aa0 k1
theorem adW {hps pus : FuncId → Bool} : acA P ⟨fun _ => none, hps, pus⟩ := fun f q h => by cases h
end
end Go.Abs
namespace Go.Abs
open Go.RowKit
section
variable {R : Type} {P : Program} {O : Ora} {fx : Fx} {hp nm : Bool} {chk : List Nat} {call : FuncId → List Value → M Value} {ops : Array Oper}
def okC (v : Value) (r : Option R) : Option R := if okq 3 v = true then r else none
@[simp] theorem aau (b : Bool) (r : Option R) : okC (.bool b) r = r := Eq.trans rfl rfl
@[simp] theorem adx (k : IntKind) (n : Int) (r : Option R) : okC (.int k n) r = r := Eq.trans rfl rfl
@[simp] theorem Y9 (s : ByteArray) (r : Option R) : okC (.string s) r = r := Eq.trans rfl rfl
@[simp] theorem XP (a : Option Addr) (n c : Nat) (r : Option R) : okC (.slice a n c) r = r := Eq.trans rfl rfl
@[simp] theorem XG (k : Nat) (v : Value) (r : Option R) : okC (.iface k v) r = r := Eq.trans rfl rfl
@[simp] theorem agq (a : Option Addr) (r : Option R) : okC (.pointer a) r = r := Eq.trans rfl rfl
def gdC (v : Value) (b : Bool) (s : M Value) (S : zk) (K : Value → zk → Option R) : Option R :=
 if (vb v == some b) = true then andThen (s S) (fun v S1 => okC v (K v S1)) else K undef S
@[simp] theorem afz (s : M Value) (H : zk) (K : Value → zk → Option R) : gdC (.bool true) true s H K = andThen (s H) (fun v S1 => okC v (K v S1)) := Eq.trans rfl rfl
@[simp] theorem afn (s : M Value) (H : zk) (K : Value → zk → Option R) : gdC (.bool false) false s H K = andThen (s H) (fun v S1 => okC v (K v S1)) := Eq.trans rfl rfl
@[simp] theorem ae1 (s : M Value) (H : zk) (K : Value → zk → Option R) : gdC (.bool true) false s H K = K undef H := Eq.trans rfl rfl
@[simp] theorem aeZ (s : M Value) (H : zk) (K : Value → zk → Option R) : gdC (.bool false) true s H K = K undef H := Eq.trans rfl rfl
@[simp] theorem afi (s : M Value) (b : Bool) (H : zk) (K : Value → zk → Option R) : gdC undef b s H K = K undef H := Eq.trans rfl rfl
abbrev JL {α : Type} (a : α) : Type := Unit
def zM (s : Option (Value × zk)) (K : Value → zk → Option R) (p : JL K) : Option R := andThen s K
def gdK (v : Value) (b : Bool) (s : M Value) (S : zk) (K : Value → zk → Option R) (p : JL K) : Option R := gd v b s S K
def abf (v : Value) (b : Bool) (s : M Value) (S : zk) (K : Value → zk → Option R) (p : JL K) : Option R := gdC v b s S K
def okK (v : Value) (r : Option R) (p : JL r) : Option R := okC v r
@[simp] theorem W9 (v : Value) (H : zk) (K : Value → zk → Option R) (p : JL K) : zM (some (v, H)) K p = K v H := Eq.trans rfl rfl
@[simp] theorem afh (s : M Value) (H : zk) (K : Value → zk → Option R) (p : JL K) : gdK (.bool true) true s H K p = zM (s H) K p := Eq.trans rfl rfl
@[simp] theorem ae9 (s : M Value) (H : zk) (K : Value → zk → Option R) (p : JL K) : gdK (.bool false) false s H K p = zM (s H) K p := Eq.trans rfl rfl
@[simp] theorem afl (s : M Value) (H : zk) (K : Value → zk → Option R) (p : JL K) : gdK (.bool true) false s H K p = K undef H := Eq.trans rfl rfl
@[simp] theorem afo (s : M Value) (H : zk) (K : Value → zk → Option R) (p : JL K) : gdK (.bool false) true s H K p = K undef H := Eq.trans rfl rfl
@[simp] theorem ae0 (s : M Value) (b : Bool) (H : zk) (K : Value → zk → Option R) (p : JL K) : gdK undef b s H K p = K undef H := Eq.trans rfl rfl
@[simp] theorem Vd (s : M Value) (H : zk) (K : Value → zk → Option R) (p : JL K) : abf (.bool true) true s H K p = zM (s H) (fun v S1 => okK v (K v S1) ()) () := Eq.trans rfl rfl
@[simp] theorem Vf (s : M Value) (H : zk) (K : Value → zk → Option R) (p : JL K) : abf (.bool false) false s H K p = zM (s H) (fun v S1 => okK v (K v S1) ()) () := Eq.trans rfl rfl
@[simp] theorem acn (s : M Value) (H : zk) (K : Value → zk → Option R) (p : JL K) : abf (.bool true) false s H K p = K undef H := Eq.trans rfl rfl
@[simp] theorem abQ (s : M Value) (H : zk) (K : Value → zk → Option R) (p : JL K) : abf (.bool false) true s H K p = K undef H := Eq.trans rfl rfl
@[simp] theorem abO (s : M Value) (b : Bool) (H : zk) (K : Value → zk → Option R) (p : JL K) : abf undef b s H K p = K undef H := Eq.trans rfl rfl
@[simp] theorem aac (b : Bool) (r : Option R) (p : JL r) : okK (.bool b) r p = r := Eq.trans rfl rfl
@[simp] theorem Zd (k : IntKind) (n : Int) (r : Option R) (p : JL r) : okK (.int k n) r p = r := Eq.trans rfl rfl
@[simp] theorem YV (s : ByteArray) (r : Option R) (p : JL r) : okK (.string s) r p = r := Eq.trans rfl rfl
@[simp] theorem XL (a : Option Addr) (n c : Nat) (r : Option R) (p : JL r) : okK (.slice a n c) r p = r := Eq.trans rfl rfl
@[simp] theorem Ym (a : Option Addr) (r : Option R) (p : JL r) : okK (.pointer a) r p = r := Eq.trans rfl rfl
theorem adv {v : Value} (h : okq 3 v = true) (r : Option R) (p : JL r) : okK v r p = r := if_pos h
theorem abZ {l rest : List Oper} {o : Oper} {T : List Value} {T1 : Value → List Value} {S : zk} {v : Value} {r : Option (List Value × zk)} (hl : l = o :: rest) (hg : o.guard = none) (hm : ∀ v, Zv o rest T v = T1 v)
  (hs : yT P fx call T o S = some (v, S)) (hK : jE P fx call ops rest (T1 v) S = r) : jE P fx call ops l T S = r := by
 subst hl
 simp only [jE, Region.wanted, hg, if_true, hs, hm]
 exact hK
theorem agB {l rest : List Oper} {o : Oper} {T : List Value} {T1 : Value → List Value} {S : zk} {s : Option (Value × zk)} {K : Value → zk → Option (List Value × zk)} (hl : l = o :: rest) (hg : o.guard = none) (hm : ∀ v, Zv o rest T v = T1 v)
  (hs : yT P fx call T o S = s) (hK : ∀ v S1, jE P fx call ops rest (T1 v) S1 = K v S1) : jE P fx call ops l T S = zM s K () := by
 show _ = andThen s K
 subst hl hs
 simp only [jE, Region.wanted, hg, if_true, hm, hK]
 rfl
theorem agb {l rest : List Oper} {o : Oper} {T : List Value} {T1 : Value → List Value} {S : zk} {j : Nat} {b : Bool} {g : Value} {s : M Value} {K : Value → zk → Option (List Value × zk)} (hl : l = o :: rest) (hg : o.guard = some (j, b)) (hm : ∀ v, Zv o rest T v = T1 v)
  (hy : ynd ops T j = vb g) (hs : yT P fx call T o S = s S) (hK : ∀ v S1, jE P fx call ops rest (T1 v) S1 = K v S1) : jE P fx call ops l T S = gdK g b s S K () := by
 show _ = gd g b s S K
 subst hl
 simp only [jE, Region.wanted, hg, hy, hs, hm, hK, gd]
 rfl
theorem aep {l rest : List Oper} {o : Oper} {T : List Value} {T1 : Value → List Value} {S : zk} {k : Nat} {s : Option (Value × zk)} {K : Value → zk → Option (List Value × zk)} (hc : chk.contains k = false) (hl : l = o :: rest) (hg : o.guard = none) (hm : ∀ v, Zv o rest T v = T1 v)
  (hs : yT P fx call T o S = s) (hK : ∀ v S1, yK P fx chk [] call ops (k + 1) [] rest (T1 v) S1 = K v S1) : yK P fx chk [] call ops k [] l T S = zM s K () := by
 show _ = andThen s K
 subst hl hs
 simp only [yK, vC, List.isEmpty_nil, if_true, Region.wanted, hg, if_true, hm, hK, hc, Bool.not_false, Bool.true_or]
 rfl
theorem abd {l rest : List Oper} {o : Oper} {T : List Value} {T1 : Value → List Value} {S : zk} {k : Nat} {v : Value} {r : Option (List Value × zk)} (hc : chk.contains k = false) (hl : l = o :: rest) (hg : o.guard = none) (hm : ∀ v, Zv o rest T v = T1 v)
  (hs : yT P fx call T o S = some (v, S)) (hK : yK P fx chk [] call ops (k + 1) [] rest (T1 v) S = r) : yK P fx chk [] call ops k [] l T S = r := by
 subst hl
 simp only [yK, vC, List.isEmpty_nil, if_true, Region.wanted, hg, if_true, hs, hm, hc, Bool.not_false, Bool.true_or]
 exact hK
theorem aeh {l rest : List Oper} {o : Oper} {T : List Value} {T1 : Value → List Value} {S : zk} {k : Nat} {s : Option (Value × zk)} {K : Value → zk → Option (List Value × zk)} (hc : chk.contains k = false) {x : Nat × Nat} {nl : List (Nat × Nat)} {hist : List (Value × zk)} {pe : Value} (hpe : vX T o = pe) (hl : l = o :: rest) (hg : o.guard = none) (hm : ∀ v, Zv o rest T v = T1 v)
  (hs : yT P fx call T o S = s) (hK : ∀ v S1, yK P fx chk (x :: nl) call ops (k + 1) (hist ++ [(pe, S)]) rest (T1 v) S1 = K v S1) : yK P fx chk (x :: nl) call ops k hist l T S = zM s K () := by
 show _ = andThen s K
 subst hl hs
 simp only [yK, vC, List.isEmpty_cons, Bool.false_eq_true, if_false, hpe, Region.wanted, hg, if_true, hm, hK, hc, Bool.not_false, Bool.true_or]
 rfl
theorem aci {l rest : List Oper} {o : Oper} {T : List Value} {T1 : Value → List Value} {S : zk} {k : Nat} {s : Option (Value × zk)} {K : Value → zk → Option (List Value × zk)} (hc : chk.contains k = true) {x : Nat × Nat} {nl : List (Nat × Nat)} {hist : List (Value × zk)} {pe : Value} (hpe : vX T o = pe) (hl : l = o :: rest) (hg : o.guard = none) (hm : ∀ v, Zv o rest T v = T1 v)
  (hs : yT P fx call T o S = s) (hK : ∀ v S1, yK P fx chk (x :: nl) call ops (k + 1) (hist ++ [(pe, S)]) rest (T1 v) S1 = K v S1) : yK P fx chk (x :: nl) call ops k hist l T S = zM s (fun v S1 => okK v (K v S1) ()) () := by
 show _ = andThen s (fun v S1 => okC v (K v S1))
 subst hl hs
 simp only [yK, vC, List.isEmpty_cons, Bool.false_eq_true, if_false, hpe, Region.wanted, hg, if_true, hm, hK, hc, Bool.not_true, Bool.false_or]
 rfl
theorem aaL {l rest : List Oper} {o : Oper} {T : List Value} {T1 : Value → List Value} {S : zk} {k : Nat} {v : Value} {r : Option (List Value × zk)} (hc : chk.contains k = false) {x : Nat × Nat} {nl : List (Nat × Nat)} {hist : List (Value × zk)} {pe : Value} (hpe : vX T o = pe) (hl : l = o :: rest) (hg : o.guard = none) (hm : ∀ v, Zv o rest T v = T1 v)
  (hs : yT P fx call T o S = some (v, S)) (hK : yK P fx chk (x :: nl) call ops (k + 1) (hist ++ [(pe, S)]) rest (T1 v) S = r) : yK P fx chk (x :: nl) call ops k hist l T S = r := by
 subst hl
 simp only [yK, vC, List.isEmpty_cons, Bool.false_eq_true, if_false, hpe, Region.wanted, hg, if_true, hs, hm, hc, Bool.not_false, Bool.true_or]
 exact hK
theorem ad8 {l rest : List Oper} {o : Oper} {T : List Value} {T1 : Value → List Value} {S : zk} {j k : Nat} {b : Bool} {g : Value} {s : M Value} {K : Value → zk → Option (List Value × zk)} (hc : chk.contains k = false) {x : Nat × Nat} {nl : List (Nat × Nat)} {hist : List (Value × zk)} {pe : Value} (hpe : vX T o = pe) (hl : l = o :: rest) (hg : o.guard = some (j, b)) (hm : ∀ v, Zv o rest T v = T1 v)
  (hy : ynd ops T j = vb g) (hs : yT P fx call T o S = s S) (hK : ∀ v S1, yK P fx chk (x :: nl) call ops (k + 1) (hist ++ [(pe, S)]) rest (T1 v) S1 = K v S1) : yK P fx chk (x :: nl) call ops k hist l T S = gdK g b s S K () := by
 show _ = gd g b s S K
 subst hl
 simp only [yK, vC, List.isEmpty_cons, Bool.false_eq_true, if_false, hpe, Region.wanted, hg, hy, hs, hm, hK, gd, hc, Bool.not_false, Bool.true_or, if_true]
 rfl
theorem adC {l rest : List Oper} {o : Oper} {T : List Value} {T1 : Value → List Value} {S : zk} {j k : Nat} {b : Bool} {g : Value} {s : M Value} {K : Value → zk → Option (List Value × zk)} (hc : chk.contains k = true) {x : Nat × Nat} {nl : List (Nat × Nat)} {hist : List (Value × zk)} {pe : Value} (hpe : vX T o = pe) (hl : l = o :: rest) (hg : o.guard = some (j, b)) (hm : ∀ v, Zv o rest T v = T1 v)
  (hy : ynd ops T j = vb g) (hs : yT P fx call T o S = s S) (hK : ∀ v S1, yK P fx chk (x :: nl) call ops (k + 1) (hist ++ [(pe, S)]) rest (T1 v) S1 = K v S1) : yK P fx chk (x :: nl) call ops k hist l T S = abf g b s S K () := by
 show _ = gdC g b s S K
 subst hl
 simp only [yK, vC, List.isEmpty_cons, Bool.false_eq_true, if_false, hpe, Region.wanted, hg, hy, hs, hm, hK, gdC, hc, Bool.not_true, Bool.false_or]
 rfl
def ckK (c : Bool) (r : Option R) (p : JL r) : Option R := if c then r else none
@[simp] theorem VU (r : Option R) (p : JL r) : ckK true r p = r := Eq.trans rfl rfl
noncomputable def af7 (P : Program) (O : Ora) (hp : Bool) (v : Value) (x y : Code) (T : List Value) (S : zk) : St := adZ v (zG P O hp x T S) (zG P O hp y T S)
@[simp] theorem YZ (x y : Code) (T : List Value) (S : zk) : af7 P O hp (.bool true) x y T S = zG P O hp x T S := Eq.trans rfl rfl
@[simp] theorem YG (x y : Code) (T : List Value) (S : zk) : af7 P O hp (.bool false) x y T S = zG P O hp y T S := Eq.trans rfl rfl
@[simp] theorem Yl (T : List Value) (H : zk) : zG P O hp .skip T H = some (.normal, T, H) := Eq.trans rfl rfl
@[simp] theorem Qd (T : List Value) (H : zk) : zG P O hp .ret T H = some (.ret, T, H) := Eq.trans rfl rfl
@[simp] theorem Yd (i : Nat) (T : List Value) (H : zk) : zG P O hp (.exit i) T H = some (.exit i, T, H) := Eq.trans rfl rfl
@[simp] theorem JB (i : Nat) (ops : Array Oper) (T : List Value) (H : zk) : zG P O false (.region i ops false) T H = XY (jE P ⟨false, false, false⟩ (jf P O) ops ops.toList T H) := Eq.trans rfl rfl
@[simp] theorem Jf (i : Nat) (ops : Array Oper) (T : List Value) (H : zk) : zG P O true (.region i ops false) T H = XY (jE P ⟨true, false, false⟩ (vK O.hp true (jf P O)) ops ops.toList T H) := Eq.trans rfl rfl
theorem kZ {i : Nat} {ops : Array Oper} (hd : vN P ops = true) (hf : fixed P ops = nm) (hc : checked P ops = chk) {nl : List (Nat × Nat)} (hn : again P ops = nl) (T : List Value) (H : zk) : zG P O false (.region i ops true) T H = XY (yK P ⟨false, !chk.isEmpty, nm⟩ chk nl (jf P O) ops 0 [] ops.toList T H) := by
 subst hf hc hn
 simp only [zG, hd, if_true, vK]
 rfl
@[simp] theorem Y2 (x y : Code) (T : List Value) (H : zk) : zG P O hp (.seq x y) T H = agQ (zG P O hp x T H) (zG P O hp y) := Eq.trans rfl rfl
@[simp] theorem Wv (i : Nat) (c : Code) (T : List Value) (H : zk) : zG P O hp (.block i c) T H = XO i (zG P O hp c T H) := Eq.trans rfl rfl
@[simp] theorem WV (c : Code) (T : List Value) (H : zk) : zG P O hp (.loop c) T H = qo (zG P O hp c) T H := Eq.trans rfl rfl
@[simp] theorem YF (t : Tmp) (x y : Code) (T : List Value) (H : zk) : zG P O hp (.cond (.tmp t) x y) T H = af7 P O hp (T.getD t undef) x y T H := by
 simp only [zG, qY, if_true, jC]
 rfl
@[simp] theorem Yf : dem undef = undef := ZG
@[simp] theorem acY (k : IntKind) (n : Int) : dem (.int k n) = .int k n := Eq.trans rfl rfl
@[simp] theorem aag (b : Bool) : dem (.bool b) = .bool b := Eq.trans rfl rfl
@[simp] theorem YR (s : ByteArray) : dem (.string s) = .string s := Eq.trans rfl rfl
@[simp] theorem acK : dem (.slice none 0 0) = .slice none 0 0 := Eq.trans rfl rfl
@[simp] theorem abK (x : Array Value) : dem (.agg x) = .agg x := Eq.trans rfl rfl
@[simp] theorem aak (f : Fn) (x c : Array Value) : dem (.func f x c) = .func f x c := Eq.trans rfl rfl
@[simp] theorem YE (a : Option Addr) : dem (.pointer a) = .pointer a := Eq.trans rfl rfl
@[simp] theorem ahL (e n : Nat) (cs : List Value) : dem (SL 1 e n cs) = SL 1 e n cs := Eq.trans rfl rfl
@[simp] theorem ahS (e n : Nat) (cs : List Value) : dem (SL 2 e n cs) = SL 1 e n cs := Eq.trans rfl rfl
@[simp] theorem aeY (k e n : Nat) (cs : List Value) (r : Option R) (p : JL r) : okK (SL k e n cs) r p = r := Eq.trans rfl rfl
@[simp] theorem afm (cs : List Value) (r : Option R) (p : JL r) : okK (EP cs) r p = r := Eq.trans rfl rfl
@[simp] theorem ah0 (k e n : Nat) (cs : List Value) (r : Option R) : okC (SL k e n cs) r = r := Eq.trans rfl rfl
@[simp] theorem afe (cs : List Value) (r : Option R) : okC (EP cs) r = r := Eq.trans rfl rfl
def sv (k e n : Nat) (cs : List Value) : Value := if k = 0 then .slice none 0 0 else SL k e n cs
structure Okv (k n : Nat) (cs : List Value) : Prop where
 le : k ≤ 2
 nil : k = 0 → n = 0 ∧ cs = []
theorem sv0 {e n : Nat} {cs : List Value} : sv 0 e n cs = .slice none 0 0 := rfl
theorem sv1 {e n : Nat} {cs : List Value} : sv 1 e n cs = SL 1 e n cs := rfl
theorem sv2 {e n : Nat} {cs : List Value} : sv 2 e n cs = SL 2 e n cs := rfl
@[simp] theorem V6 (k e n : Nat) (cs : List Value) : dem (sv k e n cs) = sv (if k = 2 then 1 else k) e n cs := by
 unfold sv
 by_cases h0 : k = 0
 ·
  subst h0; rfl
 ·
  by_cases h2 : k = 2
  ·
   subst h2; rfl
  ·
   rw [if_neg h0, if_neg h2, if_neg h0]
   simp only [SL, dem, kC, if_neg h2]
@[simp] theorem Xe (k e n : Nat) (cs : List Value) (r : Option R) : okC (sv k e n cs) r = r := by
 unfold sv; split <;> rfl
@[simp] theorem afk (k e n : Nat) (cs : List Value) (r : Option R) (p : JL r) : okK (sv k e n cs) r p = r := Xe k e n cs r
theorem adw {k e n : Nat} {cs : List Value} (h : Okv k n cs) : ∃ e', vSl (sv k e n cs) = some (e', n, cs) ∧ (e' = e ∨ n = 0 ∧ cs = []) := by
 unfold sv
 by_cases h0 : k = 0
 ·
  obtain ⟨rfl, rfl⟩ := h.nil h0
  rw [if_pos h0]
  exact ⟨0, rfl, .inr ⟨rfl, rfl⟩⟩
 ·
  rw [if_neg h0]
  have : k = 1 ∨ k = 2 := by have := h.le; omega
  exact ⟨e, by simp [SL, vSl, this], .inl rfl⟩
theorem agk {t te : TypeId} {k e n : Nat} {cs : List Value} {S : zk} (ht : P.underlying t = some (.slice te)) (h : Okv k n cs) : Zw P t (sv k e n cs) S = some (goInt n, S) := by
 by_cases h0 : k = 0
 ·
  obtain ⟨rfl, rfl⟩ := h.nil h0
  subst h0
  simp only [sv0, Zw, XZ, ht]
 ·
  obtain ⟨e', h1, _⟩ := adw (e := e) h
  simp only [sv, if_neg h0] at h1 ⊢
  simp only [SL] at h1 ⊢
  simp only [Zw, ht, h1]
theorem JX {t te : TypeId} {k e n : Nat} {cs : List Value} {S : zk} {ki : IntKind} {i : Int} (ht : P.underlying t = some (.slice te)) (he : xR P te = some e) (h : Okv k n cs) (h0 : 0 ≤ i) (hi : i < n) :
  jP P t (sv k e n cs) (.int ki i) S = some (EP ((cs.drop (i.toNat * e)).take e), S) := by
 have hk : k ≠ 0 := fun e => by have := (h.nil e).1; omega
 have hk2 : k = 1 ∨ k = 2 := by have := h.le; omega
 have h1 : vSl (SL k e n cs) = some (e, n, cs) := by simp [SL, vSl, hk2]
 simp only [sv, if_neg hk]
 simp only [SL] at h1 ⊢
 simp only [jP, ht, h1, he, if_true]
 rw [if_pos ⟨h0, hi⟩]
@[simp] theorem Ya {t : TypeId} {v : Value} {S : zk} (ht : kG P t = some false) : zV P nm t (EP [v]) S = some (v, S) := by
 simp [EP, zV, ht]
theorem acQ {t : TypeId} {n : Nat} {cs : List Value} {S : zk} (ht : kG P t = some true) (hn : xR P t = some n) (hc : cs.length = n) : zV P nm t (EP cs) S = some (.agg cs.toArray, S) := by
 simp only [EP, zV, ht, hn, if_true, List.toList_toArray]
 rw [if_pos (by omega), ← hc, List.take_length]
theorem ab9 {t te : TypeId} {k e n : Nat} {cs : List Value} {S : zk} {lo hi : Option Value} {i j : Int} (ht : P.underlying t = some (.slice te)) (he : xR P te = some e) (h : Okv k n cs) (hlo : xA 0 lo = some i) (hhi : xA n hi = some j)
  (h0 : 0 ≤ i) (hij : i ≤ j) (hj : j ≤ n) : Zl P t (sv k e n cs) lo hi S = some (sv (if k = 2 then 1 else k) e (j.toNat - i.toNat) ((cs.drop (i.toNat * e)).take ((j.toNat - i.toNat) * e)), S) := by
 by_cases hk : k = 0
 ·
  obtain ⟨rfl, rfl⟩ := h.nil hk
  subst hk
  simp only [sv0, Zl, ht, vSl, he, hlo, hhi, if_pos h0, if_pos hij, if_pos hj]
  rfl
 ·
  have hk2 : k = 1 ∨ k = 2 := by have := h.le; omega
  have h1 : vSl (SL k e n cs) = some (e, n, cs) := by simp [SL, vSl, hk2]
  have h3 : (if k = 2 then 1 else k) = 1 := by rcases hk2 with rfl | rfl <;> rfl
  rw [h3]
  simp only [sv, if_neg hk]
  simp only [SL] at h1 ⊢
  simp only [Zl, ht, h1, he, hlo, hhi, if_pos h0, if_pos hij, if_pos hj, if_true]
  rfl
theorem ad4 {t te : TypeId} {k e n : Nat} {cs : List Value} {S : zk} (ht : P.underlying t = some (.slice te)) (h : Okv k n cs) : jS P .eql t (sv k e n cs) (.slice none 0 0) S = some (.bool (decide (k = 0)), S) := by
 by_cases hk : k = 0
 ·
  subst hk
  simp only [sv0, jS, Ze, qW, ht, Zt]
  rfl
 ·
  have hk2 : k = 1 ∨ k = 2 := by have := h.le; omega
  have h1 : vSl (SL k e n cs) = some (e, n, cs) := by simp [SL, vSl, hk2]
  simp only [sv, if_neg hk]
  simp only [SL] at h1 ⊢
  simp only [jS, ht, h1]
  simp [hk]
@[simp] theorem Ko (k e n : Nat) (cs : List Value) : XK (sv k e n cs) = false := by unfold sv; split <;> rfl
@[simp] theorem J4 (dr : Bool) (t : TypeId) (k e n : Nat) (cs : List Value) (lo hi : Option Value) (S : zk) : vT P dr t (sv k e n cs) lo hi S = Zl P t (sv k e n cs) lo hi S := by
 unfold vT; rw [Ko]; rfl
@[simp] theorem Jg (dr : Bool) (t : TypeId) (s : ByteArray) (lo hi : Option Value) (S : zk) : vT P dr t (.string s) lo hi S = Zl P t (.string s) lo hi S := Eq.trans rfl rfl
@[simp] theorem Yp (hp dr : Bool) (src dst : TypeId) (k e n : Nat) (cs : List Value) (S : zk) : qx P hp dr src dst (sv k e n cs) S = Jl P src dst (sv k e n cs) S := by
 unfold qx
 rw [Ko]
 have : ∀ s, sv k e n cs ≠ .string s := by intro s; unfold sv; split <;> (intro h; cases h)
 cases hp <;> simp only [Bool.false_eq_true, if_false] <;> (split <;> first | rfl | (rename_i h; exact absurd h (this _)) | skip)
@[simp] theorem Qe (hp dr : Bool) (src dst : TypeId) (k : IntKind) (n : Int) (S : zk) : qx P hp dr src dst (.int k n) S = Jl P src dst (.int k n) S := by cases hp <;> rfl
@[simp] theorem JE (dr : Bool) (src dst : TypeId) (s : ByteArray) (S : zk) : qx P false dr src dst (.string s) S = Jl P src dst (.string s) S := Eq.trans rfl rfl
@[simp] theorem Jd (dr : Bool) (src dst : TypeId) (s : ByteArray) (S : zk) : qx P true dr src dst (.string s) S = yV P src dst (.string s) S := Eq.trans rfl rfl
theorem aaJ {t te tx tex : TypeId} {k e n j m bytes : Nat} {cs ds : List Value} {z : Value} {S : zk} (ht : P.underlying t = some (.slice te)) (he : xR P te = some e) (hz : zeroOf P te = some z) (hzs : z.cells.size = e) (hb : bytesOf P te = some bytes) (hp : 0 < e)
  (htx : P.underlying tx = some (.slice tex)) (h : Okv k n cs) (hk : k ≠ 1) (hx : Okv j m ds) (hn : cs.length = n * e) (hm : ds.length = m * e) (h1 : cs.all (·.oneCell') = true) (h2 : ds.all (·.oneCell') = true) (hl : (n + m) * bytes ≤ 140737488355328) (hmax : n + m ≤ 4611686018427387903) :
  wU P t tx (sv k e n cs) (sv j e m ds) S = some (sv (if k = 0 ∧ m = 0 then 0 else 2) e (n + m) (cs ++ ds), S) := by
 have hel : xB P t = some te := by simp only [xB, ht]
 have hsrc : aha P tx e (sv j e m ds) = some (m, ds) := by
  obtain ⟨e', q1, q2⟩ := adw (e := e) hx
  have hns : ∀ s, sv j e m ds ≠ .string s := by intro s; unfold sv; split <;> (intro h; cases h)
  have hcond : m = 0 ∨ e' = e := q2.elim .inr fun h => .inl h.1
  unfold aha
  split
  ·
   rename_i s hs; exact absurd hs (hns s)
  ·
   simp only [htx, q1, if_pos hcond, if_pos hm, h2, if_true]
 have hsrc : ac8 P tx e (sv j e m ds) S = some (m, ds) := by
  unfold ac8
  rw [Ko]
  exact hsrc
 by_cases hk0 : k = 0
 ·
  obtain ⟨rfl, rfl⟩ := h.nil hk0
  subst hk0
  simp only [sv0, wU, ZV, hel, he, hz, hb, if_pos hp, if_pos hzs, hsrc]
  by_cases hm0 : m = 0
  ·
   subst hm0
   simp [sv0]
  ·
   rw [Nat.zero_add] at hl hmax
   rw [if_neg hm0, if_pos hl, if_pos hmax, if_neg Bool.false_ne_true, if_neg (fun h => hm0 h.2), sv2, Nat.zero_add, List.nil_append]
 ·
  have hk2 : k = 2 := by have := h.le; omega
  subst hk2
  rw [if_neg (fun h => hk0 h.1)]
  have h1' : cs.toArray.toList.all (·.oneCell') = true := by simpa using h1
  simp only [sv2, SL, wU, ZV, hel, he, hz, hb, if_pos hp, if_pos hzs, hsrc, if_true, if_pos hl, if_pos hmax, h1']
@[simp] theorem aap (op : BinOp) (t : TypeId) (k k' : IntKind) (a b : Int) (S : zk) : jS P op t (.int k a) (.int k' b) S = Ze P op t (.int k a) (.int k' b) S := Eq.trans rfl rfl
@[simp] theorem Yu (op : BinOp) (t : TypeId) (a b : ByteArray) (S : zk) : jS P op t (.string a) (.string b) S = Ze P op t (.string a) (.string b) S := Eq.trans rfl rfl
@[simp] theorem Xf (op : BinOp) (t : TypeId) (a b : Bool) (S : zk) : jS P op t (.bool a) (.bool b) S = Ze P op t (.bool a) (.bool b) S := Eq.trans rfl rfl
@[simp] theorem aae (op : BinOp) (t : TypeId) (a b : Array Value) (S : zk) : jS P op t (.agg a) (.agg b) S = Ze P op t (.agg a) (.agg b) S := Eq.trans rfl rfl
@[simp] theorem Qj (b : Bool) (x y : Value) (S : zk) : wH (.bool b) x y S = some (if b then dem x else dem y, S) := Eq.trans rfl rfl
@[simp] theorem KU {src dst : TypeId} (k : IntKind) (n : Int) (S : zk) : Jl P src dst (.int k n) S = yV P src dst (.int k n) S := Eq.trans rfl rfl
@[simp] theorem Je (vs : List Value) (i : Nat) (S : zk) : zY (.tuple vs.toArray) i S = (vs[i]?).map (·, S) := by
 simp only [zY, List.getElem?_toArray]
 cases vs[i]? <;> rfl
end
end Go.Abs
namespace Go.Abs
theorem qM {P : Program} {fn : Func} {a b : Value} {r : List Value} {T : List Value} {S : zk} (h : zO P T S fn.results.toList = some (a :: b :: r)) (hn : afQ fn.results.toList = true) (hall : (a :: b :: r).all wI = true) :
  adz P fn T S = some (.tuple (a :: b :: r).toArray, S) := by
 unfold adz
 rw [h]
 dsimp only
 rw [if_pos hn, if_pos hall]
theorem yg {P : Program} {fn : Func} {a : Value} {T : List Value} {S : zk} (h : zO P T S fn.results.toList = some [a]) (hn : afQ fn.results.toList = true) : adz P fn T S = some (a, S) := by
 unfold adz
 rw [h]
 dsimp only
 rw [if_pos hn]
@[simp] theorem wE (k : IntKind) (n : Int) : wI (.int k n) = true := rfl
@[simp] theorem jY (b : Bool) : wI (.bool b) = true := rfl
@[simp] theorem X0 (k e n : Nat) (cs : List Value) : wI (sv k e n cs) = true := by unfold sv; split <;> rfl
@[simp] theorem wC (x : Array Value) : wI (.agg x) = true := rfl
@[simp] theorem jQ (a : Option Addr) (n c : Nat) : wI (.slice a n c) = true := rfl
end Go.Abs
namespace Go.Abs
open Go.RowKit
def vs {α : Type} (f : α → List Value) (e k : Nat) (l : List α) : Value := sv k e l.length (l.flatMap f)
structure Okl {α : Type} (k : Nat) (l : List α) : Prop where
 le : k ≤ 2
 nil : k = 0 → l = []
theorem Okl.own {α : Type} {l : List α} : Okl 2 l := ⟨Nat.le_refl 2, (fun h => by cases h)⟩
theorem Okl.read {α : Type} {l : List α} : Okl 1 l := ⟨by omega, (fun h => by cases h)⟩
theorem Okl.none {α : Type} : Okl 0 ([] : List α) := ⟨by omega, fun _ => rfl⟩
theorem Okl.dem {α : Type} {k : Nat} {l : List α} (h : Okl k l) : Okl (if k = 2 then 1 else k) l := ⟨by have := h.le; split <;> omega, fun hk => h.nil (by split at hk <;> omega)⟩
def cb (b : UInt8) : List Value := [.int .u8 b.toNat]
def ci (n : Int) : List Value := [.int .i64 n]
section
variable {R α : Type} {P : Program} {f : α → List Value} {e k j : Nat} {l m : List α} {t te tx tex : TypeId} {S : zk}
theorem Okl.okv (h : Okl k l) : Okv k l.length (l.flatMap f) := ⟨h.le, fun h0 => by rw [h.nil h0]; exact ⟨rfl, rfl⟩⟩
theorem Jh (hf : ∀ x, (f x).length = e) (l : List α) : (l.flatMap f).length = l.length * e := by
 induction l with
 | nil => simp
 | cons x l ih => simp only [List.flatMap_cons, List.length_append, hf, ih, List.length_cons, Nat.add_mul]; omega
theorem Wu (hf : ∀ x, (f x).length = e) (l : List α) : ∀ (i : Nat), (l.flatMap f).drop (i * e) = (l.drop i).flatMap f := by
 induction l with
 | nil => intro i; simp
 | cons x l ih =>
  intro i
  cases i with
  | zero => simp
  | succ i =>
   rw [List.flatMap_cons, List.drop_succ_cons, ← ih i, List.drop_append, List.drop_eq_nil_of_le (by rw [hf, Nat.add_mul]; omega), List.nil_append, hf]
   congr 1
   rw [Nat.add_mul]; omega
theorem WL (hf : ∀ x, (f x).length = e) (l : List α) : ∀ (i : Nat), (l.flatMap f).take (i * e) = (l.take i).flatMap f := by
 induction l with
 | nil => intro i; simp
 | cons x l ih =>
  intro i
  cases i with
  | zero => simp
  | succ i =>
   rw [List.flatMap_cons, List.take_succ_cons, List.flatMap_cons, ← ih i, List.take_append, List.take_of_length_le (by rw [hf, Nat.add_mul]; omega), hf]
   congr 2
   rw [Nat.add_mul]; omega
@[simp] theorem aaw : dem (vs f e k l) = vs f e (if k = 2 then 1 else k) l := V6 _ _ _ _
@[simp] theorem afF (r : Option R) : okC (vs f e k l) r = r := Xe _ _ _ _ _
@[simp] theorem afr (r : Option R) (p : JL r) : okK (vs f e k l) r p = r := Xe _ _ _ _ _
@[simp] theorem ahO : XK (vs f e k l) = false := Ko _ _ _ _
@[simp] theorem Ql (dr : Bool) (lo hi : Option Value) : vT P dr t (vs f e k l) lo hi S = Zl P t (vs f e k l) lo hi S := J4 _ _ _ _ _ _ _ _ _
@[simp] theorem Xc (hp dr : Bool) (src dst : TypeId) : qx P hp dr src dst (vs f e k l) S = Jl P src dst (vs f e k l) S := Yp _ _ _ _ _ _ _ _ _
@[simp] theorem wP : wI (vs f e k l) = true := X0 _ _ _ _
theorem ac9 (ht : P.underlying t = some (.slice te)) (h : Okl k l) : Zw P t (vs f e k l) S = some (goInt l.length, S) := agk ht h.okv
theorem ad6 (ht : P.underlying t = some (.slice te)) (h : Okl k l) : jS P .eql t (vs f e k l) (.slice none 0 0) S = some (.bool (decide (k = 0)), S) := ad4 ht h.okv
theorem afJ {ki : IntKind} {i : Int} (ht : P.underlying t = some (.slice te)) (he : xR P te = some e) (hf : ∀ x, (f x).length = e) (h : Okl k l) (h0 : 0 ≤ i) (hi : i < l.length) :
  jP P t (vs f e k l) (.int ki i) S = some (EP (f (l[i.toNat]'(by omega))), S) := by
 unfold vs
 rw [JX ht he h.okv h0 hi, Wu hf]
 have hlt : i.toNat < l.length := by omega
 have := WL hf (l.drop i.toNat) 1
 rw [Nat.one_mul] at this
 rw [this, List.drop_eq_getElem_cons hlt, List.take_succ_cons, List.take_zero, List.flatMap_cons, List.flatMap_nil, List.append_nil]
theorem aeb {lo hi : Option Value} {i j : Int} (ht : P.underlying t = some (.slice te)) (he : xR P te = some e) (hf : ∀ x, (f x).length = e) (h : Okl k l) (hlo : xA 0 lo = some i) (hhi : xA l.length hi = some j) (h0 : 0 ≤ i) (hij : i ≤ j) (hj : j ≤ l.length) :
  Zl P t (vs f e k l) lo hi S = some (vs f e (if k = 2 then 1 else k) ((l.drop i.toNat).take (j.toNat - i.toNat)), S) := by
 unfold vs
 rw [ab9 ht he h.okv hlo hhi h0 hij hj, Wu hf, WL hf]
 congr 3
 simp; omega
theorem YH {bytes : Nat} {z : Value} (ht : P.underlying t = some (.slice te)) (he : xR P te = some e) (hz : zeroOf P te = some z) (hzs : z.cells.size = e) (hb : bytesOf P te = some bytes) (hp : 0 < e) (htx : P.underlying tx = some (.slice tex))
  (hf : ∀ x, (f x).length = e) (h1 : ∀ x, (f x).all (·.oneCell') = true) (h : Okl k l) (hk : k ≠ 1) (hm : Okl j m) (hl : (l.length + m.length) * bytes ≤ 140737488355328) (hmax : l.length + m.length ≤ 4611686018427387903) :
  wU P t tx (vs f e k l) (vs f e j m) S = some (vs f e (if k = 0 ∧ m.length = 0 then 0 else 2) (l ++ m), S) := by
 have hone : ∀ l : List α, (l.flatMap f).all (·.oneCell') = true := by
  intro l
  rw [List.all_flatMap, List.all_eq_true]
  exact fun x _ => h1 x
 unfold vs
 rw [aaJ ht he hz hzs hb hp htx h.okv hk hm.okv (Jh hf l) (Jh hf m) (hone l) (hone m) hl hmax, List.flatMap_append, List.length_append]
theorem adr (x : UInt8) : (cb x).length = 1 := rfl
theorem ahv (x : UInt8) : (cb x).all (·.oneCell') = true := rfl
theorem ae8 (x : Int) : (ci x).length = 1 := rfl
theorem ahy (x : Int) : (ci x).all (·.oneCell') = true := rfl
theorem aej (l : List UInt8) : y8 (l.flatMap cb) = some l := by
 induction l with
 | nil => rfl
 | cons b l ih =>
  have : (b :: l).flatMap cb = .int .u8 b.toNat :: l.flatMap cb := rfl
  rw [this]
  simp only [y8, Yg, ih]
  simp
theorem wo {v : Value} {i j : Nat} {S : zk} (h : j ≠ i) : zY (jk j v) i S = zY v i S := by
 cases v with
 | tuple vs => simp only [jk, zY, Array.getElem?_modify, if_neg h]
 | _ => rfl
theorem adI {v : Value} {S : zk} : zY (jk 0 v) 1 S = zY v 1 S := wo (by decide)
theorem ady {v : Value} {S : zk} : zY (jk 0 v) 2 S = zY v 2 S := wo (by decide)
theorem adh {v : Value} {S : zk} : zY (jk 1 v) 2 S = zY v 2 S := wo (by decide)
theorem adt {v : Value} {S : zk} : zY (jk 0 v) 3 S = zY v 3 S := wo (by decide)
theorem acs {v : Value} {S : zk} : zY (jk 1 v) 3 S = zY v 3 S := wo (by decide)
theorem acI {v : Value} {S : zk} : zY (jk 2 v) 3 S = zY v 3 S := wo (by decide)
theorem acO {v : Value} {S : zk} : zY (jk 0 v) 4 S = zY v 4 S := wo (by decide)
theorem adq {v : Value} {S : zk} : zY (jk 1 v) 4 S = zY v 4 S := wo (by decide)
theorem acz {v : Value} {S : zk} : zY (jk 2 v) 4 S = zY v 4 S := wo (by decide)
theorem ac3 {v : Value} {S : zk} : zY (jk 3 v) 4 S = zY v 4 S := wo (by decide)
theorem adu {v : Value} {S : zk} : zY (jk 0 v) 5 S = zY v 5 S := wo (by decide)
theorem acZ {v : Value} {S : zk} : zY (jk 1 v) 5 S = zY v 5 S := wo (by decide)
theorem abW {v : Value} {S : zk} : zY (jk 2 v) 5 S = zY v 5 S := wo (by decide)
theorem adb {v : Value} {S : zk} : zY (jk 3 v) 5 S = zY v 5 S := wo (by decide)
theorem acp {v : Value} {S : zk} : zY (jk 4 v) 5 S = zY v 5 S := wo (by decide)
abbrev by_ (k : Nat) (l : List UInt8) : Value := vs cb 1 k l
abbrev iz (k : Nat) (l : List Int) : Value := vs ci 1 k l
theorem acw {src dst : TypeId} {k : Nat} {l : List UInt8} (hs : P.underlying src = some (.slice te)) (he : P.underlying te = some (.int .u8)) (hd : P.underlying dst = some .string) (h : Okl k l) : Jl P src dst (by_ k l) S = some (.string ⟨l.toArray⟩, S) := by
 obtain ⟨e', h1, _⟩ := adw (e := 1) (h.okv (f := cb))
 have hlen : (l.flatMap cb).length = l.length := by rw [Jh adr]; omega
 have hns : ∀ s, by_ k l ≠ .string s := by intro s; unfold by_ vs sv; split <;> (intro h; cases h)
 unfold Jl
 split
 ·
  rename_i s hs; exact absurd hs (hns s)
 ·
  unfold by_ vs
  rw [h1]
  simp only [hs, hd, he, if_pos hlen, aej]
end
end Go.Abs
namespace Go.Abs
open Go.RowKit
def CLe (c d : FuncId → List Value → M Value) : Prop := ∀ g a S r, c g a S = some r → d g a S = some r
section
variable {P : Program} {O : Ora} {c d : FuncId → List Value → M Value}
theorem Y0 (h : CLe c d) {fx : Fx} {T : List Value} {o : Oper} {S : zk} {r : Value × zk} (hs : yT P fx c T o S = some r) : yT P fx d T o S = some r := by
 unfold yT at hs ⊢
 split at hs
 ·
  rename_i hok
  rw [if_pos hok]
  cases hop : o.op with
  | call q =>
   rw [hop] at hs
   dsimp only at hs ⊢
   cases hcal : q.callee with
   | value f =>
    rw [hcal] at hs
    dsimp only at hs ⊢
    split at hs
    ·
     rename_i g first captured hev
     exact h _ _ _ _ hs
    ·
     cases hs
   | builtin b => rw [hcal] at hs; exact hs
   | invoke a b => rw [hcal] at hs; cases hs
  | _ => rw [hop] at hs; exact hs
 ·
  cases hs
theorem ab6 (h : CLe c d) {fx : Fx} {ops : Array Oper} : ∀ (l : List Oper) (T : List Value) (S : zk) (r : List Value × zk), jE P fx c ops l T S = some r → jE P fx d ops l T S = some r := by
 intro l
 induction l with
 | nil => intro T S r hs; exact hs
 | cons o l ih =>
  intro T S r hs
  simp only [jE] at hs ⊢
  split at hs
  ·
   rename_i hw
   rw [if_pos hw]
   split at hs
   ·
    rename_i v S' he
    rw [Y0 h he]
    exact ih _ _ _ hs
   ·
    cases hs
  ·
   rename_i hw
   rw [if_neg hw]
   exact ih _ _ _ hs
theorem abj (h : CLe c d) {fx : Fx} {chk : List Nat} {nl : List (Nat × Nat)} {ops : Array Oper} : ∀ (l : List Oper) (i : Nat) (hist : List (Value × zk)) (T : List Value) (S : zk) (r : List Value × zk), yK P fx chk nl c ops i hist l T S = some r → yK P fx chk nl d ops i hist l T S = some r := by
 intro l
 induction l with
 | nil => intro i hist T S r hs; exact hs
 | cons o l ih =>
  intro i hist T S r hs
  simp only [yK] at hs ⊢
  split at hs
  ·
   rename_i hw
   rw [if_pos hw]
   split at hs
   ·
    rename_i v S' he
    rw [Y0 h he]
    dsimp only
    split at hs
    ·
     rename_i hq
     rw [if_pos hq]
     exact ih _ _ _ _ _ hs
    ·
     cases hs
   ·
    cases hs
  ·
   rename_i hw
   rw [if_neg hw]
   exact ih _ _ _ _ _ hs
theorem YS (h : CLe c d) {hp : Bool} {n m : Nat} (hn : n ≤ m) : ∀ (q : Code) (T : List Value) (S : zk) (r), yZ P hp c n q T S = some r → yZ P hp d m q T S = some r := by
 intro q
 induction q with
 | skip => intro T S r hs; exact hs
 | exit id => intro T S r hs; exact hs
 | ret => intro T S r hs; exact hs
 | region i ops dr =>
  intro T S r hs
  cases dr with
  | false =>
   simp only [yZ] at hs ⊢
   split at hs
   ·
    rename_i T1 S1 ho
    rw [ab6 h _ _ _ _ ho]; exact hs
   ·
    cases hs
  | true =>
   simp only [yZ] at hs ⊢
   split at hs
   ·
    rename_i hd
    rw [if_pos hd]
    split at hs
    ·
     rename_i T1 S1 ho
     rw [abj h _ _ _ _ _ _ ho]; exact hs
    ·
     cases hs
   ·
    cases hs
 | seq x y ihx ihy =>
  intro T S r hs
  simp only [yZ] at hs ⊢
  split at hs
  ·
   rename_i T1 S1 hx
   rw [ihx _ _ _ hx]
   exact ihy _ _ _ hs
  ·
   rename_i hne
   rw [ihx _ _ _ hs]
   split
   ·
    rename_i T1 S1 he; exact absurd (hs.trans he) (hne T1 S1)
   ·
    rfl
 | cond x y z ihy ihz =>
  intro T S r hs
  simp only [yZ] at hs ⊢
  split at hs
  ·
   rename_i hok
   rw [if_pos hok]
   split at hs
   ·
    rename_i hb; exact ihy _ _ _ hs
   ·
    rename_i hb; exact ihz _ _ _ hs
   ·
    cases hs
  ·
   cases hs
 | block id x ih =>
  intro T S r hs
  simp only [yZ] at hs ⊢
  split at hs
  ·
   rename_i id' T1 S1 hx
   rw [ih _ _ _ hx]; exact hs
  ·
   rename_i hne
   rw [ih _ _ _ hs]
   split
   ·
    rename_i id' T1 S1 he; exact absurd (hs.trans he) (hne id' T1 S1)
   ·
    rfl
 | loop x ih =>
  intro T S r hs
  simp only [yZ] at hs ⊢
  have key : ∀ (n : Nat) (T : List Value) (S : zk), ∀ k, qK k (yZ P hp c n x) T S = some r → (∀ T S r, yZ P hp c n x T S = some r → yZ P hp d m x T S = some r) → qK k (yZ P hp d m x) T S = some r := by
   intro n T S k hk hx
   induction k generalizing T S with
   | zero => cases hk
   | succ k ihk =>
    simp only [qK] at hk ⊢
    split at hk
    ·
     rename_i T1 S1 h1
     rw [hx _ _ _ h1]
     exact ihk _ _ hk
    ·
     rename_i hne
     rw [hx _ _ _ hk]
     split
     ·
      rename_i T1 S1 he; exact absurd (hk.trans he) (hne T1 S1)
     ·
      rfl
  exact Qn hn (key n T S n hs ih)
 | _ => intro T S r hs; simp only [yZ] at hs; cases hs
theorem aaV {hps : FuncId → Bool} {hp : Bool} (h : CLe c d) : CLe (vK hps hp c) (vK hps hp d) := by
 cases hp with
 | false => exact h
 | true =>
  intro g a S r hs
  unfold vK at hs ⊢
  dsimp only at hs ⊢
  split at hs
  ·
   rename_i hg; rw [if_pos hg]; exact h _ _ _ _ hs
  ·
   rename_i hg
   rw [if_neg hg]
   split at hs <;> first | (cases hs; done) | skip
   rename_i m S1 hf
   split at hs <;> first | (cases hs; done) | skip
   rename_i r0 hr0
   (try rw [hf])
   (try dsimp only)
   rw [h _ _ _ _ hr0]
   exact hs
theorem XC (h : CLe c d) {hp : Bool} {n m : Nat} (hn : n ≤ m) {fn : Func} {q : Code} {a : List Value} {S : zk} {r : Value × zk} (hs : adO P hp c n fn q a S = some r) : adO P hp d m fn q a S = some r := by
 unfold adO at hs ⊢
 split at hs
 ·
  rename_i T1 S1 hx
  rw [YS h hn _ _ _ _ hx]; exact hs
 ·
  rename_i T1 S1 hx
  rw [YS h hn _ _ _ _ hx]; exact hs
 ·
  cases hs
theorem aeS : ∀ (n m : Nat), n ≤ m → CLe (vZ P O n) (vZ P O m) := by
 intro n
 induction n with
 | zero => intro m _ g a S r h; cases h
 | succ n ih =>
  intro m hm g a S r h
  obtain ⟨m, rfl⟩ : ∃ k, m = k + 1 := ⟨m - 1, by omega⟩
  simp only [vZ] at h ⊢
  cases ho : O.fn g with
  | some q => rw [ho] at h; exact h
  | none =>
   rw [ho] at h
   dsimp only at h ⊢
   cases hf : P.funcs[g]? with
   | none => rw [hf] at h; cases h
   | some fn =>
    rw [hf] at h
    dsimp only at h ⊢
    split at h
    ·
     cases h
    ·
     rename_i hn
     rw [if_neg hn]
     cases hb : fn.body with
     | none => rw [hb] at h; cases h
     | some q =>
      rw [hb] at h
      dsimp only at h ⊢
      have hc := aaV (hps := O.hp) (hp := O.hp g) (ih m (by omega))
      split at h
      ·
       rename_i hpu
       rw [if_pos hpu]
       unfold aby at h ⊢
       split at h <;> first | (cases h; done) | skip
       rename_i hca
       rw [if_pos hca]
       split at h <;> first | (cases h; done) | skip
       rename_i v1 S1 hr
       rw [XC hc (by omega) hr]
       exact h
      ·
       rename_i hpu
       rw [if_neg hpu]
       exact XC hc (by omega) h
theorem vk {n : Nat} {g : FuncId} {args : List Value} {S : zk} {r : Value × zk} (h : vZ P O n g args S = some r) : jf P O g args S = some r :=
 VF ⟨n, fun k hk => aeS n k hk _ _ _ _ h⟩
end
end Go.Abs
namespace Go.Abs
open Go.RowKit
theorem JF {n : Int} (h : (Lit.int .i64 n).wf = true) : -9223372036854775808 ≤ n ∧ n < 9223372036854775808 := by
 simp [Lit.wf, IntKind.min, IntKind.max, IntKind.signed, IntKind.bits] at h
 omega
def aex (call : FuncId → List Value → M Value) (g : FuncId) (args : List Value) : M Value := fun S => match Wi args S with
 | some (m, S1) => match call g m S1 with
  | some r => some (acd S S1 args r)
  | none => none
 | none => none
end Go.Abs
namespace Go.Abs
open Go.RowKit
section
variable {P : Program} {μ μ1 : Mu} {S S1 H H1 : zk} {ω ω1 : Nat → Option qp}
structure Ext (S S1 : zk) : Prop where
 next : S.next ≤ S1.next
 get : ∀ k, k < S.next → S1.get k = S.get k
 log : ∃ new, S1.log = new ++ S.log ∧ ∀ k ∈ new, S.next ≤ k
theorem Ext.refl (S : zk) : Ext S S := ⟨Nat.le_refl _, fun _ _ => rfl, [], rfl, fun k h => by cases h⟩
theorem Ext.trans {S2 : zk} (h : Ext S S1) (k : Ext S1 S2) : Ext S S2 := ⟨Nat.le_trans h.1 k.1, fun q hq => (k.2 q (Nat.lt_of_lt_of_le hq h.1)).trans (h.2 q hq), by
 obtain ⟨n1, e1, f1⟩ := h.log
 obtain ⟨n2, e2, f2⟩ := k.log
 refine ⟨n2 ++ n1, by rw [e2, e1, List.append_assoc], fun q hq => ?_⟩
 rcases List.mem_append.1 hq with hq | hq
 ·
  exact Nat.le_trans h.1 (f2 q hq)
 ·
  exact f1 q hq⟩
theorem Ext.push (S : zk) (o : qU) : Ext S (S.push o) := ⟨by simp, fun k hk => by rw [zk.wQ, if_neg (by omega)], [], rfl, fun k h => by cases h⟩
theorem Ext.set {S S1 : zk} (h : Ext S S1) {r : Nat} (hr : S.next ≤ r) (o : qU) : Ext S (S1.set r o) := ⟨by simpa using h.1, fun k hk => by rw [zk.yj, if_neg (by omega)]; exact h.2 k hk, by
 obtain ⟨n1, e1, f1⟩ := h.log
 refine ⟨r :: n1, by rw [zk.QJ, e1]; rfl, fun q hq => ?_⟩
 rcases List.mem_cons.1 hq with rfl | hq
 ·
  exact hr
 ·
  exact f1 q hq⟩
inductive Lower (S : zk) (v1 : Value) (S1 : zk) : Value → Prop
 | same (h : ground v1 = true) : Lower S v1 S1 v1
 | own {r n e : Nat} {cs : List Value} (hv : v1 = .slice (some ⟨r, 0, none⟩) n n) (hr : S.next ≤ r) (hg : S1.get r = some (.cells cs (.own []) e)) (hn : cs.length = n * e) (hs : cs.all sg = true) : Lower S v1 S1 (SL 2 e n cs)
end
end Go.Abs
namespace Go.Abs
open Go.RowKit
section
variable {P : Program} {S : zk} {t te tx tex : TypeId} {q o n c e i r : Nat} {cs : List Value} {own : Own} {anc : List Nat} {v x : Value} {hp : Bool}
theorem aaj (h : S.get q = some (.cells cs own e)) (ha : kG P t = some false) (hv : cs[o]? = some v) (hn : ∀ l, v ≠ .agg l) : zV P false t (.pointer (some ⟨q, o, none⟩)) S = some (dem v, S) := by
 unfold zV
 simp only [Bool.false_eq_true, if_false]
 have : qB P t (.pointer (some ⟨q, o, none⟩)) S = some (v, S) := by simp only [qB, h, ha, hv]
 rw [this]
 split
 ·
  rename_i l S2 he; cases he; exact absurd rfl (hn _)
 ·
  rename_i v2 S2 _ he; cases he; rfl
 ·
  rename_i he; cases he
theorem yO {k : IntKind} {m : Int} (h : S.get q = some (.cells cs own e)) (ha : kG P t = some false) (hv : cs[o]? = some (.int k m)) : zV P false t (.pointer (some ⟨q, o, none⟩)) S = some (.int k m, S) :=
 aaj h ha hv (fun l h => by cases h)
theorem Jy (h : S.get q = some (.cells cs own e)) (ha : kG P t = some true) (hs : xR P t = some n) (hle : o + n ≤ cs.length) : zV P false t (.pointer (some ⟨q, o, none⟩)) S = some (.agg (((cs.drop o).take n).toArray.map kC), S) := by
 unfold zV
 simp only [Bool.false_eq_true, if_false]
 have : qB P t (.pointer (some ⟨q, o, none⟩)) S = some (.agg ((cs.drop o).take n).toArray, S) := by simp only [qB, h, ha, hs, if_pos hle]
 rw [this]
theorem qX (h : S.get q = some (.cells cs (.own anc) e)) (hs : xR P t = some n) (hx : x.cells.size = n) (h1 : x.cells.toList.all (·.oneCell') = true) (hle : o + n ≤ cs.length) :
  yC P t (.pointer (some ⟨q, o, none⟩)) x S = some (undef, (S.kills anc).set q (.cells (splice cs o x.cells.toList) (.own []) e)) := by
 simp only [yC, Jc, h, hs, if_pos hx, if_pos h1, if_pos hle]
end
theorem Zh {α : Type} {f : α → List Value} {e k d : Nat} {l : List α} (hk : k ≤ 2) (h : ∀ x ∈ l, (f x).all (jB d) = true) : jB (d + 4) (vs f e k l) = true := by
 unfold vs sv
 split
 ·
  rfl
 ·
  show ((l.flatMap f).toArray.toList.all (jB d)) = true
  rw [List.toList_toArray, List.all_flatMap, List.all_eq_true]
  exact h
theorem xY {k d : Nat} {l : List UInt8} (hk : k ≤ 2) : jB (d + 5) (by_ k l) = true := Zh hk (fun _ _ => rfl)
theorem XQ {l : List Value} {d : Nat} (h : l.all (jB d) = true) : jB (d + 1) (.agg l.toArray) = true := by
 show l.toArray.toList.all (jB d) = true
 simpa using h
theorem qL {l : List Value} {d : Nat} (h : l.all (jB d) = true) : jB (d + 1) (.tuple l.toArray) = true := by
 show l.toArray.toList.all (jB d) = true
 simpa using h
theorem all1 {p : Value → Bool} {a : Value} (h : p a = true) : [a].all p = true := by simp [h]
theorem all2 {p : Value → Bool} {a b : Value} (h : p a = true) (k : p b = true) : [a, b].all p = true := by simp [h, k]
theorem aeE {k e n : Nat} {cs : List Value} : (sv k e n cs).cells = #[sv k e n cs] := by unfold sv; split <;> rfl
theorem KC {α : Type} {f : α → List Value} {e k : Nat} {l : List α} : (vs f e k l).cells = #[vs f e k l] := aeE
theorem agp {k e n : Nat} {cs : List Value} : kC (sv k e n cs) = sv (if k = 2 then 1 else k) e n cs := by rw [← V6]; unfold sv; split <;> rfl
theorem VA {α : Type} {f : α → List Value} {e k : Nat} {l : List α} : kC (vs f e k l) = vs f e (if k = 2 then 1 else k) l := agp
theorem kQ {k : IntKind} {n : Int} : kC (.int k n) = .int k n := rfl
theorem qJ {x : Array Value} : (Value.agg x).cells = x := rfl
@[simp] theorem Xw (a : Option Addr) (n c : Nat) : dem (.slice a n c) = .slice a n c := Eq.trans rfl rfl
@[simp] theorem abH (a : Option Nat) : dem (.map a) = .map a := Eq.trans rfl rfl
theorem wrap_i64 {n : Int} (h0 : -9223372036854775808 ≤ n) (h : n < 9223372036854775808) : IntKind.i64.wrap n = n := by
 simp [IntKind.wrap, IntKind.bits, IntKind.signed]
 split <;> omega
theorem XA {l pre suf : List Int} {n : Int} (hl : l = pre ++ n :: suf) (h : Int.toNat (pre.length : Int) < l.length) : l[Int.toNat (pre.length : Int)] = n := by
 subst hl; simp
theorem abS {α : Type} {l pre suf : List α} {n : α} (hl : l = pre ++ n :: suf) (h : Int.toNat (pre.length : Int) < l.length) : l[Int.toNat (pre.length : Int)] = n := by
 subst hl; simp
theorem ah8 (k : Nat) : (if (if k = 2 then 1 else k) = 2 then 1 else if k = 2 then 1 else k) = if k = 2 then 1 else k := by split <;> simp_all
theorem WG (Sa Sb : zk) : kP undef Sa Sb = true := rfl
theorem Xx (cs : List Value) (Sa Sb : zk) : kP (EP cs) Sa Sb = true := rfl
theorem qc {q o e : Nat} {cs : List Value} {own : Own} {S : zk} (h : S.get q = some (.cells cs own e)) : kP (.pointer (some ⟨q, o, none⟩)) S S = true := by
 simp only [kP, h, Nat.sub_self, List.take_zero, List.contains_nil, Bool.not_false, Bool.and_self]
end Go.Abs
namespace Go.Abs
open Go.RowKit
section
variable {P : Program} {fx : Fx} {chk : List Nat} {call : FuncId → List Value → M Value} {ops : Array Oper}
theorem sP (f : Func) (i n : Nat) {l : List Oper} {T : List Value} {T1 : Value → List Value} {S : zk} {v : Value} {r : Option (List Value × zk)} (hK : jE P fx call ops ((reg f i).toList.drop (n + 1)) (T1 v) S = r) (hl : l = (opAt f i n) :: ((reg f i).toList.drop (n + 1)) := by kernel_rfl) (hg : (opAt f i n).guard = none := by kernel_rfl) (hm : ∀ v, Zv (opAt f i n) ((reg f i).toList.drop (n + 1)) T v = T1 v := by exact fun _ => rfl) (hs : yT P fx call T (opAt f i n) S = some (v, S) := by kernel_rfl) : jE P fx call ops l T S = r :=
 abZ hl hg hm hs hK
theorem sD (f : Func) (i n : Nat) {l : List Oper} {T : List Value} {T1 : Value → List Value} {S : zk} {s : Option (Value × zk)} {K : Value → zk → Option (List Value × zk)} (hK : ∀ v S1, jE P fx call ops ((reg f i).toList.drop (n + 1)) (T1 v) S1 = K v S1) (hl : l = (opAt f i n) :: ((reg f i).toList.drop (n + 1)) := by kernel_rfl) (hg : (opAt f i n).guard = none := by kernel_rfl) (hm : ∀ v, Zv (opAt f i n) ((reg f i).toList.drop (n + 1)) T v = T1 v := by exact fun _ => rfl) (hs : yT P fx call T (opAt f i n) S = s := by kernel_rfl) : jE P fx call ops l T S = zM s K () :=
 agB hl hg hm hs hK
theorem sG (f : Func) (i n : Nat) {l : List Oper} {T : List Value} {T1 : Value → List Value} {S : zk} {j : Nat} {b : Bool} {g : Value} {s : M Value} {K : Value → zk → Option (List Value × zk)} (hK : ∀ v S1, jE P fx call ops ((reg f i).toList.drop (n + 1)) (T1 v) S1 = K v S1) (hl : l = (opAt f i n) :: ((reg f i).toList.drop (n + 1)) := by kernel_rfl) (hg : (opAt f i n).guard = some (j, b) := by kernel_rfl) (hm : ∀ v, Zv (opAt f i n) ((reg f i).toList.drop (n + 1)) T v = T1 v := by exact fun _ => rfl) (hy : ynd ops T j = vb g := by kernel_rfl) (hs : yT P fx call T (opAt f i n) S = s S := by kernel_rfl) : jE P fx call ops l T S = gdK g b s S K () :=
 agb hl hg hm hy hs hK
theorem tD (f : Func) (i n : Nat) {l : List Oper} {T : List Value} {T1 : Value → List Value} {S : zk} {k : Nat} {s : Option (Value × zk)} {K : Value → zk → Option (List Value × zk)} (hK : ∀ v S1, yK P fx chk [] call ops (k + 1) [] ((reg f i).toList.drop (n + 1)) (T1 v) S1 = K v S1) (hc : chk.contains k = false := by kernel_rfl) (hl : l = (opAt f i n) :: ((reg f i).toList.drop (n + 1)) := by kernel_rfl) (hg : (opAt f i n).guard = none := by kernel_rfl) (hm : ∀ v, Zv (opAt f i n) ((reg f i).toList.drop (n + 1)) T v = T1 v := by exact fun _ => rfl) (hs : yT P fx call T (opAt f i n) S = s := by kernel_rfl) : yK P fx chk [] call ops k [] l T S = zM s K () :=
 aep hc hl hg hm hs hK
theorem tP (f : Func) (i n : Nat) {l : List Oper} {T : List Value} {T1 : Value → List Value} {S : zk} {k : Nat} {v : Value} {r : Option (List Value × zk)} (hK : yK P fx chk [] call ops (k + 1) [] ((reg f i).toList.drop (n + 1)) (T1 v) S = r) (hc : chk.contains k = false := by kernel_rfl) (hl : l = (opAt f i n) :: ((reg f i).toList.drop (n + 1)) := by kernel_rfl) (hg : (opAt f i n).guard = none := by kernel_rfl) (hm : ∀ v, Zv (opAt f i n) ((reg f i).toList.drop (n + 1)) T v = T1 v := by exact fun _ => rfl) (hs : yT P fx call T (opAt f i n) S = some (v, S) := by kernel_rfl) : yK P fx chk [] call ops k [] l T S = r :=
 abd hc hl hg hm hs hK
theorem uD (f : Func) (i n : Nat) {l : List Oper} {T : List Value} {T1 : Value → List Value} {S : zk} {k : Nat} {s : Option (Value × zk)} {K : Value → zk → Option (List Value × zk)} {x : Nat × Nat} {nl : List (Nat × Nat)} {hist : List (Value × zk)} {pe : Value} (hK : ∀ v S1, yK P fx chk (x :: nl) call ops (k + 1) (hist ++ [(pe, S)]) ((reg f i).toList.drop (n + 1)) (T1 v) S1 = K v S1) (hc : chk.contains k = false := by kernel_rfl) (hpe : vX T (opAt f i n) = pe := by kernel_rfl) (hl : l = (opAt f i n) :: ((reg f i).toList.drop (n + 1)) := by kernel_rfl) (hg : (opAt f i n).guard = none := by kernel_rfl) (hm : ∀ v, Zv (opAt f i n) ((reg f i).toList.drop (n + 1)) T v = T1 v := by exact fun _ => rfl) (hs : yT P fx call T (opAt f i n) S = s := by kernel_rfl) : yK P fx chk (x :: nl) call ops k hist l T S = zM s K () :=
 aeh hc hpe hl hg hm hs hK
theorem uDC (f : Func) (i n : Nat) {l : List Oper} {T : List Value} {T1 : Value → List Value} {S : zk} {k : Nat} {s : Option (Value × zk)} {K : Value → zk → Option (List Value × zk)} {x : Nat × Nat} {nl : List (Nat × Nat)} {hist : List (Value × zk)} {pe : Value} (hK : ∀ v S1, yK P fx chk (x :: nl) call ops (k + 1) (hist ++ [(pe, S)]) ((reg f i).toList.drop (n + 1)) (T1 v) S1 = K v S1) (hc : chk.contains k = true := by kernel_rfl) (hpe : vX T (opAt f i n) = pe := by kernel_rfl) (hl : l = (opAt f i n) :: ((reg f i).toList.drop (n + 1)) := by kernel_rfl) (hg : (opAt f i n).guard = none := by kernel_rfl) (hm : ∀ v, Zv (opAt f i n) ((reg f i).toList.drop (n + 1)) T v = T1 v := by exact fun _ => rfl) (hs : yT P fx call T (opAt f i n) S = s := by kernel_rfl) : yK P fx chk (x :: nl) call ops k hist l T S = zM s (fun v S1 => okK v (K v S1) ()) () :=
 aci hc hpe hl hg hm hs hK
theorem uP (f : Func) (i n : Nat) {l : List Oper} {T : List Value} {T1 : Value → List Value} {S : zk} {k : Nat} {v : Value} {r : Option (List Value × zk)} {x : Nat × Nat} {nl : List (Nat × Nat)} {hist : List (Value × zk)} {pe : Value} (hK : yK P fx chk (x :: nl) call ops (k + 1) (hist ++ [(pe, S)]) ((reg f i).toList.drop (n + 1)) (T1 v) S = r) (hc : chk.contains k = false := by kernel_rfl) (hpe : vX T (opAt f i n) = pe := by kernel_rfl) (hl : l = (opAt f i n) :: ((reg f i).toList.drop (n + 1)) := by kernel_rfl) (hg : (opAt f i n).guard = none := by kernel_rfl) (hm : ∀ v, Zv (opAt f i n) ((reg f i).toList.drop (n + 1)) T v = T1 v := by exact fun _ => rfl) (hs : yT P fx call T (opAt f i n) S = some (v, S) := by kernel_rfl) : yK P fx chk (x :: nl) call ops k hist l T S = r :=
 aaL hc hpe hl hg hm hs hK
theorem uG (f : Func) (i n : Nat) {l : List Oper} {T : List Value} {T1 : Value → List Value} {S : zk} {j k : Nat} {b : Bool} {g : Value} {s : M Value} {K : Value → zk → Option (List Value × zk)} {x : Nat × Nat} {nl : List (Nat × Nat)} {hist : List (Value × zk)} {pe : Value} (hK : ∀ v S1, yK P fx chk (x :: nl) call ops (k + 1) (hist ++ [(pe, S)]) ((reg f i).toList.drop (n + 1)) (T1 v) S1 = K v S1) (hc : chk.contains k = false := by kernel_rfl) (hpe : vX T (opAt f i n) = pe := by kernel_rfl) (hl : l = (opAt f i n) :: ((reg f i).toList.drop (n + 1)) := by kernel_rfl) (hg : (opAt f i n).guard = some (j, b) := by kernel_rfl) (hm : ∀ v, Zv (opAt f i n) ((reg f i).toList.drop (n + 1)) T v = T1 v := by exact fun _ => rfl) (hy : ynd ops T j = vb g := by kernel_rfl) (hs : yT P fx call T (opAt f i n) S = s S := by kernel_rfl) : yK P fx chk (x :: nl) call ops k hist l T S = gdK g b s S K () :=
 ad8 hc hpe hl hg hm hy hs hK
theorem uGC (f : Func) (i n : Nat) {l : List Oper} {T : List Value} {T1 : Value → List Value} {S : zk} {j k : Nat} {b : Bool} {g : Value} {s : M Value} {K : Value → zk → Option (List Value × zk)} {x : Nat × Nat} {nl : List (Nat × Nat)} {hist : List (Value × zk)} {pe : Value} (hK : ∀ v S1, yK P fx chk (x :: nl) call ops (k + 1) (hist ++ [(pe, S)]) ((reg f i).toList.drop (n + 1)) (T1 v) S1 = K v S1) (hc : chk.contains k = true := by kernel_rfl) (hpe : vX T (opAt f i n) = pe := by kernel_rfl) (hl : l = (opAt f i n) :: ((reg f i).toList.drop (n + 1)) := by kernel_rfl) (hg : (opAt f i n).guard = some (j, b) := by kernel_rfl) (hm : ∀ v, Zv (opAt f i n) ((reg f i).toList.drop (n + 1)) T v = T1 v := by exact fun _ => rfl) (hy : ynd ops T j = vb g := by kernel_rfl) (hs : yT P fx call T (opAt f i n) S = s S := by kernel_rfl) : yK P fx chk (x :: nl) call ops k hist l T S = abf g b s S K () :=
 adC hc hpe hl hg hm hy hs hK
end
end Go.Abs
namespace Go.Proofs.Ytbgcphbbchndkaa
open Go.Abs
def O : Ora := ⟨fun _ => none, fun f => ([] : List Nat).contains f, fun f => ([9, 10, 11, 12, 13, 14, 15, 18, 19, 20, 21, 25, 29, 30, 31, 33, 34, 37, 38, 39, 40, 41, 43, 44, 45, 46, 47, 49, 52, 53, 56, 61, 64, 65, 66] : List Nat).contains f⟩
theorem ahz : acA Try.prog O := adW
end Go.Proofs.Ytbgcphbbchndkaa
namespace Go.Proofs.Ytbgcphbbchndkaa
open Go.Abs
noncomputable def zS.code : Code := (Code.seq (Code.region 0 (reg Try.f7 0) false) (Code.seq (Code.region 1 (reg Try.f7 1) false) (Code.seq (Code.region 2 (reg Try.f7 2) false) (Code.seq (Code.region 3 (reg Try.f7 3) true) Code.ret))))
theorem zS.body : Try.f7.body = some zS.code := by kernel_rfl
variable (k l b m x4 x5 x6 x7 x8 x9 o p q r s t u w x y z A B C D E F G H I J K L M N P Q R U V W X Y Z a0 a1 a2 a3 a4 a5 a6 a7 a8 a9 : Value) (S : zk)
theorem zS.r0  : jE Try.prog ⟨false, false, false⟩ (jf Try.prog O) (reg Try.f7 0) (reg Try.f7 0).toList ([k,l,b,m,x4,x5,x6,x7,x8,x9,o,p,q,r,s,t,u,w,x,y,z,A,B,C,D,E,F,G,H,I,J,K,L,M,N,P,Q,R,U,V,W,X,Y,Z,a0,a1,a2,a3,a4,a5,a6,a7,a8,a9]) S =
  (zM (vV (dem k) S) (fun c g => zM (vV (dem l) g) (fun v1 S2 => some ([k,l,c,v1,Value.bool false,x5,x6,x7,x8,x9,o,p,q,r,s,t,u,w,x,y,z,A,B,C,D,E,F,G,H,I,J,K,L,M,N,P,Q,R,U,V,W,X,Y,Z,a0,a1,a2,a3,a4,a5,a6,a7,a8,a9], S2)) ()) ()) := by
 kernel_rfl
theorem zS.r1  : jE Try.prog ⟨false, false, false⟩ (jf Try.prog O) (reg Try.f7 1) (reg Try.f7 1).toList ([k,l,b,m,x4,x5,x6,x7,x8,x9,o,p,q,r,s,t,u,w,x,y,z,A,B,C,D,E,F,G,H,I,J,K,L,M,N,P,Q,R,U,V,W,X,Y,Z,a0,a1,a2,a3,a4,a5,a6,a7,a8,a9]) S =
  (zM (zV Try.prog false 30 b S) (fun c g => zM ((jf Try.prog O) 13 [(dem c)] g) (fun v1 S2 => zM (zY v1 0 S2) (fun v3 S3 => zM (zY (jk 0 v1) 1 S3) (fun v4 S4 => some ([k,l,b,m,x4,v3,v4,x7,x8,jk 1 (jk 0 v1),c,dem v1,dem v3,dem v4,s,t,u,w,x,y,z,A,B,C,D,E,F,G,H,I,J,K,L,M,N,P,Q,R,U,V,W,X,Y,Z,a0,a1,a2,a3,a4,a5,a6,a7,a8,a9], S4)) ()) ()) ()) ()) := by
 kernel_rfl
theorem zS.r2  : jE Try.prog ⟨false, false, false⟩ (jf Try.prog O) (reg Try.f7 2) (reg Try.f7 2).toList ([k,l,b,m,x4,x5,x6,x7,x8,x9,o,p,q,r,s,t,u,w,x,y,z,A,B,C,D,E,F,G,H,I,J,K,L,M,N,P,Q,R,U,V,W,X,Y,Z,a0,a1,a2,a3,a4,a5,a6,a7,a8,a9]) S =
  (zM (zV Try.prog false 30 b S) (fun c g => zM ((jf Try.prog O) 18 [(dem c)] g) (fun v1 S2 => zM (zY v1 0 S2) (fun v3 S3 => zM (zY (jk 0 v1) 1 S3) (fun v4 S4 => some ([k,l,b,m,x4,x5,x6,v3,v4,x9,o,p,q,r,jk 1 (jk 0 v1),c,dem v1,dem v3,dem v4,y,z,A,B,C,D,E,F,G,H,I,J,K,L,M,N,P,Q,R,U,V,W,X,Y,Z,a0,a1,a2,a3,a4,a5,a6,a7,a8,a9], S4)) ()) ()) ()) ()) := by
 kernel_rfl
theorem zS.d3 : vN Try.prog (reg Try.f7 3) = true := by kernel_rfl
theorem zS.ff3 : fixed Try.prog (reg Try.f7 3) = false := by kernel_rfl
theorem zS.k3 : checked Try.prog (reg Try.f7 3) = [4, 12, 13, 32] := by kernel_rfl
theorem zS.g3 : again Try.prog (reg Try.f7 3) = [(4, 3), (12, 11), (13, 11), (32, 31)] := by kernel_rfl
theorem zS.r3  : zG Try.prog O false (.region 3 (reg Try.f7 3) true) ([k,l,b,m,x4,x5,x6,x7,x8,x9,o,p,q,r,s,t,u,w,x,y,z,A,B,C,D,E,F,G,H,I,J,K,L,M,N,P,Q,R,U,V,W,X,Y,Z,a0,a1,a2,a3,a4,a5,a6,a7,a8,a9]) S =
  XY (zM ((jf Try.prog O) 9 [] S) (fun c g => gdK (dem c) true (zV Try.prog false 30 b) g (fun v2 S2 => gdK (dem c) true ((jf Try.prog O) 14 [(dem v2)]) S2 (fun v3 S3 => abf (dem c) true (zV Try.prog false 30 b) S3 (fun v4 S4 => gdK (dem c) true ((jf Try.prog O) 19 [(dem v4)]) S4 (fun v5 S5 => gdK (dem c) true (jS Try.prog BinOp.eql 4 v3 v5) S5 (fun v6 S6 => zM (wH (dem c) v6 (Value.bool false) S6) (fun n S7 => gdK (dem n) true (zV Try.prog false 30 b) S7 (fun v9 S8 => gdK (dem n) true (zV Try.prog false 30 m) S8 (fun b1 S9 => gdK (dem n) true ((jf Try.prog O) 15 [(dem v9), (dem b1)]) S9 (fun b2 b3 => abf (dem n) true (zV Try.prog false 30 b) b3 (fun b4 b5 => abf (dem n) true (zV Try.prog false 30 m) b5 (fun b6 d4 => gdK (dem n) true ((jf Try.prog O) 12 [(dem b4), (dem b6)]) d4 (fun b7 d5 => gdK (dem n) true (jS Try.prog BinOp.eql 4 b2 b7) d5 (fun b8 d6 => zM (wH (dem n) b8 (Value.bool false) d6) (fun d d7 => gdK (dem d) true (ret x5) d7 (fun b9 d8 => gdK (dem d) true (qx Try.prog false true 23 9 (dem b9)) d8 (fun c0 d9 => gdK (dem d) true (ret x7) d9 (fun c1 f0 => gdK (dem d) true (qx Try.prog false true 23 9 (dem c1)) f0 (fun c2 f1 => gdK (dem d) true (jS Try.prog BinOp.eql 9 c0 c2) f1 (fun c3 f2 => zM (wH (dem d) c3 (Value.bool false) f2) (fun i f3 => gdK (dem i) true (ret x6) f3 (fun c4 f4 => gdK (dem i) true (ret x8) f4 (fun c5 f5 => gdK (dem i) true (jS Try.prog BinOp.eql 3 (dem c4) (dem c5)) f5 (fun c6 f6 => zM (wH (dem i) c6 (Value.bool false) f6) (fun f f8 => gdK (dem f) true (zV Try.prog false 30 b) f8 (fun c7 c8 => gdK (dem f) true ((jf Try.prog O) 20 [(dem c7)]) c8 (fun c9 d0 => abf (dem f) true (zV Try.prog false 30 b) d0 (fun d1 f9 => gdK (dem f) true ((jf Try.prog O) 15 [(dem c9), (dem d1)]) f9 (fun d2 g0 => zM (wH (dem f) d2 (Value.bool false) g0) (fun b0 g1 => ckK (kP b S2 S3 && (kP b S9 b3 && (kP m S9 b5 && (kP b c8 d0 && (true))))) (some ([k,l,b,m,b0,x5,x6,x7,x8,x9,o,p,q,r,s,t,u,w,x,c,dem c,v2,v3,v4,v5,v6,n,dem n,v9,b1,b2,b4,b6,b7,b8,d,dem d,dem b9,c0,dem c1,c2,c3,i,dem i,dem c4,dem c5,c6,f,dem f,c7,c9,d1,d2,dem b0], g1)) ()) ()) ()) ()) ()) ()) ()) ()) ()) ()) ()) ()) ()) ()) ()) ()) ()) ()) ()) ()) ()) ()) ()) ()) ()) ()) ()) ()) ()) ()) ()) := by
 rw [kZ zS.d3 zS.ff3 zS.k3 zS.g3]
 refine congrArg XY ?_
 refine uD Try.f7 3 0 (pe := undef) (fun c g => ?_)
 refine uP Try.f7 3 1 (v := c) (pe := undef) ?_
 refine uG Try.f7 3 2 (j := 1) (pe := b) (fun v2 S2 => ?_)
 refine uG Try.f7 3 3 (j := 1) (pe := undef) (fun v3 S3 => ?_)
 refine uGC Try.f7 3 4 (j := 1) (pe := b) (fun v4 S4 => ?_)
 refine uG Try.f7 3 5 (j := 1) (pe := undef) (fun v5 S5 => ?_)
 refine uG Try.f7 3 6 (j := 1) (pe := undef) (fun v6 S6 => ?_)
 refine uD Try.f7 3 7 (pe := undef) (fun n S7 => ?_)
 refine uP Try.f7 3 8 (v := n) (pe := undef) ?_
 refine uG Try.f7 3 9 (j := 8) (pe := b) (fun v9 S8 => ?_)
 refine uG Try.f7 3 10 (j := 8) (pe := m) (fun b1 S9 => ?_)
 refine uG Try.f7 3 11 (j := 8) (pe := undef) (fun b2 b3 => ?_)
 refine uGC Try.f7 3 12 (j := 8) (pe := b) (fun b4 b5 => ?_)
 refine uGC Try.f7 3 13 (j := 8) (pe := m) (fun b6 d4 => ?_)
 refine uG Try.f7 3 14 (j := 8) (pe := undef) (fun b7 d5 => ?_)
 refine uG Try.f7 3 15 (j := 8) (pe := undef) (fun b8 d6 => ?_)
 refine uD Try.f7 3 16 (pe := undef) (fun d d7 => ?_)
 refine uP Try.f7 3 17 (v := d) (pe := undef) ?_
 refine uG Try.f7 3 18 (j := 17) (pe := undef) (fun b9 d8 => ?_)
 refine uG Try.f7 3 19 (j := 17) (pe := undef) (fun c0 d9 => ?_)
 refine uG Try.f7 3 20 (j := 17) (pe := undef) (fun c1 f0 => ?_)
 refine uG Try.f7 3 21 (j := 17) (pe := undef) (fun c2 f1 => ?_)
 refine uG Try.f7 3 22 (j := 17) (pe := undef) (fun c3 f2 => ?_)
 refine uD Try.f7 3 23 (pe := undef) (fun i f3 => ?_)
 refine uP Try.f7 3 24 (v := i) (pe := undef) ?_
 refine uG Try.f7 3 25 (j := 24) (pe := undef) (fun c4 f4 => ?_)
 refine uG Try.f7 3 26 (j := 24) (pe := undef) (fun c5 f5 => ?_)
 refine uG Try.f7 3 27 (j := 24) (pe := undef) (fun c6 f6 => ?_)
 refine uD Try.f7 3 28 (pe := undef) (fun f f8 => ?_)
 refine uP Try.f7 3 29 (v := f) (pe := undef) ?_
 refine uG Try.f7 3 30 (j := 29) (pe := b) (fun c7 c8 => ?_)
 refine uG Try.f7 3 31 (j := 29) (pe := undef) (fun c9 d0 => ?_)
 refine uGC Try.f7 3 32 (j := 29) (pe := b) (fun d1 f9 => ?_)
 refine uG Try.f7 3 33 (j := 29) (pe := undef) (fun d2 g0 => ?_)
 refine uD Try.f7 3 34 (pe := undef) (fun b0 g1 => ?_)
 refine uP Try.f7 3 35 (v := b0) (pe := undef) ?_
 kernel_rfl
theorem zS.rs : type_of% (And.intro @zS.r0 (And.intro @zS.r1 (And.intro @zS.r2 (@zS.r3)))) := And.intro @zS.r0 (And.intro @zS.r1 (And.intro @zS.r2 (@zS.r3)))
theorem zS.runs {k l : Value} {S g : zk} {e : AEx} {T : List Value} (h : zG Try.prog O false zS.code ([k,l,undef,undef,undef,undef,undef,undef,undef,undef,undef,undef,undef,undef,undef,undef,undef,undef,undef,undef,undef,undef,undef,undef,undef,undef,undef,undef,undef,undef,undef,undef,undef,undef,undef,undef,undef,undef,undef,undef,undef,undef,undef,undef,undef,undef,undef,undef,undef,undef,undef,undef,undef,undef]) S = some (e, T, g)) (he : e = .normal ∨ e = .ret) : jf Try.prog O 7 [k, l] S = some (T.getD 4 undef, g) :=
 yQ rfl rfl Try.func7 (by decide) zS.body (by exact h) he (yg (a := T.getD 4 undef) ((show zO Try.prog T g Try.f7.results.toList = zO Try.prog T g [(ResultVar.tmp 4)] from by kernel_rfl).trans (by simp only [zO])) (by kernel_rfl))
end Go.Proofs.Ytbgcphbbchndkaa
namespace Go.Proofs.Ytbgcphbbchndkaa
open Go.Abs
abbrev yu.id : FuncId := 20
noncomputable def yu.code : Code := (Code.seq (Code.region 0 (reg Try.f20 0) false) (Code.seq (Code.region 1 (reg Try.f20 1) false) (Code.seq (Code.region 2 (reg Try.f20 2) false) Code.ret)))
theorem yu.body : Try.f20.body = some yu.code := by kernel_rfl
variable (b d g i j k l m : Value) (S : zk)
theorem yu.r0  : jE Try.prog ⟨false, false, false⟩ (jf Try.prog O) (reg Try.f20 0) (reg Try.f20 0).toList ([b,d,g,i,j,k,l,m]) S =
  (zM (vV (dem b) S) (fun f c => zM (yM Try.prog 30 c) (fun n o => some ([b,f,n,i,j,k,l,m], o)) ()) ()) := by
 kernel_rfl
theorem yu.r1  : jE Try.prog ⟨false, false, false⟩ (jf Try.prog O) (reg Try.f20 1) (reg Try.f20 1).toList ([b,d,g,i,j,k,l,m]) S =
  (zM (zo Try.prog 30 d 7 S) (fun f c => zM (zV Try.prog false 28 f c) (fun n o => zM ((jf Try.prog O) 49 [(dem n)] o) (fun p r => zM (zo Try.prog 30 d 7 r) (fun q s => zM (yC Try.prog 28 q (dem p) s) (fun u t => some ([b,d,g,f,n,p,q,m], t)) ()) ()) ()) ()) ()) := by
 kernel_rfl
theorem yu.r2  : jE Try.prog ⟨false, false, false⟩ (jf Try.prog O) (reg Try.f20 2) (reg Try.f20 2).toList ([b,d,g,i,j,k,l,m]) S =
  (zM (zV Try.prog false 30 d S) (fun f c => zM (yC Try.prog 30 g (dem f) c) (fun n o => some ([b,d,g,i,j,k,l,f], o)) ()) ()) := by
 kernel_rfl
theorem yu.rs : type_of% (And.intro @yu.r0 (And.intro @yu.r1 (@yu.r2))) := And.intro @yu.r0 (And.intro @yu.r1 (@yu.r2))
theorem yu.runs {b : Value} {S c : zk} {e : AEx} {T : List Value} (h : zG Try.prog O false yu.code ([b,undef,undef,undef,undef,undef,undef,undef]) zk.empty = some (e, T, c)) (he : e = .normal ∨ e = .ret) {w0 : Value} (c0 : zV Try.prog false 30 (T.getD 2 undef) c = some (w0, c)) (hca : [b].all (jB 16) = true) (hcv : jB 16 (w0) = true) : jf Try.prog O 20 [b] S = some (w0, S) :=
 yc rfl rfl Try.func20 (by decide) yu.body (by exact h) he (yg (a := w0) ((show zO Try.prog T c Try.f20.results.toList = zO Try.prog T c [(ResultVar.cell 2 30)] from by kernel_rfl).trans (by simp only [zO, c0])) (by kernel_rfl)) hca hcv
end Go.Proofs.Ytbgcphbbchndkaa
namespace Go.Proofs.Ytbgcphbbchndkaa
open Go.Abs
abbrev wJ.id : FuncId := 49
noncomputable def wJ.code : Code := (Code.seq (Code.region 0 (reg Try.f49 0) false) (Code.seq (Code.region 1 (reg Try.f49 1) false) (Code.seq (Code.region 2 (reg Try.f49 2) false) Code.ret)))
theorem wJ.body : Try.f49.body = some wJ.code := by kernel_rfl
variable (b d g i j k l m : Value) (S : zk)
theorem wJ.r0  : jE Try.prog ⟨false, false, false⟩ (jf Try.prog O) (reg Try.f49 0) (reg Try.f49 0).toList ([b,d,g,i,j,k,l,m]) S =
  (zM (vV (dem b) S) (fun f c => zM (yM Try.prog 28 c) (fun n o => some ([b,f,n,i,j,k,l,m], o)) ()) ()) := by
 kernel_rfl
theorem wJ.r1  : jE Try.prog ⟨false, false, false⟩ (jf Try.prog O) (reg Try.f49 1) (reg Try.f49 1).toList ([b,d,g,i,j,k,l,m]) S =
  (zM (zo Try.prog 28 d 4 S) (fun f c => zM (zV Try.prog false 26 f c) (fun n o => zM ((jf Try.prog O) 63 [(dem n)] o) (fun p r => zM (zo Try.prog 28 d 4 r) (fun q s => zM (yC Try.prog 26 q (dem p) s) (fun u t => some ([b,d,g,f,n,p,q,m], t)) ()) ()) ()) ()) ()) := by
 kernel_rfl
theorem wJ.r2  : jE Try.prog ⟨false, false, false⟩ (jf Try.prog O) (reg Try.f49 2) (reg Try.f49 2).toList ([b,d,g,i,j,k,l,m]) S =
  (zM (zV Try.prog false 28 d S) (fun f c => zM (yC Try.prog 28 g (dem f) c) (fun n o => some ([b,d,g,i,j,k,l,f], o)) ()) ()) := by
 kernel_rfl
theorem wJ.rs : type_of% (And.intro @wJ.r0 (And.intro @wJ.r1 (@wJ.r2))) := And.intro @wJ.r0 (And.intro @wJ.r1 (@wJ.r2))
theorem wJ.runs {b : Value} {S c : zk} {e : AEx} {T : List Value} (h : zG Try.prog O false wJ.code ([b,undef,undef,undef,undef,undef,undef,undef]) zk.empty = some (e, T, c)) (he : e = .normal ∨ e = .ret) {w0 : Value} (c0 : zV Try.prog false 28 (T.getD 2 undef) c = some (w0, c)) (hca : [b].all (jB 16) = true) (hcv : jB 16 (w0) = true) : jf Try.prog O 49 [b] S = some (w0, S) :=
 yc rfl rfl Try.func49 (by decide) wJ.body (by exact h) he (yg (a := w0) ((show zO Try.prog T c Try.f49.results.toList = zO Try.prog T c [(ResultVar.cell 2 28)] from by kernel_rfl).trans (by simp only [zO, c0])) (by kernel_rfl)) hca hcv
end Go.Proofs.Ytbgcphbbchndkaa
namespace Go.Proofs.Ytbgcphbbchndkaa
open Go.Abs
abbrev jD.id : FuncId := 63
noncomputable def jD.code : Code := (Code.seq (Code.region 0 (reg Try.f63 0) false) (Code.seq (Code.seq (Code.region 1 (reg Try.f63 1) false) (Code.cond (Operand.tmp 4) (Code.seq (Code.region 2 (reg Try.f63 2) false) Code.ret) Code.skip)) (Code.seq (Code.region 3 (reg Try.f63 3) false) Code.ret)))
theorem jD.body : Try.f63.body = some jD.code := by kernel_rfl
variable (b c l f g i j k : Value) (S : zk)
theorem jD.r0  : jE Try.prog ⟨false, false, false⟩ (jf Try.prog O) (reg Try.f63 0) (reg Try.f63 0).toList ([b,c,l,f,g,i,j,k]) S =
  ( some ([b,c,Value.slice none 0 0,f,g,i,j,k], S)) := by
 kernel_rfl
theorem jD.r1  : jE Try.prog ⟨false, false, false⟩ (jf Try.prog O) (reg Try.f63 1) (reg Try.f63 1).toList ([b,c,l,f,g,i,j,k]) S =
  (zM (jS Try.prog BinOp.eql 26 (dem b) (Value.slice none 0 0) S) (fun o d => some ([b,c,l,dem b,o,i,j,k], d)) ()) := by
 kernel_rfl
theorem jD.r2  : jE Try.prog ⟨false, false, false⟩ (jf Try.prog O) (reg Try.f63 2) (reg Try.f63 2).toList ([b,c,l,f,g,i,j,k]) S =
  ( some ([b,c,Value.slice none 0 0,f,g,i,j,k], S)) := by
 kernel_rfl
theorem jD.r3  : jE Try.prog ⟨false, false, false⟩ (jf Try.prog O) (reg Try.f63 3) (reg Try.f63 3).toList ([b,c,l,f,g,i,j,k]) S =
  (zM (jJ Try.prog 26 0 [] S) (fun m d => zM (wU Try.prog 26 26 m (dem b) d) (fun n p => some ([b,c,n,f,g,dem m,dem b,dem n], p)) ()) ()) := by
 kernel_rfl
theorem jD.rs : type_of% (And.intro @jD.r0 (And.intro @jD.r1 (And.intro @jD.r2 (@jD.r3)))) := And.intro @jD.r0 (And.intro @jD.r1 (And.intro @jD.r2 (@jD.r3)))
theorem jD.runs {b : Value} {S d : zk} {e : AEx} {T : List Value} (h : zG Try.prog O false jD.code ([b,undef,undef,undef,undef,undef,undef,undef]) S = some (e, T, d)) (he : e = .normal ∨ e = .ret) : jf Try.prog O 63 [b] S = some (T.getD 2 undef, d) :=
 yQ rfl rfl Try.func63 (by decide) jD.body (by exact h) he (yg (a := T.getD 2 undef) ((show zO Try.prog T d Try.f63.results.toList = zO Try.prog T d [(ResultVar.tmp 2)] from by kernel_rfl).trans (by simp only [zO])) (by kernel_rfl))
end Go.Proofs.Ytbgcphbbchndkaa
namespace Go.Proofs.Ytbgcphbbchndkaa
open Go.Abs
abbrev jm.id : FuncId := 13
noncomputable def jm.code : Code := (Code.seq (Code.region 0 (reg Try.f13 0) false) (Code.seq (Code.seq (Code.region 1 (reg Try.f13 1) false) (Code.cond (Operand.tmp 12) (Code.seq (Code.region 2 (reg Try.f13 2) false) Code.ret) Code.skip)) (Code.seq (Code.region 3 (reg Try.f13 3) false) (Code.seq (Code.seq (Code.region 4 (reg Try.f13 4) false) (Code.block 0 (Code.seq (Code.region 5 (reg Try.f13 5) false) (Code.cond (Operand.tmp 32) (Code.seq (Code.region 6 (reg Try.f13 6) false) (Code.region 7 (reg Try.f13 7) false)) (Code.seq (Code.region 8 (reg Try.f13 8) false) (Code.cond (Operand.tmp 43) (Code.seq (Code.region 9 (reg Try.f13 9) false) (Code.region 10 (reg Try.f13 10) false)) Code.skip)))))) (Code.seq (Code.region 11 (reg Try.f13 11) false) Code.ret)))))
theorem jm.body : Try.f13.body = some jm.code := by kernel_rfl
variable (x0 x1 x2 x3 x4 x5 x6 x7 x8 x9 b c d f g i j k l m n o p q r s t u v w x a y z A B C D E F G H I J K L M N P Q R U V W X Y Z a0 a1 a2 a3 a4 a5 : Value) (S : zk)
theorem jm.r0  : jE Try.prog ⟨false, false, false⟩ (jf Try.prog O) (reg Try.f13 0) (reg Try.f13 0).toList ([x0,x1,x2,x3,x4,x5,x6,x7,x8,x9,b,c,d,f,g,i,j,k,l,m,n,o,p,q,r,s,t,u,v,w,x,a,y,z,A,B,C,D,E,F,G,H,I,J,K,L,M,N,P,Q,R,U,V,W,X,Y,Z,a0,a1,a2,a3,a4,a5]) S =
  (zM (vV (dem x0) S) (fun v0 S1 => some ([x0,v0,Value.slice none 0 0,Value.int IntKind.i64 0,x4,x5,x6,x7,x8,x9,b,c,d,f,g,i,j,k,l,m,n,o,p,q,r,s,t,u,v,w,x,a,y,z,A,B,C,D,E,F,G,H,I,J,K,L,M,N,P,Q,R,U,V,W,X,Y,Z,a0,a1,a2,a3,a4,a5], S1)) ()) := by
 kernel_rfl
theorem jm.r1  : jE Try.prog ⟨false, false, false⟩ (jf Try.prog O) (reg Try.f13 1) (reg Try.f13 1).toList ([x0,x1,x2,x3,x4,x5,x6,x7,x8,x9,b,c,d,f,g,i,j,k,l,m,n,o,p,q,r,s,t,u,v,w,x,a,y,z,A,B,C,D,E,F,G,H,I,J,K,L,M,N,P,Q,R,U,V,W,X,Y,Z,a0,a1,a2,a3,a4,a5]) S =
  (zM (zV Try.prog false 30 x1 S) (fun v0 S1 => zM ((jf Try.prog O) 14 [(dem v0)] S1) (fun v1 S2 => zM (aUn Try.prog UnOp.not v1 S2) (fun v2 S3 => some ([x0,x1,x2,x3,x4,x5,x6,x7,x8,x9,v0,v1,v2,f,g,i,j,k,l,m,n,o,p,q,r,s,t,u,v,w,x,a,y,z,A,B,C,D,E,F,G,H,I,J,K,L,M,N,P,Q,R,U,V,W,X,Y,Z,a0,a1,a2,a3,a4,a5], S3)) ()) ()) ()) := by
 kernel_rfl
theorem jm.r2  : jE Try.prog ⟨false, false, false⟩ (jf Try.prog O) (reg Try.f13 2) (reg Try.f13 2).toList ([x0,x1,x2,x3,x4,x5,x6,x7,x8,x9,b,c,d,f,g,i,j,k,l,m,n,o,p,q,r,s,t,u,v,w,x,a,y,z,A,B,C,D,E,F,G,H,I,J,K,L,M,N,P,Q,R,U,V,W,X,Y,Z,a0,a1,a2,a3,a4,a5]) S =
  ( some ([x0,x1,Value.slice none 0 0,Value.int IntKind.i64 121,x4,x5,x6,x7,x8,x9,b,c,d,f,g,i,j,k,l,m,n,o,p,q,r,s,t,u,v,w,x,a,y,z,A,B,C,D,E,F,G,H,I,J,K,L,M,N,P,Q,R,U,V,W,X,Y,Z,a0,a1,a2,a3,a4,a5], S)) := by
 kernel_rfl
theorem jm.r3  : jE Try.prog ⟨false, false, false⟩ (jf Try.prog O) (reg Try.f13 3) (reg Try.f13 3).toList ([x0,x1,x2,x3,x4,x5,x6,x7,x8,x9,b,c,d,f,g,i,j,k,l,m,n,o,p,q,r,s,t,u,v,w,x,a,y,z,A,B,C,D,E,F,G,H,I,J,K,L,M,N,P,Q,R,U,V,W,X,Y,Z,a0,a1,a2,a3,a4,a5]) S =
  (zM (zo Try.prog 30 x1 0 S) (fun v0 S1 => zM (zV Try.prog false 3 v0 S1) (fun v1 S2 => zM (zo Try.prog 30 x1 1 S2) (fun v2 S3 => zM (zV Try.prog false 3 v2 S3) (fun v3 S4 => zM (zo Try.prog 30 x1 2 S4) (fun v4 S5 => zM (zV Try.prog false 3 v4 S5) (fun v5 S6 => zM (zo Try.prog 30 x1 3 S6) (fun v6 S7 => zM (zV Try.prog false 3 v6 S7) (fun v7 S8 => zM (zo Try.prog 30 x1 4 S8) (fun v8 S9 => zM (zV Try.prog false 3 v8 S9) (fun v9 b2 => zM (zo Try.prog 30 x1 5 b2) (fun a7 b3 => zM (zV Try.prog false 3 a7 b3) (fun a8 b4 => zM (jJ Try.prog 57 6 [(0, v1), (1, v3), (2, v5), (3, v7), (4, v9), (5, a8)] b4) (fun a9 b5 => zM ((jf Try.prog O) 32 [(dem a9)] b5) (fun a6 b6 => zM (zY a6 0 b6) (fun b0 b7 => zM (zY (jk 0 a6) 1 b7) (fun b1 b8 => some ([x0,x1,x2,x3,b0,b1,x6,x7,x8,x9,b,c,d,jk 1 (jk 0 a6),v0,v1,v2,v3,v4,v5,v6,v7,v8,v9,a7,a8,a9,dem a6,dem b0,dem b1,x,a,y,z,A,B,C,D,E,F,G,H,I,J,K,L,M,N,P,Q,R,U,V,W,X,Y,Z,a0,a1,a2,a3,a4,a5], b8)) ()) ()) ()) ()) ()) ()) ()) ()) ()) ()) ()) ()) ()) ()) ()) ()) := by
 kernel_rfl
theorem jm.r4  : jE Try.prog ⟨false, false, false⟩ (jf Try.prog O) (reg Try.f13 4) (reg Try.f13 4).toList ([x0,x1,x2,x3,x4,x5,x6,x7,x8,x9,b,c,d,f,g,i,j,k,l,m,n,o,p,q,r,s,t,u,v,w,x,a,y,z,A,B,C,D,E,F,G,H,I,J,K,L,M,N,P,Q,R,U,V,W,X,Y,Z,a0,a1,a2,a3,a4,a5]) S =
  (zM (zo Try.prog 30 x1 0 S) (fun v0 S1 => zM (zV Try.prog false 3 v0 S1) (fun v1 S2 => some ([x0,x1,x2,x3,x4,x5,x6,x7,x8,x9,b,c,d,f,g,i,j,k,l,m,n,o,p,q,r,s,t,u,v,w,v0,v1,y,z,A,B,C,D,E,F,G,H,I,J,K,L,M,N,P,Q,R,U,V,W,X,Y,Z,a0,a1,a2,a3,a4,a5], S2)) ()) ()) := by
 kernel_rfl
theorem jm.r5  : jE Try.prog ⟨false, false, false⟩ (jf Try.prog O) (reg Try.f13 5) (reg Try.f13 5).toList ([x0,x1,x2,x3,x4,x5,x6,x7,x8,x9,b,c,d,f,g,i,j,k,l,m,n,o,p,q,r,s,t,u,v,w,x,a,y,z,A,B,C,D,E,F,G,H,I,J,K,L,M,N,P,Q,R,U,V,W,X,Y,Z,a0,a1,a2,a3,a4,a5]) S =
  (zM (jS Try.prog BinOp.eql 3 a (Value.int IntKind.i64 0) S) (fun v0 S1 => some ([x0,x1,x2,x3,x4,x5,x6,x7,x8,x9,b,c,d,f,g,i,j,k,l,m,n,o,p,q,r,s,t,u,v,w,x,a,v0,dem v0,A,B,C,D,E,F,G,H,I,J,K,L,M,N,P,Q,R,U,V,W,X,Y,Z,a0,a1,a2,a3,a4,a5], S1)) ()) := by
 kernel_rfl
theorem jm.r6  : jE Try.prog ⟨false, false, false⟩ (jf Try.prog O) (reg Try.f13 6) (reg Try.f13 6).toList ([x0,x1,x2,x3,x4,x5,x6,x7,x8,x9,b,c,d,f,g,i,j,k,l,m,n,o,p,q,r,s,t,u,v,w,x,a,y,z,A,B,C,D,E,F,G,H,I,J,K,L,M,N,P,Q,R,U,V,W,X,Y,Z,a0,a1,a2,a3,a4,a5]) S =
  (zM (zo Try.prog 30 x1 6 S) (fun v0 S1 => zM (zV Try.prog false 25 v0 S1) (fun v1 S2 => zM ((jf Try.prog O) 33 [(dem v1)] S2) (fun v2 S3 => zM (zY v2 0 S3) (fun v4 S4 => zM (zY (jk 0 v2) 1 S4) (fun v5 S5 => some ([x0,x1,x2,x3,x4,x5,v4,v5,x8,x9,b,c,d,f,g,i,j,k,l,m,n,o,p,q,r,s,t,u,v,w,x,a,y,z,jk 1 (jk 0 v2),v0,v1,dem v2,dem v4,dem v5,G,H,I,J,K,L,M,N,P,Q,R,U,V,W,X,Y,Z,a0,a1,a2,a3,a4,a5], S5)) ()) ()) ()) ()) ()) := by
 kernel_rfl
theorem jm.r7  : jE Try.prog ⟨false, false, false⟩ (jf Try.prog O) (reg Try.f13 7) (reg Try.f13 7).toList ([x0,x1,x2,x3,x4,x5,x6,x7,x8,x9,b,c,d,f,g,i,j,k,l,m,n,o,p,q,r,s,t,u,v,w,x,a,y,z,A,B,C,D,E,F,G,H,I,J,K,L,M,N,P,Q,R,U,V,W,X,Y,Z,a0,a1,a2,a3,a4,a5]) S =
  (zM (wU Try.prog 23 23 x4 (dem x6) S) (fun v2 S1 => some ([x0,x1,x2,x3,v2,x5,x6,x7,x8,x9,b,c,d,f,g,i,j,k,l,m,n,o,p,q,r,s,t,u,v,w,x,a,y,z,A,B,C,D,E,F,dem x4,dem x6,dem v2,J,K,L,M,N,P,Q,R,U,V,W,X,Y,Z,a0,a1,a2,a3,a4,a5], S1)) ()) := by
 kernel_rfl
theorem jm.r8  : jE Try.prog ⟨false, false, false⟩ (jf Try.prog O) (reg Try.f13 8) (reg Try.f13 8).toList ([x0,x1,x2,x3,x4,x5,x6,x7,x8,x9,b,c,d,f,g,i,j,k,l,m,n,o,p,q,r,s,t,u,v,w,x,a,y,z,A,B,C,D,E,F,G,H,I,J,K,L,M,N,P,Q,R,U,V,W,X,Y,Z,a0,a1,a2,a3,a4,a5]) S =
  (zM (jS Try.prog BinOp.eql 3 a (Value.int IntKind.i64 1) S) (fun v0 S1 => some ([x0,x1,x2,x3,x4,x5,x6,x7,x8,x9,b,c,d,f,g,i,j,k,l,m,n,o,p,q,r,s,t,u,v,w,x,a,y,z,A,B,C,D,E,F,G,H,I,v0,dem v0,L,M,N,P,Q,R,U,V,W,X,Y,Z,a0,a1,a2,a3,a4,a5], S1)) ()) := by
 kernel_rfl
theorem jm.r9  : jE Try.prog ⟨false, false, false⟩ (jf Try.prog O) (reg Try.f13 9) (reg Try.f13 9).toList ([x0,x1,x2,x3,x4,x5,x6,x7,x8,x9,b,c,d,f,g,i,j,k,l,m,n,o,p,q,r,s,t,u,v,w,x,a,y,z,A,B,C,D,E,F,G,H,I,J,K,L,M,N,P,Q,R,U,V,W,X,Y,Z,a0,a1,a2,a3,a4,a5]) S =
  (zM (zo Try.prog 30 x1 7 S) (fun v0 S1 => zM (zV Try.prog false 28 v0 S1) (fun v1 S2 => zM ((jf Try.prog O) 34 [(dem v1)] S2) (fun v2 S3 => zM (zY v2 0 S3) (fun v4 S4 => zM (zY (jk 0 v2) 1 S4) (fun v5 S5 => some ([x0,x1,x2,x3,x4,x5,x6,x7,v4,v5,b,c,d,f,g,i,j,k,l,m,n,o,p,q,r,s,t,u,v,w,x,a,y,z,A,B,C,D,E,F,G,H,I,J,K,jk 1 (jk 0 v2),v0,v1,dem v2,dem v4,dem v5,U,V,W,X,Y,Z,a0,a1,a2,a3,a4,a5], S5)) ()) ()) ()) ()) ()) := by
 kernel_rfl
theorem jm.r10  : jE Try.prog ⟨false, false, false⟩ (jf Try.prog O) (reg Try.f13 10) (reg Try.f13 10).toList ([x0,x1,x2,x3,x4,x5,x6,x7,x8,x9,b,c,d,f,g,i,j,k,l,m,n,o,p,q,r,s,t,u,v,w,x,a,y,z,A,B,C,D,E,F,G,H,I,J,K,L,M,N,P,Q,R,U,V,W,X,Y,Z,a0,a1,a2,a3,a4,a5]) S =
  (zM (wU Try.prog 23 23 x4 (dem x8) S) (fun v2 S1 => some ([x0,x1,x2,x3,v2,x5,x6,x7,x8,x9,b,c,d,f,g,i,j,k,l,m,n,o,p,q,r,s,t,u,v,w,x,a,y,z,A,B,C,D,E,F,G,H,I,J,K,L,M,N,P,Q,R,dem x4,dem x8,dem v2,X,Y,Z,a0,a1,a2,a3,a4,a5], S1)) ()) := by
 kernel_rfl
theorem jm.r11  : jE Try.prog ⟨false, false, false⟩ (jf Try.prog O) (reg Try.f13 11) (reg Try.f13 11).toList ([x0,x1,x2,x3,x4,x5,x6,x7,x8,x9,b,c,d,f,g,i,j,k,l,m,n,o,p,q,r,s,t,u,v,w,x,a,y,z,A,B,C,D,E,F,G,H,I,J,K,L,M,N,P,Q,R,U,V,W,X,Y,Z,a0,a1,a2,a3,a4,a5]) S =
  (zM (zo Try.prog 30 x1 1 S) (fun v0 S1 => zM (zV Try.prog false 3 v0 S1) (fun v1 S2 => zM ((jf Try.prog O) 27 [(dem v1)] S2) (fun v2 S3 => zM (jJ Try.prog 88 1 [(0, (dem x4))] S3) (fun v4 S4 => zM ((jf Try.prog O) 36 [(dem v2), (dem v4)] S4) (fun v5 S5 => zM ((jf Try.prog O) 35 [(dem v5)] S5) (fun v6 S6 => zM (wU Try.prog 23 23 v6 (dem x4) S6) (fun v8 S7 => some ([x0,x1,v8,Value.int IntKind.i64 0,x4,x5,x6,x7,x8,x9,b,c,d,f,g,i,j,k,l,m,n,o,p,q,r,s,t,u,v,w,x,a,y,z,A,B,C,D,E,F,G,H,I,J,K,L,M,N,P,Q,R,U,V,W,v0,v1,v2,dem x4,v4,v5,dem v6,dem x4,dem v8], S7)) ()) ()) ()) ()) ()) ()) ()) := by
 kernel_rfl
theorem jm.rs : type_of% (And.intro @jm.r0 (And.intro @jm.r1 (And.intro @jm.r2 (And.intro @jm.r3 (And.intro @jm.r4 (And.intro @jm.r5 (And.intro @jm.r6 (And.intro @jm.r7 (And.intro @jm.r8 (And.intro @jm.r9 (And.intro @jm.r10 (@jm.r11)))))))))))) := And.intro @jm.r0 (And.intro @jm.r1 (And.intro @jm.r2 (And.intro @jm.r3 (And.intro @jm.r4 (And.intro @jm.r5 (And.intro @jm.r6 (And.intro @jm.r7 (And.intro @jm.r8 (And.intro @jm.r9 (And.intro @jm.r10 (@jm.r11)))))))))))
theorem jm.runs {x0 : Value} {S S1 : zk} {e : AEx} {T : List Value} (h : zG Try.prog O false jm.code ([x0,undef,undef,undef,undef,undef,undef,undef,undef,undef,undef,undef,undef,undef,undef,undef,undef,undef,undef,undef,undef,undef,undef,undef,undef,undef,undef,undef,undef,undef,undef,undef,undef,undef,undef,undef,undef,undef,undef,undef,undef,undef,undef,undef,undef,undef,undef,undef,undef,undef,undef,undef,undef,undef,undef,undef,undef,undef,undef,undef,undef,undef,undef]) zk.empty = some (e, T, S1)) (he : e = .normal ∨ e = .ret)  (h0 : wI (T.getD 2 undef) = true) (h1 : wI (T.getD 3 undef) = true) (hca : [x0].all (jB 16) = true) (hcv : jB 16 (Value.tuple #[T.getD 2 undef, T.getD 3 undef]) = true) : jf Try.prog O 13 [x0] S = some (Value.tuple #[T.getD 2 undef, T.getD 3 undef], S) :=
 yc rfl rfl Try.func13 (by decide) jm.body (by exact h) he ((qM ((show zO Try.prog T S1 Try.f13.results.toList = zO Try.prog T S1 [(ResultVar.tmp 2), (ResultVar.tmp 3)] from by kernel_rfl).trans (by simp only [zO])) (by kernel_rfl) (by simp only [List.all_cons, List.all_nil, h0, h1, Bool.and_true])).trans rfl) hca hcv
end Go.Proofs.Ytbgcphbbchndkaa
namespace Go.Proofs.Ytbgcphbbchndkaa
open Go.Abs
abbrev zA.id : FuncId := 18
noncomputable def zA.code : Code := (Code.seq (Code.region 0 (reg Try.f18 0) false) (Code.seq (Code.seq (Code.region 1 (reg Try.f18 1) false) (Code.cond (Operand.tmp 12) (Code.seq (Code.region 2 (reg Try.f18 2) false) Code.ret) Code.skip)) (Code.seq (Code.region 3 (reg Try.f18 3) false) (Code.seq (Code.seq (Code.region 4 (reg Try.f18 4) false) (Code.cond (Operand.tmp 32) (Code.seq (Code.region 5 (reg Try.f18 5) false) (Code.region 6 (reg Try.f18 6) false)) Code.skip)) (Code.seq (Code.seq (Code.region 7 (reg Try.f18 7) false) (Code.cond (Operand.tmp 44) (Code.seq (Code.region 8 (reg Try.f18 8) false) (Code.region 9 (reg Try.f18 9) false)) Code.skip)) (Code.seq (Code.region 10 (reg Try.f18 10) false) Code.ret))))))
theorem zA.body : Try.f18.body = some zA.code := by kernel_rfl
variable (x0 a x2 x3 x4 x5 x6 x7 x8 x9 b c d f g i j k l m n o p q r s t u v w x y z A B C D E F G H I J K L M N P Q R U V W X Y Z a0 a1 a2 a3 a4 a5 : Value) (S : zk)
theorem zA.r0  : jE Try.prog ⟨false, false, false⟩ (jf Try.prog O) (reg Try.f18 0) (reg Try.f18 0).toList ([x0,a,x2,x3,x4,x5,x6,x7,x8,x9,b,c,d,f,g,i,j,k,l,m,n,o,p,q,r,s,t,u,v,w,x,y,z,A,B,C,D,E,F,G,H,I,J,K,L,M,N,P,Q,R,U,V,W,X,Y,Z,a0,a1,a2,a3,a4,a5]) S =
  (zM (vV (dem x0) S) (fun v0 S1 => some ([x0,v0,Value.slice none 0 0,Value.int IntKind.i64 0,x4,x5,x6,x7,x8,x9,b,c,d,f,g,i,j,k,l,m,n,o,p,q,r,s,t,u,v,w,x,y,z,A,B,C,D,E,F,G,H,I,J,K,L,M,N,P,Q,R,U,V,W,X,Y,Z,a0,a1,a2,a3,a4,a5], S1)) ()) := by
 kernel_rfl
theorem zA.r1  : jE Try.prog ⟨false, false, false⟩ (jf Try.prog O) (reg Try.f18 1) (reg Try.f18 1).toList ([x0,a,x2,x3,x4,x5,x6,x7,x8,x9,b,c,d,f,g,i,j,k,l,m,n,o,p,q,r,s,t,u,v,w,x,y,z,A,B,C,D,E,F,G,H,I,J,K,L,M,N,P,Q,R,U,V,W,X,Y,Z,a0,a1,a2,a3,a4,a5]) S =
  (zM (zV Try.prog false 30 a S) (fun v0 S1 => zM ((jf Try.prog O) 19 [(dem v0)] S1) (fun v1 S2 => zM (aUn Try.prog UnOp.not v1 S2) (fun v2 S3 => some ([x0,a,x2,x3,x4,x5,x6,x7,x8,x9,v0,v1,v2,f,g,i,j,k,l,m,n,o,p,q,r,s,t,u,v,w,x,y,z,A,B,C,D,E,F,G,H,I,J,K,L,M,N,P,Q,R,U,V,W,X,Y,Z,a0,a1,a2,a3,a4,a5], S3)) ()) ()) ()) := by
 kernel_rfl
theorem zA.r2  : jE Try.prog ⟨false, false, false⟩ (jf Try.prog O) (reg Try.f18 2) (reg Try.f18 2).toList ([x0,a,x2,x3,x4,x5,x6,x7,x8,x9,b,c,d,f,g,i,j,k,l,m,n,o,p,q,r,s,t,u,v,w,x,y,z,A,B,C,D,E,F,G,H,I,J,K,L,M,N,P,Q,R,U,V,W,X,Y,Z,a0,a1,a2,a3,a4,a5]) S =
  ( some ([x0,a,Value.slice none 0 0,Value.int IntKind.i64 121,x4,x5,x6,x7,x8,x9,b,c,d,f,g,i,j,k,l,m,n,o,p,q,r,s,t,u,v,w,x,y,z,A,B,C,D,E,F,G,H,I,J,K,L,M,N,P,Q,R,U,V,W,X,Y,Z,a0,a1,a2,a3,a4,a5], S)) := by
 kernel_rfl
theorem zA.r3  : jE Try.prog ⟨false, false, false⟩ (jf Try.prog O) (reg Try.f18 3) (reg Try.f18 3).toList ([x0,a,x2,x3,x4,x5,x6,x7,x8,x9,b,c,d,f,g,i,j,k,l,m,n,o,p,q,r,s,t,u,v,w,x,y,z,A,B,C,D,E,F,G,H,I,J,K,L,M,N,P,Q,R,U,V,W,X,Y,Z,a0,a1,a2,a3,a4,a5]) S =
  (zM (zo Try.prog 30 a 0 S) (fun v0 S1 => zM (zV Try.prog false 3 v0 S1) (fun v1 S2 => zM (zo Try.prog 30 a 1 S2) (fun v2 S3 => zM (zV Try.prog false 3 v2 S3) (fun v3 S4 => zM (zo Try.prog 30 a 2 S4) (fun v4 S5 => zM (zV Try.prog false 3 v4 S5) (fun v5 S6 => zM (zo Try.prog 30 a 3 S6) (fun v6 S7 => zM (zV Try.prog false 3 v6 S7) (fun v7 S8 => zM (zo Try.prog 30 a 4 S8) (fun v8 S9 => zM (zV Try.prog false 3 v8 S9) (fun v9 b2 => zM (zo Try.prog 30 a 5 b2) (fun a7 b3 => zM (zV Try.prog false 3 a7 b3) (fun a8 b4 => zM (jJ Try.prog 57 6 [(0, v1), (1, v3), (2, v5), (3, v7), (4, v9), (5, a8)] b4) (fun a9 b5 => zM ((jf Try.prog O) 42 [(dem a9)] b5) (fun a6 b6 => zM (zY a6 0 b6) (fun b0 b7 => zM (zY (jk 0 a6) 1 b7) (fun b1 b8 => some ([x0,a,x2,x3,b0,b1,x6,x7,x8,x9,b,c,d,jk 1 (jk 0 a6),v0,v1,v2,v3,v4,v5,v6,v7,v8,v9,a7,a8,a9,dem a6,dem b0,dem b1,x,y,z,A,B,C,D,E,F,G,H,I,J,K,L,M,N,P,Q,R,U,V,W,X,Y,Z,a0,a1,a2,a3,a4,a5], b8)) ()) ()) ()) ()) ()) ()) ()) ()) ()) ()) ()) ()) ()) ()) ()) ()) := by
 kernel_rfl
theorem zA.r4  : jE Try.prog ⟨false, false, false⟩ (jf Try.prog O) (reg Try.f18 4) (reg Try.f18 4).toList ([x0,a,x2,x3,x4,x5,x6,x7,x8,x9,b,c,d,f,g,i,j,k,l,m,n,o,p,q,r,s,t,u,v,w,x,y,z,A,B,C,D,E,F,G,H,I,J,K,L,M,N,P,Q,R,U,V,W,X,Y,Z,a0,a1,a2,a3,a4,a5]) S =
  (zM (zo Try.prog 30 a 0 S) (fun v0 S1 => zM (zV Try.prog false 3 v0 S1) (fun v1 S2 => zM (jS Try.prog BinOp.eql 3 v1 (Value.int IntKind.i64 0) S2) (fun v2 S3 => some ([x0,a,x2,x3,x4,x5,x6,x7,x8,x9,b,c,d,f,g,i,j,k,l,m,n,o,p,q,r,s,t,u,v,w,v0,v1,v2,A,B,C,D,E,F,G,H,I,J,K,L,M,N,P,Q,R,U,V,W,X,Y,Z,a0,a1,a2,a3,a4,a5], S3)) ()) ()) ()) := by
 kernel_rfl
theorem zA.r5  : jE Try.prog ⟨false, false, false⟩ (jf Try.prog O) (reg Try.f18 5) (reg Try.f18 5).toList ([x0,a,x2,x3,x4,x5,x6,x7,x8,x9,b,c,d,f,g,i,j,k,l,m,n,o,p,q,r,s,t,u,v,w,x,y,z,A,B,C,D,E,F,G,H,I,J,K,L,M,N,P,Q,R,U,V,W,X,Y,Z,a0,a1,a2,a3,a4,a5]) S =
  (zM (zo Try.prog 30 a 6 S) (fun v0 S1 => zM (zV Try.prog false 25 v0 S1) (fun v1 S2 => zM ((jf Try.prog O) 43 [(dem v1)] S2) (fun v2 S3 => zM (zY v2 0 S3) (fun v4 S4 => zM (zY (jk 0 v2) 1 S4) (fun v5 S5 => some ([x0,a,x2,x3,x4,x5,v4,v5,x8,x9,b,c,d,f,g,i,j,k,l,m,n,o,p,q,r,s,t,u,v,w,x,y,z,jk 1 (jk 0 v2),v0,v1,dem v2,dem v4,dem v5,G,H,I,J,K,L,M,N,P,Q,R,U,V,W,X,Y,Z,a0,a1,a2,a3,a4,a5], S5)) ()) ()) ()) ()) ()) := by
 kernel_rfl
theorem zA.r6  : jE Try.prog ⟨false, false, false⟩ (jf Try.prog O) (reg Try.f18 6) (reg Try.f18 6).toList ([x0,a,x2,x3,x4,x5,x6,x7,x8,x9,b,c,d,f,g,i,j,k,l,m,n,o,p,q,r,s,t,u,v,w,x,y,z,A,B,C,D,E,F,G,H,I,J,K,L,M,N,P,Q,R,U,V,W,X,Y,Z,a0,a1,a2,a3,a4,a5]) S =
  (zM (wU Try.prog 23 23 x4 (dem x6) S) (fun v2 S1 => some ([x0,a,x2,x3,v2,x5,x6,x7,x8,x9,b,c,d,f,g,i,j,k,l,m,n,o,p,q,r,s,t,u,v,w,x,y,z,A,B,C,D,E,F,dem x4,dem x6,dem v2,J,K,L,M,N,P,Q,R,U,V,W,X,Y,Z,a0,a1,a2,a3,a4,a5], S1)) ()) := by
 kernel_rfl
theorem zA.r7  : jE Try.prog ⟨false, false, false⟩ (jf Try.prog O) (reg Try.f18 7) (reg Try.f18 7).toList ([x0,a,x2,x3,x4,x5,x6,x7,x8,x9,b,c,d,f,g,i,j,k,l,m,n,o,p,q,r,s,t,u,v,w,x,y,z,A,B,C,D,E,F,G,H,I,J,K,L,M,N,P,Q,R,U,V,W,X,Y,Z,a0,a1,a2,a3,a4,a5]) S =
  (zM (zo Try.prog 30 a 0 S) (fun v0 S1 => zM (zV Try.prog false 3 v0 S1) (fun v1 S2 => zM (jS Try.prog BinOp.eql 3 v1 (Value.int IntKind.i64 1) S2) (fun v2 S3 => some ([x0,a,x2,x3,x4,x5,x6,x7,x8,x9,b,c,d,f,g,i,j,k,l,m,n,o,p,q,r,s,t,u,v,w,x,y,z,A,B,C,D,E,F,G,H,I,v0,v1,v2,M,N,P,Q,R,U,V,W,X,Y,Z,a0,a1,a2,a3,a4,a5], S3)) ()) ()) ()) := by
 kernel_rfl
theorem zA.r8  : jE Try.prog ⟨false, false, false⟩ (jf Try.prog O) (reg Try.f18 8) (reg Try.f18 8).toList ([x0,a,x2,x3,x4,x5,x6,x7,x8,x9,b,c,d,f,g,i,j,k,l,m,n,o,p,q,r,s,t,u,v,w,x,y,z,A,B,C,D,E,F,G,H,I,J,K,L,M,N,P,Q,R,U,V,W,X,Y,Z,a0,a1,a2,a3,a4,a5]) S =
  (zM (zo Try.prog 30 a 7 S) (fun v0 S1 => zM (zV Try.prog false 28 v0 S1) (fun v1 S2 => zM ((jf Try.prog O) 44 [(dem v1)] S2) (fun v2 S3 => zM (zY v2 0 S3) (fun v4 S4 => zM (zY (jk 0 v2) 1 S4) (fun v5 S5 => some ([x0,a,x2,x3,x4,x5,x6,x7,v4,v5,b,c,d,f,g,i,j,k,l,m,n,o,p,q,r,s,t,u,v,w,x,y,z,A,B,C,D,E,F,G,H,I,J,K,L,jk 1 (jk 0 v2),v0,v1,dem v2,dem v4,dem v5,V,W,X,Y,Z,a0,a1,a2,a3,a4,a5], S5)) ()) ()) ()) ()) ()) := by
 kernel_rfl
theorem zA.r9  : jE Try.prog ⟨false, false, false⟩ (jf Try.prog O) (reg Try.f18 9) (reg Try.f18 9).toList ([x0,a,x2,x3,x4,x5,x6,x7,x8,x9,b,c,d,f,g,i,j,k,l,m,n,o,p,q,r,s,t,u,v,w,x,y,z,A,B,C,D,E,F,G,H,I,J,K,L,M,N,P,Q,R,U,V,W,X,Y,Z,a0,a1,a2,a3,a4,a5]) S =
  (zM (wU Try.prog 23 23 x4 (dem x8) S) (fun v2 S1 => some ([x0,a,x2,x3,v2,x5,x6,x7,x8,x9,b,c,d,f,g,i,j,k,l,m,n,o,p,q,r,s,t,u,v,w,x,y,z,A,B,C,D,E,F,G,H,I,J,K,L,M,N,P,Q,R,U,dem x4,dem x8,dem v2,Y,Z,a0,a1,a2,a3,a4,a5], S1)) ()) := by
 kernel_rfl
theorem zA.r10  : jE Try.prog ⟨false, false, false⟩ (jf Try.prog O) (reg Try.f18 10) (reg Try.f18 10).toList ([x0,a,x2,x3,x4,x5,x6,x7,x8,x9,b,c,d,f,g,i,j,k,l,m,n,o,p,q,r,s,t,u,v,w,x,y,z,A,B,C,D,E,F,G,H,I,J,K,L,M,N,P,Q,R,U,V,W,X,Y,Z,a0,a1,a2,a3,a4,a5]) S =
  (zM (zo Try.prog 30 a 1 S) (fun v0 S1 => zM (zV Try.prog false 3 v0 S1) (fun v1 S2 => zM ((jf Try.prog O) 23 [(dem v1)] S2) (fun v2 S3 => zM ((jf Try.prog O) 22 [(dem v2), (dem (dem x4))] S3) (fun v4 S4 => zM ((jf Try.prog O) 17 [(dem v4)] S4) (fun v5 S5 => zM (wU Try.prog 23 23 v5 (dem x4) S5) (fun v7 S6 => some ([x0,a,v7,Value.int IntKind.i64 0,x4,x5,x6,x7,x8,x9,b,c,d,f,g,i,j,k,l,m,n,o,p,q,r,s,t,u,v,w,x,y,z,A,B,C,D,E,F,G,H,I,J,K,L,M,N,P,Q,R,U,V,W,X,v0,v1,v2,dem x4,v4,dem v5,dem x4,dem v7], S6)) ()) ()) ()) ()) ()) ()) := by
 kernel_rfl
theorem zA.rs : type_of% (And.intro @zA.r0 (And.intro @zA.r1 (And.intro @zA.r2 (And.intro @zA.r3 (And.intro @zA.r4 (And.intro @zA.r5 (And.intro @zA.r6 (And.intro @zA.r7 (And.intro @zA.r8 (And.intro @zA.r9 (@zA.r10))))))))))) := And.intro @zA.r0 (And.intro @zA.r1 (And.intro @zA.r2 (And.intro @zA.r3 (And.intro @zA.r4 (And.intro @zA.r5 (And.intro @zA.r6 (And.intro @zA.r7 (And.intro @zA.r8 (And.intro @zA.r9 (@zA.r10))))))))))
theorem zA.runs {x0 : Value} {S S1 : zk} {e : AEx} {T : List Value} (h : zG Try.prog O false zA.code ([x0,undef,undef,undef,undef,undef,undef,undef,undef,undef,undef,undef,undef,undef,undef,undef,undef,undef,undef,undef,undef,undef,undef,undef,undef,undef,undef,undef,undef,undef,undef,undef,undef,undef,undef,undef,undef,undef,undef,undef,undef,undef,undef,undef,undef,undef,undef,undef,undef,undef,undef,undef,undef,undef,undef,undef,undef,undef,undef,undef,undef,undef]) zk.empty = some (e, T, S1)) (he : e = .normal ∨ e = .ret)  (h0 : wI (T.getD 2 undef) = true) (h1 : wI (T.getD 3 undef) = true) (hca : [x0].all (jB 16) = true) (hcv : jB 16 (Value.tuple #[T.getD 2 undef, T.getD 3 undef]) = true) : jf Try.prog O 18 [x0] S = some (Value.tuple #[T.getD 2 undef, T.getD 3 undef], S) :=
 yc rfl rfl Try.func18 (by decide) zA.body (by exact h) he ((qM ((show zO Try.prog T S1 Try.f18.results.toList = zO Try.prog T S1 [(ResultVar.tmp 2), (ResultVar.tmp 3)] from by kernel_rfl).trans (by simp only [zO])) (by kernel_rfl) (by simp only [List.all_cons, List.all_nil, h0, h1, Bool.and_true])).trans rfl) hca hcv
end Go.Proofs.Ytbgcphbbchndkaa
namespace Go.Proofs.Ytbgcphbbchndkaa
open Go.Abs
abbrev je.id : FuncId := 14
noncomputable def je.code : Code := (Code.seq (Code.region 0 (reg Try.f14 0) false) (Code.seq (Code.seq (Code.region 1 (reg Try.f14 1) true) (Code.cond (Operand.tmp 27) (Code.seq (Code.region 2 (reg Try.f14 2) false) Code.ret) Code.skip)) (Code.seq (Code.seq (Code.region 3 (reg Try.f14 3) false) (Code.block 0 (Code.seq (Code.region 4 (reg Try.f14 4) false) (Code.cond (Operand.tmp 30) (Code.seq (Code.region 5 (reg Try.f14 5) false) Code.ret) (Code.seq (Code.region 6 (reg Try.f14 6) false) (Code.cond (Operand.tmp 35) (Code.seq (Code.region 7 (reg Try.f14 7) false) Code.ret) (Code.seq (Code.region 8 (reg Try.f14 8) false) (Code.cond (Operand.tmp 40) (Code.seq (Code.region 9 (reg Try.f14 9) false) (Code.cond (Operand.tmp 51) (Code.seq (Code.region 10 (reg Try.f14 10) false) Code.ret) Code.skip)) Code.skip)))))))) (Code.seq (Code.region 11 (reg Try.f14 11) false) Code.ret))))
theorem je.body : Try.f14.body = some je.code := by kernel_rfl
variable (x0 b x2 x3 x4 x5 x6 x7 x8 x9 d f g i k l m n o p q r s t u w x y z c A B C D E F G H I J K L M N P Q R U V W X Y Z a0 a1 a2 a3 a4 a5 a6 a7 a8 a9 b0 b1 b2 b3 b4 b5 b6 b7 b8 b9 c0 : Value) (S : zk)
theorem je.r0  : jE Try.prog ⟨false, false, false⟩ (jf Try.prog O) (reg Try.f14 0) (reg Try.f14 0).toList ([x0,b,x2,x3,x4,x5,x6,x7,x8,x9,d,f,g,i,k,l,m,n,o,p,q,r,s,t,u,w,x,y,z,c,A,B,C,D,E,F,G,H,I,J,K,L,M,N,P,Q,R,U,V,W,X,Y,Z,a0,a1,a2,a3,a4,a5,a6,a7,a8,a9,b0,b1,b2,b3,b4,b5,b6,b7,b8,b9,c0]) S =
  (zM (vV (dem x0) S) (fun v0 S1 => some ([x0,v0,Value.bool false,x3,x4,x5,x6,x7,x8,x9,d,f,g,i,k,l,m,n,o,p,q,r,s,t,u,w,x,y,z,c,A,B,C,D,E,F,G,H,I,J,K,L,M,N,P,Q,R,U,V,W,X,Y,Z,a0,a1,a2,a3,a4,a5,a6,a7,a8,a9,b0,b1,b2,b3,b4,b5,b6,b7,b8,b9,c0], S1)) ()) := by
 kernel_rfl
theorem je.d1 : vN Try.prog (reg Try.f14 1) = true := by kernel_rfl
theorem je.ff1 : fixed Try.prog (reg Try.f14 1) = false := by kernel_rfl
theorem je.k1 : checked Try.prog (reg Try.f14 1) = [19] := by kernel_rfl
theorem je.g1 : again Try.prog (reg Try.f14 1) = [(19, 21)] := by kernel_rfl
theorem je.r1  : zG Try.prog O false (.region 1 (reg Try.f14 1) true) ([x0,b,x2,x3,x4,x5,x6,x7,x8,x9,d,f,g,i,k,l,m,n,o,p,q,r,s,t,u,w,x,y,z,c,A,B,C,D,E,F,G,H,I,J,K,L,M,N,P,Q,R,U,V,W,X,Y,Z,a0,a1,a2,a3,a4,a5,a6,a7,a8,a9,b0,b1,b2,b3,b4,b5,b6,b7,b8,b9,c0]) S =
  XY (zM (zo Try.prog 30 b 0 S) (fun v0 S1 => zM (zV Try.prog false 3 v0 S1) (fun v1 S2 => zM (jS Try.prog BinOp.lss 3 v1 (Value.int IntKind.i64 0) S2) (fun v2 S3 => gdK (dem v2) false (zo Try.prog 30 b 0) S3 (fun v4 S4 => gdK (dem v2) false (zV Try.prog false 3 v4) S4 (fun v5 S5 => gdK (dem v2) false (jS Try.prog BinOp.gtr 3 v5 (Value.int IntKind.i64 6)) S5 (fun v6 S6 => zM (wH (dem v2) (Value.bool true) v6 S6) (fun v7 S7 => gdK (dem v7) false (zo Try.prog 30 b 1) S7 (fun v9 S8 => gdK (dem v7) false (zV Try.prog false 3 v9) S8 (fun c5 S9 => gdK (dem v7) false (jS Try.prog BinOp.lss 3 c5 (Value.int IntKind.i64 0)) S9 (fun c6 d4 => zM (wH (dem v7) (Value.bool true) c6 d4) (fun c2 d5 => gdK (dem c2) false (zo Try.prog 30 b 1) d5 (fun c3 d6 => gdK (dem c2) false (zV Try.prog false 3 c3) d6 (fun c7 d7 => gdK (dem c2) false (jS Try.prog BinOp.geq 3 c7 (Value.int IntKind.i64 7)) d7 (fun c8 d8 => zM (wH (dem c2) (Value.bool true) c8 d8) (fun c1 d2 => abf (dem c1) false (zV Try.prog false 30 b) d2 (fun c9 d9 => gdK (dem c1) false (zV Try.prog false 30 b) d9 (fun d0 f0 => gdK (dem c1) false ((jf Try.prog O) 37 [(dem d0)]) f0 (fun c4 d3 => gdK (dem c1) false ((jf Try.prog O) 15 [(dem c9), (dem c4)]) d3 (fun f1 f3 => gdK (dem c1) false (aUn Try.prog UnOp.not f1) f3 (fun f2 f4 => zM (wH (dem c1) (Value.bool true) f2 f4) (fun f5 f6 => ckK (kP b d2 d3 && (true)) (some ([x0,b,x2,v0,v1,v2,dem v2,v4,v5,v6,v7,dem v7,v9,c5,c6,c2,dem c2,c3,c7,c8,c1,dem c1,c9,d0,c4,f1,f2,f5,z,c,A,B,C,D,E,F,G,H,I,J,K,L,M,N,P,Q,R,U,V,W,X,Y,Z,a0,a1,a2,a3,a4,a5,a6,a7,a8,a9,b0,b1,b2,b3,b4,b5,b6,b7,b8,b9,c0], f6)) ()) ()) ()) ()) ()) ()) ()) ()) ()) ()) ()) ()) ()) ()) ()) ()) ()) ()) ()) ()) ()) ()) := by
 rw [kZ je.d1 je.ff1 je.k1 je.g1]
 refine congrArg XY ?_
 refine uD Try.f14 1 0 (pe := undef) (fun v0 S1 => ?_)
 refine uD Try.f14 1 1 (pe := v0) (fun v1 S2 => ?_)
 refine uD Try.f14 1 2 (pe := undef) (fun v2 S3 => ?_)
 refine uP Try.f14 1 3 (v := v2) (pe := undef) ?_
 refine uG Try.f14 1 4 (j := 3) (pe := undef) (fun v4 S4 => ?_)
 refine uG Try.f14 1 5 (j := 3) (pe := v4) (fun v5 S5 => ?_)
 refine uG Try.f14 1 6 (j := 3) (pe := undef) (fun v6 S6 => ?_)
 refine uD Try.f14 1 7 (pe := undef) (fun v7 S7 => ?_)
 refine uP Try.f14 1 8 (v := v7) (pe := undef) ?_
 refine uG Try.f14 1 9 (j := 8) (pe := undef) (fun v9 S8 => ?_)
 refine uG Try.f14 1 10 (j := 8) (pe := v9) (fun c5 S9 => ?_)
 refine uG Try.f14 1 11 (j := 8) (pe := undef) (fun c6 d4 => ?_)
 refine uD Try.f14 1 12 (pe := undef) (fun c2 d5 => ?_)
 refine uP Try.f14 1 13 (v := c2) (pe := undef) ?_
 refine uG Try.f14 1 14 (j := 13) (pe := undef) (fun c3 d6 => ?_)
 refine uG Try.f14 1 15 (j := 13) (pe := c3) (fun c7 d7 => ?_)
 refine uG Try.f14 1 16 (j := 13) (pe := undef) (fun c8 d8 => ?_)
 refine uD Try.f14 1 17 (pe := undef) (fun c1 d2 => ?_)
 refine uP Try.f14 1 18 (v := c1) (pe := undef) ?_
 refine uGC Try.f14 1 19 (j := 18) (pe := b) (fun c9 d9 => ?_)
 refine uG Try.f14 1 20 (j := 18) (pe := b) (fun d0 f0 => ?_)
 refine uG Try.f14 1 21 (j := 18) (pe := undef) (fun c4 d3 => ?_)
 refine uG Try.f14 1 22 (j := 18) (pe := undef) (fun f1 f3 => ?_)
 refine uG Try.f14 1 23 (j := 18) (pe := undef) (fun f2 f4 => ?_)
 refine uD Try.f14 1 24 (pe := undef) (fun f5 f6 => ?_)
 kernel_rfl
theorem je.r2  : jE Try.prog ⟨false, false, false⟩ (jf Try.prog O) (reg Try.f14 2) (reg Try.f14 2).toList ([x0,b,x2,x3,x4,x5,x6,x7,x8,x9,d,f,g,i,k,l,m,n,o,p,q,r,s,t,u,w,x,y,z,c,A,B,C,D,E,F,G,H,I,J,K,L,M,N,P,Q,R,U,V,W,X,Y,Z,a0,a1,a2,a3,a4,a5,a6,a7,a8,a9,b0,b1,b2,b3,b4,b5,b6,b7,b8,b9,c0]) S =
  ( some ([x0,b,Value.bool false,x3,x4,x5,x6,x7,x8,x9,d,f,g,i,k,l,m,n,o,p,q,r,s,t,u,w,x,y,z,c,A,B,C,D,E,F,G,H,I,J,K,L,M,N,P,Q,R,U,V,W,X,Y,Z,a0,a1,a2,a3,a4,a5,a6,a7,a8,a9,b0,b1,b2,b3,b4,b5,b6,b7,b8,b9,c0], S)) := by
 kernel_rfl
theorem je.r3  : jE Try.prog ⟨false, false, false⟩ (jf Try.prog O) (reg Try.f14 3) (reg Try.f14 3).toList ([x0,b,x2,x3,x4,x5,x6,x7,x8,x9,d,f,g,i,k,l,m,n,o,p,q,r,s,t,u,w,x,y,z,c,A,B,C,D,E,F,G,H,I,J,K,L,M,N,P,Q,R,U,V,W,X,Y,Z,a0,a1,a2,a3,a4,a5,a6,a7,a8,a9,b0,b1,b2,b3,b4,b5,b6,b7,b8,b9,c0]) S =
  (zM (zo Try.prog 30 b 0 S) (fun v0 S1 => zM (zV Try.prog false 3 v0 S1) (fun v1 S2 => some ([x0,b,x2,x3,x4,x5,x6,x7,x8,x9,d,f,g,i,k,l,m,n,o,p,q,r,s,t,u,w,x,y,v0,v1,A,B,C,D,E,F,G,H,I,J,K,L,M,N,P,Q,R,U,V,W,X,Y,Z,a0,a1,a2,a3,a4,a5,a6,a7,a8,a9,b0,b1,b2,b3,b4,b5,b6,b7,b8,b9,c0], S2)) ()) ()) := by
 kernel_rfl
theorem je.r4  : jE Try.prog ⟨false, false, false⟩ (jf Try.prog O) (reg Try.f14 4) (reg Try.f14 4).toList ([x0,b,x2,x3,x4,x5,x6,x7,x8,x9,d,f,g,i,k,l,m,n,o,p,q,r,s,t,u,w,x,y,z,c,A,B,C,D,E,F,G,H,I,J,K,L,M,N,P,Q,R,U,V,W,X,Y,Z,a0,a1,a2,a3,a4,a5,a6,a7,a8,a9,b0,b1,b2,b3,b4,b5,b6,b7,b8,b9,c0]) S =
  (zM (jS Try.prog BinOp.eql 3 c (Value.int IntKind.i64 0) S) (fun v0 S1 => some ([x0,b,x2,x3,x4,x5,x6,x7,x8,x9,d,f,g,i,k,l,m,n,o,p,q,r,s,t,u,w,x,y,z,c,v0,dem v0,C,D,E,F,G,H,I,J,K,L,M,N,P,Q,R,U,V,W,X,Y,Z,a0,a1,a2,a3,a4,a5,a6,a7,a8,a9,b0,b1,b2,b3,b4,b5,b6,b7,b8,b9,c0], S1)) ()) := by
 kernel_rfl
theorem je.r5  : jE Try.prog ⟨false, false, false⟩ (jf Try.prog O) (reg Try.f14 5) (reg Try.f14 5).toList ([x0,b,x2,x3,x4,x5,x6,x7,x8,x9,d,f,g,i,k,l,m,n,o,p,q,r,s,t,u,w,x,y,z,c,A,B,C,D,E,F,G,H,I,J,K,L,M,N,P,Q,R,U,V,W,X,Y,Z,a0,a1,a2,a3,a4,a5,a6,a7,a8,a9,b0,b1,b2,b3,b4,b5,b6,b7,b8,b9,c0]) S =
  (zM (zo Try.prog 30 b 6 S) (fun v0 S1 => zM (zV Try.prog false 25 v0 S1) (fun v1 S2 => zM ((jf Try.prog O) 38 [(dem v1)] S2) (fun v2 S3 => some ([x0,b,v2,x3,x4,x5,x6,x7,x8,x9,d,f,g,i,k,l,m,n,o,p,q,r,s,t,u,w,x,y,z,c,A,B,v0,v1,dem v2,F,G,H,I,J,K,L,M,N,P,Q,R,U,V,W,X,Y,Z,a0,a1,a2,a3,a4,a5,a6,a7,a8,a9,b0,b1,b2,b3,b4,b5,b6,b7,b8,b9,c0], S3)) ()) ()) ()) := by
 kernel_rfl
theorem je.r6  : jE Try.prog ⟨false, false, false⟩ (jf Try.prog O) (reg Try.f14 6) (reg Try.f14 6).toList ([x0,b,x2,x3,x4,x5,x6,x7,x8,x9,d,f,g,i,k,l,m,n,o,p,q,r,s,t,u,w,x,y,z,c,A,B,C,D,E,F,G,H,I,J,K,L,M,N,P,Q,R,U,V,W,X,Y,Z,a0,a1,a2,a3,a4,a5,a6,a7,a8,a9,b0,b1,b2,b3,b4,b5,b6,b7,b8,b9,c0]) S =
  (zM (jS Try.prog BinOp.eql 3 c (Value.int IntKind.i64 1) S) (fun v0 S1 => some ([x0,b,x2,x3,x4,x5,x6,x7,x8,x9,d,f,g,i,k,l,m,n,o,p,q,r,s,t,u,w,x,y,z,c,A,B,C,D,E,v0,dem v0,H,I,J,K,L,M,N,P,Q,R,U,V,W,X,Y,Z,a0,a1,a2,a3,a4,a5,a6,a7,a8,a9,b0,b1,b2,b3,b4,b5,b6,b7,b8,b9,c0], S1)) ()) := by
 kernel_rfl
theorem je.r7  : jE Try.prog ⟨false, false, false⟩ (jf Try.prog O) (reg Try.f14 7) (reg Try.f14 7).toList ([x0,b,x2,x3,x4,x5,x6,x7,x8,x9,d,f,g,i,k,l,m,n,o,p,q,r,s,t,u,w,x,y,z,c,A,B,C,D,E,F,G,H,I,J,K,L,M,N,P,Q,R,U,V,W,X,Y,Z,a0,a1,a2,a3,a4,a5,a6,a7,a8,a9,b0,b1,b2,b3,b4,b5,b6,b7,b8,b9,c0]) S =
  (zM (zo Try.prog 30 b 7 S) (fun v0 S1 => zM (zV Try.prog false 28 v0 S1) (fun v1 S2 => zM ((jf Try.prog O) 39 [(dem v1)] S2) (fun v2 S3 => some ([x0,b,v2,x3,x4,x5,x6,x7,x8,x9,d,f,g,i,k,l,m,n,o,p,q,r,s,t,u,w,x,y,z,c,A,B,C,D,E,F,G,v0,v1,dem v2,K,L,M,N,P,Q,R,U,V,W,X,Y,Z,a0,a1,a2,a3,a4,a5,a6,a7,a8,a9,b0,b1,b2,b3,b4,b5,b6,b7,b8,b9,c0], S3)) ()) ()) ()) := by
 kernel_rfl
theorem je.r8  : jE Try.prog ⟨false, false, false⟩ (jf Try.prog O) (reg Try.f14 8) (reg Try.f14 8).toList ([x0,b,x2,x3,x4,x5,x6,x7,x8,x9,d,f,g,i,k,l,m,n,o,p,q,r,s,t,u,w,x,y,z,c,A,B,C,D,E,F,G,H,I,J,K,L,M,N,P,Q,R,U,V,W,X,Y,Z,a0,a1,a2,a3,a4,a5,a6,a7,a8,a9,b0,b1,b2,b3,b4,b5,b6,b7,b8,b9,c0]) S =
  (zM (jS Try.prog BinOp.eql 3 c (Value.int IntKind.i64 3) S) (fun v0 S1 => some ([x0,b,x2,x3,x4,x5,x6,x7,x8,x9,d,f,g,i,k,l,m,n,o,p,q,r,s,t,u,w,x,y,z,c,A,B,C,D,E,F,G,H,I,J,v0,dem v0,M,N,P,Q,R,U,V,W,X,Y,Z,a0,a1,a2,a3,a4,a5,a6,a7,a8,a9,b0,b1,b2,b3,b4,b5,b6,b7,b8,b9,c0], S1)) ()) := by
 kernel_rfl
theorem je.r9  : jE Try.prog ⟨false, false, false⟩ (jf Try.prog O) (reg Try.f14 9) (reg Try.f14 9).toList ([x0,b,x2,x3,x4,x5,x6,x7,x8,x9,d,f,g,i,k,l,m,n,o,p,q,r,s,t,u,w,x,y,z,c,A,B,C,D,E,F,G,H,I,J,K,L,M,N,P,Q,R,U,V,W,X,Y,Z,a0,a1,a2,a3,a4,a5,a6,a7,a8,a9,b0,b1,b2,b3,b4,b5,b6,b7,b8,b9,c0]) S =
  (zM (zo Try.prog 30 b 5 S) (fun v0 S1 => zM (zV Try.prog false 3 v0 S1) (fun v1 S2 => zM (jS Try.prog BinOp.lss 3 v1 (Value.int IntKind.i64 (-1)) S2) (fun v2 S3 => gdK (dem v2) false (zo Try.prog 30 b 5) S3 (fun v4 S4 => gdK (dem v2) false (zV Try.prog false 3 v4) S4 (fun v5 S5 => gdK (dem v2) false (zo Try.prog 30 b 3) S5 (fun v6 S6 => gdK (dem v2) false (zV Try.prog false 3 v6) S6 (fun v7 S7 => gdK (dem v2) false (jS Try.prog BinOp.geq 3 v5 v7) S7 (fun v8 S8 => zM (wH (dem v2) (Value.bool true) v8 S8) (fun v9 S9 => some ([x0,b,x2,x3,x4,x5,x6,x7,x8,x9,d,f,g,i,k,l,m,n,o,p,q,r,s,t,u,w,x,y,z,c,A,B,C,D,E,F,G,H,I,J,K,L,v0,v1,v2,dem v2,v4,v5,v6,v7,v8,v9,Z,a0,a1,a2,a3,a4,a5,a6,a7,a8,a9,b0,b1,b2,b3,b4,b5,b6,b7,b8,b9,c0], S9)) ()) ()) ()) ()) ()) ()) ()) ()) ()) := by
 refine sD Try.f14 9 0 (fun v0 S1 => ?_)
 refine sD Try.f14 9 1 (fun v1 S2 => ?_)
 refine sD Try.f14 9 2 (fun v2 S3 => ?_)
 refine sP Try.f14 9 3 (v := v2) ?_
 refine sG Try.f14 9 4 (j := 3) (fun v4 S4 => ?_)
 refine sG Try.f14 9 5 (j := 3) (fun v5 S5 => ?_)
 refine sG Try.f14 9 6 (j := 3) (fun v6 S6 => ?_)
 refine sG Try.f14 9 7 (j := 3) (fun v7 S7 => ?_)
 refine sG Try.f14 9 8 (j := 3) (fun v8 S8 => ?_)
 refine sD Try.f14 9 9 (fun v9 S9 => ?_)
 kernel_rfl
theorem je.r10  : jE Try.prog ⟨false, false, false⟩ (jf Try.prog O) (reg Try.f14 10) (reg Try.f14 10).toList ([x0,b,x2,x3,x4,x5,x6,x7,x8,x9,d,f,g,i,k,l,m,n,o,p,q,r,s,t,u,w,x,y,z,c,A,B,C,D,E,F,G,H,I,J,K,L,M,N,P,Q,R,U,V,W,X,Y,Z,a0,a1,a2,a3,a4,a5,a6,a7,a8,a9,b0,b1,b2,b3,b4,b5,b6,b7,b8,b9,c0]) S =
  ( some ([x0,b,Value.bool false,x3,x4,x5,x6,x7,x8,x9,d,f,g,i,k,l,m,n,o,p,q,r,s,t,u,w,x,y,z,c,A,B,C,D,E,F,G,H,I,J,K,L,M,N,P,Q,R,U,V,W,X,Y,Z,a0,a1,a2,a3,a4,a5,a6,a7,a8,a9,b0,b1,b2,b3,b4,b5,b6,b7,b8,b9,c0], S)) := by
 kernel_rfl
theorem je.r11  : jE Try.prog ⟨false, false, false⟩ (jf Try.prog O) (reg Try.f14 11) (reg Try.f14 11).toList ([x0,b,x2,x3,x4,x5,x6,x7,x8,x9,d,f,g,i,k,l,m,n,o,p,q,r,s,t,u,w,x,y,z,c,A,B,C,D,E,F,G,H,I,J,K,L,M,N,P,Q,R,U,V,W,X,Y,Z,a0,a1,a2,a3,a4,a5,a6,a7,a8,a9,b0,b1,b2,b3,b4,b5,b6,b7,b8,b9,c0]) S =
  (zM (zo Try.prog 30 b 2 S) (fun v0 S1 => zM (zV Try.prog false 3 v0 S1) (fun v1 S2 => zM (jS Try.prog BinOp.geq 3 v1 (Value.int IntKind.i64 0) S2) (fun v2 S3 => gdK (dem v2) true (zo Try.prog 30 b 2) S3 (fun v4 S4 => gdK (dem v2) true (zV Try.prog false 3 v4) S4 (fun v5 S5 => gdK (dem v2) true (jS Try.prog BinOp.leq 3 v5 (Value.int IntKind.i64 1000)) S5 (fun v6 S6 => zM (wH (dem v2) v6 (Value.bool false) S6) (fun v7 S7 => gdK (dem v7) true (zo Try.prog 30 b 3) S7 (fun v9 S8 => gdK (dem v7) true (zV Try.prog false 3 v9) S8 (fun c5 S9 => gdK (dem v7) true (jS Try.prog BinOp.geq 3 c5 (Value.int IntKind.i64 0)) S9 (fun c6 d4 => zM (wH (dem v7) c6 (Value.bool false) d4) (fun c2 d5 => gdK (dem c2) true (zo Try.prog 30 b 3) d5 (fun c3 d6 => gdK (dem c2) true (zV Try.prog false 3 c3) d6 (fun c7 d7 => gdK (dem c2) true (jS Try.prog BinOp.leq 3 c7 (Value.int IntKind.i64 1000)) d7 (fun c8 d8 => zM (wH (dem c2) c8 (Value.bool false) d8) (fun c1 d2 => gdK (dem c1) true (zV Try.prog false 30 b) d2 (fun c9 d9 => gdK (dem c1) true ((jf Try.prog O) 40 [(dem c9)]) d9 (fun d0 f0 => zM (wH (dem c1) d0 (Value.bool false) f0) (fun c4 d3 => some ([x0,b,c4,x3,x4,x5,x6,x7,x8,x9,d,f,g,i,k,l,m,n,o,p,q,r,s,t,u,w,x,y,z,c,A,B,C,D,E,F,G,H,I,J,K,L,M,N,P,Q,R,U,V,W,X,Y,v0,v1,v2,dem v2,v4,v5,v6,v7,dem v7,v9,c5,c6,c2,dem c2,c3,c7,c8,c1,dem c1,c9,d0,dem c4], d3)) ()) ()) ()) ()) ()) ()) ()) ()) ()) ()) ()) ()) ()) ()) ()) ()) ()) ()) := by
 refine sD Try.f14 11 0 (fun v0 S1 => ?_)
 refine sD Try.f14 11 1 (fun v1 S2 => ?_)
 refine sD Try.f14 11 2 (fun v2 S3 => ?_)
 refine sP Try.f14 11 3 (v := v2) ?_
 refine sG Try.f14 11 4 (j := 3) (fun v4 S4 => ?_)
 refine sG Try.f14 11 5 (j := 3) (fun v5 S5 => ?_)
 refine sG Try.f14 11 6 (j := 3) (fun v6 S6 => ?_)
 refine sD Try.f14 11 7 (fun v7 S7 => ?_)
 refine sP Try.f14 11 8 (v := v7) ?_
 refine sG Try.f14 11 9 (j := 8) (fun v9 S8 => ?_)
 refine sG Try.f14 11 10 (j := 8) (fun c5 S9 => ?_)
 refine sG Try.f14 11 11 (j := 8) (fun c6 d4 => ?_)
 refine sD Try.f14 11 12 (fun c2 d5 => ?_)
 refine sP Try.f14 11 13 (v := c2) ?_
 refine sG Try.f14 11 14 (j := 13) (fun c3 d6 => ?_)
 refine sG Try.f14 11 15 (j := 13) (fun c7 d7 => ?_)
 refine sG Try.f14 11 16 (j := 13) (fun c8 d8 => ?_)
 refine sD Try.f14 11 17 (fun c1 d2 => ?_)
 refine sP Try.f14 11 18 (v := c1) ?_
 refine sG Try.f14 11 19 (j := 18) (fun c9 d9 => ?_)
 refine sG Try.f14 11 20 (j := 18) (fun d0 f0 => ?_)
 refine sD Try.f14 11 21 (fun c4 d3 => ?_)
 refine sP Try.f14 11 22 (v := c4) ?_
 kernel_rfl
theorem je.rs : type_of% (And.intro @je.r0 (And.intro @je.r1 (And.intro @je.r2 (And.intro @je.r3 (And.intro @je.r4 (And.intro @je.r5 (And.intro @je.r6 (And.intro @je.r7 (And.intro @je.r8 (And.intro @je.r9 (And.intro @je.r10 (@je.r11)))))))))))) := And.intro @je.r0 (And.intro @je.r1 (And.intro @je.r2 (And.intro @je.r3 (And.intro @je.r4 (And.intro @je.r5 (And.intro @je.r6 (And.intro @je.r7 (And.intro @je.r8 (And.intro @je.r9 (And.intro @je.r10 (@je.r11)))))))))))
theorem je.runs {x0 : Value} {S S1 : zk} {e : AEx} {T : List Value} (h : zG Try.prog O false je.code ([x0,undef,undef,undef,undef,undef,undef,undef,undef,undef,undef,undef,undef,undef,undef,undef,undef,undef,undef,undef,undef,undef,undef,undef,undef,undef,undef,undef,undef,undef,undef,undef,undef,undef,undef,undef,undef,undef,undef,undef,undef,undef,undef,undef,undef,undef,undef,undef,undef,undef,undef,undef,undef,undef,undef,undef,undef,undef,undef,undef,undef,undef,undef,undef,undef,undef,undef,undef,undef,undef,undef,undef,undef,undef]) zk.empty = some (e, T, S1)) (he : e = .normal ∨ e = .ret) (hca : [x0].all (jB 16) = true) (hcv : jB 16 (T.getD 2 undef) = true) : jf Try.prog O 14 [x0] S = some (T.getD 2 undef, S) :=
 yc rfl rfl Try.func14 (by decide) je.body (by exact h) he (yg (a := T.getD 2 undef) ((show zO Try.prog T S1 Try.f14.results.toList = zO Try.prog T S1 [(ResultVar.tmp 2)] from by kernel_rfl).trans (by simp only [zO])) (by kernel_rfl)) hca hcv
end Go.Proofs.Ytbgcphbbchndkaa
namespace Go.Proofs.Ytbgcphbbchndkaa
open Go.Abs
abbrev zh.id : FuncId := 19
noncomputable def zh.code : Code := (Code.seq (Code.region 0 (reg Try.f19 0) false) (Code.seq (Code.seq (Code.region 1 (reg Try.f19 1) false) (Code.cond (Operand.tmp 12) (Code.seq (Code.region 2 (reg Try.f19 2) false) Code.ret) Code.skip)) (Code.seq (Code.seq (Code.region 3 (reg Try.f19 3) false) (Code.cond (Operand.tmp 42) (Code.seq (Code.region 4 (reg Try.f19 4) false) Code.ret) Code.skip)) (Code.seq (Code.region 5 (reg Try.f19 5) false) (Code.seq (Code.region 6 (reg Try.f19 6) false) (Code.seq (Code.seq (Code.region 7 (reg Try.f19 7) false) (Code.block 0 (Code.seq (Code.region 8 (reg Try.f19 8) false) (Code.cond (Operand.tmp 61) (Code.seq (Code.region 9 (reg Try.f19 9) false) Code.ret) (Code.seq (Code.region 10 (reg Try.f19 10) false) (Code.cond (Operand.tmp 81) (Code.seq (Code.region 11 (reg Try.f19 11) false) Code.ret) (Code.seq (Code.region 12 (reg Try.f19 12) false) (Code.cond (Operand.tmp 101) (Code.seq (Code.region 13 (reg Try.f19 13) false) Code.ret) (Code.seq (Code.region 14 (reg Try.f19 14) false) (Code.cond (Operand.tmp 116) (Code.seq (Code.region 15 (reg Try.f19 15) false) Code.ret) (Code.seq (Code.seq (Code.region 16 (reg Try.f19 16) false) (Code.cond (Operand.tmp 139) Code.skip (Code.region 17 (reg Try.f19 17) false))) (Code.cond (Operand.tmp 139) (Code.seq (Code.region 18 (reg Try.f19 18) false) Code.ret) (Code.seq (Code.region 19 (reg Try.f19 19) false) (Code.cond (Operand.tmp 156) (Code.seq (Code.region 20 (reg Try.f19 20) false) Code.ret) Code.skip)))))))))))))) (Code.seq (Code.region 21 (reg Try.f19 21) false) Code.ret)))))))
theorem zh.body : Try.f19.body = some zh.code := by kernel_rfl
variable (x0 x1 x2 x3 x4 x5 x6 x7 x8 x9 c6 c7 c8 c9 d0 d1 d2 d3 d4 d5 d6 d7 d8 d9 f0 f1 f2 f3 f4 f5 f6 f7 f8 f9 g0 g1 g2 g3 g4 g5 g6 g7 g8 g9 i0 i1 i2 i3 i4 i5 i6 i7 i8 i9 j0 j1 j2 j3 j4 j5 c5 j6 j7 j8 j9 k0 k1 k2 k3 k4 k5 k6 k7 k8 k9 l0 l1 l2 l3 l4 l5 l6 l7 l8 l9 m0 m1 m2 m3 m4 m5 m6 m7 m8 m9 n0 n1 n2 n3 n4 b c d f g i k l m n o p q r s t u w x y z A B C D E F G H I J K L M N P Q R U c4 V W X Y Z a0 a1 a2 a3 a4 a5 a6 a7 a8 a9 b0 b1 b2 b3 b4 b5 b6 b7 b8 b9 c0 c1 c2 c3 : Value) (S : zk)
theorem zh.r0  : jE Try.prog ⟨false, false, false⟩ (jf Try.prog O) (reg Try.f19 0) (reg Try.f19 0).toList ([x0,x1,x2,x3,x4,x5,x6,x7,x8,x9,c6,c7,c8,c9,d0,d1,d2,d3,d4,d5,d6,d7,d8,d9,f0,f1,f2,f3,f4,f5,f6,f7,f8,f9,g0,g1,g2,g3,g4,g5,g6,g7,g8,g9,i0,i1,i2,i3,i4,i5,i6,i7,i8,i9,j0,j1,j2,j3,j4,j5,c5,j6,j7,j8,j9,k0,k1,k2,k3,k4,k5,k6,k7,k8,k9,l0,l1,l2,l3,l4,l5,l6,l7,l8,l9,m0,m1,m2,m3,m4,m5,m6,m7,m8,m9,n0,n1,n2,n3,n4,b,c,d,f,g,i,k,l,m,n,o,p,q,r,s,t,u,w,x,y,z,A,B,C,D,E,F,G,H,I,J,K,L,M,N,P,Q,R,U,c4,V,W,X,Y,Z,a0,a1,a2,a3,a4,a5,a6,a7,a8,a9,b0,b1,b2,b3,b4,b5,b6,b7,b8,b9,c0,c1,c2,c3]) S =
  (zM (vV (dem x0) S) (fun v0 S1 => some ([x0,v0,Value.bool false,x3,x4,x5,x6,x7,x8,x9,c6,c7,c8,c9,d0,d1,d2,d3,d4,d5,d6,d7,d8,d9,f0,f1,f2,f3,f4,f5,f6,f7,f8,f9,g0,g1,g2,g3,g4,g5,g6,g7,g8,g9,i0,i1,i2,i3,i4,i5,i6,i7,i8,i9,j0,j1,j2,j3,j4,j5,c5,j6,j7,j8,j9,k0,k1,k2,k3,k4,k5,k6,k7,k8,k9,l0,l1,l2,l3,l4,l5,l6,l7,l8,l9,m0,m1,m2,m3,m4,m5,m6,m7,m8,m9,n0,n1,n2,n3,n4,b,c,d,f,g,i,k,l,m,n,o,p,q,r,s,t,u,w,x,y,z,A,B,C,D,E,F,G,H,I,J,K,L,M,N,P,Q,R,U,c4,V,W,X,Y,Z,a0,a1,a2,a3,a4,a5,a6,a7,a8,a9,b0,b1,b2,b3,b4,b5,b6,b7,b8,b9,c0,c1,c2,c3], S1)) ()) := by
 kernel_rfl
theorem zh.r1  : jE Try.prog ⟨false, false, false⟩ (jf Try.prog O) (reg Try.f19 1) (reg Try.f19 1).toList ([x0,x1,x2,x3,x4,x5,x6,x7,x8,x9,c6,c7,c8,c9,d0,d1,d2,d3,d4,d5,d6,d7,d8,d9,f0,f1,f2,f3,f4,f5,f6,f7,f8,f9,g0,g1,g2,g3,g4,g5,g6,g7,g8,g9,i0,i1,i2,i3,i4,i5,i6,i7,i8,i9,j0,j1,j2,j3,j4,j5,c5,j6,j7,j8,j9,k0,k1,k2,k3,k4,k5,k6,k7,k8,k9,l0,l1,l2,l3,l4,l5,l6,l7,l8,l9,m0,m1,m2,m3,m4,m5,m6,m7,m8,m9,n0,n1,n2,n3,n4,b,c,d,f,g,i,k,l,m,n,o,p,q,r,s,t,u,w,x,y,z,A,B,C,D,E,F,G,H,I,J,K,L,M,N,P,Q,R,U,c4,V,W,X,Y,Z,a0,a1,a2,a3,a4,a5,a6,a7,a8,a9,b0,b1,b2,b3,b4,b5,b6,b7,b8,b9,c0,c1,c2,c3]) S =
  (zM (zo Try.prog 30 x1 1 S) (fun v0 S1 => zM (zV Try.prog false 3 v0 S1) (fun v1 S2 => zM (jS Try.prog BinOp.lss 3 v1 (Value.int IntKind.i64 0) S2) (fun v2 S3 => gdK (dem v2) false (zo Try.prog 30 x1 1) S3 (fun v4 S4 => gdK (dem v2) false (zV Try.prog false 3 v4) S4 (fun v5 S5 => gdK (dem v2) false (jS Try.prog BinOp.gtr 3 v5 (Value.int IntKind.i64 6)) S5 (fun v6 S6 => zM (wH (dem v2) (Value.bool true) v6 S6) (fun v7 S7 => some ([x0,x1,x2,x3,x4,v0,v1,v2,dem v2,v4,v5,v6,v7,c9,d0,d1,d2,d3,d4,d5,d6,d7,d8,d9,f0,f1,f2,f3,f4,f5,f6,f7,f8,f9,g0,g1,g2,g3,g4,g5,g6,g7,g8,g9,i0,i1,i2,i3,i4,i5,i6,i7,i8,i9,j0,j1,j2,j3,j4,j5,c5,j6,j7,j8,j9,k0,k1,k2,k3,k4,k5,k6,k7,k8,k9,l0,l1,l2,l3,l4,l5,l6,l7,l8,l9,m0,m1,m2,m3,m4,m5,m6,m7,m8,m9,n0,n1,n2,n3,n4,b,c,d,f,g,i,k,l,m,n,o,p,q,r,s,t,u,w,x,y,z,A,B,C,D,E,F,G,H,I,J,K,L,M,N,P,Q,R,U,c4,V,W,X,Y,Z,a0,a1,a2,a3,a4,a5,a6,a7,a8,a9,b0,b1,b2,b3,b4,b5,b6,b7,b8,b9,c0,c1,c2,c3], S7)) ()) ()) ()) ()) ()) ()) ()) := by
 refine sD Try.f19 1 0 (fun v0 S1 => ?_)
 refine sD Try.f19 1 1 (fun v1 S2 => ?_)
 refine sD Try.f19 1 2 (fun v2 S3 => ?_)
 refine sP Try.f19 1 3 (v := v2) ?_
 refine sG Try.f19 1 4 (j := 3) (fun v4 S4 => ?_)
 refine sG Try.f19 1 5 (j := 3) (fun v5 S5 => ?_)
 refine sG Try.f19 1 6 (j := 3) (fun v6 S6 => ?_)
 refine sD Try.f19 1 7 (fun v7 S7 => ?_)
 kernel_rfl
theorem zh.r2  : jE Try.prog ⟨false, false, false⟩ (jf Try.prog O) (reg Try.f19 2) (reg Try.f19 2).toList ([x0,x1,x2,x3,x4,x5,x6,x7,x8,x9,c6,c7,c8,c9,d0,d1,d2,d3,d4,d5,d6,d7,d8,d9,f0,f1,f2,f3,f4,f5,f6,f7,f8,f9,g0,g1,g2,g3,g4,g5,g6,g7,g8,g9,i0,i1,i2,i3,i4,i5,i6,i7,i8,i9,j0,j1,j2,j3,j4,j5,c5,j6,j7,j8,j9,k0,k1,k2,k3,k4,k5,k6,k7,k8,k9,l0,l1,l2,l3,l4,l5,l6,l7,l8,l9,m0,m1,m2,m3,m4,m5,m6,m7,m8,m9,n0,n1,n2,n3,n4,b,c,d,f,g,i,k,l,m,n,o,p,q,r,s,t,u,w,x,y,z,A,B,C,D,E,F,G,H,I,J,K,L,M,N,P,Q,R,U,c4,V,W,X,Y,Z,a0,a1,a2,a3,a4,a5,a6,a7,a8,a9,b0,b1,b2,b3,b4,b5,b6,b7,b8,b9,c0,c1,c2,c3]) S =
  ( some ([x0,x1,Value.bool false,x3,x4,x5,x6,x7,x8,x9,c6,c7,c8,c9,d0,d1,d2,d3,d4,d5,d6,d7,d8,d9,f0,f1,f2,f3,f4,f5,f6,f7,f8,f9,g0,g1,g2,g3,g4,g5,g6,g7,g8,g9,i0,i1,i2,i3,i4,i5,i6,i7,i8,i9,j0,j1,j2,j3,j4,j5,c5,j6,j7,j8,j9,k0,k1,k2,k3,k4,k5,k6,k7,k8,k9,l0,l1,l2,l3,l4,l5,l6,l7,l8,l9,m0,m1,m2,m3,m4,m5,m6,m7,m8,m9,n0,n1,n2,n3,n4,b,c,d,f,g,i,k,l,m,n,o,p,q,r,s,t,u,w,x,y,z,A,B,C,D,E,F,G,H,I,J,K,L,M,N,P,Q,R,U,c4,V,W,X,Y,Z,a0,a1,a2,a3,a4,a5,a6,a7,a8,a9,b0,b1,b2,b3,b4,b5,b6,b7,b8,b9,c0,c1,c2,c3], S)) := by
 kernel_rfl
theorem zh.r3  : jE Try.prog ⟨false, false, false⟩ (jf Try.prog O) (reg Try.f19 3) (reg Try.f19 3).toList ([x0,x1,x2,x3,x4,x5,x6,x7,x8,x9,c6,c7,c8,c9,d0,d1,d2,d3,d4,d5,d6,d7,d8,d9,f0,f1,f2,f3,f4,f5,f6,f7,f8,f9,g0,g1,g2,g3,g4,g5,g6,g7,g8,g9,i0,i1,i2,i3,i4,i5,i6,i7,i8,i9,j0,j1,j2,j3,j4,j5,c5,j6,j7,j8,j9,k0,k1,k2,k3,k4,k5,k6,k7,k8,k9,l0,l1,l2,l3,l4,l5,l6,l7,l8,l9,m0,m1,m2,m3,m4,m5,m6,m7,m8,m9,n0,n1,n2,n3,n4,b,c,d,f,g,i,k,l,m,n,o,p,q,r,s,t,u,w,x,y,z,A,B,C,D,E,F,G,H,I,J,K,L,M,N,P,Q,R,U,c4,V,W,X,Y,Z,a0,a1,a2,a3,a4,a5,a6,a7,a8,a9,b0,b1,b2,b3,b4,b5,b6,b7,b8,b9,c0,c1,c2,c3]) S =
  (zM (zo Try.prog 30 x1 0 S) (fun v0 S1 => zM (zV Try.prog false 3 v0 S1) (fun v1 S2 => zM (jS Try.prog BinOp.neq 3 v1 (Value.int IntKind.i64 0) S2) (fun v2 S3 => gdK (dem v2) true (zo Try.prog 30 x1 6) S3 (fun v4 S4 => gdK (dem v2) true (zV Try.prog false 25 v4) S4 (fun v5 S5 => gdK (dem v2) true (kS Try.prog 25 []) S5 (fun v6 S6 => gdK (dem v2) true (jS Try.prog BinOp.neq 25 v5 v6) S6 (fun v7 S7 => zM (wH (dem v2) v7 (Value.bool false) S7) (fun v8 S8 => gdK (dem v8) false (zo Try.prog 30 x1 0) S8 (fun n6 S9 => gdK (dem v8) false (zV Try.prog false 3 n6) S9 (fun n7 n9 => gdK (dem v8) false (jS Try.prog BinOp.neq 3 n7 (Value.int IntKind.i64 1)) n9 (fun n5 o0 => gdK (dem v8) false (ret n5) o0 (fun n8 o5 => gdK (dem n8) true (zo Try.prog 30 x1 7) o5 (fun o6 o7 => gdK (dem n8) true (zV Try.prog false 28 o6) o7 (fun o2 o8 => gdK (dem n8) true ((jf Try.prog O) 45 [(dem o2)]) o8 (fun o3 o9 => gdK (dem n8) true (aUn Try.prog UnOp.not o3) o9 (fun o1 p2 => gdK (dem v8) false (wH (dem n8) o1 (Value.bool false)) p2 (fun p0 q1 => zM (wH (dem v8) (Value.bool true) p0 q1) (fun o4 q2 => gdK (dem o4) false (zo Try.prog 30 x1 0) q2 (fun p4 q3 => gdK (dem o4) false (zV Try.prog false 3 p4) q3 (fun p5 q4 => gdK (dem o4) false (jS Try.prog BinOp.neq 3 p5 (Value.int IntKind.i64 3)) q4 (fun p6 q5 => gdK (dem o4) false (ret p6) q5 (fun p1 q6 => gdK (dem p1) true (zo Try.prog 30 x1 5) q6 (fun p7 q7 => gdK (dem p1) true (zV Try.prog false 3 p7) q7 (fun p8 q8 => gdK (dem p1) true (jS Try.prog BinOp.neq 3 p8 (Value.int IntKind.i64 0)) q8 (fun p9 q9 => gdK (dem o4) false (wH (dem p1) p9 (Value.bool false)) q9 (fun q0 s0 => zM (wH (dem o4) (Value.bool true) q0 s0) (fun s1 s2 => some ([x0,x1,x2,x3,x4,x5,x6,x7,x8,x9,c6,c7,c8,v0,v1,v2,dem v2,v4,v5,v6,v7,v8,dem v8,n6,n7,n5,dem n8,o6,o2,o3,o1,p0,o4,dem o4,p4,p5,p6,dem p1,p7,p8,p9,q0,s1,g9,i0,i1,i2,i3,i4,i5,i6,i7,i8,i9,j0,j1,j2,j3,j4,j5,c5,j6,j7,j8,j9,k0,k1,k2,k3,k4,k5,k6,k7,k8,k9,l0,l1,l2,l3,l4,l5,l6,l7,l8,l9,m0,m1,m2,m3,m4,m5,m6,m7,m8,m9,n0,n1,n2,n3,n4,b,c,d,f,g,i,k,l,m,n,o,p,q,r,s,t,u,w,x,y,z,A,B,C,D,E,F,G,H,I,J,K,L,M,N,P,Q,R,U,c4,V,W,X,Y,Z,a0,a1,a2,a3,a4,a5,a6,a7,a8,a9,b0,b1,b2,b3,b4,b5,b6,b7,b8,b9,c0,c1,c2,c3], s2)) ()) ()) ()) ()) ()) ()) ()) ()) ()) ()) ()) ()) ()) ()) ()) ()) ()) ()) ()) ()) ()) ()) ()) ()) ()) ()) ()) := by
 refine sD Try.f19 3 0 (fun v0 S1 => ?_)
 refine sD Try.f19 3 1 (fun v1 S2 => ?_)
 refine sD Try.f19 3 2 (fun v2 S3 => ?_)
 refine sP Try.f19 3 3 (v := v2) ?_
 refine sG Try.f19 3 4 (j := 3) (fun v4 S4 => ?_)
 refine sG Try.f19 3 5 (j := 3) (fun v5 S5 => ?_)
 refine sG Try.f19 3 6 (j := 3) (fun v6 S6 => ?_)
 refine sG Try.f19 3 7 (j := 3) (fun v7 S7 => ?_)
 refine sD Try.f19 3 8 (fun v8 S8 => ?_)
 refine sP Try.f19 3 9 (v := v8) ?_
 refine sG Try.f19 3 10 (j := 9) (fun n6 S9 => ?_)
 refine sG Try.f19 3 11 (j := 9) (fun n7 n9 => ?_)
 refine sG Try.f19 3 12 (j := 9) (fun n5 o0 => ?_)
 refine sG Try.f19 3 13 (j := 9) (fun n8 o5 => ?_)
 refine sG Try.f19 3 14 (j := 13) (fun o6 o7 => ?_)
 refine sG Try.f19 3 15 (j := 13) (fun o2 o8 => ?_)
 refine sG Try.f19 3 16 (j := 13) (fun o3 o9 => ?_)
 refine sG Try.f19 3 17 (j := 13) (fun o1 p2 => ?_)
 refine sG Try.f19 3 18 (j := 9) (fun p0 q1 => ?_)
 refine sD Try.f19 3 19 (fun o4 q2 => ?_)
 refine sP Try.f19 3 20 (v := o4) ?_
 refine sG Try.f19 3 21 (j := 20) (fun p4 q3 => ?_)
 refine sG Try.f19 3 22 (j := 20) (fun p5 q4 => ?_)
 refine sG Try.f19 3 23 (j := 20) (fun p6 q5 => ?_)
 refine sG Try.f19 3 24 (j := 20) (fun p1 q6 => ?_)
 refine sG Try.f19 3 25 (j := 24) (fun p7 q7 => ?_)
 refine sG Try.f19 3 26 (j := 24) (fun p8 q8 => ?_)
 refine sG Try.f19 3 27 (j := 24) (fun p9 q9 => ?_)
 refine sG Try.f19 3 28 (j := 20) (fun q0 s0 => ?_)
 refine sD Try.f19 3 29 (fun s1 s2 => ?_)
 kernel_rfl
theorem zh.r4  : jE Try.prog ⟨false, false, false⟩ (jf Try.prog O) (reg Try.f19 4) (reg Try.f19 4).toList ([x0,x1,x2,x3,x4,x5,x6,x7,x8,x9,c6,c7,c8,c9,d0,d1,d2,d3,d4,d5,d6,d7,d8,d9,f0,f1,f2,f3,f4,f5,f6,f7,f8,f9,g0,g1,g2,g3,g4,g5,g6,g7,g8,g9,i0,i1,i2,i3,i4,i5,i6,i7,i8,i9,j0,j1,j2,j3,j4,j5,c5,j6,j7,j8,j9,k0,k1,k2,k3,k4,k5,k6,k7,k8,k9,l0,l1,l2,l3,l4,l5,l6,l7,l8,l9,m0,m1,m2,m3,m4,m5,m6,m7,m8,m9,n0,n1,n2,n3,n4,b,c,d,f,g,i,k,l,m,n,o,p,q,r,s,t,u,w,x,y,z,A,B,C,D,E,F,G,H,I,J,K,L,M,N,P,Q,R,U,c4,V,W,X,Y,Z,a0,a1,a2,a3,a4,a5,a6,a7,a8,a9,b0,b1,b2,b3,b4,b5,b6,b7,b8,b9,c0,c1,c2,c3]) S =
  ( some ([x0,x1,Value.bool false,x3,x4,x5,x6,x7,x8,x9,c6,c7,c8,c9,d0,d1,d2,d3,d4,d5,d6,d7,d8,d9,f0,f1,f2,f3,f4,f5,f6,f7,f8,f9,g0,g1,g2,g3,g4,g5,g6,g7,g8,g9,i0,i1,i2,i3,i4,i5,i6,i7,i8,i9,j0,j1,j2,j3,j4,j5,c5,j6,j7,j8,j9,k0,k1,k2,k3,k4,k5,k6,k7,k8,k9,l0,l1,l2,l3,l4,l5,l6,l7,l8,l9,m0,m1,m2,m3,m4,m5,m6,m7,m8,m9,n0,n1,n2,n3,n4,b,c,d,f,g,i,k,l,m,n,o,p,q,r,s,t,u,w,x,y,z,A,B,C,D,E,F,G,H,I,J,K,L,M,N,P,Q,R,U,c4,V,W,X,Y,Z,a0,a1,a2,a3,a4,a5,a6,a7,a8,a9,b0,b1,b2,b3,b4,b5,b6,b7,b8,b9,c0,c1,c2,c3], S)) := by
 kernel_rfl
theorem zh.r5  : jE Try.prog ⟨false, false, false⟩ (jf Try.prog O) (reg Try.f19 5) (reg Try.f19 5).toList ([x0,x1,x2,x3,x4,x5,x6,x7,x8,x9,c6,c7,c8,c9,d0,d1,d2,d3,d4,d5,d6,d7,d8,d9,f0,f1,f2,f3,f4,f5,f6,f7,f8,f9,g0,g1,g2,g3,g4,g5,g6,g7,g8,g9,i0,i1,i2,i3,i4,i5,i6,i7,i8,i9,j0,j1,j2,j3,j4,j5,c5,j6,j7,j8,j9,k0,k1,k2,k3,k4,k5,k6,k7,k8,k9,l0,l1,l2,l3,l4,l5,l6,l7,l8,l9,m0,m1,m2,m3,m4,m5,m6,m7,m8,m9,n0,n1,n2,n3,n4,b,c,d,f,g,i,k,l,m,n,o,p,q,r,s,t,u,w,x,y,z,A,B,C,D,E,F,G,H,I,J,K,L,M,N,P,Q,R,U,c4,V,W,X,Y,Z,a0,a1,a2,a3,a4,a5,a6,a7,a8,a9,b0,b1,b2,b3,b4,b5,b6,b7,b8,b9,c0,c1,c2,c3]) S =
  (zM (zo Try.prog 30 x1 3 S) (fun v0 S1 => zM (zV Try.prog false 3 v0 S1) (fun v1 S2 => zM (jS Try.prog BinOp.geq 3 v1 (Value.int IntKind.i64 0) S2) (fun v2 S3 => gdK (dem v2) true (zo Try.prog 30 x1 3) S3 (fun v4 S4 => gdK (dem v2) true (zV Try.prog false 3 v4) S4 (fun v5 S5 => gdK (dem v2) true (jS Try.prog BinOp.leq 3 v5 (Value.int IntKind.i64 1000)) S5 (fun v6 S6 => zM (wH (dem v2) v6 (Value.bool false) S6) (fun v7 S7 => some ([x0,x1,x2,v7,x4,x5,x6,x7,x8,x9,c6,c7,c8,c9,d0,d1,d2,d3,d4,d5,d6,d7,d8,d9,f0,f1,f2,f3,f4,f5,f6,f7,f8,f9,g0,g1,g2,g3,g4,g5,g6,g7,g8,v0,v1,v2,dem v2,v4,v5,v6,dem v7,i7,i8,i9,j0,j1,j2,j3,j4,j5,c5,j6,j7,j8,j9,k0,k1,k2,k3,k4,k5,k6,k7,k8,k9,l0,l1,l2,l3,l4,l5,l6,l7,l8,l9,m0,m1,m2,m3,m4,m5,m6,m7,m8,m9,n0,n1,n2,n3,n4,b,c,d,f,g,i,k,l,m,n,o,p,q,r,s,t,u,w,x,y,z,A,B,C,D,E,F,G,H,I,J,K,L,M,N,P,Q,R,U,c4,V,W,X,Y,Z,a0,a1,a2,a3,a4,a5,a6,a7,a8,a9,b0,b1,b2,b3,b4,b5,b6,b7,b8,b9,c0,c1,c2,c3], S7)) ()) ()) ()) ()) ()) ()) ()) := by
 refine sD Try.f19 5 0 (fun v0 S1 => ?_)
 refine sD Try.f19 5 1 (fun v1 S2 => ?_)
 refine sD Try.f19 5 2 (fun v2 S3 => ?_)
 refine sP Try.f19 5 3 (v := v2) ?_
 refine sG Try.f19 5 4 (j := 3) (fun v4 S4 => ?_)
 refine sG Try.f19 5 5 (j := 3) (fun v5 S5 => ?_)
 refine sG Try.f19 5 6 (j := 3) (fun v6 S6 => ?_)
 refine sD Try.f19 5 7 (fun v7 S7 => ?_)
 refine sP Try.f19 5 8 (v := v7) ?_
 kernel_rfl
theorem zh.r6  : jE Try.prog ⟨false, false, false⟩ (jf Try.prog O) (reg Try.f19 6) (reg Try.f19 6).toList ([x0,x1,x2,x3,x4,x5,x6,x7,x8,x9,c6,c7,c8,c9,d0,d1,d2,d3,d4,d5,d6,d7,d8,d9,f0,f1,f2,f3,f4,f5,f6,f7,f8,f9,g0,g1,g2,g3,g4,g5,g6,g7,g8,g9,i0,i1,i2,i3,i4,i5,i6,i7,i8,i9,j0,j1,j2,j3,j4,j5,c5,j6,j7,j8,j9,k0,k1,k2,k3,k4,k5,k6,k7,k8,k9,l0,l1,l2,l3,l4,l5,l6,l7,l8,l9,m0,m1,m2,m3,m4,m5,m6,m7,m8,m9,n0,n1,n2,n3,n4,b,c,d,f,g,i,k,l,m,n,o,p,q,r,s,t,u,w,x,y,z,A,B,C,D,E,F,G,H,I,J,K,L,M,N,P,Q,R,U,c4,V,W,X,Y,Z,a0,a1,a2,a3,a4,a5,a6,a7,a8,a9,b0,b1,b2,b3,b4,b5,b6,b7,b8,b9,c0,c1,c2,c3]) S =
  (zM (zo Try.prog 30 x1 2 S) (fun v0 S1 => zM (zV Try.prog false 3 v0 S1) (fun v1 S2 => zM (jS Try.prog BinOp.geq 3 v1 (Value.int IntKind.i64 0) S2) (fun v2 S3 => gdK (dem v2) true (zo Try.prog 30 x1 2) S3 (fun v4 S4 => gdK (dem v2) true (zV Try.prog false 3 v4) S4 (fun v5 S5 => gdK (dem v2) true (jS Try.prog BinOp.leq 3 v5 (Value.int IntKind.i64 1000)) S5 (fun v6 S6 => zM (wH (dem v2) v6 (Value.bool false) S6) (fun v7 S7 => some ([x0,x1,x2,x3,v7,x5,x6,x7,x8,x9,c6,c7,c8,c9,d0,d1,d2,d3,d4,d5,d6,d7,d8,d9,f0,f1,f2,f3,f4,f5,f6,f7,f8,f9,g0,g1,g2,g3,g4,g5,g6,g7,g8,g9,i0,i1,i2,i3,i4,i5,i6,v0,v1,v2,dem v2,v4,v5,v6,dem v7,j5,c5,j6,j7,j8,j9,k0,k1,k2,k3,k4,k5,k6,k7,k8,k9,l0,l1,l2,l3,l4,l5,l6,l7,l8,l9,m0,m1,m2,m3,m4,m5,m6,m7,m8,m9,n0,n1,n2,n3,n4,b,c,d,f,g,i,k,l,m,n,o,p,q,r,s,t,u,w,x,y,z,A,B,C,D,E,F,G,H,I,J,K,L,M,N,P,Q,R,U,c4,V,W,X,Y,Z,a0,a1,a2,a3,a4,a5,a6,a7,a8,a9,b0,b1,b2,b3,b4,b5,b6,b7,b8,b9,c0,c1,c2,c3], S7)) ()) ()) ()) ()) ()) ()) ()) := by
 refine sD Try.f19 6 0 (fun v0 S1 => ?_)
 refine sD Try.f19 6 1 (fun v1 S2 => ?_)
 refine sD Try.f19 6 2 (fun v2 S3 => ?_)
 refine sP Try.f19 6 3 (v := v2) ?_
 refine sG Try.f19 6 4 (j := 3) (fun v4 S4 => ?_)
 refine sG Try.f19 6 5 (j := 3) (fun v5 S5 => ?_)
 refine sG Try.f19 6 6 (j := 3) (fun v6 S6 => ?_)
 refine sD Try.f19 6 7 (fun v7 S7 => ?_)
 refine sP Try.f19 6 8 (v := v7) ?_
 kernel_rfl
theorem zh.r7  : jE Try.prog ⟨false, false, false⟩ (jf Try.prog O) (reg Try.f19 7) (reg Try.f19 7).toList ([x0,x1,x2,x3,x4,x5,x6,x7,x8,x9,c6,c7,c8,c9,d0,d1,d2,d3,d4,d5,d6,d7,d8,d9,f0,f1,f2,f3,f4,f5,f6,f7,f8,f9,g0,g1,g2,g3,g4,g5,g6,g7,g8,g9,i0,i1,i2,i3,i4,i5,i6,i7,i8,i9,j0,j1,j2,j3,j4,j5,c5,j6,j7,j8,j9,k0,k1,k2,k3,k4,k5,k6,k7,k8,k9,l0,l1,l2,l3,l4,l5,l6,l7,l8,l9,m0,m1,m2,m3,m4,m5,m6,m7,m8,m9,n0,n1,n2,n3,n4,b,c,d,f,g,i,k,l,m,n,o,p,q,r,s,t,u,w,x,y,z,A,B,C,D,E,F,G,H,I,J,K,L,M,N,P,Q,R,U,c4,V,W,X,Y,Z,a0,a1,a2,a3,a4,a5,a6,a7,a8,a9,b0,b1,b2,b3,b4,b5,b6,b7,b8,b9,c0,c1,c2,c3]) S =
  (zM (zo Try.prog 30 x1 0 S) (fun v0 S1 => zM (zV Try.prog false 3 v0 S1) (fun v1 S2 => some ([x0,x1,x2,x3,x4,x5,x6,x7,x8,x9,c6,c7,c8,c9,d0,d1,d2,d3,d4,d5,d6,d7,d8,d9,f0,f1,f2,f3,f4,f5,f6,f7,f8,f9,g0,g1,g2,g3,g4,g5,g6,g7,g8,g9,i0,i1,i2,i3,i4,i5,i6,i7,i8,i9,j0,j1,j2,j3,j4,v0,v1,j6,j7,j8,j9,k0,k1,k2,k3,k4,k5,k6,k7,k8,k9,l0,l1,l2,l3,l4,l5,l6,l7,l8,l9,m0,m1,m2,m3,m4,m5,m6,m7,m8,m9,n0,n1,n2,n3,n4,b,c,d,f,g,i,k,l,m,n,o,p,q,r,s,t,u,w,x,y,z,A,B,C,D,E,F,G,H,I,J,K,L,M,N,P,Q,R,U,c4,V,W,X,Y,Z,a0,a1,a2,a3,a4,a5,a6,a7,a8,a9,b0,b1,b2,b3,b4,b5,b6,b7,b8,b9,c0,c1,c2,c3], S2)) ()) ()) := by
 kernel_rfl
theorem zh.r8  : jE Try.prog ⟨false, false, false⟩ (jf Try.prog O) (reg Try.f19 8) (reg Try.f19 8).toList ([x0,x1,x2,x3,x4,x5,x6,x7,x8,x9,c6,c7,c8,c9,d0,d1,d2,d3,d4,d5,d6,d7,d8,d9,f0,f1,f2,f3,f4,f5,f6,f7,f8,f9,g0,g1,g2,g3,g4,g5,g6,g7,g8,g9,i0,i1,i2,i3,i4,i5,i6,i7,i8,i9,j0,j1,j2,j3,j4,j5,c5,j6,j7,j8,j9,k0,k1,k2,k3,k4,k5,k6,k7,k8,k9,l0,l1,l2,l3,l4,l5,l6,l7,l8,l9,m0,m1,m2,m3,m4,m5,m6,m7,m8,m9,n0,n1,n2,n3,n4,b,c,d,f,g,i,k,l,m,n,o,p,q,r,s,t,u,w,x,y,z,A,B,C,D,E,F,G,H,I,J,K,L,M,N,P,Q,R,U,c4,V,W,X,Y,Z,a0,a1,a2,a3,a4,a5,a6,a7,a8,a9,b0,b1,b2,b3,b4,b5,b6,b7,b8,b9,c0,c1,c2,c3]) S =
  (zM (jS Try.prog BinOp.eql 3 c5 (Value.int IntKind.i64 0) S) (fun v0 S1 => some ([x0,x1,x2,x3,x4,x5,x6,x7,x8,x9,c6,c7,c8,c9,d0,d1,d2,d3,d4,d5,d6,d7,d8,d9,f0,f1,f2,f3,f4,f5,f6,f7,f8,f9,g0,g1,g2,g3,g4,g5,g6,g7,g8,g9,i0,i1,i2,i3,i4,i5,i6,i7,i8,i9,j0,j1,j2,j3,j4,j5,c5,v0,dem v0,j8,j9,k0,k1,k2,k3,k4,k5,k6,k7,k8,k9,l0,l1,l2,l3,l4,l5,l6,l7,l8,l9,m0,m1,m2,m3,m4,m5,m6,m7,m8,m9,n0,n1,n2,n3,n4,b,c,d,f,g,i,k,l,m,n,o,p,q,r,s,t,u,w,x,y,z,A,B,C,D,E,F,G,H,I,J,K,L,M,N,P,Q,R,U,c4,V,W,X,Y,Z,a0,a1,a2,a3,a4,a5,a6,a7,a8,a9,b0,b1,b2,b3,b4,b5,b6,b7,b8,b9,c0,c1,c2,c3], S1)) ()) := by
 kernel_rfl
theorem zh.r9  : jE Try.prog ⟨false, false, false⟩ (jf Try.prog O) (reg Try.f19 9) (reg Try.f19 9).toList ([x0,x1,x2,x3,x4,x5,x6,x7,x8,x9,c6,c7,c8,c9,d0,d1,d2,d3,d4,d5,d6,d7,d8,d9,f0,f1,f2,f3,f4,f5,f6,f7,f8,f9,g0,g1,g2,g3,g4,g5,g6,g7,g8,g9,i0,i1,i2,i3,i4,i5,i6,i7,i8,i9,j0,j1,j2,j3,j4,j5,c5,j6,j7,j8,j9,k0,k1,k2,k3,k4,k5,k6,k7,k8,k9,l0,l1,l2,l3,l4,l5,l6,l7,l8,l9,m0,m1,m2,m3,m4,m5,m6,m7,m8,m9,n0,n1,n2,n3,n4,b,c,d,f,g,i,k,l,m,n,o,p,q,r,s,t,u,w,x,y,z,A,B,C,D,E,F,G,H,I,J,K,L,M,N,P,Q,R,U,c4,V,W,X,Y,Z,a0,a1,a2,a3,a4,a5,a6,a7,a8,a9,b0,b1,b2,b3,b4,b5,b6,b7,b8,b9,c0,c1,c2,c3]) S =
  (zM (zo Try.prog 30 x1 2 S) (fun v0 S1 => zM (zV Try.prog false 3 v0 S1) (fun v1 S2 => zM (jS Try.prog BinOp.eql 3 v1 (Value.int IntKind.i64 0) S2) (fun v2 S3 => gdK (dem v2) true (zo Try.prog 30 x1 3) S3 (fun v4 S4 => gdK (dem v2) true (zV Try.prog false 3 v4) S4 (fun v5 S5 => gdK (dem v2) true (jS Try.prog BinOp.eql 3 v5 (Value.int IntKind.i64 0)) S5 (fun v6 S6 => zM (wH (dem v2) v6 (Value.bool false) S6) (fun v7 S7 => gdK (dem v7) true (zo Try.prog 30 x1 4) S7 (fun v9 S8 => gdK (dem v7) true (zV Try.prog false 3 v9) S8 (fun n6 S9 => gdK (dem v7) true (jS Try.prog BinOp.eql 3 n6 (Value.int IntKind.i64 0)) S9 (fun n7 n9 => zM (wH (dem v7) n7 (Value.bool false) n9) (fun n5 o0 => gdK (dem n5) true (zo Try.prog 30 x1 6) o0 (fun o6 o5 => gdK (dem n5) true (zV Try.prog false 25 o6) o5 (fun o2 o7 => gdK (dem n5) true ((jf Try.prog O) 46 [(dem o2)]) o7 (fun o3 o8 => zM (wH (dem n5) o3 (Value.bool false) o8) (fun o1 o9 => some ([x0,x1,o1,x3,x4,x5,x6,x7,x8,x9,c6,c7,c8,c9,d0,d1,d2,d3,d4,d5,d6,d7,d8,d9,f0,f1,f2,f3,f4,f5,f6,f7,f8,f9,g0,g1,g2,g3,g4,g5,g6,g7,g8,g9,i0,i1,i2,i3,i4,i5,i6,i7,i8,i9,j0,j1,j2,j3,j4,j5,c5,j6,j7,v0,v1,v2,dem v2,v4,v5,v6,v7,dem v7,v9,n6,n7,n5,dem n5,o6,o2,o3,dem o1,l6,l7,l8,l9,m0,m1,m2,m3,m4,m5,m6,m7,m8,m9,n0,n1,n2,n3,n4,b,c,d,f,g,i,k,l,m,n,o,p,q,r,s,t,u,w,x,y,z,A,B,C,D,E,F,G,H,I,J,K,L,M,N,P,Q,R,U,c4,V,W,X,Y,Z,a0,a1,a2,a3,a4,a5,a6,a7,a8,a9,b0,b1,b2,b3,b4,b5,b6,b7,b8,b9,c0,c1,c2,c3], o9)) ()) ()) ()) ()) ()) ()) ()) ()) ()) ()) ()) ()) ()) ()) ()) := by
 refine sD Try.f19 9 0 (fun v0 S1 => ?_)
 refine sD Try.f19 9 1 (fun v1 S2 => ?_)
 refine sD Try.f19 9 2 (fun v2 S3 => ?_)
 refine sP Try.f19 9 3 (v := v2) ?_
 refine sG Try.f19 9 4 (j := 3) (fun v4 S4 => ?_)
 refine sG Try.f19 9 5 (j := 3) (fun v5 S5 => ?_)
 refine sG Try.f19 9 6 (j := 3) (fun v6 S6 => ?_)
 refine sD Try.f19 9 7 (fun v7 S7 => ?_)
 refine sP Try.f19 9 8 (v := v7) ?_
 refine sG Try.f19 9 9 (j := 8) (fun v9 S8 => ?_)
 refine sG Try.f19 9 10 (j := 8) (fun n6 S9 => ?_)
 refine sG Try.f19 9 11 (j := 8) (fun n7 n9 => ?_)
 refine sD Try.f19 9 12 (fun n5 o0 => ?_)
 refine sP Try.f19 9 13 (v := n5) ?_
 refine sG Try.f19 9 14 (j := 13) (fun o6 o5 => ?_)
 refine sG Try.f19 9 15 (j := 13) (fun o2 o7 => ?_)
 refine sG Try.f19 9 16 (j := 13) (fun o3 o8 => ?_)
 refine sD Try.f19 9 17 (fun o1 o9 => ?_)
 refine sP Try.f19 9 18 (v := o1) ?_
 kernel_rfl
theorem zh.r10  : jE Try.prog ⟨false, false, false⟩ (jf Try.prog O) (reg Try.f19 10) (reg Try.f19 10).toList ([x0,x1,x2,x3,x4,x5,x6,x7,x8,x9,c6,c7,c8,c9,d0,d1,d2,d3,d4,d5,d6,d7,d8,d9,f0,f1,f2,f3,f4,f5,f6,f7,f8,f9,g0,g1,g2,g3,g4,g5,g6,g7,g8,g9,i0,i1,i2,i3,i4,i5,i6,i7,i8,i9,j0,j1,j2,j3,j4,j5,c5,j6,j7,j8,j9,k0,k1,k2,k3,k4,k5,k6,k7,k8,k9,l0,l1,l2,l3,l4,l5,l6,l7,l8,l9,m0,m1,m2,m3,m4,m5,m6,m7,m8,m9,n0,n1,n2,n3,n4,b,c,d,f,g,i,k,l,m,n,o,p,q,r,s,t,u,w,x,y,z,A,B,C,D,E,F,G,H,I,J,K,L,M,N,P,Q,R,U,c4,V,W,X,Y,Z,a0,a1,a2,a3,a4,a5,a6,a7,a8,a9,b0,b1,b2,b3,b4,b5,b6,b7,b8,b9,c0,c1,c2,c3]) S =
  (zM (jS Try.prog BinOp.eql 3 c5 (Value.int IntKind.i64 1) S) (fun v0 S1 => some ([x0,x1,x2,x3,x4,x5,x6,x7,x8,x9,c6,c7,c8,c9,d0,d1,d2,d3,d4,d5,d6,d7,d8,d9,f0,f1,f2,f3,f4,f5,f6,f7,f8,f9,g0,g1,g2,g3,g4,g5,g6,g7,g8,g9,i0,i1,i2,i3,i4,i5,i6,i7,i8,i9,j0,j1,j2,j3,j4,j5,c5,j6,j7,j8,j9,k0,k1,k2,k3,k4,k5,k6,k7,k8,k9,l0,l1,l2,l3,l4,l5,v0,dem v0,l8,l9,m0,m1,m2,m3,m4,m5,m6,m7,m8,m9,n0,n1,n2,n3,n4,b,c,d,f,g,i,k,l,m,n,o,p,q,r,s,t,u,w,x,y,z,A,B,C,D,E,F,G,H,I,J,K,L,M,N,P,Q,R,U,c4,V,W,X,Y,Z,a0,a1,a2,a3,a4,a5,a6,a7,a8,a9,b0,b1,b2,b3,b4,b5,b6,b7,b8,b9,c0,c1,c2,c3], S1)) ()) := by
 kernel_rfl
theorem zh.r11  : jE Try.prog ⟨false, false, false⟩ (jf Try.prog O) (reg Try.f19 11) (reg Try.f19 11).toList ([x0,x1,x2,x3,x4,x5,x6,x7,x8,x9,c6,c7,c8,c9,d0,d1,d2,d3,d4,d5,d6,d7,d8,d9,f0,f1,f2,f3,f4,f5,f6,f7,f8,f9,g0,g1,g2,g3,g4,g5,g6,g7,g8,g9,i0,i1,i2,i3,i4,i5,i6,i7,i8,i9,j0,j1,j2,j3,j4,j5,c5,j6,j7,j8,j9,k0,k1,k2,k3,k4,k5,k6,k7,k8,k9,l0,l1,l2,l3,l4,l5,l6,l7,l8,l9,m0,m1,m2,m3,m4,m5,m6,m7,m8,m9,n0,n1,n2,n3,n4,b,c,d,f,g,i,k,l,m,n,o,p,q,r,s,t,u,w,x,y,z,A,B,C,D,E,F,G,H,I,J,K,L,M,N,P,Q,R,U,c4,V,W,X,Y,Z,a0,a1,a2,a3,a4,a5,a6,a7,a8,a9,b0,b1,b2,b3,b4,b5,b6,b7,b8,b9,c0,c1,c2,c3]) S =
  (zM (zo Try.prog 30 x1 2 S) (fun v0 S1 => zM (zV Try.prog false 3 v0 S1) (fun v1 S2 => zM (jS Try.prog BinOp.eql 3 v1 (Value.int IntKind.i64 0) S2) (fun v2 S3 => gdK (dem v2) true (zo Try.prog 30 x1 3) S3 (fun v4 S4 => gdK (dem v2) true (zV Try.prog false 3 v4) S4 (fun v5 S5 => gdK (dem v2) true (jS Try.prog BinOp.eql 3 v5 (Value.int IntKind.i64 0)) S5 (fun v6 S6 => zM (wH (dem v2) v6 (Value.bool false) S6) (fun v7 S7 => gdK (dem v7) true (zo Try.prog 30 x1 4) S7 (fun v9 S8 => gdK (dem v7) true (zV Try.prog false 3 v9) S8 (fun n6 S9 => gdK (dem v7) true (jS Try.prog BinOp.eql 3 n6 (Value.int IntKind.i64 0)) S9 (fun n7 n9 => zM (wH (dem v7) n7 (Value.bool false) n9) (fun n5 o0 => gdK (dem n5) true (zo Try.prog 30 x1 7) o0 (fun o6 o5 => gdK (dem n5) true (zV Try.prog false 28 o6) o5 (fun o2 o7 => gdK (dem n5) true ((jf Try.prog O) 47 [(dem o2)]) o7 (fun o3 o8 => zM (wH (dem n5) o3 (Value.bool false) o8) (fun o1 o9 => some ([x0,x1,o1,x3,x4,x5,x6,x7,x8,x9,c6,c7,c8,c9,d0,d1,d2,d3,d4,d5,d6,d7,d8,d9,f0,f1,f2,f3,f4,f5,f6,f7,f8,f9,g0,g1,g2,g3,g4,g5,g6,g7,g8,g9,i0,i1,i2,i3,i4,i5,i6,i7,i8,i9,j0,j1,j2,j3,j4,j5,c5,j6,j7,j8,j9,k0,k1,k2,k3,k4,k5,k6,k7,k8,k9,l0,l1,l2,l3,l4,l5,l6,l7,v0,v1,v2,dem v2,v4,v5,v6,v7,dem v7,v9,n6,n7,n5,dem n5,o6,o2,o3,dem o1,c,d,f,g,i,k,l,m,n,o,p,q,r,s,t,u,w,x,y,z,A,B,C,D,E,F,G,H,I,J,K,L,M,N,P,Q,R,U,c4,V,W,X,Y,Z,a0,a1,a2,a3,a4,a5,a6,a7,a8,a9,b0,b1,b2,b3,b4,b5,b6,b7,b8,b9,c0,c1,c2,c3], o9)) ()) ()) ()) ()) ()) ()) ()) ()) ()) ()) ()) ()) ()) ()) ()) := by
 refine sD Try.f19 11 0 (fun v0 S1 => ?_)
 refine sD Try.f19 11 1 (fun v1 S2 => ?_)
 refine sD Try.f19 11 2 (fun v2 S3 => ?_)
 refine sP Try.f19 11 3 (v := v2) ?_
 refine sG Try.f19 11 4 (j := 3) (fun v4 S4 => ?_)
 refine sG Try.f19 11 5 (j := 3) (fun v5 S5 => ?_)
 refine sG Try.f19 11 6 (j := 3) (fun v6 S6 => ?_)
 refine sD Try.f19 11 7 (fun v7 S7 => ?_)
 refine sP Try.f19 11 8 (v := v7) ?_
 refine sG Try.f19 11 9 (j := 8) (fun v9 S8 => ?_)
 refine sG Try.f19 11 10 (j := 8) (fun n6 S9 => ?_)
 refine sG Try.f19 11 11 (j := 8) (fun n7 n9 => ?_)
 refine sD Try.f19 11 12 (fun n5 o0 => ?_)
 refine sP Try.f19 11 13 (v := n5) ?_
 refine sG Try.f19 11 14 (j := 13) (fun o6 o5 => ?_)
 refine sG Try.f19 11 15 (j := 13) (fun o2 o7 => ?_)
 refine sG Try.f19 11 16 (j := 13) (fun o3 o8 => ?_)
 refine sD Try.f19 11 17 (fun o1 o9 => ?_)
 refine sP Try.f19 11 18 (v := o1) ?_
 kernel_rfl
theorem zh.r12  : jE Try.prog ⟨false, false, false⟩ (jf Try.prog O) (reg Try.f19 12) (reg Try.f19 12).toList ([x0,x1,x2,x3,x4,x5,x6,x7,x8,x9,c6,c7,c8,c9,d0,d1,d2,d3,d4,d5,d6,d7,d8,d9,f0,f1,f2,f3,f4,f5,f6,f7,f8,f9,g0,g1,g2,g3,g4,g5,g6,g7,g8,g9,i0,i1,i2,i3,i4,i5,i6,i7,i8,i9,j0,j1,j2,j3,j4,j5,c5,j6,j7,j8,j9,k0,k1,k2,k3,k4,k5,k6,k7,k8,k9,l0,l1,l2,l3,l4,l5,l6,l7,l8,l9,m0,m1,m2,m3,m4,m5,m6,m7,m8,m9,n0,n1,n2,n3,n4,b,c,d,f,g,i,k,l,m,n,o,p,q,r,s,t,u,w,x,y,z,A,B,C,D,E,F,G,H,I,J,K,L,M,N,P,Q,R,U,c4,V,W,X,Y,Z,a0,a1,a2,a3,a4,a5,a6,a7,a8,a9,b0,b1,b2,b3,b4,b5,b6,b7,b8,b9,c0,c1,c2,c3]) S =
  (zM (jS Try.prog BinOp.eql 3 c5 (Value.int IntKind.i64 2) S) (fun v0 S1 => some ([x0,x1,x2,x3,x4,x5,x6,x7,x8,x9,c6,c7,c8,c9,d0,d1,d2,d3,d4,d5,d6,d7,d8,d9,f0,f1,f2,f3,f4,f5,f6,f7,f8,f9,g0,g1,g2,g3,g4,g5,g6,g7,g8,g9,i0,i1,i2,i3,i4,i5,i6,i7,i8,i9,j0,j1,j2,j3,j4,j5,c5,j6,j7,j8,j9,k0,k1,k2,k3,k4,k5,k6,k7,k8,k9,l0,l1,l2,l3,l4,l5,l6,l7,l8,l9,m0,m1,m2,m3,m4,m5,m6,m7,m8,m9,n0,n1,n2,n3,n4,b,v0,dem v0,f,g,i,k,l,m,n,o,p,q,r,s,t,u,w,x,y,z,A,B,C,D,E,F,G,H,I,J,K,L,M,N,P,Q,R,U,c4,V,W,X,Y,Z,a0,a1,a2,a3,a4,a5,a6,a7,a8,a9,b0,b1,b2,b3,b4,b5,b6,b7,b8,b9,c0,c1,c2,c3], S1)) ()) := by
 kernel_rfl
theorem zh.r13  : jE Try.prog ⟨false, false, false⟩ (jf Try.prog O) (reg Try.f19 13) (reg Try.f19 13).toList ([x0,x1,x2,x3,x4,x5,x6,x7,x8,x9,c6,c7,c8,c9,d0,d1,d2,d3,d4,d5,d6,d7,d8,d9,f0,f1,f2,f3,f4,f5,f6,f7,f8,f9,g0,g1,g2,g3,g4,g5,g6,g7,g8,g9,i0,i1,i2,i3,i4,i5,i6,i7,i8,i9,j0,j1,j2,j3,j4,j5,c5,j6,j7,j8,j9,k0,k1,k2,k3,k4,k5,k6,k7,k8,k9,l0,l1,l2,l3,l4,l5,l6,l7,l8,l9,m0,m1,m2,m3,m4,m5,m6,m7,m8,m9,n0,n1,n2,n3,n4,b,c,d,f,g,i,k,l,m,n,o,p,q,r,s,t,u,w,x,y,z,A,B,C,D,E,F,G,H,I,J,K,L,M,N,P,Q,R,U,c4,V,W,X,Y,Z,a0,a1,a2,a3,a4,a5,a6,a7,a8,a9,b0,b1,b2,b3,b4,b5,b6,b7,b8,b9,c0,c1,c2,c3]) S =
  (zM (zo Try.prog 30 x1 2 S) (fun v0 S1 => zM (zV Try.prog false 3 v0 S1) (fun v1 S2 => zM (jS Try.prog BinOp.eql 3 v1 (Value.int IntKind.i64 0) S2) (fun v2 S3 => gdK (dem v2) true (zo Try.prog 30 x1 3) S3 (fun v4 S4 => gdK (dem v2) true (zV Try.prog false 3 v4) S4 (fun v5 S5 => gdK (dem v2) true (jS Try.prog BinOp.eql 3 v5 (Value.int IntKind.i64 0)) S5 (fun v6 S6 => zM (wH (dem v2) v6 (Value.bool false) S6) (fun v7 S7 => gdK (dem v7) true (zo Try.prog 30 x1 4) S7 (fun v9 S8 => gdK (dem v7) true (zV Try.prog false 3 v9) S8 (fun n6 S9 => gdK (dem v7) true ((jf Try.prog O) 48 [(dem n6)]) S9 (fun n7 n9 => zM (wH (dem v7) n7 (Value.bool false) n9) (fun n5 o0 => some ([x0,x1,n5,x3,x4,x5,x6,x7,x8,x9,c6,c7,c8,c9,d0,d1,d2,d3,d4,d5,d6,d7,d8,d9,f0,f1,f2,f3,f4,f5,f6,f7,f8,f9,g0,g1,g2,g3,g4,g5,g6,g7,g8,g9,i0,i1,i2,i3,i4,i5,i6,i7,i8,i9,j0,j1,j2,j3,j4,j5,c5,j6,j7,j8,j9,k0,k1,k2,k3,k4,k5,k6,k7,k8,k9,l0,l1,l2,l3,l4,l5,l6,l7,l8,l9,m0,m1,m2,m3,m4,m5,m6,m7,m8,m9,n0,n1,n2,n3,n4,b,c,d,v0,v1,v2,dem v2,v4,v5,v6,v7,dem v7,v9,n6,n7,dem n5,u,w,x,y,z,A,B,C,D,E,F,G,H,I,J,K,L,M,N,P,Q,R,U,c4,V,W,X,Y,Z,a0,a1,a2,a3,a4,a5,a6,a7,a8,a9,b0,b1,b2,b3,b4,b5,b6,b7,b8,b9,c0,c1,c2,c3], o0)) ()) ()) ()) ()) ()) ()) ()) ()) ()) ()) ()) := by
 refine sD Try.f19 13 0 (fun v0 S1 => ?_)
 refine sD Try.f19 13 1 (fun v1 S2 => ?_)
 refine sD Try.f19 13 2 (fun v2 S3 => ?_)
 refine sP Try.f19 13 3 (v := v2) ?_
 refine sG Try.f19 13 4 (j := 3) (fun v4 S4 => ?_)
 refine sG Try.f19 13 5 (j := 3) (fun v5 S5 => ?_)
 refine sG Try.f19 13 6 (j := 3) (fun v6 S6 => ?_)
 refine sD Try.f19 13 7 (fun v7 S7 => ?_)
 refine sP Try.f19 13 8 (v := v7) ?_
 refine sG Try.f19 13 9 (j := 8) (fun v9 S8 => ?_)
 refine sG Try.f19 13 10 (j := 8) (fun n6 S9 => ?_)
 refine sG Try.f19 13 11 (j := 8) (fun n7 n9 => ?_)
 refine sD Try.f19 13 12 (fun n5 o0 => ?_)
 refine sP Try.f19 13 13 (v := n5) ?_
 kernel_rfl
theorem zh.r14  : jE Try.prog ⟨false, false, false⟩ (jf Try.prog O) (reg Try.f19 14) (reg Try.f19 14).toList ([x0,x1,x2,x3,x4,x5,x6,x7,x8,x9,c6,c7,c8,c9,d0,d1,d2,d3,d4,d5,d6,d7,d8,d9,f0,f1,f2,f3,f4,f5,f6,f7,f8,f9,g0,g1,g2,g3,g4,g5,g6,g7,g8,g9,i0,i1,i2,i3,i4,i5,i6,i7,i8,i9,j0,j1,j2,j3,j4,j5,c5,j6,j7,j8,j9,k0,k1,k2,k3,k4,k5,k6,k7,k8,k9,l0,l1,l2,l3,l4,l5,l6,l7,l8,l9,m0,m1,m2,m3,m4,m5,m6,m7,m8,m9,n0,n1,n2,n3,n4,b,c,d,f,g,i,k,l,m,n,o,p,q,r,s,t,u,w,x,y,z,A,B,C,D,E,F,G,H,I,J,K,L,M,N,P,Q,R,U,c4,V,W,X,Y,Z,a0,a1,a2,a3,a4,a5,a6,a7,a8,a9,b0,b1,b2,b3,b4,b5,b6,b7,b8,b9,c0,c1,c2,c3]) S =
  (zM (jS Try.prog BinOp.eql 3 c5 (Value.int IntKind.i64 3) S) (fun v0 S1 => some ([x0,x1,x2,x3,x4,x5,x6,x7,x8,x9,c6,c7,c8,c9,d0,d1,d2,d3,d4,d5,d6,d7,d8,d9,f0,f1,f2,f3,f4,f5,f6,f7,f8,f9,g0,g1,g2,g3,g4,g5,g6,g7,g8,g9,i0,i1,i2,i3,i4,i5,i6,i7,i8,i9,j0,j1,j2,j3,j4,j5,c5,j6,j7,j8,j9,k0,k1,k2,k3,k4,k5,k6,k7,k8,k9,l0,l1,l2,l3,l4,l5,l6,l7,l8,l9,m0,m1,m2,m3,m4,m5,m6,m7,m8,m9,n0,n1,n2,n3,n4,b,c,d,f,g,i,k,l,m,n,o,p,q,r,s,t,v0,dem v0,x,y,z,A,B,C,D,E,F,G,H,I,J,K,L,M,N,P,Q,R,U,c4,V,W,X,Y,Z,a0,a1,a2,a3,a4,a5,a6,a7,a8,a9,b0,b1,b2,b3,b4,b5,b6,b7,b8,b9,c0,c1,c2,c3], S1)) ()) := by
 kernel_rfl
theorem zh.r15  : jE Try.prog ⟨false, false, false⟩ (jf Try.prog O) (reg Try.f19 15) (reg Try.f19 15).toList ([x0,x1,x2,x3,x4,x5,x6,x7,x8,x9,c6,c7,c8,c9,d0,d1,d2,d3,d4,d5,d6,d7,d8,d9,f0,f1,f2,f3,f4,f5,f6,f7,f8,f9,g0,g1,g2,g3,g4,g5,g6,g7,g8,g9,i0,i1,i2,i3,i4,i5,i6,i7,i8,i9,j0,j1,j2,j3,j4,j5,c5,j6,j7,j8,j9,k0,k1,k2,k3,k4,k5,k6,k7,k8,k9,l0,l1,l2,l3,l4,l5,l6,l7,l8,l9,m0,m1,m2,m3,m4,m5,m6,m7,m8,m9,n0,n1,n2,n3,n4,b,c,d,f,g,i,k,l,m,n,o,p,q,r,s,t,u,w,x,y,z,A,B,C,D,E,F,G,H,I,J,K,L,M,N,P,Q,R,U,c4,V,W,X,Y,Z,a0,a1,a2,a3,a4,a5,a6,a7,a8,a9,b0,b1,b2,b3,b4,b5,b6,b7,b8,b9,c0,c1,c2,c3]) S =
  (gdK (dem x4) true (ret x3) S (fun v2 S1 => zM (wH (dem x4) (dem v2) (Value.bool false) S1) (fun v3 S2 => gdK (dem v3) true (zo Try.prog 30 x1 4) S2 (fun v5 S3 => gdK (dem v3) true (zV Try.prog false 3 v5) S3 (fun v6 S4 => gdK (dem v3) true ((jf Try.prog O) 48 [(dem v6)]) S4 (fun v7 S5 => zM (wH (dem v3) v7 (Value.bool false) S5) (fun v8 S6 => gdK (dem v8) true (zo Try.prog 30 x1 5) S6 (fun n6 S7 => gdK (dem v8) true (zV Try.prog false 3 n6) S7 (fun n7 S8 => gdK (dem v8) true (jS Try.prog BinOp.geq 3 n7 (Value.int IntKind.i64 (-1))) S8 (fun n5 S9 => zM (wH (dem v8) n5 (Value.bool false) S9) (fun n8 n9 => gdK (dem n8) true (zo Try.prog 30 x1 5) n9 (fun o2 o0 => gdK (dem n8) true (zV Try.prog false 3 o2) o0 (fun o3 o5 => gdK (dem n8) true (zo Try.prog 30 x1 3) o5 (fun o1 o7 => gdK (dem n8) true (zV Try.prog false 3 o1) o7 (fun p0 o8 => gdK (dem n8) true (jS Try.prog BinOp.lss 3 o3 p0) o8 (fun o4 o9 => zM (wH (dem n8) o4 (Value.bool false) o9) (fun p3 p2 => some ([x0,x1,p3,x3,dem x4,x5,x6,x7,x8,x9,c6,c7,c8,c9,d0,d1,d2,d3,d4,d5,d6,d7,d8,d9,f0,f1,f2,f3,f4,f5,f6,f7,f8,f9,g0,g1,g2,g3,g4,g5,g6,g7,g8,g9,i0,i1,i2,i3,i4,i5,i6,i7,i8,i9,j0,j1,j2,j3,j4,j5,c5,j6,j7,j8,j9,k0,k1,k2,k3,k4,k5,k6,k7,k8,k9,l0,l1,l2,l3,l4,l5,l6,l7,l8,l9,m0,m1,m2,m3,m4,m5,m6,m7,m8,m9,n0,n1,n2,n3,n4,b,c,d,f,g,i,k,l,m,n,o,p,q,r,s,t,u,w,x4,dem x4,dem v2,v3,dem v3,v5,v6,v7,v8,dem v8,n6,n7,n5,n8,dem n8,o2,o3,o1,p0,o4,dem p3,c4,V,W,X,Y,Z,a0,a1,a2,a3,a4,a5,a6,a7,a8,a9,b0,b1,b2,b3,b4,b5,b6,b7,b8,b9,c0,c1,c2,c3], p2)) ()) ()) ()) ()) ()) ()) ()) ()) ()) ()) ()) ()) ()) ()) ()) ()) := by
 refine sP Try.f19 15 0 (v := x4) ?_
 refine sP Try.f19 15 1 (v := x4) ?_
 refine sG Try.f19 15 2 (j := 1) (fun v2 S1 => ?_)
 refine sD Try.f19 15 3 (fun v3 S2 => ?_)
 refine sP Try.f19 15 4 (v := v3) ?_
 refine sG Try.f19 15 5 (j := 4) (fun v5 S3 => ?_)
 refine sG Try.f19 15 6 (j := 4) (fun v6 S4 => ?_)
 refine sG Try.f19 15 7 (j := 4) (fun v7 S5 => ?_)
 refine sD Try.f19 15 8 (fun v8 S6 => ?_)
 refine sP Try.f19 15 9 (v := v8) ?_
 refine sG Try.f19 15 10 (j := 9) (fun n6 S7 => ?_)
 refine sG Try.f19 15 11 (j := 9) (fun n7 S8 => ?_)
 refine sG Try.f19 15 12 (j := 9) (fun n5 S9 => ?_)
 refine sD Try.f19 15 13 (fun n8 n9 => ?_)
 refine sP Try.f19 15 14 (v := n8) ?_
 refine sG Try.f19 15 15 (j := 14) (fun o2 o0 => ?_)
 refine sG Try.f19 15 16 (j := 14) (fun o3 o5 => ?_)
 refine sG Try.f19 15 17 (j := 14) (fun o1 o7 => ?_)
 refine sG Try.f19 15 18 (j := 14) (fun p0 o8 => ?_)
 refine sG Try.f19 15 19 (j := 14) (fun o4 o9 => ?_)
 refine sD Try.f19 15 20 (fun p3 p2 => ?_)
 refine sP Try.f19 15 21 (v := p3) ?_
 kernel_rfl
theorem zh.r16  : jE Try.prog ⟨false, false, false⟩ (jf Try.prog O) (reg Try.f19 16) (reg Try.f19 16).toList ([x0,x1,x2,x3,x4,x5,x6,x7,x8,x9,c6,c7,c8,c9,d0,d1,d2,d3,d4,d5,d6,d7,d8,d9,f0,f1,f2,f3,f4,f5,f6,f7,f8,f9,g0,g1,g2,g3,g4,g5,g6,g7,g8,g9,i0,i1,i2,i3,i4,i5,i6,i7,i8,i9,j0,j1,j2,j3,j4,j5,c5,j6,j7,j8,j9,k0,k1,k2,k3,k4,k5,k6,k7,k8,k9,l0,l1,l2,l3,l4,l5,l6,l7,l8,l9,m0,m1,m2,m3,m4,m5,m6,m7,m8,m9,n0,n1,n2,n3,n4,b,c,d,f,g,i,k,l,m,n,o,p,q,r,s,t,u,w,x,y,z,A,B,C,D,E,F,G,H,I,J,K,L,M,N,P,Q,R,U,c4,V,W,X,Y,Z,a0,a1,a2,a3,a4,a5,a6,a7,a8,a9,b0,b1,b2,b3,b4,b5,b6,b7,b8,b9,c0,c1,c2,c3]) S =
  (zM (jS Try.prog BinOp.eql 3 c5 (Value.int IntKind.i64 4) S) (fun v0 S1 => some ([x0,x1,x2,x3,x4,x5,x6,x7,x8,x9,c6,c7,c8,c9,d0,d1,d2,d3,d4,d5,d6,d7,d8,d9,f0,f1,f2,f3,f4,f5,f6,f7,f8,f9,g0,g1,g2,g3,g4,g5,g6,g7,g8,g9,i0,i1,i2,i3,i4,i5,i6,i7,i8,i9,j0,j1,j2,j3,j4,j5,c5,j6,j7,j8,j9,k0,k1,k2,k3,k4,k5,k6,k7,k8,k9,l0,l1,l2,l3,l4,l5,l6,l7,l8,l9,m0,m1,m2,m3,m4,m5,m6,m7,m8,m9,n0,n1,n2,n3,n4,b,c,d,f,g,i,k,l,m,n,o,p,q,r,s,t,u,w,x,y,z,A,B,C,D,E,F,G,H,I,J,K,L,M,N,P,Q,R,U,v0,dem v0,W,X,Y,Z,a0,a1,a2,a3,a4,a5,a6,a7,a8,a9,b0,b1,b2,b3,b4,b5,b6,b7,b8,b9,c0,c1,c2,c3], S1)) ()) := by
 kernel_rfl
theorem zh.r17  : jE Try.prog ⟨false, false, false⟩ (jf Try.prog O) (reg Try.f19 17) (reg Try.f19 17).toList ([x0,x1,x2,x3,x4,x5,x6,x7,x8,x9,c6,c7,c8,c9,d0,d1,d2,d3,d4,d5,d6,d7,d8,d9,f0,f1,f2,f3,f4,f5,f6,f7,f8,f9,g0,g1,g2,g3,g4,g5,g6,g7,g8,g9,i0,i1,i2,i3,i4,i5,i6,i7,i8,i9,j0,j1,j2,j3,j4,j5,c5,j6,j7,j8,j9,k0,k1,k2,k3,k4,k5,k6,k7,k8,k9,l0,l1,l2,l3,l4,l5,l6,l7,l8,l9,m0,m1,m2,m3,m4,m5,m6,m7,m8,m9,n0,n1,n2,n3,n4,b,c,d,f,g,i,k,l,m,n,o,p,q,r,s,t,u,w,x,y,z,A,B,C,D,E,F,G,H,I,J,K,L,M,N,P,Q,R,U,c4,V,W,X,Y,Z,a0,a1,a2,a3,a4,a5,a6,a7,a8,a9,b0,b1,b2,b3,b4,b5,b6,b7,b8,b9,c0,c1,c2,c3]) S =
  (zM (jS Try.prog BinOp.eql 3 c5 (Value.int IntKind.i64 5) S) (fun v0 S1 => some ([x0,x1,x2,x3,x4,x5,x6,x7,x8,x9,c6,c7,c8,c9,d0,d1,d2,d3,d4,d5,d6,d7,d8,d9,f0,f1,f2,f3,f4,f5,f6,f7,f8,f9,g0,g1,g2,g3,g4,g5,g6,g7,g8,g9,i0,i1,i2,i3,i4,i5,i6,i7,i8,i9,j0,j1,j2,j3,j4,j5,c5,j6,j7,j8,j9,k0,k1,k2,k3,k4,k5,k6,k7,k8,k9,l0,l1,l2,l3,l4,l5,l6,l7,l8,l9,m0,m1,m2,m3,m4,m5,m6,m7,m8,m9,n0,n1,n2,n3,n4,b,c,d,f,g,i,k,l,m,n,o,p,q,r,s,t,u,w,x,y,z,A,B,C,D,E,F,G,H,I,J,K,L,M,N,P,Q,R,U,v0,V,dem v0,X,Y,Z,a0,a1,a2,a3,a4,a5,a6,a7,a8,a9,b0,b1,b2,b3,b4,b5,b6,b7,b8,b9,c0,c1,c2,c3], S1)) ()) := by
 kernel_rfl
theorem zh.r18  : jE Try.prog ⟨false, false, false⟩ (jf Try.prog O) (reg Try.f19 18) (reg Try.f19 18).toList ([x0,x1,x2,x3,x4,x5,x6,x7,x8,x9,c6,c7,c8,c9,d0,d1,d2,d3,d4,d5,d6,d7,d8,d9,f0,f1,f2,f3,f4,f5,f6,f7,f8,f9,g0,g1,g2,g3,g4,g5,g6,g7,g8,g9,i0,i1,i2,i3,i4,i5,i6,i7,i8,i9,j0,j1,j2,j3,j4,j5,c5,j6,j7,j8,j9,k0,k1,k2,k3,k4,k5,k6,k7,k8,k9,l0,l1,l2,l3,l4,l5,l6,l7,l8,l9,m0,m1,m2,m3,m4,m5,m6,m7,m8,m9,n0,n1,n2,n3,n4,b,c,d,f,g,i,k,l,m,n,o,p,q,r,s,t,u,w,x,y,z,A,B,C,D,E,F,G,H,I,J,K,L,M,N,P,Q,R,U,c4,V,W,X,Y,Z,a0,a1,a2,a3,a4,a5,a6,a7,a8,a9,b0,b1,b2,b3,b4,b5,b6,b7,b8,b9,c0,c1,c2,c3]) S =
  (gdK (dem x4) true (ret x3) S (fun v2 S1 => zM (wH (dem x4) (dem v2) (Value.bool false) S1) (fun v3 S2 => gdK (dem v3) true (zo Try.prog 30 x1 4) S2 (fun v5 S3 => gdK (dem v3) true (zV Try.prog false 3 v5) S3 (fun v6 S4 => gdK (dem v3) true (jS Try.prog BinOp.eql 3 v6 (Value.int IntKind.i64 (-1))) S4 (fun v7 S5 => gdK (dem v3) true (ret v7) S5 (fun v8 S6 => gdK (dem v8) false (zo Try.prog 30 x1 4) S6 (fun v9 S7 => gdK (dem v8) false (zV Try.prog false 3 v9) S7 (fun n6 S8 => gdK (dem v8) false ((jf Try.prog O) 48 [(dem n6)]) S8 (fun n7 S9 => gdK (dem v3) true (wH (dem v8) (Value.bool true) n7) S9 (fun n5 n9 => zM (wH (dem v3) n5 (Value.bool false) n9) (fun n8 o0 => some ([x0,x1,n8,x3,dem x4,x5,x6,x7,x8,x9,c6,c7,c8,c9,d0,d1,d2,d3,d4,d5,d6,d7,d8,d9,f0,f1,f2,f3,f4,f5,f6,f7,f8,f9,g0,g1,g2,g3,g4,g5,g6,g7,g8,g9,i0,i1,i2,i3,i4,i5,i6,i7,i8,i9,j0,j1,j2,j3,j4,j5,c5,j6,j7,j8,j9,k0,k1,k2,k3,k4,k5,k6,k7,k8,k9,l0,l1,l2,l3,l4,l5,l6,l7,l8,l9,m0,m1,m2,m3,m4,m5,m6,m7,m8,m9,n0,n1,n2,n3,n4,b,c,d,f,g,i,k,l,m,n,o,p,q,r,s,t,u,w,x,y,z,A,B,C,D,E,F,G,H,I,J,K,L,M,N,P,Q,R,U,c4,V,W,x4,dem x4,dem v2,v3,dem v3,v5,v6,v7,dem v8,v9,n6,n7,n5,dem n8,b1,b2,b3,b4,b5,b6,b7,b8,b9,c0,c1,c2,c3], o0)) ()) ()) ()) ()) ()) ()) ()) ()) ()) ()) ()) := by
 refine sP Try.f19 18 0 (v := x4) ?_
 refine sP Try.f19 18 1 (v := x4) ?_
 refine sG Try.f19 18 2 (j := 1) (fun v2 S1 => ?_)
 refine sD Try.f19 18 3 (fun v3 S2 => ?_)
 refine sP Try.f19 18 4 (v := v3) ?_
 refine sG Try.f19 18 5 (j := 4) (fun v5 S3 => ?_)
 refine sG Try.f19 18 6 (j := 4) (fun v6 S4 => ?_)
 refine sG Try.f19 18 7 (j := 4) (fun v7 S5 => ?_)
 refine sG Try.f19 18 8 (j := 4) (fun v8 S6 => ?_)
 refine sG Try.f19 18 9 (j := 8) (fun v9 S7 => ?_)
 refine sG Try.f19 18 10 (j := 8) (fun n6 S8 => ?_)
 refine sG Try.f19 18 11 (j := 8) (fun n7 S9 => ?_)
 refine sG Try.f19 18 12 (j := 4) (fun n5 n9 => ?_)
 refine sD Try.f19 18 13 (fun n8 o0 => ?_)
 refine sP Try.f19 18 14 (v := n8) ?_
 kernel_rfl
theorem zh.r19  : jE Try.prog ⟨false, false, false⟩ (jf Try.prog O) (reg Try.f19 19) (reg Try.f19 19).toList ([x0,x1,x2,x3,x4,x5,x6,x7,x8,x9,c6,c7,c8,c9,d0,d1,d2,d3,d4,d5,d6,d7,d8,d9,f0,f1,f2,f3,f4,f5,f6,f7,f8,f9,g0,g1,g2,g3,g4,g5,g6,g7,g8,g9,i0,i1,i2,i3,i4,i5,i6,i7,i8,i9,j0,j1,j2,j3,j4,j5,c5,j6,j7,j8,j9,k0,k1,k2,k3,k4,k5,k6,k7,k8,k9,l0,l1,l2,l3,l4,l5,l6,l7,l8,l9,m0,m1,m2,m3,m4,m5,m6,m7,m8,m9,n0,n1,n2,n3,n4,b,c,d,f,g,i,k,l,m,n,o,p,q,r,s,t,u,w,x,y,z,A,B,C,D,E,F,G,H,I,J,K,L,M,N,P,Q,R,U,c4,V,W,X,Y,Z,a0,a1,a2,a3,a4,a5,a6,a7,a8,a9,b0,b1,b2,b3,b4,b5,b6,b7,b8,b9,c0,c1,c2,c3]) S =
  (zM (jS Try.prog BinOp.eql 3 c5 (Value.int IntKind.i64 6) S) (fun v0 S1 => some ([x0,x1,x2,x3,x4,x5,x6,x7,x8,x9,c6,c7,c8,c9,d0,d1,d2,d3,d4,d5,d6,d7,d8,d9,f0,f1,f2,f3,f4,f5,f6,f7,f8,f9,g0,g1,g2,g3,g4,g5,g6,g7,g8,g9,i0,i1,i2,i3,i4,i5,i6,i7,i8,i9,j0,j1,j2,j3,j4,j5,c5,j6,j7,j8,j9,k0,k1,k2,k3,k4,k5,k6,k7,k8,k9,l0,l1,l2,l3,l4,l5,l6,l7,l8,l9,m0,m1,m2,m3,m4,m5,m6,m7,m8,m9,n0,n1,n2,n3,n4,b,c,d,f,g,i,k,l,m,n,o,p,q,r,s,t,u,w,x,y,z,A,B,C,D,E,F,G,H,I,J,K,L,M,N,P,Q,R,U,c4,V,W,X,Y,Z,a0,a1,a2,a3,a4,a5,a6,a7,a8,a9,b0,v0,dem v0,b3,b4,b5,b6,b7,b8,b9,c0,c1,c2,c3], S1)) ()) := by
 kernel_rfl
theorem zh.r20  : jE Try.prog ⟨false, false, false⟩ (jf Try.prog O) (reg Try.f19 20) (reg Try.f19 20).toList ([x0,x1,x2,x3,x4,x5,x6,x7,x8,x9,c6,c7,c8,c9,d0,d1,d2,d3,d4,d5,d6,d7,d8,d9,f0,f1,f2,f3,f4,f5,f6,f7,f8,f9,g0,g1,g2,g3,g4,g5,g6,g7,g8,g9,i0,i1,i2,i3,i4,i5,i6,i7,i8,i9,j0,j1,j2,j3,j4,j5,c5,j6,j7,j8,j9,k0,k1,k2,k3,k4,k5,k6,k7,k8,k9,l0,l1,l2,l3,l4,l5,l6,l7,l8,l9,m0,m1,m2,m3,m4,m5,m6,m7,m8,m9,n0,n1,n2,n3,n4,b,c,d,f,g,i,k,l,m,n,o,p,q,r,s,t,u,w,x,y,z,A,B,C,D,E,F,G,H,I,J,K,L,M,N,P,Q,R,U,c4,V,W,X,Y,Z,a0,a1,a2,a3,a4,a5,a6,a7,a8,a9,b0,b1,b2,b3,b4,b5,b6,b7,b8,b9,c0,c1,c2,c3]) S =
  (gdK (dem x4) true (zo Try.prog 30 x1 3) S (fun v2 S1 => gdK (dem x4) true (zV Try.prog false 3 v2) S1 (fun v3 S2 => gdK (dem x4) true (jS Try.prog BinOp.eql 3 v3 (Value.int IntKind.i64 0)) S2 (fun v4 S3 => zM (wH (dem x4) v4 (Value.bool false) S3) (fun v5 S4 => gdK (dem v5) true (zo Try.prog 30 x1 4) S4 (fun v7 S5 => gdK (dem v5) true (zV Try.prog false 3 v7) S5 (fun v8 S6 => gdK (dem v5) true ((jf Try.prog O) 48 [(dem v8)]) S6 (fun v9 S7 => zM (wH (dem v5) v9 (Value.bool false) S7) (fun n6 S8 => some ([x0,x1,n6,x3,dem x4,x5,x6,x7,x8,x9,c6,c7,c8,c9,d0,d1,d2,d3,d4,d5,d6,d7,d8,d9,f0,f1,f2,f3,f4,f5,f6,f7,f8,f9,g0,g1,g2,g3,g4,g5,g6,g7,g8,g9,i0,i1,i2,i3,i4,i5,i6,i7,i8,i9,j0,j1,j2,j3,j4,j5,c5,j6,j7,j8,j9,k0,k1,k2,k3,k4,k5,k6,k7,k8,k9,l0,l1,l2,l3,l4,l5,l6,l7,l8,l9,m0,m1,m2,m3,m4,m5,m6,m7,m8,m9,n0,n1,n2,n3,n4,b,c,d,f,g,i,k,l,m,n,o,p,q,r,s,t,u,w,x,y,z,A,B,C,D,E,F,G,H,I,J,K,L,M,N,P,Q,R,U,c4,V,W,X,Y,Z,a0,a1,a2,a3,a4,a5,a6,a7,a8,a9,b0,b1,b2,x4,dem x4,v2,v3,v4,v5,dem v5,v7,v8,v9,dem n6], S8)) ()) ()) ()) ()) ()) ()) ()) ()) := by
 refine sP Try.f19 20 0 (v := x4) ?_
 refine sP Try.f19 20 1 (v := x4) ?_
 refine sG Try.f19 20 2 (j := 1) (fun v2 S1 => ?_)
 refine sG Try.f19 20 3 (j := 1) (fun v3 S2 => ?_)
 refine sG Try.f19 20 4 (j := 1) (fun v4 S3 => ?_)
 refine sD Try.f19 20 5 (fun v5 S4 => ?_)
 refine sP Try.f19 20 6 (v := v5) ?_
 refine sG Try.f19 20 7 (j := 6) (fun v7 S5 => ?_)
 refine sG Try.f19 20 8 (j := 6) (fun v8 S6 => ?_)
 refine sG Try.f19 20 9 (j := 6) (fun v9 S7 => ?_)
 refine sD Try.f19 20 10 (fun n6 S8 => ?_)
 refine sP Try.f19 20 11 (v := n6) ?_
 kernel_rfl
theorem zh.r21  : jE Try.prog ⟨false, false, false⟩ (jf Try.prog O) (reg Try.f19 21) (reg Try.f19 21).toList ([x0,x1,x2,x3,x4,x5,x6,x7,x8,x9,c6,c7,c8,c9,d0,d1,d2,d3,d4,d5,d6,d7,d8,d9,f0,f1,f2,f3,f4,f5,f6,f7,f8,f9,g0,g1,g2,g3,g4,g5,g6,g7,g8,g9,i0,i1,i2,i3,i4,i5,i6,i7,i8,i9,j0,j1,j2,j3,j4,j5,c5,j6,j7,j8,j9,k0,k1,k2,k3,k4,k5,k6,k7,k8,k9,l0,l1,l2,l3,l4,l5,l6,l7,l8,l9,m0,m1,m2,m3,m4,m5,m6,m7,m8,m9,n0,n1,n2,n3,n4,b,c,d,f,g,i,k,l,m,n,o,p,q,r,s,t,u,w,x,y,z,A,B,C,D,E,F,G,H,I,J,K,L,M,N,P,Q,R,U,c4,V,W,X,Y,Z,a0,a1,a2,a3,a4,a5,a6,a7,a8,a9,b0,b1,b2,b3,b4,b5,b6,b7,b8,b9,c0,c1,c2,c3]) S =
  ( some ([x0,x1,Value.bool false,x3,x4,x5,x6,x7,x8,x9,c6,c7,c8,c9,d0,d1,d2,d3,d4,d5,d6,d7,d8,d9,f0,f1,f2,f3,f4,f5,f6,f7,f8,f9,g0,g1,g2,g3,g4,g5,g6,g7,g8,g9,i0,i1,i2,i3,i4,i5,i6,i7,i8,i9,j0,j1,j2,j3,j4,j5,c5,j6,j7,j8,j9,k0,k1,k2,k3,k4,k5,k6,k7,k8,k9,l0,l1,l2,l3,l4,l5,l6,l7,l8,l9,m0,m1,m2,m3,m4,m5,m6,m7,m8,m9,n0,n1,n2,n3,n4,b,c,d,f,g,i,k,l,m,n,o,p,q,r,s,t,u,w,x,y,z,A,B,C,D,E,F,G,H,I,J,K,L,M,N,P,Q,R,U,c4,V,W,X,Y,Z,a0,a1,a2,a3,a4,a5,a6,a7,a8,a9,b0,b1,b2,b3,b4,b5,b6,b7,b8,b9,c0,c1,c2,c3], S)) := by
 kernel_rfl
theorem zh.rs : type_of% (And.intro @zh.r0 (And.intro @zh.r1 (And.intro @zh.r2 (And.intro @zh.r3 (And.intro @zh.r4 (And.intro @zh.r5 (And.intro @zh.r6 (And.intro @zh.r7 (And.intro @zh.r8 (And.intro @zh.r9 (And.intro @zh.r10 (And.intro @zh.r11 (And.intro @zh.r12 (And.intro @zh.r13 (And.intro @zh.r14 (And.intro @zh.r15 (And.intro @zh.r16 (And.intro @zh.r17 (And.intro @zh.r18 (And.intro @zh.r19 (And.intro @zh.r20 (@zh.r21)))))))))))))))))))))) := And.intro @zh.r0 (And.intro @zh.r1 (And.intro @zh.r2 (And.intro @zh.r3 (And.intro @zh.r4 (And.intro @zh.r5 (And.intro @zh.r6 (And.intro @zh.r7 (And.intro @zh.r8 (And.intro @zh.r9 (And.intro @zh.r10 (And.intro @zh.r11 (And.intro @zh.r12 (And.intro @zh.r13 (And.intro @zh.r14 (And.intro @zh.r15 (And.intro @zh.r16 (And.intro @zh.r17 (And.intro @zh.r18 (And.intro @zh.r19 (And.intro @zh.r20 (@zh.r21)))))))))))))))))))))
theorem zh.runs {x0 : Value} {S S1 : zk} {e : AEx} {T : List Value} (h : zG Try.prog O false zh.code ([x0,undef,undef,undef,undef,undef,undef,undef,undef,undef,undef,undef,undef,undef,undef,undef,undef,undef,undef,undef,undef,undef,undef,undef,undef,undef,undef,undef,undef,undef,undef,undef,undef,undef,undef,undef,undef,undef,undef,undef,undef,undef,undef,undef,undef,undef,undef,undef,undef,undef,undef,undef,undef,undef,undef,undef,undef,undef,undef,undef,undef,undef,undef,undef,undef,undef,undef,undef,undef,undef,undef,undef,undef,undef,undef,undef,undef,undef,undef,undef,undef,undef,undef,undef,undef,undef,undef,undef,undef,undef,undef,undef,undef,undef,undef,undef,undef,undef,undef,undef,undef,undef,undef,undef,undef,undef,undef,undef,undef,undef,undef,undef,undef,undef,undef,undef,undef,undef,undef,undef,undef,undef,undef,undef,undef,undef,undef,undef,undef,undef,undef,undef,undef,undef,undef,undef,undef,undef,undef,undef,undef,undef,undef,undef,undef,undef,undef,undef,undef,undef,undef,undef,undef,undef,undef,undef,undef,undef,undef,undef,undef,undef,undef,undef,undef,undef,undef,undef,undef]) zk.empty = some (e, T, S1)) (he : e = .normal ∨ e = .ret) (hca : [x0].all (jB 16) = true) (hcv : jB 16 (T.getD 2 undef) = true) : jf Try.prog O 19 [x0] S = some (T.getD 2 undef, S) :=
 yc rfl rfl Try.func19 (by decide) zh.body (by exact h) he (yg (a := T.getD 2 undef) ((show zO Try.prog T S1 Try.f19.results.toList = zO Try.prog T S1 [(ResultVar.tmp 2)] from by kernel_rfl).trans (by simp only [zO])) (by kernel_rfl)) hca hcv
end Go.Proofs.Ytbgcphbbchndkaa
namespace Go.Proofs.Ytbgcphbbchndkaa
open Go.Abs
abbrev jg.id : FuncId := 48
noncomputable def jg.code : Code := (Code.seq (Code.region 0 (reg Try.f48 0) false) (Code.seq (Code.region 1 (reg Try.f48 1) false) (Code.seq (Code.region 2 (reg Try.f48 2) false) Code.ret)))
theorem jg.body : Try.f48.body = some jg.code := by kernel_rfl
variable (b r B u w x s y z A f g i k l m n o p : Value) (S : zk)
theorem jg.r0  : jE Try.prog ⟨false, false, false⟩ (jf Try.prog O) (reg Try.f48 0) (reg Try.f48 0).toList ([b,r,B,u,w,x,s,y,z,A,f,g,i,k,l,m,n,o,p]) S =
  ( some ([b,r,Value.bool false,u,w,x,s,y,z,A,f,g,i,k,l,m,n,o,p], S)) := by
 kernel_rfl
theorem jg.r1  : jE Try.prog ⟨false, false, false⟩ (jf Try.prog O) (reg Try.f48 1) (reg Try.f48 1).toList ([b,r,B,u,w,x,s,y,z,A,f,g,i,k,l,m,n,o,p]) S =
  (zM ((jf Try.prog O) 62 [(dem (dem b))] S) (fun c d => zM (zY c 0 d) (fun t C => zM (zY (jk 0 c) 1 C) (fun q D => zM (zY (jk 1 (jk 0 c)) 2 D) (fun E G => zM (zY (jk 2 (jk 1 (jk 0 c))) 3 G) (fun F H => some ([b,r,B,t,q,E,F,jk 3 (jk 2 (jk 1 (jk 0 c))),dem b,dem c,dem t,dem q,dem E,dem F,l,m,n,o,p], H)) ()) ()) ()) ()) ()) := by
 kernel_rfl
theorem jg.r2  : jE Try.prog ⟨false, false, false⟩ (jf Try.prog O) (reg Try.f48 2) (reg Try.f48 2).toList ([b,r,B,u,w,x,s,y,z,A,f,g,i,k,l,m,n,o,p]) S =
  (zM (jS Try.prog BinOp.eql 3 (dem b) (Value.int IntKind.i64 0) S) (fun c d => gdK (dem c) false (ret s) d (fun t C => zM (wH (dem c) (Value.bool true) (dem t) C) (fun q D => some ([b,r,q,u,w,x,s,y,z,A,f,g,i,k,dem b,c,dem c,dem t,dem q], D)) ()) ()) ()) := by
 refine sP Try.f48 2 0 (v := b) ?_
 refine sD Try.f48 2 1 (fun c d => ?_)
 refine sP Try.f48 2 2 (v := c) ?_
 refine sG Try.f48 2 3 (j := 2) (fun t C => ?_)
 refine sD Try.f48 2 4 (fun q D => ?_)
 refine sP Try.f48 2 5 (v := q) ?_
 kernel_rfl
theorem jg.rs : type_of% (And.intro @jg.r0 (And.intro @jg.r1 (@jg.r2))) := And.intro @jg.r0 (And.intro @jg.r1 (@jg.r2))
theorem jg.runs {b : Value} {S d : zk} {e : AEx} {T : List Value} (h : zG Try.prog O false jg.code ([b,undef,undef,undef,undef,undef,undef,undef,undef,undef,undef,undef,undef,undef,undef,undef,undef,undef,undef]) S = some (e, T, d)) (he : e = .normal ∨ e = .ret) : jf Try.prog O 48 [b] S = some (T.getD 2 undef, d) :=
 yQ rfl rfl Try.func48 (by decide) jg.body (by exact h) he (yg (a := T.getD 2 undef) ((show zO Try.prog T d Try.f48.results.toList = zO Try.prog T d [(ResultVar.tmp 2)] from by kernel_rfl).trans (by simp only [zO])) (by kernel_rfl))
end Go.Proofs.Ytbgcphbbchndkaa
namespace Go.Proofs.Ytbgcphbbchndkaa
open Go.Abs
abbrev jh.id : FuncId := 45
noncomputable def jh.code : Code := (Code.seq (Code.region 0 (reg Try.f45 0) false) (Code.seq (Code.region 1 (reg Try.f45 1) false) Code.ret))
theorem jh.body : Try.f45.body = some jh.code := by kernel_rfl
variable (b d k g i j : Value) (S : zk)
theorem jh.r0  : jE Try.prog ⟨false, false, false⟩ (jf Try.prog O) (reg Try.f45 0) (reg Try.f45 0).toList ([b,d,k,g,i,j]) S =
  (zM (vV (dem b) S) (fun f c => some ([b,f,Value.bool false,g,i,j], c)) ()) := by
 kernel_rfl
theorem jh.r1  : jE Try.prog ⟨false, false, false⟩ (jf Try.prog O) (reg Try.f45 1) (reg Try.f45 1).toList ([b,d,k,g,i,j]) S =
  (zM (zV Try.prog false 28 d S) (fun f c => zM (kS Try.prog 28 [] c) (fun l n => zM ((jf Try.prog O) 31 [(dem f), (dem l)] n) (fun m o => some ([b,d,m,f,l,dem m], o)) ()) ()) ()) := by
 kernel_rfl
theorem jh.rs : type_of% (And.intro @jh.r0 (@jh.r1)) := And.intro @jh.r0 (@jh.r1)
theorem jh.runs {b : Value} {S c : zk} {e : AEx} {T : List Value} (h : zG Try.prog O false jh.code ([b,undef,undef,undef,undef,undef]) zk.empty = some (e, T, c)) (he : e = .normal ∨ e = .ret) (hca : [b].all (jB 16) = true) (hcv : jB 16 (T.getD 2 undef) = true) : jf Try.prog O 45 [b] S = some (T.getD 2 undef, S) :=
 yc rfl rfl Try.func45 (by decide) jh.body (by exact h) he (yg (a := T.getD 2 undef) ((show zO Try.prog T c Try.f45.results.toList = zO Try.prog T c [(ResultVar.tmp 2)] from by kernel_rfl).trans (by simp only [zO])) (by kernel_rfl)) hca hcv
end Go.Proofs.Ytbgcphbbchndkaa
