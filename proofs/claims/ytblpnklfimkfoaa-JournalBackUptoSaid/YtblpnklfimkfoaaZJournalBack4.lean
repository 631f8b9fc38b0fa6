/-
The law JournalBack returns true for every input that holds together at most 1048576 values and letters (each counted as often as it is reached), and leaves it as it was. Condition: that bound, the second form's (UptoSaid); nothing else. Part 4 of 5 of the texts (put together by a program: own names are short, what isn't needed is left out).
-/
import Derived.Test.YtblpnklfimkfoaaZJournalBack3
import Derived.KernelRfl
import Derived.Test.YtblpnklfimkfoaaChecked
set_option linter.unusedVariables false
set_option linter.unusedSimpArgs false
set_option maxRecDepth 100000
namespace Go.Abs
open Go.RowKit
def Zf (P : Program) (call : FuncId → List Value → M Value) : Prop := ∀ g args aargs S v S', call g args S = some (v, S') → ∀ μ H ω, GI μ S H → L0 μ H args aargs → Dom μ H ω → (∀ r s, ω r = some s → s = .ext) →
 ∃ a H' μ' ω', lim P g aargs H = some (a, H') ∧ GI μ' S' H' ∧ Later μ H μ' H' ∧ Kept ω H ω' H' ∧ Dom μ' H' ω' ∧ VV μ' H' ω' (some (.res none)) v a
section
variable {P : Program} {call : FuncId → List Value → M Value} {μ : Mu} {ω : Nat → Option wo} {S S' H : zi} {T A : List Value}
theorem acp (hc : Zf P call) {g : FuncId} {args aargs : List Value} {v : Value} (hG : GI μ S H) (hT : TI μ H ω T A) (h : call g args S = some (v, S')) (ha : L0 μ H args aargs) : Out μ ω H A T S' v (lim P g aargs H) := by
 obtain ⟨a, H', μ', ω', h1, h2, h3, h4, h5, h6⟩ := hc g args aargs S v S' h μ H (fun r => (ω r).map fun _ => .ext) hG ha (fun r s hs => by
  cases hr : ω r with
  | none => simp [hr] at hs
  | some s0 => exact hT.dom r s0 hr) (fun r s hs => by
  cases hr : ω r with
  | none => simp [hr] at hs
  | some s0 => simp [hr] at hs; exact hs.symm)
 have kept : ∀ r s, ω r = some s → ω' r = some .ext ∧ H'.get r = H.get r := fun r s hs => h4 r (by dsimp only; rw [hs]; rfl)
 refine ⟨a, H', μ', fun r => match ω' r with | some .ext => ω r | some (.slot _ _) => none | x => x, h1, h2, h3, fun r hr => ?_, fun r s hs => ?_, hT.len, fun i => ?_, ?_⟩
 ·
  obtain ⟨k1, k2⟩ := kept r _ hr
  exact ⟨by (try dsimp only); rw [k1]; exact hr, k2⟩
 ·
  dsimp only at hs
  cases hr : ω' r with
  | none => rw [hr] at hs; cases hs
  | some s0 =>
   have := h5 r s0 hr
   exact this
 ·
  refine (hT.slots i).later h3 (K := fun _ => True) (fun _ _ _ _ _ => trivial) (fun r s _ hr => ?_) (fun _ _ => trivial)
  obtain ⟨k1, k2⟩ := kept r s hr
  exact ⟨by (try dsimp only); rw [k1]; exact hr, k2⟩
 ·
  refine h6.later (Later.refl _ _) (K := fun s => ∃ j, s = .res j) (fun s i t ⟨j, hj⟩ ht => by subst hj; cases j <;> cases ht; exact ⟨_, rfl⟩) (fun r s ⟨j, hj⟩ hr => ?_) (fun s hs => by cases hs; exact ⟨_, rfl⟩)
  subst hj
  exact ⟨by (try dsimp only); rw [hr], rfl⟩
def vY (t : Nat) : wo → Option wo
 | .slot i j => if i = t then some (.res j) else some (.slot i j)
 | s => some s
def ZV (t k : Nat) : wo → Option wo
 | .slot i (some j) => if i = t ∧ j = k then some (.res none) else some (.slot i (some j))
 | s => some s
theorem KW {x : Operand} (hG : GI μ S H) (hT : TI μ H ω T A) (hx : wR x = true) : Out μ ω H A (jG T x) S (zJ T x) (some (zJ A x, H)) := by
 cases x with
 | const v => exact Out.same hG hT (VV.jH hx)
 | global g => cases hx
 | func f => exact Out.same hG hT (hT.eval (x := .func f) rfl)
 | tmp t =>
  refine ⟨_, H, μ, fun r => (ω r).bind (vY t), rfl, hG, Later.refl μ H, fun r hr => ⟨by dsimp only; rw [hr]; rfl, rfl⟩, fun r s hs => ?_, by simp [jG, wQ, hT.len], fun i => ?_, ?_⟩
  ·
   dsimp only at hs
   cases hr : ω r with
   | none => rw [hr] at hs; cases hs
   | some s0 => exact hT.dom r s0 hr
  ·
   dsimp only [jG, wQ]
   rw [wz]
   by_cases hi : i = t
   ·
    subst hi
    by_cases hlt : i < T.length
    ·
     rw [if_pos ⟨rfl, hlt⟩]
     exact (hT.slots i).v0.at0
    ·
     rw [if_neg (fun h => hlt h.2)]
     rw [List.getD_eq_getElem?_getD, List.getElem?_eq_none (Nat.le_of_not_lt hlt), List.getD_eq_getElem?_getD, List.getElem?_eq_none (by rw [← hT.len]; omega)]
     exact .nores
   ·
    rw [if_neg (fun h => hi h.1)]
    refine (hT.slots i).YP (fun _ => rfl) _ (fun s hs => ?_)
    cases hs
    refine ⟨_, rfl, by simp only [vY]; rw [if_neg hi], fun k t' ht => ?_⟩
    cases ht
    exact ⟨_, rfl, by simp only [vY]; rw [if_neg hi]⟩
  ·
   refine (hT.slots t).YP (fun _ => rfl) _ (fun s hs => ?_)
   cases hs
   refine ⟨_, rfl, by simp only [vY, if_true], fun k t' ht => ?_⟩
   cases ht
   exact ⟨_, rfl, by simp only [vY, if_true]⟩
theorem getD_modify (vs : Array Value) (i k : Nat) (f : Value → Value) (hf : f undef = undef) : (vs.modify i f).getD k undef = if k = i then f (vs.getD k undef) else vs.getD k undef := by
 rw [Array.getD_eq_getD_getElem?, Array.getD_eq_getD_getElem?, Array.getElem?_modify]
 by_cases h : i = k
 ·
  subst h
  rw [if_pos rfl, if_pos rfl]
  cases vs[i]? with
  | none => exact hf.symm
  | some v => rfl
 ·
  rw [if_neg h, if_neg (fun e => h e.symm)]
theorem VV.part {ω' : Nat → Option wo} {ℓ ℓ' : Option wo} {v a : Value} (h : VV μ H ω ℓ v a) (hℓ : ∀ s, ℓ = some s → ∀ k, s.comp k = none) : VV μ H ω' ℓ' (Go.Abs.yX v) a := by
 by_cases ht : ∃ x, v = .tuple x
 ·
  obtain ⟨x, rfl⟩ := ht
  show VV μ H ω' ℓ' (.tuple x) a
  cases h with
  | sg hs => simp [Go.Abs.sg] at hs
  | nores => exact .nores
  | tuple hx hh =>
   refine .tuple hx fun i => ?_
   have := hh i
   cases ℓ with
   | none => exact this.at0
   | some s =>
    have e : (some s).bind (·.comp i) = none := hℓ s rfl i
    rw [e] at this
    exact this.at0
 ·
  have e : Go.Abs.dem v = Go.Abs.yX v := by
   cases v <;> first | rfl | exact absurd ⟨_, rfl⟩ ht
  rw [← e]
  exact h.v0.at0
def Zz (T : List Value) (i : Nat) : Operand → List Value
 | .tmp t => T.set t (zK i (T.getD t undef))
 | _ => T
theorem QK {x : Operand} {i : Nat} {v : Value} (hG : GI μ S H) (hT : TI μ H ω T A) (hx : wR x = true) (h : zC (zJ T x) i S = some (v, S')) :
  Out μ ω H A (Zz T i x) S' v (zC (zJ A x) i H) := by
 cases x with
 | const w =>
  exfalso
  unfold zC at h
  split at h
  ·
   rename_i vs he
   simp only [zJ] at he
   subst he
   simp [wR, ground, Go.Abs.sg] at hx
  ·
   cases h
 | global g => cases hx
 | func f => simp [zJ, zC] at h
 | tmp t =>
  simp only [zJ, Zz] at h ⊢
  unfold zC at h
  split at h
  ·
   rename_i vs hvs
   split at h <;> first | (cases h; done) | skip
   rename_i w hw
   cases h
   have hs := hT.slots t
   rw [hvs] at hs
   have hil : i < vs.size := (Array.getElem?_eq_some_iff.1 hw).1
   have hlt : t < T.length := by
    rcases Nat.lt_or_ge t T.length with h | h
    ·
     exact h
    ·
     rw [List.getD_eq_getElem?_getD, List.getElem?_eq_none h] at hvs
     cases hvs
     simp at hil
   generalize hA : A.getD t undef = at' at hs
   cases hs with
   | sg hs => simp [Go.Abs.sg] at hs
   | nores => simp at hil
   | @tuple _ _ y hxs hxx =>
    have hiy : i < y.size := by rw [← hxs]; exact hil
    have hrun : zC (.tuple y) i H = some (y[i], H) := by simp only [zC, Array.getElem?_eq_getElem hiy]
    rw [hrun]
    have hcomp := hxx i
    rw [Array.getD_eq_getD_getElem?, hw, Array.getD_eq_getD_getElem?, Array.getElem?_eq_getElem hiy] at hcomp
    simp only [Option.getD_some] at hcomp
    refine ⟨_, H, μ, fun r => (ω r).bind (ZV t i), rfl, hG, Later.refl μ H, fun r hr => ⟨by dsimp only; rw [hr]; rfl, rfl⟩, fun r s hs => ?_, by simp [hT.len], fun k => ?_, ?_⟩
    ·
     dsimp only at hs
     cases hr : ω r with
     | none => rw [hr] at hs; cases hs
     | some s0 => exact hT.dom r s0 hr
    ·
     rw [wz]
     by_cases hk : k = t
     ·
      subst hk
      rw [if_pos ⟨rfl, hlt⟩, hA, hvs]
      simp only [zK]
      refine .tuple (by simpa using hxs) fun j => ?_
      rw [getD_modify _ _ _ _ rfl]
      by_cases hj : j = i
      ·
       subst hj
       rw [if_pos rfl]
       exact (hxx j).part (fun s hs k => by cases hs; rfl)
      ·
       rw [if_neg hj]
       refine (hxx j).YP (fun _ => rfl) _ (fun s hs => ?_)
       cases hs
       refine ⟨_, rfl, by simp only [ZV]; rw [if_neg (fun e => hj e.2)], fun a b hb => by cases hb⟩
     ·
      rw [if_neg (fun e => hk e.1)]
      refine (hT.slots k).YP (fun _ => rfl) _ (fun s hs => ?_)
      cases hs
      refine ⟨_, rfl, rfl, fun a b hb => ?_⟩
      cases hb
      exact ⟨_, rfl, by simp only [ZV]; rw [if_neg (fun e => hk e.1)]⟩
    ·
     refine hcomp.YP (fun _ => rfl) _ (fun s hs => ?_)
     cases hs
     exact ⟨_, rfl, by simp [ZV], fun a b hb => by cases hb⟩
  ·
   cases h
theorem aeL (hT : TI μ H ω T A) : ∀ (xs : List Operand), xs.all wR = true → L0 μ H (xs.map fun x => dem (zJ T x)) (xs.map (zJ A)) := by
 intro xs h
 exact LV.map fun x hx => hT.eval (List.all_eq_true.1 h x hx)
theorem Jb {xs : List Operand} (hT : TI μ H ω T A) (h : xs.all wR = true) (hg : (xs.map (zJ T)).all ground = true) : xs.map (zJ A) = xs.map (zJ T) := by
 apply List.map_congr_left
 intro x hx
 exact zU (hT.eval (List.all_eq_true.1 h x hx)) (List.all_eq_true.1 hg _ (List.mem_map.2 ⟨x, hx, rfl⟩))
theorem ac6 {o : Oper} (h : hands o = false) (hc : ∀ c, o.op ≠ .call c) : moved o T = T := by
 unfold moved
 unfold hands at h
 split <;> first | rfl | (rename_i he; exact absurd he (hc _)) | (rename_i he; rw [he] at h; cases h)
theorem acy {fx : Fx} (hc : Zf P call) {o : Oper} {v : Value} (hG : GI μ S H) (hT : TI μ H ω T A) (h : jJ P fx call T o S = some (v, S')) : Out μ ω H A (moved o T) S' v (jL P (lim P) A o H) := by
 unfold jJ at h
 split at h <;> first | (cases h; done) | skip
 rename_i hok
 unfold jL
 rw [if_pos hok]
 have hargs : o.op.operands.toList.all wR = true := hok
 have hev : ∀ x ∈ o.op.operands.toList, V0 μ H (dem (zJ T x)) (zJ A x) := fun x hx => hT.eval (List.all_eq_true.1 hargs x hx)
 have hoka : ∀ x ∈ o.op.operands.toList, wR x = true := fun x hx => List.all_eq_true.1 hargs x hx
 obtain ⟨dst, op, type, pos, after, guard⟩ := o
 by_cases hcall : ∃ c, op = .call c
 ·
  obtain ⟨c, rfl⟩ := hcall
  dsimp only at h hev hoka hargs ⊢
  have hcargs : c.args.toList.all wR = true := by
   rw [List.all_eq_true]
   intro x hx
   refine hoka x ?_
   simp only [Op.operands, Call.operands]
   cases c.callee <;> simp <;> first | exact .inr (by simpa using hx) | exact (by simpa using hx)
  cases hcal : c.callee with
  | value f =>
   rw [hcal] at h
   dsimp only at h ⊢
   have hf := hev f (by simp [Op.operands, Call.operands, hcal])
   split at h <;> first | (cases h; done) | skip
   rename_i g first captured hfe
   rw [hfe] at hf
   have hf : V0 μ H (.func (.func g) first captured) (zJ A f) := hf
   generalize hfa : zJ A f = fa at hf
   cases hf with
   | sg hs => simp [Go.Abs.sg] at hs
   | func _ hx hcs h1 h2 =>
    rename_i x' c'
    dsimp only
    have l1 : L0 μ H first.toList x'.toList := ⟨by simpa using hx, fun i => by rw [getD_toList, getD_toList]; exact h1 i⟩
    have l2 : L0 μ H captured.toList c'.toList := ⟨by simpa using hcs, fun i => by rw [getD_toList, getD_toList]; exact h2 i⟩
    have hm : moved ⟨dst, .call c, type, pos, after, guard⟩ T = T := by simp only [moved, hcal]
    rw [hm]
    exact acp hc hG hT h ((l1.append (aeL hT _ hcargs)).append l2)
  | invoke r m => rw [hcal] at h; cases h
  | builtin b =>
   rw [hcal] at h
   dsimp only at h ⊢
   unfold WM at h
   unfold yF
   cases b <;> dsimp only at h ⊢ <;> first | (cases h; done) | skip
   case len =>
    split at h <;> first | (cases h; done) | skip
    rename_i t x0 ht ha
    obtain ⟨x, hx, rfl⟩ : ∃ x, c.args.toList = [x] ∧ zJ T x = x0 := by
     match hl : c.args.toList with
     | [] => rw [hl] at ha; cases ha
     | [y] => rw [hl] at ha; simp at ha; exact ⟨y, rfl, ha⟩
     | y :: z :: w => rw [hl] at ha; simp at ha
    have hm : moved ⟨dst, .call c, type, pos, after, guard⟩ T = T := by simp only [moved, hcal]
    rw [hm, ht, hx]
    rw [hx] at hcargs
    obtain ⟨rfl, a, h1, h2⟩ := aaQ h (hT.eval (List.all_eq_true.1 hcargs x (by simp)))
    simp only [List.map_cons, List.map_nil]
    rw [h1]
    exact Out.same hG hT h2
   case append =>
    split at h <;> first | (cases h; done) | skip
    rename_i t tx s0 x0 ht ha
    obtain ⟨so, x, hx, rfl, rfl⟩ : ∃ so x, c.args.toList = [so, x] ∧ zJ T so = s0 ∧ zJ T x = x0 := by
     match hl : c.args.toList with
     | [] => rw [hl] at ha; cases ha
     | [y] => rw [hl] at ha; simp at ha
     | [y, z] => rw [hl] at ha; simp at ha; exact ⟨y, z, rfl, ha.1, ha.2⟩
     | y :: z :: w :: u => rw [hl] at ha; simp at ha
    rw [hx] at hcargs
    have hso := List.all_eq_true.1 hcargs so (by simp)
    have hm : moved ⟨dst, .call c, type, pos, after, guard⟩ T = jG T so := by
     simp only [moved, hcal, hx]
     cases so <;> rfl
    rw [hm, ht, hx]
    exact XZ hG hT hso h (hT.eval (List.all_eq_true.1 hcargs x (by simp)))
   case copy =>
    split at h <;> first | (cases h; done) | skip
    rename_i t tx s0 x0 ht ha
    obtain ⟨so, x, hx, rfl, rfl⟩ : ∃ so x, c.args.toList = [so, x] ∧ zJ T so = s0 ∧ zJ T x = x0 := by
     match hl : c.args.toList with
     | [] => rw [hl] at ha; cases ha
     | [y] => rw [hl] at ha; simp at ha
     | [y, z] => rw [hl] at ha; simp at ha; exact ⟨y, z, rfl, ha.1, ha.2⟩
     | y :: z :: w :: u => rw [hl] at ha; simp at ha
    rw [hx] at hcargs
    have hm : moved ⟨dst, .call c, type, pos, after, guard⟩ T = T := by simp only [moved, hcal]
    rw [hm, ht, hx]
    exact acr hG hT h (hT.eval (List.all_eq_true.1 hcargs so (by simp))) (hT.eval (List.all_eq_true.1 hcargs x (by simp)))
   case clear =>
    split at h <;> first | (cases h; done) | skip
    rename_i t x0 ht ha
    obtain ⟨x, hx, rfl⟩ : ∃ x, c.args.toList = [x] ∧ zJ T x = x0 := by
     match hl : c.args.toList with
     | [] => rw [hl] at ha; cases ha
     | [y] => rw [hl] at ha; simp at ha; exact ⟨y, rfl, ha⟩
     | y :: z :: w => rw [hl] at ha; simp at ha
    have hm : moved ⟨dst, .call c, type, pos, after, guard⟩ T = T := by simp only [moved, hcal]
    rw [hm, ht, hx]
    rw [hx] at hcargs
    exact abx hG hT h (hT.eval (List.all_eq_true.1 hcargs x (by simp)))
   case min =>
    obtain ⟨rfl, hg, hga, hh⟩ := jB (H := H) h
    have hm : moved ⟨dst, .call c, type, pos, after, guard⟩ T = T := by simp only [moved, hcal]
    rw [hm, Jb hT hcargs hga, hh]
    exact Out.same hG hT (V0.ground hg)
   case max =>
    obtain ⟨rfl, hg, hga, hh⟩ := jB (H := H) h
    have hm : moved ⟨dst, .call c, type, pos, after, guard⟩ T = T := by simp only [moved, hcal]
    rw [hm, Jb hT hcargs hga, hh]
    exact Out.same hG hT (V0.ground hg)
 ·
  have hnc : ∀ c, op ≠ .call c := fun c hc => hcall ⟨c, hc⟩
  have hV : vOp P fx (zJ T) ⟨dst, op, type, pos, after, guard⟩ S = some (v, S') := by
   cases op <;> first | exact h | exact absurd rfl (hnc _)
  suffices hs : Out μ ω H A (moved ⟨dst, op, type, pos, after, guard⟩ T) S' v (aOp P (zJ A) ⟨dst, op, type, pos, after, guard⟩ H) by
   cases op <;> first | exact hs | exact absurd rfl (hnc _)
  by_cases hh : hands ⟨dst, op, type, pos, after, guard⟩ = true
  ·
   cases op <;> first | (cases hh; done) | skip
   case move x =>
    cases hV
    have := KW hG hT (hoka x (by simp [Op.operands]))
    have hm : moved ⟨dst, .move x, type, pos, after, guard⟩ T = jG T x := by cases x <;> rfl
    rw [hm]; exact this
   case assign x =>
    cases hV
    have := KW hG hT (hoka x (by simp [Op.operands]))
    have hm : moved ⟨dst, .assign x, type, pos, after, guard⟩ T = jG T x := by cases x <;> rfl
    rw [hm]; exact this
   case extract x i =>
    have := QK hG hT (hoka x (by simp [Op.operands])) hV
    have hm : moved ⟨dst, .extract x i, type, pos, after, guard⟩ T = (Zz T i x) := by cases x <;> rfl
    rw [hm]; exact this
  ·
   have hh : hands ⟨dst, op, type, pos, after, guard⟩ = false := by simpa using hh
   rw [ac6 hh hnc]
   by_cases hch : kF P ⟨dst, op, type, pos, after, guard⟩ = false
   ·
    obtain ⟨rfl, a, h1, h2, h3⟩ := YU hV hch hev (.inr hG) (.inr hG)
    rw [h1]
    exact Out.same hG hT (h3 hh)
   ·
    unfold vOp at hV
    unfold aOp
    cases op <;> dsimp only at hV hev ⊢ <;> first | (cases hV; done) | (exact absurd rfl hch) | (cases hh; done) | skip
    case alloc e => exact VE hG hT hV
    case box x _ => exact aeH hG hT hV (hev x (by simp [Op.operands]))
    case buildSlice t len parts _ =>
     have hps := Qm (μ := μ) (H := H) (parts := parts.toList) (ρ := zJ T) (ρA := zJ A) fun p hp => hev p.2 (by simp [Op.operands]; exact ⟨p.1, by simpa using hp⟩)
     split at hV
     ·
      exact QF hG hT hV hps
     ·
      exact JX hG hT hV hps
    case makeMap t r _ => exact Kq hG hT hV (fun h => by cases r <;> simp at h ⊢)
    case mapUpdate t x k w _ => exact WW hG hT hV (hev x (by simp [Op.operands])) (hev k (by simp [Op.operands])) (hev w (by simp [Op.operands]))
    case store a x _ => exact aaw hG hT hV (hev a (by simp [Op.operands])) (hev x (by simp [Op.operands]))
    case makeSlice l c _ =>
     split at hV
     ·
      exact Ko hG hT hV (hev l (by simp [Op.operands])) (hev c (by simp [Op.operands]))
     ·
      exact WT hG hT hV (hev l (by simp [Op.operands])) (hev c (by simp [Op.operands]))
    case convert dst' x _ =>
     have hd : ∃ e, P.underlying dst' = some (.slice e) := by
      unfold kF at hch
      dsimp only at hch
      split at hch
      ·
       exact ⟨_, by assumption⟩
      ·
       exact absurd rfl hch
     obtain ⟨e, hd⟩ := hd
     cases x with
     | tmp t => exact Ja hG hT hV (hT.slots t) hd
     | const w => exact Ja hG hT hV (VV.jH (ℓ := none) (hoka (.const w) (by simp [Op.operands]))) hd
     | global g => have := hoka (.global g) (by simp [Op.operands]); cases this
     | func f => exact Ja hG hT hV (ℓ := none) ((hT.eval (x := .func f) rfl).at0) hd
theorem V4 {ops : Array Oper} (hT : TI μ H ω T A) (j : Nat) : ynd ops T j = ynd ops A j := by
 unfold ynd
 cases hd : (ops[j]?).bind (·.dst) with
 | none => rfl
 | some d =>
  simp only [Option.bind_some]
  have := hT.slots d
  have e := hT.len
  by_cases hlt : d < T.length
  ·
   have hlt' : d < A.length := by rw [← e]; exact hlt
   simp only [List.getD_eq_getElem?_getD, List.getElem?_eq_getElem hlt, List.getElem?_eq_getElem hlt', Option.getD_some] at this
   rw [List.getElem?_eq_getElem hlt, List.getElem?_eq_getElem hlt']
   generalize T[d] = u at *
   generalize A[d] = u' at *
   cases this <;> rfl
  ·
   have hlt' : A.length ≤ d := by rw [← e]; exact Nat.le_of_not_lt hlt
   rw [List.getElem?_eq_none (Nat.le_of_not_lt hlt), List.getElem?_eq_none hlt']
theorem TI.moved (hT : TI μ H ω T A) (o : Oper) : TI μ H ω (moved o T) A := by
 have slot : ∀ t, TI μ H ω (wQ T t) A := by
  intro t
  refine ⟨by simp [wQ, hT.len], fun i => ?_, hT.dom, hT.nores⟩
  rw [wQ, wz]
  split
  ·
   rename_i h; rw [h.1]; exact (hT.slots t).dem
  ·
   exact hT.slots i
 unfold Go.Abs.moved
 split
 ·
  exact slot _
 ·
  exact slot _
 ·
  rename_i t i _
  refine ⟨by simp [hT.len], fun k => ?_, hT.dom, hT.nores⟩
  rw [wz]
  split
  ·
   rename_i h
   rw [h.1]
   have := hT.slots t
   generalize T.getD t undef = w at this
   cases w with
   | tuple vs =>
    simp only [zK]
    generalize A.getD t undef = a at this
    cases this with
    | sg hs => simp [Go.Abs.sg] at hs
    | nores => rw [show (#[] : Array Value).modify i Go.Abs.yX = #[] by simp]; exact .nores
    | @tuple _ _ y hxs hxx =>
     refine .tuple (by simpa using hxs) fun j => ?_
     rw [getD_modify _ _ _ _ rfl]
     by_cases hj : j = i
     ·
      subst hj
      rw [if_pos rfl]
      exact (hxx j).part (fun s hs k => by cases hs; rfl)
     ·
      rw [if_neg hj]; exact hxx j
   | _ => exact this
  ·
   exact hT.slots k
 ·
  split
  ·
   exact slot _
  ·
   exact hT
 ·
  exact hT
def After (μ : Mu) (ω : Nat → Option wo) (H : zi) (T' : List Value) (S' : zi) (R : Option (List Value × zi)) : Prop :=
 ∃ A' H' μ' ω', R = some (A', H') ∧ GI μ' S' H' ∧ Later μ H μ' H' ∧ Kept ω H ω' H' ∧ TI μ' H' ω' T' A'
theorem Xv {fx : Fx} (hc : Zf P call) {o : Oper} {rest : List Oper} {v : Value} (hG : GI μ S H) (hT : TI μ H ω T A) (h : jJ P fx call T o S = some (v, S')) :
  ∃ a H' μ' ω', jL P (lim P) A o H = some (a, H') ∧ GI μ' S' H' ∧ Later μ H μ' H' ∧ Kept ω H ω' H' ∧ TI μ' H' ω' (qJ o rest T v) (Za A o.dst a) := by
 unfold qJ
 split
 ·
  rename_i hl
  have hm : ∃ x, o.op = .move x := by
   unfold aga at hl
   split at hl
   ·
    rename_i x _ he _; exact ⟨x, he⟩
   ·
    cases hl
  obtain ⟨x, hx⟩ := hm
  unfold jJ at h
  split at h <;> first | (cases h; done) | skip
  rename_i hok
  have hox : wR x = true := List.all_eq_true.1 (show o.op.operands.toList.all wR = true from hok) x (by rw [hx]; simp [Op.operands])
  rw [hx] at h
  dsimp only at h
  unfold vOp at h
  rw [hx] at h
  cases h
  have ha : jL P (lim P) A o H = some (zJ A x, H) := by
   unfold jL
   rw [if_pos hok, hx]
   dsimp only
   unfold aOp
   rw [hx]
   rfl
  rw [ha]
  exact (Out.same hG hT (hT.eval hox)).put o.dst
 ·
  exact (acy hc hG hT h).put o.dst
theorem ZH {o : Oper} {rest : List Oper} (hG : GI μ S H) (hT : TI μ H ω T A) : ∃ μ' ω', GI μ' S H ∧ Later μ H μ' H ∧ Kept ω H ω' H ∧ TI μ' H ω' (qJ o rest T undef) (Za A o.dst undef) := by
 unfold qJ
 split
 ·
  rw [show dem undef = undef from kN]
  obtain ⟨a, H1, μ1, ω1, h1, h2, h3, h4, h5⟩ := (Out.same hG hT (VV.undef)).put o.dst
  cases h1
  exact ⟨μ1, ω1, h2, h3, h4, h5⟩
 ·
  obtain ⟨a, H1, μ1, ω1, h1, h2, h3, h4, h5⟩ := (Out.same hG (hT.moved o) (VV.undef)).put o.dst
  cases h1
  exact ⟨μ1, ω1, h2, h3, h4, h5⟩
theorem aep {fx : Fx} (hc : Zf P call) {ops : Array Oper} : ∀ (l : List Oper) (T T' A : List Value) (S S' H : zi) (μ : Mu) (ω : Nat → Option wo), je P fx call ops l T S = some (T', S') → GI μ S H → TI μ H ω T A → After μ ω H T' S' (QH P (lim P) ops l A H) := by
 intro l
 induction l with
 | nil =>
  intro T T' A S S' H μ ω h hG hT
  simp only [je, Option.some.injEq, Prod.mk.injEq] at h
  obtain ⟨rfl, rfl⟩ := h
  exact ⟨A, H, μ, ω, rfl, hG, Later.refl _ _, Kept.refl _ _, hT⟩
 | cons o l ih =>
  intro T T' A S S' H μ ω h hG hT
  have hy : (ynd ops T) = ynd ops A := funext fun j => V4 hT j
  simp only [je] at h
  simp only [QH, ← hy]
  split at h
  ·
   rename_i hw
   split at h
   ·
    rename_i v S1 hs
    obtain ⟨a, H1, μ1, ω1, h1, h2, h3, h4, h5⟩ := Xv (rest := l) hc hG hT hs
    obtain ⟨A2, H2, μ2, ω2, k1, k2, k3, k4, k5⟩ := ih _ _ _ _ _ _ _ _ h h2 h5
    refine ⟨A2, H2, μ2, ω2, ?_, k2, h3.trans k3, h4.trans k4, k5⟩
    rw [if_pos hw, h1]
    exact k1
   ·
    cases h
  ·
   rename_i hw
   obtain ⟨μ1, ω1, h2, h3, h4, h5⟩ := ZH (o := o) (rest := l) hG hT
   obtain ⟨A2, H2, μ2, ω2, k1, k2, k3, k4, k5⟩ := ih _ _ _ _ _ _ _ _ h h2 h5
   refine ⟨A2, H2, μ2, ω2, ?_, k2, h3.trans k3, h4.trans k4, k5⟩
   rw [if_neg hw]
   exact k1
end
end Go.Abs
namespace Go.Abs
open Go.RowKit
section
variable {P : Program} {call : FuncId → List Value → M Value} {μ μ2 : Mu} {S S' G H H2 : zi} {T A : List Value}
theorem ku.two {s : M Value} (hs : ku s) {a : Value} {G' : zi} (h : s G = some (a, G')) : ∀ H, s H = some (a, H) := by
 obtain ⟨o, ho⟩ := hs
 rw [ho] at h
 cases o with
 | none => cases h
 | some w =>
  simp only [Option.map_some, Option.some.injEq, Prod.mk.injEq] at h
  intro H
  rw [ho, h.1]; rfl
theorem Kw {t : TypeId} {ps : List (Nat × Value)} : ku (yC P t ps) := by
 refine ⟨(yC P t ps zi.empty).map (·.1), fun H => ?_⟩
 unfold yC
 split
 ·
  split
  ·
   split
   ·
    split
    ·
     split <;> rfl
    ·
     rfl
   ·
    split
    ·
     split <;> rfl
    ·
     rfl
   ·
    rfl
  ·
   rfl
 ·
  rfl
theorem JR {x : Value} : ku (yJ x) := by
 refine ⟨(yJ x zi.empty).map (·.1), fun H => ?_⟩
 unfold yJ
 split <;> rfl
theorem Q5 {t : TypeId} {x i : Value} : ku (qo P t x i) := by
 unfold qo
 refine ⟨(qo P t x i zi.empty).map (·.1), fun H => ?_⟩
 unfold qo
 dsimp only
 split
 ·
  split
  ·
   split
   ·
    split <;> rfl
   ·
    rfl
  ·
   rfl
 ·
  obtain ⟨o, ho⟩ := jS (P := P) _ _
  rw [ho, ho]
  cases o <;> rfl
 ·
  rfl
theorem abA {t : TypeId} {x : Value} (hx : ∀ m, x ≠ .map m) : ku (Qg P t x) := by
 refine ⟨(Qg P t x zi.empty).map (·.1), fun H => ?_⟩
 unfold Qg
 split <;> first | rfl | exact absurd rfl (hx _)
theorem Jl {d : Nat} {v : Value} (h : okq d v = true) : okq d (dem v) = true := by
 cases v with
 | iface k v => cases d <;> rfl
 | tuple vs => cases d <;> cases h
 | _ => exact h
theorem Z9 : ∀ (d : Nat) {v a : Value}, okq d v = true → V0 μ H v a → Vt d a a = true := by
 intro d
 induction d with
 | zero =>
  intro v a h hv
  cases hv <;> first | (cases h; done) | (simp [Vt]; done) | skip
  rename_i hs
  cases v <;> first | (simp [Vt]; done) | (simp [Go.Abs.sg] at hs; done) | skip
 | succ d ih =>
  intro v a h hv
  cases hv <;> first | (cases h; done) | (simp [Vt]; done) | skip
  ·
   rename_i hs
   cases v <;> first | (simp [Vt]; done) | (simp [Go.Abs.sg] at hs; done) | skip
  ·
   rename_i x x' hx hh
   unfold Vt
   simp only [decide_true, Bool.true_and]
   rw [List.all_eq_true]
   intro p hp
   obtain ⟨i, hi, he⟩ := List.mem_iff_getElem.1 hp
   simp only [List.length_zip, Nat.min_self] at hi
   rw [List.getElem_zip] at he
   subst he
   have hi' : i < x'.size := by simpa using hi
   have hi2 : i < x.size := by rw [hx]; exact hi'
   have h2 := hh i
   rw [Array.getD_eq_getD_getElem?, Array.getElem?_eq_getElem hi2, Array.getD_eq_getD_getElem?, Array.getElem?_eq_getElem hi'] at h2
   have h3 : okq d x[i] = true := List.all_eq_true.1 (show x.toList.all (okq d) = true from h) _ (by simp)
   have := ih h3 h2
   simpa using this
theorem Xh (x : Value) : WQ (dem x) = WQ x := by cases x <;> rfl
theorem adk {fx : Fx} {o : Oper} {v : Value} (hdr : fx.dr = true) (h : jJ P fx call T o S = some (v, S')) (hn : kF P o = false) (hr : yM o = false) (ho : ∀ x ∈ o.op.operands.toList, V0 μ G (dem (zJ T x)) (zJ A x)) :
  ∃ a, V0 μ G (dem v) a ∧ ∀ H, aOp P (zJ A) o H = some (a, H) ∧ jL P (lim P) A o H = some (a, H) := by
 have hrm : yw o = false := by
  unfold yM at hr
  unfold yw
  split <;> simp_all
 unfold jJ at h
 split at h <;> first | (cases h; done) | skip
 rename_i hok
 obtain ⟨dst, op, type, pos, after, guard⟩ := o
 by_cases hcall : ∃ c, op = .call c
 ·
  obtain ⟨c, rfl⟩ := hcall
  dsimp only at h ho
  unfold kF at hn
  dsimp only at hn
  have hcargs : ∀ x ∈ c.args.toList, V0 μ G (dem (zJ T x)) (zJ A x) := by
   intro x hx
   refine ho x ?_
   simp only [Op.operands, Call.operands]
   cases c.callee <;> simp <;> first | exact .inr (by simpa using hx) | exact (by simpa using hx)
  have step : ∀ {b : Builtin} (a : Value), c.callee = .builtin b → (∀ H, yF P b c.argTypes type (c.args.toList.map (zJ A)) H = some (a, H)) → ∀ H, aOp P (zJ A) ⟨dst, .call c, type, pos, after, guard⟩ H = some (a, H) ∧ jL P (lim P) A ⟨dst, .call c, type, pos, after, guard⟩ H = some (a, H) := by
   intro b a hb hall H
   constructor
   ·
    unfold aOp; dsimp only; rw [hb]; exact hall H
   ·
    unfold jL; rw [if_pos hok]; dsimp only; rw [hb]; exact hall H
  cases hcal : c.callee with
  | value f => rw [hcal] at hn; cases hn
  | invoke r m => rw [hcal] at hn; cases hn
  | builtin b =>
   rw [hcal] at h
   dsimp only at h
   unfold WM at h
   rw [hcal] at hn
   have gargs : (c.args.toList.map (zJ T)).all ground = true → c.args.toList.map (zJ A) = c.args.toList.map (zJ T) := by
    intro hg
    apply List.map_congr_left
    intro x hx
    exact zU (hcargs x hx) (List.all_eq_true.1 hg _ (List.mem_map.2 ⟨x, hx, rfl⟩))
   cases b <;> dsimp only at h hn <;> first | (cases h; done) | (cases hn; done) | skip
   case len =>
    split at h <;> first | (cases h; done) | skip
    rename_i t x0 ht ha
    obtain ⟨x, hx, rfl⟩ : ∃ x, c.args.toList = [x] ∧ zJ T x = x0 := by
     match hl : c.args.toList with
     | [] => rw [hl] at ha; cases ha
     | [y] => rw [hl] at ha; simp at ha; exact ⟨y, rfl, ha⟩
     | y :: z :: w => rw [hl] at ha; simp at ha
    have hxv := hcargs x (by rw [hx]; simp)
    obtain ⟨rfl, a, h1, h2⟩ := aaQ h hxv
    have hmap : ∀ m, zJ A x ≠ .map m := by
     intro m hm
     rw [hm] at hxv
     generalize hu : dem (zJ T x) = u at hxv
     have hum : ∃ m', u = .map m' := by cases hxv <;> exact ⟨_, rfl⟩
     obtain ⟨m', rfl⟩ := hum
     have : zJ T x = .map m' := by
      cases hv : zJ T x <;> rw [hv] at hu <;> simp [dem, yX] at hu <;> rw [hu]
     rw [this] at h
     simp [qA] at h
    refine ⟨a, h2.dem, step a hcal fun H => ?_⟩
    unfold yF
    dsimp only
    rw [ht, hx]
    exact (abA hmap).two h1 H
   case min =>
    obtain ⟨rfl, hg, hga, hh⟩ := jB (H := G) h
    refine ⟨v, (V0.ground hg).dem, step v hcal fun H => ?_⟩
    unfold yF
    dsimp only
    rw [gargs hga]
    exact (jS _ _).two hh H
   case max =>
    obtain ⟨rfl, hg, hga, hh⟩ := jB (H := G) h
    refine ⟨v, (V0.ground hg).dem, step v hcal fun H => ?_⟩
    unfold yF
    dsimp only
    rw [gargs hga]
    exact (jS _ _).two hh H
 ·
  have hnc : ∀ c, op ≠ .call c := fun c hc => hcall ⟨c, hc⟩
  have hV : vOp P fx (zJ T) ⟨dst, op, type, pos, after, guard⟩ S = some (v, S') := by
   cases op <;> first | exact h | exact absurd rfl (hnc _)
  obtain ⟨rfl, a, h1, h2, h3⟩ := YU (ρA := zJ A) hV hn ho (.inl (Zw hrm)) (.inl hdr)
  have hA : ∀ H, jL P (lim P) A ⟨dst, op, type, pos, after, guard⟩ H = aOp P (zJ A) ⟨dst, op, type, pos, after, guard⟩ H := by
   intro H
   unfold jL
   rw [if_pos hok]
   cases op <;> first | rfl | exact absurd rfl (hnc _)
  refine ⟨a, h2, fun H => ?_⟩
  rw [hA]
  have key : aOp P (zJ A) ⟨dst, op, type, pos, after, guard⟩ H = some (a, H) := by
   have hf : ku (aOp P (zJ A) ⟨dst, op, type, pos, after, guard⟩) := by
    unfold kF at hn
    unfold yM at hr
    unfold aOp
    unfold vOp at hV
    cases op <;> dsimp only at hn hr hV ⊢ <;> first | (cases hn; done) | (cases hr; done) | (cases hV; done) | skip
    ·
     exact Jy _
    ·
     exact Jy _
    ·
     exact Vg _ _ _
    ·
     exact Kw
    ·
     exact JR
    ·
     exact Qj _ _ _ _
    ·
     exact abZ _ _
    ·
     exact Jy _
    ·
     exact JC _ _ _
    ·
     exact QL _ _ _
    ·
     exact JJ _ _ _
    ·
     exact Q5
    ·
     exact WU _ _
   exact hf.two h1 H
  exact ⟨key, key⟩
theorem abC {t : TypeId} {r o e : Nat} {l : List Value} {own own' : Own} {a : Value} (hg : G.get r = some (.cells l own e)) (hg' : H2.get r = some (.cells l own' e)) (h : wG P t (.pointer (some ⟨r, o, none⟩)) G = some (a, G)) :
  wG P t (.pointer (some ⟨r, o, none⟩)) H2 = some (a, H2) := by
 simp only [wG, hg] at h
 simp only [wG, hg']
 (repeat' split at h) <;> first | (cases h; done) | skip
 all_goals simp_all
theorem VV.backed {v : Value} {r o n c : Nat} (h : V0 μ G v (.slice (some ⟨r, o, none⟩) n c)) (hv : WQ v = false) : ∃ l own e, r < G.next ∧ ZI μ r ∧ G.get r = some (.cells l own e) := by
 cases h with
 | sg hs => simp [Go.Abs.sg] at hs
 | slm hm => simp [WQ] at hv
 | sl hr hp hg _ _ _ => exact ⟨_, _, _, hr, hp, hg⟩
theorem XI {x : Value} {n : Nat} {cs : List Value} (hx : ∀ r o n c, x = .slice (some ⟨r, o, none⟩) n c → ∃ l own own' e, G.get r = some (.cells l own e) ∧ H2.get r = some (.cells l own' e)) (h : wC x n G = some cs) : wC x n H2 = some cs := by
 unfold wC at h ⊢
 split at h
 ·
  rename_i r o k c
  obtain ⟨l, own, own', e, hg, hg'⟩ := hx _ _ _ _ rfl
  rw [hg] at h
  rw [hg']
  exact h
 ·
  exact h
 ·
  exact h
 ·
  cases h
theorem Vz {src dst : TypeId} {x a : Value} (hd : ∀ e, P.underlying dst ≠ some (.slice e)) (hx : ∀ r o n c, x = .slice (some ⟨r, o, none⟩) n c → ∃ l own own' e, G.get r = some (.cells l own e) ∧ H2.get r = some (.cells l own' e)) (h : jK P src dst x G = some (a, G)) :
  jK P src dst x H2 = some (a, H2) := by
 unfold jK at h ⊢
 split at h
 ·
  rename_i b n c
  (try dsimp only)
  split at h
  ·
   rename_i e hs hdd
   split at h <;> first | (cases h; done) | skip
   rename_i he
   split at h <;> first | (cases h; done) | skip
   rename_i cs hcs
   rw [XI hx hcs]
   (try dsimp only)
   split at h <;> first | (cases h; done) | skip
   rename_i bs hbs
   (try rw [hbs])
   cases h
   rfl
  ·
   rename_i e0 e hs hdd
   exact absurd hdd (hd e)
  ·
   cases h
 ·
  rename_i s
  (try dsimp only)
  split at h
  ·
   rename_i d e hs hdd
   exact absurd hdd (hd e)
  ·
   exact (jS _ _).two h H2
 ·
  exact (jS _ _).two h H2
theorem XB {t : TypeId} {x a : Value} {lo hi : Option Value} (hx : ∀ r o n c, x = .slice (some ⟨r, o, none⟩) n c → ∃ l own own' e, G.get r = some (.cells l own e) ∧ H2.get r = some (.cells l own' e)) (h : wZ P t x lo hi G = some (a, G)) :
  wZ P t x lo hi H2 = some (a, H2) := by
 unfold wZ at h ⊢
 split at h
 ·
  rename_i s hu
  exact (jS _ _).two h H2
 ·
  rename_i e b n c hu
  (try dsimp only)
  split at h <;> first | (cases h; done) | skip
  rename_i size l hh hs hl hhi
  (try simp only [hs, hl, hhi])
  split at h <;> first | (cases h; done) | skip
  rename_i c0
  split at h <;> first | (cases h; done) | skip
  rename_i c1
  split at h <;> first | (cases h; done) | skip
  rename_i c2
  rw [if_pos c0, if_pos c1, if_pos c2]
  split at h
  ·
   split at h <;> first | (cases h; done) | skip
   rename_i hn
   cases h
   rw [if_pos hn]
  ·
   rename_i r o
   obtain ⟨l2, own, own', e2, hg, hg'⟩ := hx _ _ _ _ rfl
   rw [hg] at h
   rw [hg']
   dsimp only at h ⊢
   split at h <;> first | (cases h; done) | skip
   rename_i he
   rw [if_pos he]
   cases h
   rfl
  ·
   split at h <;> first | (cases h; done) | skip
   rename_i hn
   cases h
   rw [if_pos hn]
  ·
   cases h
 ·
  cases h
theorem XM {t : TypeId} {r o : Nat} {a : Value} {G' : zi} (hg : H2.get r = G.get r) (h : wG P t (.pointer (some ⟨r, o, none⟩)) G = some (a, G')) : wG P t (.pointer (some ⟨r, o, none⟩)) H2 = some (a, H2) := by
 simp only [wG] at h ⊢
 rw [hg]
 (repeat' split at h) <;> first | (cases h; done) | skip
 all_goals simp_all
theorem Y5 {t : TypeId} {x k : Value} {ok : Bool} {a : Value} {G' : zi} (hg : ∀ r, x = .map (some r) → H2.get r = G.get r) (h : jD P t x k ok G = some (a, G')) : jD P t x k ok H2 = some (a, H2) := by
 have e : ∀ H : zi, jD P t x k ok H = (jD P t x k ok H).map (fun r => (r.1, H)) := by
  intro H
  unfold jD
  (try dsimp only)
  (repeat' split) <;> rfl
 have e2 : (jD P t x k ok H2).map (·.1) = (jD P t x k ok G).map (·.1) := by
  cases x with
  | map b =>
   cases b with
   | none => unfold jD; dsimp only; (repeat' split) <;> rfl
   | some r =>
    unfold jD
    dsimp only
    rw [hg r rfl]
    (repeat' split) <;> rfl
  | _ => unfold jD; (try dsimp only) <;> (try ((repeat' split) <;> rfl))
 rw [h] at e2
 rw [e H2]
 cases hh : jD P t x k ok H2 with
 | none => rw [hh] at e2; cases e2
 | some w =>
  rw [hh] at e2
  simp only [Option.map_some, Option.some.injEq] at e2 ⊢
  rw [e2]
theorem aem {fx : Fx} {o : Oper} {v : Value} (hdr : fx.dr = true) (h : jJ P fx call T o S = some (v, S')) (hn : kF P o = false) (hm : qP (zJ T) o) (ho : ∀ x ∈ o.op.operands.toList, V0 μ G (dem (zJ T x)) (zJ A x)) (hL : Later μ G μ2 H2) :
  ∃ a, V0 μ G (dem v) a ∧ aOp P (zJ A) o G = some (a, G) ∧ aOp P (zJ A) o H2 = some (a, H2) ∧ jL P (lim P) A o G = some (a, G) ∧ jL P (lim P) A o H2 = some (a, H2) := by
 by_cases hr : yM o = false
 ·
  obtain ⟨a, h1, h2⟩ := adk hdr h hn hr ho
  exact ⟨a, h1, (h2 G).1, (h2 H2).1, (h2 G).2, (h2 H2).2⟩
 ·
  unfold jJ at h
  split at h <;> first | (cases h; done) | skip
  rename_i hok
  obtain ⟨dst, op, type, pos, after, guard⟩ := o
  unfold yM at hr
  cases op <;> dsimp only at h hr <;> first | (exact absurd rfl hr) | skip
  case load t addr =>
   obtain ⟨rfl, a, h1, h2, h3⟩ := YU (ρA := zJ A) h hn ho (.inl hm) (.inl hdr)
   have hA : ∀ H, jL P (lim P) A ⟨dst, .load t addr, type, pos, after, guard⟩ H = aOp P (zJ A) ⟨dst, .load t addr, type, pos, after, guard⟩ H := fun H => by unfold jL; rw [if_pos hok]
   have key : aOp P (zJ A) ⟨dst, .load t addr, type, pos, after, guard⟩ H2 = some (a, H2) := by
    have hx := ho addr (by simp [Op.operands])
    have h : ji P fx.nm t (zJ T addr) S' = some (v, S') := h
    unfold aOp at h1 ⊢
    dsimp only at h1 ⊢
    unfold ji at h
    split at h
    ·
     rename_i k cs he
     split at h <;> first | (cases h; done) | skip
     rename_i hk
     subst hk
     rw [he] at hx
     have hx : V0 μ G (.iface 3 (.agg cs)) (zJ A addr) := hx
     generalize hq : zJ A addr = q at hx h1 ⊢
     cases hx with
     | sg hs => simp [Go.Abs.sg] at hs
     | ep hr hp hg hl hc =>
      obtain ⟨own', hg'⟩ := hL.cells _ _ _ _ hr hp hg
      exact abC hg hg' h1
    ·
     rename_i ad he
     exact absurd he (hm ad)
    ·
     cases h
   exact ⟨a, h2, h1, key, by rw [hA]; exact h1, by rw [hA]; exact key⟩
  case convert src d x =>
   obtain ⟨rfl, a, h1, h2, h3⟩ := YU (ρA := zJ A) h hn ho (.inl hm) (.inl hdr)
   have hA : ∀ H, jL P (lim P) A ⟨dst, .convert src d x, type, pos, after, guard⟩ H = aOp P (zJ A) ⟨dst, .convert src d x, type, pos, after, guard⟩ H := fun H => by unfold jL; rw [if_pos hok]
   have key : aOp P (zJ A) ⟨dst, .convert src d x, type, pos, after, guard⟩ H2 = some (a, H2) := by
    have hx := ho x (by simp [Op.operands])
    unfold aOp at h1 ⊢
    dsimp only at h1 ⊢
    refine Vz (fun e he => ?_) (fun r o n c hq => ?_) h1
    ·
     unfold kF at hn
     dsimp only at hn
     rw [he] at hn; cases hn
    ·
     rw [hq] at hx
     have hh : WQ (dem (zJ T x)) = false := by
      rw [Xh]
      have h : jO P fx.hp fx.dr src d (zJ T x) S' = some (v, S') := h
      unfold jO at h
      split at h
      ·
       first | (cases h; done) | (rw [hdr] at h; simp at h)
      ·
       rename_i hh; simpa using hh
     obtain ⟨l, own, e, hr, hp, hg⟩ := hx.backed hh
     obtain ⟨own', hg'⟩ := hL.cells _ _ _ _ hr hp hg
     exact ⟨l, own, own', e, hg, hg'⟩
   exact ⟨a, h2, h1, key, by rw [hA]; exact h1, by rw [hA]; exact key⟩
  case slice t x lo hi mx =>
   obtain ⟨rfl, a, h1, h2, h3⟩ := YU (ρA := zJ A) h hn ho (.inl hm) (.inl hdr)
   have hA : ∀ H, jL P (lim P) A ⟨dst, .slice t x lo hi mx, type, pos, after, guard⟩ H = aOp P (zJ A) ⟨dst, .slice t x lo hi mx, type, pos, after, guard⟩ H := fun H => by unfold jL; rw [if_pos hok]
   have key : aOp P (zJ A) ⟨dst, .slice t x lo hi mx, type, pos, after, guard⟩ H2 = some (a, H2) := by
    have hx := ho x (by simp [Op.operands])
    unfold aOp at h1 ⊢
    cases mx with
    | some m => cases h1
    | none =>
     dsimp only at h1 ⊢
     refine XB (fun r o n c hq => ?_) h1
     rw [hq] at hx
     have hh : WQ (dem (zJ T x)) = false := by
      rw [Xh]
      have h : wB P fx.dr t (zJ T x) (lo.map (zJ T)) (hi.map (zJ T)) S' = some (v, S') := h
      unfold wB at h
      split at h
      ·
       first | (cases h; done) | (rw [hdr] at h; simp at h)
      ·
       rename_i hh; simpa using hh
     obtain ⟨l, own, e, hr, hp, hg⟩ := hx.backed hh
     obtain ⟨own', hg'⟩ := hL.cells _ _ _ _ hr hp hg
     exact ⟨l, own, own', e, hg, hg'⟩
   exact ⟨a, h2, h1, key, by rw [hA]; exact h1, by rw [hA]; exact key⟩
  case lookup t x k ok =>
   exact hm.elim
end
end Go.Abs
namespace Go.Abs
open Go.RowKit
structure Line (P : Program) (fx : Fx) (chk : List Nat) (call : FuncId → List Value → M Value) (ops : Array Oper) (k0 : Nat) (l : List Oper) (Ts As : Nat → List Value) (Ss Hs : Nat → zi) (μs : Nat → Mu) (ωs : Nat → Nat → Option wo) (vs zf : Nat → Value) : Prop where
  inv : ∀ k, k ≤ l.length → GI (μs k) (Ss k) (Hs k) ∧ TI (μs k) (Hs k) (ωs k) (Ts k) (As k)
  step : ∀ k o, l[k]? = some o → Later (μs k) (Hs k) (μs (k + 1)) (Hs (k + 1)) ∧ Kept (ωs k) (Hs k) (ωs (k + 1)) (Hs (k + 1)) ∧
    ((Region.wanted o (ynd ops (As k)) = true ∧ jJ P fx call (Ts k) o (Ss k) = some (vs k, Ss (k + 1)) ∧ jL P (lim P) (As k) o (Hs k) = some (zf k, Hs (k + 1)) ∧
        Ts (k + 1) = qJ o (l.drop (k + 1)) (Ts k) (vs k) ∧ As (k + 1) = Za (As k) o.dst (zf k) ∧ (chk.contains (k0 + k) = true → okq 3 (vs k) = true)) ∨
     (Region.wanted o (ynd ops (As k)) = false ∧ zf k = undef ∧ Ts (k + 1) = qJ o (l.drop (k + 1)) (Ts k) undef ∧ As (k + 1) = Za (As k) o.dst undef ∧ Hs (k + 1) = Hs k))
section
variable {P : Program} {call : FuncId → List Value → M Value}
theorem aey {fx : Fx} {chk : List Nat} {nl : List (Nat × Nat)} (hc : Zf P call) {ops : Array Oper} : ∀ (l : List Oper) (k0 : Nat) (hist : List (Value × zi)) (T T' A : List Value) (S S' H : zi) (μ : Mu) (ω : Nat → Option wo), jv P fx chk nl call ops k0 hist l T S = some (T', S') → GI μ S H → TI μ H ω T A →
    ∃ Ts As Ss Hs μs ωs vs zf tr, Line P fx chk call ops k0 l Ts As Ss Hs μs ωs vs zf ∧ Ts 0 = T ∧ As 0 = A ∧ Ss 0 = S ∧ Hs 0 = H ∧ μs 0 = μ ∧ ωs 0 = ω ∧ Ts l.length = T' ∧ Ss l.length = S' ∧
      wP P (lim P) ops l A H = some (tr, As l.length, Hs l.length) ∧ (∀ k, k < l.length → tr[k]? = some (As k, Hs k, zf k)) ∧ (∀ k, k ≤ l.length → (tr.map (·.2.1) ++ [Hs l.length])[k]? = some (Hs k)) ∧
      ∃ hs : List (Value × zi), hs.length = l.length ∧ (∀ k o, l[k]? = some o → hs[k]? = some (qZ (Ts k) o, Ss k)) ∧ (nl.isEmpty = false → nl.all (Xa (hist ++ hs ++ [(undef, S')])) = true) := by
  intro l
  induction l with
  | nil =>
    intro k0 hist T T' A S S' H μ ω h hG hT
    simp only [jv] at h
    split at h <;> first | (cases h; done) | skip
    rename_i hst
    cases h
    refine ⟨fun _ => T, fun _ => A, fun _ => S, fun _ => H, fun _ => μ, fun _ => ω, fun _ => undef, fun _ => undef, [], ⟨fun k _ => ⟨hG, hT⟩, fun k o ho => by simp at ho⟩, rfl, rfl, rfl, rfl, rfl, rfl, rfl, rfl, rfl, fun k hk => by simp at hk, fun k hk => ?_, [], rfl, fun k o ho => by simp at ho, fun he => ?_⟩
    · have : k = 0 := by simpa using hk
      subst this
      rfl
    · simpa [yS, he] using hst
  | cons o l ih =>
    intro k0 hist T T' A S S' H μ ω h hG hT
    have hy : (ynd ops T) = ynd ops A := funext fun j => V4 hT j
    simp only [jv] at h
    have glue : ∀ (T1 A1 : List Value) (S1 H1 : zi) (μ1 : Mu) (ω1 : Nat → Option wo) (v a : Value), jv P fx chk nl call ops (k0 + 1) (yS nl hist (qZ T o) S) l T1 S1 = some (T', S') → GI μ1 S1 H1 → TI μ1 H1 ω1 T1 A1 → Later μ H μ1 H1 → Kept ω H ω1 H1 →
        ((Region.wanted o (ynd ops A) = true ∧ jJ P fx call T o S = some (v, S1) ∧ jL P (lim P) A o H = some (a, H1) ∧ T1 = qJ o l T v ∧ A1 = Za A o.dst a ∧ (chk.contains k0 = true → okq 3 v = true)) ∨
         (Region.wanted o (ynd ops A) = false ∧ a = undef ∧ T1 = qJ o l T undef ∧ A1 = Za A o.dst undef ∧ H1 = H)) →
        (∀ tr A2 H2, wP P (lim P) ops l A1 H1 = some (tr, A2, H2) → wP P (lim P) ops (o :: l) A H = some ((A, H, a) :: tr, A2, H2)) →
        ∃ Ts As Ss Hs μs ωs vs zf tr, Line P fx chk call ops k0 (o :: l) Ts As Ss Hs μs ωs vs zf ∧ Ts 0 = T ∧ As 0 = A ∧ Ss 0 = S ∧ Hs 0 = H ∧ μs 0 = μ ∧ ωs 0 = ω ∧ Ts (o :: l).length = T' ∧ Ss (o :: l).length = S' ∧
          wP P (lim P) ops (o :: l) A H = some (tr, As (o :: l).length, Hs (o :: l).length) ∧ (∀ k, k < (o :: l).length → tr[k]? = some (As k, Hs k, zf k)) ∧ (∀ k, k ≤ (o :: l).length → (tr.map (·.2.1) ++ [Hs (o :: l).length])[k]? = some (Hs k)) ∧
          ∃ hs : List (Value × zi), hs.length = (o :: l).length ∧ (∀ k o', (o :: l)[k]? = some o' → hs[k]? = some (qZ (Ts k) o', Ss k)) ∧ (nl.isEmpty = false → nl.all (Xa (hist ++ hs ++ [(undef, S')])) = true) := by
      intro T1 A1 S1 H1 μ1 ω1 v a hrest hG1 hT1 hL hK hstep htr
      obtain ⟨Ts, As, Ss, Hs, μs, ωs, vs, zf, tr, hline, e1, e2, e3, e4, e5, e6, e7, e8, e9, e10, e11, hs, e12, e13, e14⟩ := ih _ _ _ _ _ _ _ _ _ _ hrest hG1 hT1
      refine ⟨fun k => match k with | 0 => T | k + 1 => Ts k, fun k => match k with | 0 => A | k + 1 => As k, fun k => match k with | 0 => S | k + 1 => Ss k, fun k => match k with | 0 => H | k + 1 => Hs k,
        fun k => match k with | 0 => μ | k + 1 => μs k, fun k => match k with | 0 => ω | k + 1 => ωs k, fun k => match k with | 0 => v | k + 1 => vs k, fun k => match k with | 0 => a | k + 1 => zf k, (A, H, a) :: tr,
        ⟨fun k hk => ?_, fun k o' ho => ?_⟩, rfl, rfl, rfl, rfl, rfl, rfl, e7, e8, htr _ _ _ e9, fun k hk => ?_, fun k hk => ?_, (qZ T o, S) :: hs, by simp [e12], fun k o' ho => ?_, fun he => ?_⟩
      · cases k with
        | zero => exact ⟨hG, hT⟩
        | succ k => exact hline.inv k (by simpa using hk)
      · cases k with
        | zero =>
          simp only [List.getElem?_cons_zero, Option.some.injEq] at ho
          subst ho
          dsimp only
          rw [e1, e2, e3, e4, e5, e6]
          exact ⟨hL, hK, hstep⟩
        | succ k =>
          have := hline.step k o' (by simpa using ho)
          rw [show k0 + 1 + k = k0 + (k + 1) by omega] at this
          exact this
      · cases k with
        | zero => rfl
        | succ k => simpa using e10 k (by simpa using hk)
      · cases k with
        | zero => rfl
        | succ k => simpa using e11 k (by simpa using hk)
      · cases k with
        | zero =>
          simp only [List.getElem?_cons_zero, Option.some.injEq] at ho
          subst ho
          rfl
        | succ k => simpa using e13 k o' (by simpa using ho)
      · have := e14 he
        rw [show yS nl hist (qZ T o) S = hist ++ [(qZ T o, S)] by simp [yS, he]] at this
        simpa using this
    split at h
    · rename_i hw
      split at h
      · rename_i v S1 hs
        split at h <;> first | (cases h; done) | skip
        rename_i hchk
        obtain ⟨a, H1, μ1, ω1, h1, h2, h3, h4, h5⟩ := Xv (rest := l) hc hG hT hs
        have hw' : Region.wanted o (ynd ops A) = true := by rw [← hy]; exact hw
        refine glue _ _ _ H1 μ1 ω1 v a h h2 h5 h3 h4 (.inl ⟨hw', hs, h1, rfl, rfl, fun hk => ?_⟩) (fun tr A2 H2 ht => ?_)
        · rw [hk] at hchk; simpa using hchk
        · simp only [wP, hw', if_true, h1, ht]
      · cases h
    · rename_i hw
      obtain ⟨μ1, ω1, h2, h3, h4, h5⟩ := ZH (o := o) (rest := l) hG hT
      have hw' : Region.wanted o (ynd ops A) = false := by rw [← hy]; simpa using hw
      refine glue _ _ _ H μ1 ω1 undef undef h h2 h5 h3 h4 (.inr ⟨hw', rfl, rfl, rfl, rfl⟩) (fun tr A2 H2 ht => ?_)
      simp only [wP, hw', ht]
      rfl
variable {fx : Fx} {chk : List Nat} {ops : Array Oper} {k0 : Nat} {l : List Oper} {Ts As : Nat → List Value} {Ss Hs : Nat → zi} {μs : Nat → Mu} {ωs : Nat → Nat → Option wo} {vs zf : Nat → Value}
theorem Line.later (hl : Line P fx chk call ops k0 l Ts As Ss Hs μs ωs vs zf) {i : Nat} : ∀ (d : Nat), i + d ≤ l.length → Later (μs i) (Hs i) (μs (i + d)) (Hs (i + d)) := by
 intro d
 induction d with
 | zero => intro _; exact Later.refl _ _
 | succ d ih =>
  intro hd
  have ho : l[i + d]? = some l[i + d] := List.getElem?_eq_getElem (by omega)
  exact (ih (by omega)).trans (hl.step (i + d) _ ho).1
theorem Line.kept (hl : Line P fx chk call ops k0 l Ts As Ss Hs μs ωs vs zf) : ∀ (d : Nat), d ≤ l.length → Kept (ωs 0) (Hs 0) (ωs d) (Hs d) := by
 intro d
 induction d with
 | zero => intro _; exact Kept.refl _ _
 | succ d ih =>
  intro hd
  have ho : l[d]? = some l[d] := List.getElem?_eq_getElem (by omega)
  exact (ih (by omega)).trans (hl.step d _ ho).2.1
theorem QX (i : Nat) (w : Value) : dem (zK i w) = dem w := by
 cases w with
 | tuple vs =>
  simp only [zK, dem]
  congr 1
  apply Array.ext (by simp)
  intro k h1 h2
  rw [Array.getElem_map, Array.getElem_map, Array.getElem_modify]
  split
  ·
   have : ∀ v, yX (yX v) = yX v := by
    intro v
    cases v with
    | iface k v =>
     simp only [yX]
     by_cases h : k = 2
     ·
      rw [if_pos h, if_neg (by decide)]
     ·
      rw [if_neg h, if_neg h]
    | _ => rfl
   exact this _
  ·
   rfl
 | _ => rfl
theorem Qh (o : Oper) (T : List Value) (t : Nat) : dem ((moved o T).getD t undef) = dem (T.getD t undef) := by
 have slot : ∀ t', dem ((wQ T t').getD t undef) = dem (T.getD t undef) := by
  intro t'
  rw [wQ, wz]
  split
  ·
   rename_i h; rw [h.1, Yh]
  ·
   rfl
 unfold moved
 split
 ·
  exact slot _
 ·
  exact slot _
 ·
  rw [wz]
  split
  ·
   rename_i h; rw [h.1, QX]
  ·
   rfl
 ·
  split
  ·
   exact slot _
  ·
   rfl
 ·
  rfl
theorem moved_length (o : Oper) (T : List Value) : (moved o T).length = T.length := by
 unfold moved
 split <;> first | simp [wQ] | rfl | skip
 split <;> first | simp [wQ] | rfl
theorem Qr {o : Oper} {rest : List Oper} {T : List Value} {v : Value} (hd : o.dst = none) (t : Nat) : dem ((qJ o rest T v).getD t undef) = dem (T.getD t undef) := by
 unfold qJ
 rw [hd]
 split
 ·
  rfl
 ·
  exact Qh o T t
theorem Qo {o : Oper} {rest : List Oper} {T : List Value} {v : Value} {d : Nat} (hd : o.dst = some d) (t : Nat) : dem ((qJ o rest T v).getD t undef) = if t = d ∧ d < T.length then dem v else dem (T.getD t undef) := by
 unfold qJ
 rw [hd]
 split
 ·
  simp only [Za]
  rw [wz]
  split
  ·
   exact Yh v
  ·
   rfl
 ·
  simp only [Za]
  rw [wz, moved_length]
  split
  ·
   rfl
  ·
   exact Qh o T t
def Clear (μ : Mu) (G : zi) (bad : List Nat) (T A : List Value) : Prop := ∀ t, bad.contains t = false → V0 μ G (dem (T.getD t undef)) (A.getD t undef)
theorem Clear.operands {μ : Mu} {G : zi} {bad : List Nat} {T A : List Value} (h : Clear μ G bad T A) {o : Oper} (hok : acA o = true) (hc : wO bad o = true) : ∀ x ∈ o.op.operands.toList, V0 μ G (dem (zJ T x)) (zJ A x) := by
 intro x hx
 have h1 := List.all_eq_true.1 (show o.op.operands.toList.all wR = true from hok) x hx
 have h2 := List.all_eq_true.1 hc x hx
 cases x with
 | tmp t => exact h t (by simpa using h2)
 | const v => exact (VV.jH (μ := μ) (H := G) (ω := W0) (ℓ := none) h1).v0
 | global g => cases h1
 | func f =>
  have : V0 μ G (.func (.func f) #[] #[]) (.func (.func f) #[] #[]) := .func _ rfl rfl (fun i => by simpa using VV.undef) (fun i => by simpa using VV.undef)
  exact this
theorem xu {T : List Value} {o : Oper} {S S' : zi} {v : Value} (h : jJ P fx call T o S = some (v, S')) : acA o = true := by
 unfold jJ at h
 split at h
 ·
  assumption
 ·
  cases h
theorem XT {fx : Fx} {o : Oper} {T A : List Value} {v : Value} {S S' H : zi} {μ : Mu} (h : jJ P fx call T o S = some (v, S')) (hnm : fx.nm = true) (hm : ¬ qP (zJ T) o) (hG : GI μ S H) (ho : ∀ x ∈ o.op.operands.toList, V0 μ H (dem (zJ T x)) (zJ A x)) :
  ground v = true ∧ ∃ a, jL P (lim P) A o H = some (a, H) ∧ a = v := by
 have hok := xu h
 unfold jJ at h
 rw [if_pos hok] at h
 obtain ⟨dst, op, type, pos, after, guard⟩ := o
 unfold qP at hm
 cases op <;> dsimp only at h hm <;> first | (exact absurd True.intro hm) | skip
 case load t a =>
  have h : ji P fx.nm t (zJ T a) S = some (v, S') := h
  obtain ⟨q, hq⟩ : ∃ q, zJ T a = .pointer q := Classical.byContradiction fun hn => hm fun q hq => hn ⟨q, hq⟩
  obtain ⟨rfl, w, k1, k2⟩ := ZU h (ho a (by simp [Op.operands])) (.inr hG)
  rw [hnm] at h
  have hgr : ground v = true := by
   unfold ji at h
   rw [hq] at h
   dsimp only at h
   split at h <;> first | (cases h; done) | skip
   ·
    split at h
    ·
     split at h <;> first | (cases h; done) | skip
     rename_i hg
     cases h
     exact hg
    ·
     rename_i hf; exact absurd rfl hf
   ·
    split at h
    ·
     split at h <;> first | (cases h; done) | skip
     rename_i hg
     cases h
     exact hg
    ·
     rename_i hf; exact absurd rfl hf
  refine ⟨hgr, w, ?_, k2.yN hgr⟩
  unfold jL
  rw [if_pos hok]
  exact k1
 case lookup t x k ok =>
  have h : Zq P fx.nm t (zJ T x) (zJ T k) ok S = some (v, S') := h
  unfold Zq at h
  rw [hnm] at h
  simp at h
theorem Line.clear (hdr : fx.dr = true) (hl : Line P fx chk call ops k0 l Ts As Ss Hs μs ωs vs zf) {j : Nat} (hj : j ≤ l.length) : ∀ (rest : List Oper) (bad : List Nat) (k : Nat), j ≤ k → l.drop k = rest → Clear (μs j) (Hs j) bad (Ts k) (As k) →
  ∀ d, d ≤ rest.length → Clear (μs j) (Hs j) ((aal P fx.nm rest bad).getD d []) (Ts (k + d)) (As (k + d)) := by
 intro rest
 induction rest with
 | nil =>
  intro bad k hjk hr hC d hd
  have : d = 0 := by simpa using hd
  subst this
  exact hC
 | cons o rest ih =>
  intro bad k hjk hr hC d hd
  have hkl : k < l.length := by
   have := congrArg List.length hr
   simp at this; omega
  have ho : l[k]? = some o := by
   have := congrArg (·[0]?) hr
   simpa [List.getElem?_drop] using this
  cases d with
  | zero => exact hC
  | succ d =>
   simp only [aal, List.getD_cons_succ]
   rw [show k + (d + 1) = k + 1 + d by omega]
   refine ih _ (k + 1) (by omega) ?_ ?_ d (by simpa using hd)
   ·
    rw [← List.drop_drop, hr]; rfl
   ·
    obtain ⟨hL, _, hor⟩ := hl.step k o ho
    obtain ⟨hG, hT⟩ := hl.inv k (by omega)
    have hlen := hT.len
    intro t ht
    cases hd : o.dst with
    | none =>
     rw [hd] at ht
     rcases hor with ⟨_, _, _, e1, e2, _⟩ | ⟨_, _, e1, e2, _⟩
     ·
      rw [e1, Qr hd, e2, hd]; exact hC t ht
     ·
      rw [e1, Qr hd, e2, hd]; exact hC t ht
    | some dd =>
     rw [hd] at ht
     dsimp only at ht
     have htb : bad.contains t = false := by
      split at ht
      ·
       simp only [List.contains_cons, Bool.or_eq_false_iff] at ht; exact ht.2
      ·
       exact ht
     rcases hor with ⟨hw, hv, ha, e1, e2, _⟩ | ⟨_, _, e1, e2, _⟩
     ·
      rw [e1, Qo hd, e2, hd]
      simp only [Za]
      rw [wz, hlen]
      by_cases hc : t = dd ∧ dd < (As k).length
      ·
       rw [if_pos hc, if_pos hc]
       have hcond : ¬ (kF P o || !wO bad o || (yw o && !fx.nm)) = true := by
        intro hh
        rw [if_pos hh] at ht
        simp [hc.1] at ht
       simp only [Bool.or_eq_true, not_or, Bool.not_eq_true, Bool.not_eq_eq_eq_not, Bool.not_true, Bool.and_eq_true, not_and] at hcond
       obtain ⟨⟨q1, q2⟩, q3⟩ := hcond
       have q2' : wO bad o = true := by simpa using q2
       have hLj : Later (μs j) (Hs j) (μs k) (Hs k) := by
        have := hl.later (i := j) (k - j) (by omega)
        rwa [show j + (k - j) = k by omega] at this
       by_cases hm : qP (zJ (Ts k)) o
       ·
        obtain ⟨a, h1, _, _, _, h5⟩ := aem hdr hv q1 hm (hC.operands (xu hv) q2') hLj
        rw [ha] at h5
        have e : zf k = a := by simpa using congrArg (Option.map Prod.fst) h5
        subst e
        exact h1
       ·
        have hrm : yw o = true := by
         cases hrm : yw o with
         | true => rfl
         | false => exact absurd (Zw hrm) hm
        have hnm : fx.nm = true := by have := q3 hrm; simpa using this
        obtain ⟨g1, a, g2, g3⟩ := XT hv hnm hm hG (fun x hx => hT.eval (List.all_eq_true.1 (show o.op.operands.toList.all wR = true from xu hv) x hx))
        rw [ha] at g2
        have e : zf k = a := by simpa using congrArg (Option.map Prod.fst) g2
        subst e
        rw [g3, J3 g1]
        exact V0.ground g1
      ·
       rw [if_neg hc, if_neg hc]
       exact hC t htb
     ·
      rw [e1, Qo hd, e2, hd]
      simp only [Za]
      rw [wz, hlen]
      by_cases hc : t = dd ∧ dd < (As k).length
      ·
       rw [if_pos hc, if_pos hc, show dem undef = undef from kN]
       exact .nores
      ·
       rw [if_neg hc, if_neg hc]
       exact hC t htb
theorem aaD {hp0 : Bool} (hc : Zf P call) {T T' A : List Value} {S S' H : zi} {μ : Mu} {ω : Nat → Option wo} (hd : qp P ops = true) (h : jv P ⟨hp0, !(checked P ops).isEmpty, fixed P ops⟩ (checked P ops) (again P ops) call ops 0 [] ops.toList T S = some (T', S')) (hG : GI μ S H) (hT : TI μ H ω T A) :
  After μ ω H T' S' (qY P (lim P) ops A H) := by
 obtain ⟨Ts, As, Ss, Hs, μs, ωs, vs, zf, tr, hline, rfl, rfl, rfl, rfl, rfl, rfl, rfl, rfl, e9, e10, e11, hs, e12, e13, e14⟩ := aey hc _ _ _ _ _ _ _ _ _ _ _ h hG hT
 obtain ⟨hGn, hTn⟩ := hline.inv ops.toList.length (Nat.le_refl _)
 have hLn := hline.later (i := 0) ops.toList.length (by omega)
 rw [Nat.zero_add] at hLn
 refine ⟨As ops.toList.length, Hs ops.toList.length, μs ops.toList.length, ωs ops.toList.length, ?_, hGn, hLn, hline.kept _ (Nat.le_refl _), hTn⟩
 simp only [qp, WX, Bool.and_eq_true] at hd
 refine acT hd.1 e9 fun p hp => ?_
 have hchk : (checked P ops).contains p.1 = true := by
  unfold checked
  simp only [List.contains_eq_mem, decide_eq_true_eq]
  exact List.mem_map.2 ⟨p, hp, rfl⟩
 have hdr : (Fx.mk hp0 (!(checked P ops).isEmpty) (fixed P ops)).dr = true := by
  show (!(checked P ops).isEmpty) = true
  cases hl : checked P ops with
  | nil => rw [hl] at hchk; cases hchk
  | cons a b => rfl
 have hp2 := List.all_eq_true.1 hd.2 p hp
 have hp0 := hp
 unfold need at hp
 obtain ⟨i, hi, hp⟩ := List.mem_flatMap.1 hp
 obtain ⟨j, hj, hp⟩ := List.mem_filterMap.1 hp
 have hi : i < ops.toList.length := List.mem_range.1 hi
 have hj : j < ops.toList.length := List.mem_range.1 hj
 split at hp <;> first | (cases hp; done) | skip
 rename_i oi oj hoi hoj
 split at hp <;> first | (cases hp; done) | skip
 rename_i hcond
 cases hp
 simp only [Bool.and_eq_true, Bool.not_eq_true'] at hcond
 obtain ⟨⟨hni, hcj⟩, _⟩ := hcond
 dsimp only at hp2 hchk ⊢
 rw [hoi] at hp2
 dsimp only at hp2
 have hij : i ≠ j := by
  intro e; subst e
  rw [hoi] at hoj; cases hoj
  rw [hni] at hcj; cases hcj
 have hGj : (tr.map (·.2.1) ++ [Hs ops.toList.length])[if j < i then j else j + 1]? = some (Hs (if j < i then j else j + 1)) := e11 _ (by split <;> omega)
 unfold JE
 rw [hoi, e10 i hi, hGj]
 dsimp only
 obtain ⟨_, _, hor⟩ := hline.step i oi hoi
 rcases hor with ⟨hw, hv, ha, heT, heA, hq⟩ | ⟨hw, _⟩
 ·
  rw [hw]
  simp only [Bool.not_true, Bool.false_or]
  obtain ⟨hGi, hTi⟩ := hline.inv i (by omega)
  have hops : ∀ x ∈ oi.op.operands.toList, V0 (μs i) (Hs i) (dem (zJ (Ts i) x)) (zJ (As i) x) := fun x hx => hTi.eval (List.all_eq_true.1 (show oi.op.operands.toList.all wR = true from xu hv) x hx)
  have hq3 : okq 3 (vs i) = true := hq (by rw [Nat.zero_add]; exact hchk)
  have same : ∃ G', aOp P (zJ (As i)) oi (Hs (if j < i then j else j + 1)) = some (zf i, G') ∧ Vt 3 (zf i) (zf i) = true := by
   by_cases hm : qP (zJ (Ts i)) oi
   case neg =>
    have hrm : yw oi = true := by
     cases hrm : yw oi with
     | true => rfl
     | false => exact absurd (Zw hrm) hm
    have hin : (i, j) ∈ again P ops := List.mem_filter.2 ⟨hp0, by dsimp only; rw [hoi]; exact hrm⟩
    have hne : (again P ops).isEmpty = false := by
     cases hl : again P ops with
     | nil => rw [hl] at hin; cases hin
     | cons a b => rfl
    have hst := List.all_eq_true.1 (e14 hne) _ hin
    rw [List.nil_append] at hst
    have hi1 : (hs ++ [(undef, Ss ops.toList.length)])[i]? = some (qZ (Ts i) oi, Ss i) := by
     rw [List.getElem?_append_left (by omega)]; exact e13 i oi hoi
    have hj1 : ∃ p2, (hs ++ [(undef, Ss ops.toList.length)])[if j < i then j else j + 1]? = some (p2, Ss (if j < i then j else j + 1)) := by
     by_cases hjl : (if j < i then j else j + 1) < ops.toList.length
     ·
      rw [List.getElem?_append_left (by omega)]
      exact ⟨_, e13 _ _ (List.getElem?_eq_getElem hjl)⟩
     ·
      have : (if j < i then j else j + 1) = ops.toList.length := by split at hjl <;> (rename_i hh; simp only [hh, if_true, if_false]; omega)
      rw [this, List.getElem?_append_right (by omega), e12, Nat.sub_self]
      exact ⟨_, rfl⟩
    obtain ⟨p2, hj1⟩ := hj1
    unfold Xa at hst
    dsimp only at hst
    rw [hi1, hj1] at hst
    dsimp only at hst
    have obj : ∀ q r b, μs i q = some (r, b) → (∀ Sa Sb, qW (qZ (Ts i) oi) Sa Sb = true → (∃ o, Sa.get q = some o ∧ o.alive = true) ∧ q ∉ Sb.log.take (Sb.log.length - Sa.log.length)) → (Hs (if j < i then j else j + 1)).get r = (Hs i).get r := by
     intro q r b hq hQ
     by_cases hji : j < i
     ·
      rw [if_pos hji] at hst ⊢
      rw [if_pos hji] at hst
      obtain ⟨⟨o1, g1, g2⟩, g3⟩ := hQ _ _ hst
      obtain ⟨hGj3, _⟩ := hline.inv j (by omega)
      obtain ⟨r0, _, g4, _⟩ := hGj3.obj q o1 g1 g2
      have hL := hline.later (i := j) (i - j) (by omega)
      rw [show j + (i - j) = i by omega] at hL
      obtain ⟨b', hb'⟩ := hL.mu q r0 true g4
      rw [hq] at hb'
      cases hb'
      obtain ⟨new, n1, n2⟩ := hL.still
      rw [hGj3.log, hGi.log] at n1
      rw [n1] at g3
      simp only [List.length_append, Nat.add_sub_cancel, List.take_left] at g3
      exact (n2 q r g4 g3).2.symm
     ·
      rw [if_neg hji] at hst ⊢
      rw [if_neg hji] at hst
      obtain ⟨⟨o1, g1, g2⟩, g3⟩ := hQ _ _ hst
      have hb := hGi.at hq g1 g2
      subst hb
      have hL := hline.later (i := i) (j + 1 - i) (by omega)
      rw [show i + (j + 1 - i) = j + 1 by omega] at hL
      obtain ⟨hGj3, _⟩ := hline.inv (j + 1) (by omega)
      obtain ⟨new, n1, n2⟩ := hL.still
      rw [hGj3.log, hGi.log] at n1
      rw [n1] at g3
      simp only [List.length_append, Nat.add_sub_cancel, List.take_left] at g3
      exact (n2 q r hq g3).2
    clear hst hi1 hj1
    have hok := xu hv
    have hvo := hv
    unfold jJ at hv
    rw [if_pos hok] at hv
    obtain ⟨dst, op, type, pos, after, guard⟩ := oi
    unfold qP at hm
    cases op <;> dsimp only at hv hm <;> first | (exact absurd True.intro hm) | skip
    case load t a =>
     have hv : ji P (fixed P ops) t (zJ (Ts i) a) (Ss i) = some (vs i, Ss (i + 1)) := hv
     obtain ⟨ad, hq⟩ : ∃ q, zJ (Ts i) a = .pointer q := Classical.byContradiction fun hn => hm fun q hq => hn ⟨q, hq⟩
     have hx := hops a (by simp [Op.operands])
     obtain ⟨_, w, k1, k2⟩ := ZU hv hx (.inr hGi)
     have hA : jL P (lim P) (As i) ⟨dst, .load t a, type, pos, after, guard⟩ (Hs i) = wG P t (zJ (As i) a) (Hs i) := by unfold jL; rw [if_pos hok]; rfl
     rw [hA, k1] at ha
     have e : w = zf i := by simpa using congrArg (Option.map Prod.fst) ha
     subst e
     rw [hq] at hx
     have hx : V0 (μs i) (Hs i) (.pointer ad) (zJ (As i) a) := hx
     generalize hpa : zJ (As i) a = pa at hx k1
     have hres : wG P t pa (Hs (if j < i then j else j + 1)) = some (zf i, Hs (if j < i then j else j + 1)) := by
      cases hx with
      | sg hs =>
       cases ad with
       | none => simp [wG] at k1
       | some ad => simp [Go.Abs.sg] at hs
      | @ptr _ q o r b hmq =>
       refine XM (obj q r b hmq fun Sa Sb hQ => ?_) k1
       have hQ : qW (zJ (Ts i) a) Sa Sb = true := hQ
       rw [hq] at hQ
       simp only [qW, Bool.and_eq_true, Bool.not_eq_true', List.contains_eq_mem, decide_eq_false_iff_not] at hQ
       refine ⟨?_, hQ.2⟩
       have h1 := hQ.1
       split at h1 <;> first | (cases h1; done) | skip
       rename_i hsa
       exact ⟨_, hsa, rfl⟩
     rw [← hpa] at hres
     exact ⟨_, hres, Z9 3 (Jl hq3) k2.dem⟩
    case lookup t x k ok =>
     have hv : Zq P (fixed P ops) t (zJ (Ts i) x) (zJ (Ts i) k) ok (Ss i) = some (vs i, Ss (i + 1)) := hv
     have hx := hops x (by simp [Op.operands])
     obtain ⟨_, w, k1, k2⟩ := Wi hv hx (hops k (by simp [Op.operands])) (.inr hGi)
     have hA : jL P (lim P) (As i) ⟨dst, .lookup t x k ok, type, pos, after, guard⟩ (Hs i) = jD P t (zJ (As i) x) (zJ (As i) k) ok (Hs i) := by unfold jL; rw [if_pos hok]; rfl
     rw [hA, k1] at ha
     have e : w = zf i := by simpa using congrArg (Option.map Prod.fst) ha
     subst e
     have hres : jD P t (zJ (As i) x) (zJ (As i) k) ok (Hs (if j < i then j else j + 1)) = some (zf i, Hs (if j < i then j else j + 1)) := by
      refine Y5 (fun r hr => ?_) k1
      rw [hr] at hx
      generalize hu : dem (zJ (Ts i) x) = u at hx
      have hum : ∃ q b, u = .map (some q) ∧ μs i q = some (r, b) := by
       cases hx with
       | sg hs => simp [Go.Abs.sg] at hs
       | map hmq => exact ⟨_, _, rfl, hmq⟩
      obtain ⟨q, b, rfl, hmq⟩ := hum
      have hxe : zJ (Ts i) x = .map (some q) := by
       cases hvx : zJ (Ts i) x <;> rw [hvx] at hu <;> simp [dem, yX] at hu <;> rw [hu]
      refine obj q r b hmq fun Sa Sb hQ => ?_
      have hQ : qW (zJ (Ts i) x) Sa Sb = true := hQ
      rw [hxe] at hQ
      simp only [qW, Bool.and_eq_true, Bool.not_eq_true', List.contains_eq_mem, decide_eq_false_iff_not] at hQ
      refine ⟨?_, hQ.2⟩
      have h1 := hQ.1
      split at h1 <;> first | (cases h1; done) | skip
      rename_i hsa
      exact ⟨_, hsa, rfl⟩
     exact ⟨_, hres, Z9 3 (Jl hq3) k2.dem⟩
   by_cases hrd : yM oi = false
   ·
    obtain ⟨a, h1, h2⟩ := adk hdr hv hni hrd hops
    have h3 := (h2 (Hs i)).2
    rw [ha] at h3
    have e : zf i = a := by simpa using congrArg (Option.map Prod.fst) h3
    subst e
    exact ⟨_, (h2 _).1, Z9 3 (Jl hq3) h1⟩
   ·
    have hrd : yM oi = true := by simpa using hrd
    by_cases hlt : i < j
    ·
     rw [if_neg (by omega)]
     have hL := hline.later (i := i) (j + 1 - i) (by omega)
     rw [show i + (j + 1 - i) = j + 1 by omega] at hL
     obtain ⟨a, h1, _, h3, h4, _⟩ := aem hdr hv hni hm hops hL
     rw [ha] at h4
     have e : zf i = a := by simpa using congrArg (Option.map Prod.fst) h4
     subst e
     exact ⟨_, h3, Z9 3 (Jl hq3) h1⟩
    ·
     rw [if_pos (by omega)]
     rw [hrd] at hp2
     have hcl : wO ((aal P (fixed P ops) (ops.toList.drop j) []).getD (i - j) []) oi = true := by
      simpa [hlt] using hp2
     obtain ⟨hGj2, hTj⟩ := hline.inv j (by omega)
     have hC0 : Clear (μs j) (Hs j) [] (Ts j) (As j) := fun t _ => (hTj.slots t).v0
     have hC := hline.clear hdr (j := j) (by omega) _ [] j (Nat.le_refl _) rfl hC0 (i - j) (by rw [List.length_drop]; omega)
     rw [show j + (i - j) = i by omega] at hC
     have hL := hline.later (i := j) (i - j) (by omega)
     rw [show j + (i - j) = i by omega] at hL
     obtain ⟨a, h1, h2, _, _, h5⟩ := aem hdr hv hni hm (hC.operands (xu hv) hcl) hL
     rw [ha] at h5
     have e : zf i = a := by simpa using congrArg (Option.map Prod.fst) h5
     subst e
     exact ⟨_, h2, Z9 3 (Jl hq3) h1⟩
  obtain ⟨G', h1, h2⟩ := same
  unfold recheck
  rw [h1]
  exact h2
 ·
  rw [hw]
  rfl
end
end Go.Abs
namespace Go.Abs
open Go.RowKit
section
variable {P : Program} {call : FuncId → List Value → M Value}
def adG (μ : Mu) (ω : Nat → Option wo) (H : zi) (e : AEx) (T' : List Value) (S' : zi) (R : St) : Prop :=
 ∃ A' H' μ' ω', R = some (e, A', H') ∧ GI μ' S' H' ∧ Later μ H μ' H' ∧ Kept ω H ω' H' ∧ TI μ' H' ω' T' A'
theorem acL {hp : Bool} (hc : Zf P call) (fuel : Nat) : ∀ (c : Code) (T T' A : List Value) (S S' H : zi) (μ : Mu) (ω : Nat → Option wo) (e : AEx), jU P hp call fuel c T S = some (e, T', S') → GI μ S H → TI μ H ω T A → adG μ ω H e T' S' (jW P c A H) := by
 intro c
 induction c with
 | skip =>
  intro T T' A S S' H μ ω e h hG hT
  simp only [jU, Option.some.injEq, Prod.mk.injEq] at h
  obtain ⟨rfl, rfl, rfl⟩ := h
  exact ⟨A, H, μ, ω, rfl, hG, Later.refl _ _, Kept.refl _ _, hT⟩
 | exit id =>
  intro T T' A S S' H μ ω e h hG hT
  simp only [jU, Option.some.injEq, Prod.mk.injEq] at h
  obtain ⟨rfl, rfl, rfl⟩ := h
  exact ⟨A, H, μ, ω, rfl, hG, Later.refl _ _, Kept.refl _ _, hT⟩
 | ret =>
  intro T T' A S S' H μ ω e h hG hT
  simp only [jU, Option.some.injEq, Prod.mk.injEq] at h
  obtain ⟨rfl, rfl, rfl⟩ := h
  exact ⟨A, H, μ, ω, rfl, hG, Later.refl _ _, Kept.refl _ _, hT⟩
 | region i ops d =>
  intro T T' A S S' H μ ω e h hG hT
  cases d with
  | false =>
   simp only [jU] at h
   split at h <;> first | (cases h; done) | skip
   rename_i T1 S1 ho
   cases h
   obtain ⟨A', H', μ', ω', h1, h2, h3, h4, h5⟩ := aep hc _ _ _ _ _ _ _ _ _ ho hG hT
   exact ⟨A', H', μ', ω', by simp only [jW, h1], h2, h3, h4, h5⟩
  | true =>
   simp only [jU] at h
   split at h <;> first | (cases h; done) | skip
   rename_i hd
   split at h <;> first | (cases h; done) | skip
   rename_i T1 S1 ho
   cases h
   obtain ⟨A', H', μ', ω', h1, h2, h3, h4, h5⟩ := aaD hc hd ho hG hT
   exact ⟨A', H', μ', ω', by simp only [jW, h1], h2, h3, h4, h5⟩
 | seq x y ihx ihy =>
  intro T T' A S S' H μ ω e h hG hT
  simp only [jU] at h
  split at h
  ·
   rename_i T1 S1 hx
   obtain ⟨A1, H1, μ1, ω1, h1, h2, h3, h4, h5⟩ := ihx _ _ _ _ _ _ _ _ _ hx hG hT
   obtain ⟨A2, H2, μ2, ω2, k1, k2, k3, k4, k5⟩ := ihy _ _ _ _ _ _ _ _ _ h h2 h5
   exact ⟨A2, H2, μ2, ω2, by simp only [jW, h1]; exact k1, k2, h3.trans k3, h4.trans k4, k5⟩
  ·
   rename_i hne
   obtain ⟨A1, H1, μ1, ω1, h1, h2, h3, h4, h5⟩ := ihx _ _ _ _ _ _ _ _ _ h hG hT
   refine ⟨A1, H1, μ1, ω1, ?_, h2, h3, h4, h5⟩
   simp only [jW, h1]
   cases e with
   | normal => exact absurd h (hne _ _)
   | exit id => rfl
   | ret => rfl
 | cond c x y ihx ihy =>
  intro T T' A S S' H μ ω e h hG hT
  simp only [jU] at h
  split at h <;> first | (cases h; done) | skip
  rename_i hok
  have hv := hT.eval hok
  split at h
  ·
   rename_i hb
   have : zJ A c = .bool true := zU hv (by rw [hb]; rfl) |>.trans hb
   obtain ⟨A1, H1, μ1, ω1, h1, h2, h3, h4, h5⟩ := ihx _ _ _ _ _ _ _ _ _ h hG hT
   exact ⟨A1, H1, μ1, ω1, by simp only [jW, hok, if_true, this]; exact h1, h2, h3, h4, h5⟩
  ·
   rename_i hb
   have : zJ A c = .bool false := zU hv (by rw [hb]; rfl) |>.trans hb
   obtain ⟨A1, H1, μ1, ω1, h1, h2, h3, h4, h5⟩ := ihy _ _ _ _ _ _ _ _ _ h hG hT
   exact ⟨A1, H1, μ1, ω1, by simp only [jW, hok, if_true, this]; exact h1, h2, h3, h4, h5⟩
  ·
   cases h
 | block id c ih =>
  intro T T' A S S' H μ ω e h hG hT
  simp only [jU] at h
  split at h
  ·
   rename_i id' T1 S1 hx
   obtain ⟨A1, H1, μ1, ω1, h1, h2, h3, h4, h5⟩ := ih _ _ _ _ _ _ _ _ _ hx hG hT
   by_cases hid : id' = id
   ·
    rw [if_pos hid] at h
    cases h
    exact ⟨A1, H1, μ1, ω1, by simp only [jW, h1, if_pos hid], h2, h3, h4, h5⟩
   ·
    rw [if_neg hid] at h
    cases h
    exact ⟨A1, H1, μ1, ω1, by simp only [jW, h1, if_neg hid], h2, h3, h4, h5⟩
  ·
   rename_i hne
   obtain ⟨A1, H1, μ1, ω1, h1, h2, h3, h4, h5⟩ := ih _ _ _ _ _ _ _ _ _ h hG hT
   refine ⟨A1, H1, μ1, ω1, ?_, h2, h3, h4, h5⟩
   simp only [jW, h1]
   cases e with
   | normal => rfl
   | exit id' => exact absurd h (hne _ _ _)
   | ret => rfl
 | loop c ih =>
  have key : ∀ (n : Nat) (T T' A : List Value) (S S' H : zi) (μ : Mu) (ω : Nat → Option wo) (e : AEx), wK n (jU P hp call fuel c) T S = some (e, T', S') → GI μ S H → TI μ H ω T A → adG μ ω H e T' S' (wS (jW P c) A H) := by
   intro n
   induction n with
   | zero => intro T T' A S S' H μ ω e h; cases h
   | succ n ihn =>
    intro T T' A S S' H μ ω e h hG hT
    simp only [wK] at h
    split at h
    ·
     rename_i T1 S1 hx
     obtain ⟨A1, H1, μ1, ω1, h1, h2, h3, h4, h5⟩ := ih _ _ _ _ _ _ _ _ _ hx hG hT
     obtain ⟨A2, H2, μ2, ω2, k1, k2, k3, k4, k5⟩ := ihn _ _ _ _ _ _ _ _ _ h h2 h5
     exact ⟨A2, H2, μ2, ω2, by rw [jY h1]; exact k1, k2, h3.trans k3, h4.trans k4, k5⟩
    ·
     rename_i hne
     obtain ⟨A1, H1, μ1, ω1, h1, h2, h3, h4, h5⟩ := ih _ _ _ _ _ _ _ _ _ h hG hT
     exact ⟨A1, H1, μ1, ω1, jm h1 (fun he => by subst he; exact hne _ _ h), h2, h3, h4, h5⟩
  intro T T' A S S' H μ ω e h hG hT
  simp only [jU] at h
  obtain ⟨A1, H1, μ1, ω1, h1, h2⟩ := key fuel _ _ _ _ _ _ _ _ _ h hG hT
  exact ⟨A1, H1, μ1, ω1, by simp only [jW]; exact h1, h2⟩
 | _ => intro T T' A S S' H μ ω e h; simp only [jU] at h; cases h
theorem VV.afq {μ : Mu} {H : zi} {ω ω' : Nat → Option wo} {f : wo → Option wo} (hω : ∀ r, ω' r = (ω r).bind f) {s s' : wo} (hs : f s = some s') {v a : Value} (h : VV μ H ω (some s) v a) (hv : jg v = true) : VV μ H ω' (some s') v a := by
 cases h with
 | sg h => exact .sg h
 | ptr h => exact .ptr h
 | map h => exact .map h
 | slm h => exact .slm h
 | slE => exact .slE
 | sl hr hp hg hl hl' hc => exact .sl hr hp hg hl hl' (fun i hi => (hc i hi).at0)
 | so h hr hp hg hl hl' hc => exact .so (by rw [hω, h]; exact hs) hr hp hg hl hl' (fun i hi => (hc i hi).at0)
 | ep hr hp hg hl hc => exact .ep hr hp hg hl (fun i hi => (hc i hi).at0)
 | func fn hx hc h1 h2 => exact .func fn hx hc (fun i => (h1 i).at0) (fun i => (h2 i).at0)
 | agg hx hh => exact .agg hx (fun i => (hh i).at0)
 | nores => exact .nores
 | @tuple _ x x' hx hh =>
  have h0 : x.size = 0 := by simpa [jg] using hv
  have e1 : x = #[] := Array.eq_empty_of_size_eq_zero h0
  have e2 : x' = #[] := Array.eq_empty_of_size_eq_zero (by rw [← hx]; exact h0)
  subst e1 e2
  exact .nores
def place (rs : List ResultVar) : wo → Option wo
 | .ext => some .ext
 | .res _ => none
 | .slot i j => match rs with
  | [.tmp t] => if i = t then some (.res j) else none
  | _ => match j with
   | none => (rs.findIdx? (abS i)).map fun k => .res (some k)
   | some _ => none
theorem XF {rs : List ResultVar} {i : Nat} (h : ∀ t, rs ≠ [.tmp t]) : place rs (.slot i none) = (rs.findIdx? (abS i)).map fun k => .res (some k) := by
 match rs, h with
 | [], _ => rfl
 | [.tmp t], h => exact absurd rfl (h t)
 | [.cell _ _], _ => rfl
 | .tmp _ :: _ :: _, _ => rfl
 | .cell _ _ :: _ :: _, _ => rfl
theorem KD {μ : Mu} {ω : Nat → Option wo} {S H : zi} {T A : List Value} (hG : GI μ S H) (hT : TI μ H ω T A) : ∀ (l : List ResultVar) (vs : List Value), zN P T S l = some vs →
  ∃ zf, qx P A H l = some zf ∧ vs.length = l.length ∧ zf.length = l.length ∧ ∀ i : Nat, match (l[i]? : Option ResultVar) with
   | some (.tmp t) => vs.getD i undef = T.getD t undef ∧ zf.getD i undef = A.getD t undef
   | _ => V0 μ H (vs.getD i undef) (zf.getD i undef) := by
 intro l
 induction l with
 | nil =>
  intro vs h
  simp only [zN, Option.some.injEq] at h
  subst h
  exact ⟨[], rfl, rfl, rfl, fun i => by simpa using VV.undef⟩
 | cons x l ih =>
  intro vs h
  cases x with
  | tmp t =>
   simp only [zN] at h
   split at h <;> first | (cases h; done) | skip
   rename_i vs' hr
   cases h
   obtain ⟨zf, h1, h2, h3, h4⟩ := ih _ hr
   refine ⟨A.getD t undef :: zf, by simp only [qx, h1], by simp [h2], by simp [h3], fun i => ?_⟩
   cases i with
   | zero => exact ⟨rfl, rfl⟩
   | succ i => simpa using h4 i
  | cell a t =>
   simp only [zN] at h
   split at h <;> first | (cases h; done) | skip
   rename_i v S1 vs' hl hr
   cases h
   obtain ⟨zf, h1, h2, h3, h4⟩ := ih _ hr
   obtain ⟨_, w, k1, k2⟩ := ZU hl (hT.slots a).v0 (.inr hG)
   refine ⟨w :: zf, by simp only [qx, k1, h1], by simp [h2], by simp [h3], fun i => ?_⟩
   cases i with
   | zero => exact k2
   | succ i => simpa using h4 i
theorem ad5 {μ : Mu} {ω : Nat → Option wo} {S S' H : zi} {T A : List Value} {fn : Func} {v : Value} (hG : GI μ S H) (hT : TI μ H ω T A) (h : aa7 P fn T S = some (v, S')) :
  S' = S ∧ ∃ a, acR P fn A H = some (a, H) ∧ VV μ H (fun r => (ω r).bind (place fn.results.toList)) (some (.res none)) v a := by
 unfold aa7 at h
 split at h <;> first | (cases h; done) | skip
 rename_i vs hvs
 split at h <;> first | (cases h; done) | skip
 rename_i hok
 obtain ⟨zf, h1, h2, h3, h4⟩ := KD hG hT _ _ hvs
 generalize hrs : fn.results.toList = rs at *
 split at h
 ·
  rename_i v1
  cases h
  obtain ⟨a, rfl⟩ : ∃ a, zf = [a] := by
   match zf, h3.trans h2.symm with
   | [a], _ => exact ⟨a, rfl⟩
  refine ⟨rfl, a, by simp only [acR, hrs, h1], ?_⟩
  match rs, h2 with
  | [x], _ =>
   have := h4 0
   cases x with
   | tmp t =>
    simp only [List.getElem?_cons_zero, List.getD_cons_zero] at this
    obtain ⟨rfl, rfl⟩ := this
    refine (hT.slots t).YP (fun _ => rfl) _ (fun s hs => ?_)
    cases hs
    refine ⟨_, rfl, by simp only [place, if_true], fun k t' ht => ?_⟩
    cases ht
    exact ⟨_, rfl, by simp only [place, if_true]⟩
   | cell b t => exact (show V0 μ H v a from this).at0
 ·
  rename_i hne
  split at h <;> first | (cases h; done) | skip
  rename_i hnt
  cases h
  refine ⟨rfl, .tuple zf.toArray, ?_, .tuple (by simp [h2, h3]) fun i => ?_⟩
  ·
   simp only [acR, hrs, h1]
   match zf, vs, h3.trans h2.symm, hne with
   | [], _, _, _ => rfl
   | [a], [v], _, hne => exact absurd rfl (hne v)
   | a :: b :: c, _, _, _ => rfl
  ·
   have e1 : vs.toArray.getD i undef = vs.getD i undef := by rw [← getD_toList, List.toList_toArray]
   have e2 : zf.toArray.getD i undef = zf.getD i undef := by rw [← getD_toList, List.toList_toArray]
   rw [e1, e2]
   have h5 := h4 i
   cases hx : rs[i]? with
   | none => rw [hx] at h5; exact (show V0 μ H _ _ from h5).at0
   | some x =>
    rw [hx] at h5
    cases x with
    | cell b t => exact (show V0 μ H _ _ from h5).at0
    | tmp t =>
     dsimp only at h5
     have hi : i < rs.length := (List.getElem?_eq_some_iff.1 hx).1
     have hid : rs.findIdx? (abS t) = some i := by
      have := List.all_eq_true.1 hok i (List.mem_range.2 hi)
      rw [hx] at this
      simpa using this
     have hnt2 : jg (T.getD t undef) = true := by
      rw [← h5.1, List.getD_eq_getElem?_getD, List.getElem?_eq_getElem (by omega)]
      exact List.all_eq_true.1 hnt _ (List.getElem_mem _)
     rw [h5.1, h5.2]
     refine (hT.slots t).afq (fun _ => rfl) (s' := .res (some i)) ?_ hnt2
     have hne1 : ∀ t', rs ≠ [.tmp t'] := by
      intro t' e
      rw [e] at h2
      match vs, h2 with
      | [v], _ => exact hne v rfl
     rw [XF hne1, hid]; rfl
def QN (P : Program) (O : Ora) : Prop := ∀ f q, O.fn f = some q → Zf P (fun g args => if g = f then q args else fun _ => none)
open Classical in
noncomputable def KN (μ μ1 : Mu) (ω : Nat → Option wo) : Nat → Option wo := fun r => if ∃ q, μ q = some (r, true) ∧ ¬ μ1 q = some (r, true) then some .ext else ω r
theorem acI {call : FuncId → List Value → M Value} (hc : Zf P call) {hps : FuncId → Bool} {hp : Bool} : Zf P (yQ hps hp call) := by
 cases hp with
 | false => exact hc
 | true =>
  intro g args aargs S v S' h μ H ω hG hA hD hE
  unfold yQ at h
  dsimp only at h
  split at h
  ·
   exact hc g args aargs S v S' h μ H ω hG hA hD hE
  ·
   split at h <;> first | (cases h; done) | skip
   rename_i m S1 hf
   obtain ⟨μ1, h1, h2, h3⟩ := Q9 _ _ _ _ _ _ hf hG hA
   split at h <;> first | (cases h; done) | skip
   rename_i r0 hr0
   obtain ⟨v0, S2⟩ := r0
   simp only [Option.some.injEq] at h
   unfold aav at h
   dsimp only at h
   split at h
   ·
    rename_i hb
    cases h
    simp only [Bool.and_eq_true, beq_iff_eq] at hb
    obtain ⟨⟨_, hgr⟩, hlog⟩ := hb
    have hlent : ∀ q r, μ q = some (r, true) → ¬ μ1 q = some (r, true) → r < H.next ∧ ZI μ1 r := fun q r hq hn =>
     ⟨hG.lt q r _ hq, fun q' hq' => by
      rcases h2.new q' r hq' with h5 | h5
      ·
       have := hG.inj q q' r hq h5
       subst this
       exact hn hq'
      ·
       have := hG.lt q r _ hq; omega, by rw [h2.hid]; exact hG.vis q r hq⟩
    have hDL : Dom μ1 H (KN μ μ1 ω) := fun r s hs => by
     unfold KN at hs
     split at hs
     ·
      rename_i hx
      obtain ⟨q, hq, hn⟩ := hx
      exact hlent q r hq hn
     ·
      exact ⟨(hD r s hs).1, h2.priv (hD r s hs).1 (hD r s hs).2⟩
    have hEL : ∀ r s, KN μ μ1 ω r = some s → s = .ext := fun r s hs => by
     unfold KN at hs
     split at hs
     ·
      cases hs; rfl
     ·
      exact hE r s hs
    obtain ⟨a, H', μ', ω', k1, k2, k3, k4, k5, k6⟩ := hc g m aargs S1 v S2 hr0 μ1 H (KN μ μ1 ω) h1 h3 hDL hEL
    have hsame : ∀ q r, μ q = some (r, true) → H'.get r = H.get r := fun q r hq => by
     by_cases hn : μ1 q = some (r, true)
     ·
      obtain ⟨new, e1, e2⟩ := k3.still
      have : new = [] := by
       rw [k2.log, h1.log, hlog] at e1
       exact List.append_cancel_right (bs := S1.log) (by rw [← e1]; rfl)
      subst this
      exact (e2 q r hn (by simp)).2
     ·
      exact (k4 r (by unfold KN; rw [if_pos ⟨q, hq, hn⟩])).2
    have hL : Later μ H μ H' := ⟨fun _ _ b h => ⟨b, h⟩, k3.next, fun _ _ h => .inl h, rfl, fun r hr hh => k3.same r hr (by rw [h2.hid]; exact hh), ⟨[], rfl, fun q r hq _ => ⟨hq, hsame q r hq⟩⟩,
     fun r l own e hr hp hg => k3.cells r l own e hr (h2.priv hr hp) hg⟩
    refine ⟨a, H', μ, ω, k1, hG.later hL rfl hsame, hL, fun r hr => ⟨hr, (k4 r ?_).2⟩, fun r s hs => ⟨Nat.lt_of_lt_of_le (hD r s hs).1 k3.next, (hD r s hs).2⟩, ?_⟩
    ·
     unfold KN
     split
     ·
      rfl
     ·
      exact hr
    ·
     rw [VV.yN hgr k6]
     exact VV.jH hgr
   ·
    cases h
    obtain ⟨a, H', μ', ω', k1, k2, k3, k4, k5, k6⟩ := hc g m aargs S1 v S' hr0 μ1 H ω h1 h3 (fun r s hs => ⟨(hD r s hs).1, h2.priv (hD r s hs).1 (hD r s hs).2⟩) hE
    exact ⟨a, H', μ', ω', k1, k2, h2.trans k3, k4, k5, k6⟩
theorem VV.clean {μ μ' : Mu} {H : zi} {ω : Nat → Option wo} (hp : ∀ r, ZI μ r → ZI μ' r) {ℓ : Option wo} {v a : Value} (h : VV μ H ω ℓ v a) : ∀ d, jf d v = true → VV μ' H ω ℓ v a := by
 induction h with
 | sg h => exact fun _ _ => .sg h
 | ptr h => intro d hc; cases d <;> simp [jf] at hc
 | map h => intro d hc; cases d <;> simp [jf] at hc
 | slm h => intro d hc; cases d <;> simp [jf] at hc
 | slE => exact fun _ _ => .slE
 | sl hr hpr hg hl hn hc ih =>
  intro d hcl
  obtain ⟨d, rfl⟩ : ∃ k, d = k + 4 := by
   match d, hcl with
   | 0, h => cases h
   | 1, h => simp [jf] at h
   | 2, h => simp [jf] at h
   | 3, h => simp [jf] at h
   | k + 4, _ => exact ⟨k, rfl⟩
  simp only [jf] at hcl
  refine .sl hr (hp _ hpr) hg hl hn (fun i hi => ih i hi d ?_)
  rw [List.getD_eq_getElem?_getD, List.getElem?_eq_getElem (by omega)]
  exact List.all_eq_true.1 hcl _ (List.getElem_mem _)
 | so hω hr hpr hg hl hn hc ih =>
  intro d hcl
  obtain ⟨d, rfl⟩ : ∃ k, d = k + 4 := by
   match d, hcl with
   | 0, h => cases h
   | 1, h => simp [jf] at h
   | 2, h => simp [jf] at h
   | 3, h => simp [jf] at h
   | k + 4, _ => exact ⟨k, rfl⟩
  simp only [jf] at hcl
  refine .so hω hr (hp _ hpr) hg hl hn (fun i hi => ih i hi d ?_)
  rw [List.getD_eq_getElem?_getD, List.getElem?_eq_getElem (by omega)]
  exact List.all_eq_true.1 hcl _ (List.getElem_mem _)
 | ep hr hpr hg hl hc ih =>
  intro d hcl
  obtain ⟨d, rfl⟩ : ∃ k, d = k + 2 := by
   match d, hcl with
   | 0, h => cases h
   | 1, h => simp [jf] at h
   | k + 2, _ => exact ⟨k, rfl⟩
  simp only [jf] at hcl
  refine .ep hr (hp _ hpr) hg hl (fun i hi => ih i hi d ?_)
  rw [List.getD_eq_getElem?_getD, List.getElem?_eq_getElem hi]
  exact List.all_eq_true.1 hcl _ (List.getElem_mem _)
 | func fn hx hc h1 h2 => intro d hc; cases d <;> simp [jf] at hc
 | @agg ℓ x x' hx hh ih =>
  intro d hcl
  obtain ⟨d, rfl⟩ : ∃ k, d = k + 1 := by
   match d, hcl with
   | 0, h => cases h
   | k + 1, _ => exact ⟨k, rfl⟩
  simp only [jf] at hcl
  refine .agg hx (fun i => ?_)
  by_cases hi : i < x.size
  ·
   refine ih i d ?_
   rw [Array.getD_eq_getD_getElem?, Array.getElem?_eq_getElem hi]
   exact List.all_eq_true.1 hcl _ (by simp)
  ·
   rw [Array.getD_eq_getD_getElem?, Array.getElem?_eq_none (Nat.le_of_not_lt hi), Array.getD_eq_getD_getElem?, Array.getElem?_eq_none (by omega)]
   exact .nores
 | nores => exact fun _ _ => .nores
 | @tuple ℓ x x' hx hh ih =>
  intro d hcl
  obtain ⟨d, rfl⟩ : ∃ k, d = k + 1 := by
   match d, hcl with
   | 0, h => cases h
   | k + 1, _ => exact ⟨k, rfl⟩
  simp only [jf] at hcl
  refine .tuple hx (fun i => ?_)
  by_cases hi : i < x.size
  ·
   refine ih i d ?_
   rw [Array.getD_eq_getD_getElem?, Array.getElem?_eq_getElem hi]
   exact List.all_eq_true.1 hcl _ (by simp)
  ·
   rw [Array.getD_eq_getD_getElem?, Array.getElem?_eq_none (Nat.le_of_not_lt hi), Array.getD_eq_getD_getElem?, Array.getElem?_eq_none (by omega)]
   exact .nores
open Classical in
noncomputable def kK (μ : Mu) : Mu := ⟨fun _ => none, fun r => μ.hid r || decide (∃ q, μ q = some (r, true)), []⟩
theorem Z7 {μ : Mu} {r : Nat} (h : ZI μ r) : ZI (kK μ) r := ⟨fun q hq => (by cases hq), by
 simp only [kK, h.2, Bool.false_or, decide_eq_false_iff_not]
 rintro ⟨q, hq⟩
 exact h.1 q hq⟩
theorem V5 {μ : Mu} {r : Nat} (h : (kK μ).hid r = false) : ZI μ r := by
 simp only [kK, Bool.or_eq_false_iff, decide_eq_false_iff_not] at h
 exact ⟨fun q hq => h.2 ⟨q, hq⟩, h.1⟩
def afW (P : Program) (g : FuncId) (args : List Value) (run : M Value) : Prop := ∀ aargs S v S', run S = some (v, S') → ∀ μ H ω, GI μ S H → L0 μ H args aargs → Dom μ H ω → (∀ r s, ω r = some s → s = .ext) →
 ∃ a H' μ' ω', lim P g aargs H = some (a, H') ∧ GI μ' S' H' ∧ Later μ H μ' H' ∧ Kept ω H ω' H' ∧ Dom μ' H' ω' ∧ VV μ' H' ω' (some (.res none)) v a
theorem aci {g : FuncId} {args : List Value} {run : M Value} (hr : afW P g args run) : afW P g args (aa3 run args) := by
 intro aargs S v S' h μ H ω hG hA hD hE
 unfold aa3 at h
 split at h <;> first | (cases h; done) | skip
 rename_i hca
 split at h <;> first | (cases h; done) | skip
 rename_i w S1 hrun
 split at h <;> first | (cases h; done) | skip
 rename_i hcw
 cases h
 have hG0 : GI (kK μ) zi.empty H := ⟨fun q o h => (by cases h), fun q q' r h => (by cases h), fun q r b h => (by cases h), fun q _ => rfl, fun q r h => (by cases h), fun r h => by
  simp only [kK, Bool.or_eq_true, decide_eq_true_eq] at h
  rcases h with h | ⟨q, hq⟩
  ·
   exact hG.hlt r h
  ·
   exact hG.lt q r _ hq, rfl, fun q cs anc e h => (by cases h)⟩
 have hA0 : L0 (kK μ) H args aargs := ⟨hA.1, fun i => by
  by_cases hi : i < args.length
  ·
   refine (hA.2 i).clean (fun r h => Z7 h) 16 ?_
   rw [List.getD_eq_getElem?_getD, List.getElem?_eq_getElem hi]
   exact List.all_eq_true.1 hca _ (List.getElem_mem _)
  ·
   rw [List.getD_eq_getElem?_getD, List.getElem?_eq_none (Nat.le_of_not_lt hi), List.getD_eq_getElem?_getD, List.getElem?_eq_none (by rw [← hA.1]; omega)]
   exact .nores⟩
 obtain ⟨a, H1, μ1, ω1, k1, k2, k3, k4, k5, k6⟩ := hr aargs _ _ _ hrun (kK μ) H ω hG0 hA0 (fun r s h => ⟨(hD r s h).1, Z7 (hD r s h).2⟩) hE
 have hp1 : ∀ r, ZI μ1 r → ZI μ r := fun r h => V5 (by rw [← k3.hid]; exact h.2)
 have hL : Later μ H μ H1 := ⟨fun _ _ b h => ⟨b, h⟩, k3.next, fun _ _ h => .inl h, rfl, fun r hr hh => k3.same r hr (by simp only [kK, hh, Bool.true_or]), ⟨[], rfl, fun q r hq _ => ⟨hq, k3.same r (hG.lt q r _ hq) (by
  simp only [kK, Bool.or_eq_true, decide_eq_true_eq]
  exact .inr ⟨q, hq⟩)⟩⟩, fun r l own e hr hp hg => k3.cells r l own e hr (Z7 hp) hg⟩
 refine ⟨a, H1, μ, ω1, k1, ?_, hL, k4, fun r s h => ⟨(k5 r s h).1, hp1 r (k5 r s h).2⟩, k6.clean hp1 16 hcw⟩
 exact hG.later hL rfl fun q r hq => k3.same r (hG.lt q r _ hq) (by
  simp only [kK, Bool.or_eq_true, decide_eq_true_eq]
  exact .inr ⟨q, hq⟩)
theorem ab4 {O : Ora} (hO : QN P O) : ∀ n, Zf P (qh P O n) := by
 intro n
 induction n with
 | zero => intro g args aargs S v S' h; cases h
 | succ n ih =>
  intro g args aargs S v S' h μ H ω hG hA hD hE
  simp only [qh] at h
  cases ho : O.fn g with
  | some q =>
   rw [ho] at h
   exact hO g q ho g args aargs S v S' (by simpa using h) μ H ω hG hA hD hE
  | none =>
   rw [ho] at h
   dsimp only at h
   cases hf : P.funcs[g]? with
   | none => rw [hf] at h; cases h
   | some fn =>
    rw [hf] at h
    dsimp only at h
    split at h <;> first | (cases h; done) | skip
    rename_i hn
    cases hb : fn.body with
    | none => rw [hb] at h; cases h
    | some c =>
     rw [hb] at h
     dsimp only at h
     have hrun : afW P g args (abL P (O.hp g) (yQ O.hp (O.hp g) (qh P O n)) n fn c args) := by
      intro aargs S v S' h μ H ω hG hA hD hE
      have hT0 : TI μ H ω (args ++ List.replicate (fn.ntmps - args.length) undef) (aargs ++ List.replicate (fn.ntmps - aargs.length) undef) := by
       have hl : L0 μ H (args ++ List.replicate (fn.ntmps - args.length) undef) (aargs ++ List.replicate (fn.ntmps - aargs.length) undef) := by
        refine hA.append (VL.ofRange (by rw [hA.1]) fun i hi => ?_)
        have hi2 : i < fn.ntmps - args.length := by simpa using hi
        rw [List.getD_eq_getElem?_getD, List.getElem?_replicate, if_pos hi2, List.getD_eq_getElem?_getD, List.getElem?_replicate, if_pos (by rw [← hA.1]; exact hi2)]
        exact .nores
       exact ⟨hl.1, fun i => (hl.2 i).at0, hD, fun r j hr => by have := hE r _ hr; cases this⟩
      have fin : ∀ (e : AEx) (T1 : List Value) (S1 : zi), (e = .normal ∨ e = .ret) → jU P (O.hp g) (yQ O.hp (O.hp g) (qh P O n)) n c (args ++ List.replicate (fn.ntmps - args.length) undef) S = some (e, T1, S1) → aa7 P fn T1 S1 = some (v, S') →
        ∃ a H' μ' ω', lim P g aargs H = some (a, H') ∧ GI μ' S' H' ∧ Later μ H μ' H' ∧ Kept ω H ω' H' ∧ Dom μ' H' ω' ∧ VV μ' H' ω' (some (.res none)) v a := by
       intro e T1 S1 he hcode hres
       obtain ⟨A1, H1, μ1, ω1, h1, h2, h3, h4, h5⟩ := acL (acI ih) n c _ _ _ _ _ _ _ _ _ hcode hG hT0
       obtain ⟨rfl, a, k1, k2⟩ := ad5 (P := P) h2 h5 hres
       refine ⟨a, H1, μ1, fun r => (ω1 r).bind (place fn.results.toList), ab7 hf hn hb h1 he k1, h2, h3, fun r hr => ?_, fun r s hs => ?_, k2⟩
       ·
        obtain ⟨q1, q2⟩ := h4 r hr
        exact ⟨by simp [q1, place], q2⟩
       ·
        cases hr : ω1 r with
        | none => simp [hr] at hs
        | some s0 => exact h5.dom r s0 hr
      unfold abL at h
      split at h
      ·
       rename_i T1 S1 hx; exact fin .normal _ _ (.inl rfl) hx h
      ·
       rename_i T1 S1 hx; exact fin .ret _ _ (.inr rfl) hx h
      ·
       cases h
     split at h
     ·
      exact aci hrun aargs S v S' h μ H ω hG hA hD hE
     ·
      exact hrun aargs S v S' h μ H ω hG hA hD hE
end
end Go.Abs
namespace Go.Abs
open Go.RowKit
open Classical
noncomputable def zV (P : Program) (O : Ora) (g : FuncId) (args : List Value) : M Value := fun S =>
 if h : ∃ r, ∃ k0, ∀ k, k0 ≤ k → qh P O k g args S = some r then some (Classical.choose h) else none
section
variable {P : Program} {O : Ora}
theorem Y3 {g : FuncId} {args : List Value} {S : zi} {r : Value × zi} (h : zV P O g args S = some r) : ∃ k0, ∀ k, k0 ≤ k → qh P O k g args S = some r := by
 unfold zV at h
 split at h
 ·
  rename_i hx
  have := Classical.choose_spec hx
  cases h
  exact this
 ·
  cases h
theorem QW {g : FuncId} {args : List Value} {S : zi} {r : Value × zi} (h : ∃ k0, ∀ k, k0 ≤ k → qh P O k g args S = some r) : zV P O g args S = some r := by
 have hx : ∃ r, ∃ k0, ∀ k, k0 ≤ k → qh P O k g args S = some r := ⟨r, h⟩
 unfold zV
 rw [dif_pos hx]
 obtain ⟨k0, h0⟩ := h
 obtain ⟨k1, h1⟩ := Classical.choose_spec hx
 have e0 := h0 (max k0 k1) (Nat.le_max_left _ _)
 have e1 := h1 (max k0 k1) (Nat.le_max_right _ _)
 rw [e0] at e1
 exact e1.symm
theorem VT (hO : QN P O) : Zf P (zV P O) := by
 intro g args aargs S v S' h
 obtain ⟨k, hk⟩ := Y3 h
 exact ab4 hO k g args aargs S v S' (hk k (Nat.le_refl k))
def ae1 (c : FuncId → List Value → M Value) (ck : Nat → FuncId → List Value → M Value) : Prop := ∀ g args S r, c g args S = some r → ∃ k0, ∀ k, k0 ≤ k → ck k g args S = some r
theorem QG : ae1 (zV P O) (fun k => qh P O k) := fun g args S r h => Y3 h
theorem Wy {c : FuncId → List Value → M Value} {ck : Nat → FuncId → List Value → M Value} (hl : ae1 c ck) {hps : FuncId → Bool} {hp : Bool} : ae1 (yQ hps hp c) (fun k => yQ hps hp (ck k)) := by
 cases hp with
 | false => exact hl
 | true =>
  intro g args S r h
  unfold yQ at h
  dsimp only at h
  split at h
  ·
   rename_i hg
   obtain ⟨k0, h0⟩ := hl _ _ _ _ h
   exact ⟨k0, fun k hk => by unfold yQ; dsimp only; rw [if_pos hg]; exact h0 k hk⟩
  ·
   rename_i hg
   split at h <;> first | (cases h; done) | skip
   rename_i m S1 hf
   split at h <;> first | (cases h; done) | skip
   rename_i r0 hr0
   obtain ⟨k0, h0⟩ := hl _ _ _ _ hr0
   exact ⟨k0, fun k hk => by unfold yQ; dsimp only; rw [if_neg hg, hf]; dsimp only; rw [h0 k hk]; exact h⟩
section
variable {c : FuncId → List Value → M Value} {ck : Nat → FuncId → List Value → M Value}
theorem Qs (hl : ae1 c ck) {fx : Fx} {T : List Value} {o : Oper} {S : zi} {r : Value × zi} (h : jJ P fx c T o S = some r) : ∃ k0, ∀ k, k0 ≤ k → jJ P fx (ck k) T o S = some r := by
 unfold jJ at h
 split at h
 ·
  rename_i hok
  split at h
  ·
   rename_i q0 hop
   split at h
   ·
    rename_i f hf
    split at h
    ·
     rename_i g first captured hev
     obtain ⟨k0, hk⟩ := hl _ _ _ _ h
     refine ⟨k0, fun k hkk => ?_⟩
     unfold jJ
     rw [if_pos hok]
     simp only [hop, hf, hev]
     exact hk k hkk
    ·
     cases h
   ·
    rename_i b hb
    refine ⟨0, fun k _ => ?_⟩
    unfold jJ
    rw [if_pos hok]
    simp only [hop, hb]
    exact h
   ·
    cases h
  ·
   rename_i hop
   refine ⟨0, fun k _ => ?_⟩
   unfold jJ
   rw [if_pos hok]
   split
   ·
    rename_i q0 hc; exact absurd hc (hop q0)
   ·
    exact h
 ·
  cases h
theorem abU (hl : ae1 c ck) {fx : Fx} {ops : Array Oper} : ∀ (l : List Oper) (T : List Value) (S : zi) (r : List Value × zi), je P fx c ops l T S = some r → ∃ k0, ∀ k, k0 ≤ k → je P fx (ck k) ops l T S = some r := by
 intro l
 induction l with
 | nil => intro T S r h; exact ⟨0, fun k _ => h⟩
 | cons o l ih =>
  intro T S r h
  simp only [je] at h
  split at h
  ·
   rename_i hw
   split at h
   ·
    rename_i v S' hs
    obtain ⟨k1, h1⟩ := Qs hl hs
    obtain ⟨k2, h2⟩ := ih _ _ _ h
    refine ⟨max k1 k2, fun k hk => ?_⟩
    simp only [je, hw, if_true, h1 k (by omega)]
    exact h2 k (by omega)
   ·
    cases h
  ·
   rename_i hw
   obtain ⟨k2, h2⟩ := ih _ _ _ h
   refine ⟨k2, fun k hk => ?_⟩
   simp only [je, hw, if_false]
   exact h2 k hk
theorem aa2 (hl : ae1 c ck) {fx : Fx} {chk : List Nat} {nl : List (Nat × Nat)} {ops : Array Oper} : ∀ (l : List Oper) (i : Nat) (hist : List (Value × zi)) (T : List Value) (S : zi) (r : List Value × zi), jv P fx chk nl c ops i hist l T S = some r → ∃ k0, ∀ k, k0 ≤ k → jv P fx chk nl (ck k) ops i hist l T S = some r := by
 intro l
 induction l with
 | nil => intro i hist T S r h; exact ⟨0, fun k _ => h⟩
 | cons o l ih =>
  intro i hist T S r h
  simp only [jv] at h
  split at h
  ·
   rename_i hw
   split at h
   ·
    rename_i v S' hs
    split at h
    ·
     rename_i hq
     obtain ⟨k1, h1⟩ := Qs hl hs
     obtain ⟨k2, h2⟩ := ih _ _ _ _ _ h
     refine ⟨max k1 k2, fun k hk => ?_⟩
     simp only [jv, hw, if_true, h1 k (by omega), hq]
     exact h2 k (by omega)
    ·
     cases h
   ·
    cases h
  ·
   rename_i hw
   obtain ⟨k2, h2⟩ := ih _ _ _ _ _ h
   refine ⟨k2, fun k hk => ?_⟩
   simp only [jv, hw, if_false]
   exact h2 k hk
end
noncomputable def zD (P : Program) (O : Ora) (hp : Bool) : Code → List Value → zi → St
 | .skip, T, H => some (.normal, T, H)
 | .region _ ops false, T, H => match je P ⟨hp, false, false⟩ (yQ O.hp hp (zV P O)) ops ops.toList T H with
  | some (T1, H1) => some (.normal, T1, H1)
  | none => none
 | .region _ ops true, T, H => if qp P ops then match jv P ⟨hp, !(checked P ops).isEmpty, fixed P ops⟩ (checked P ops) (again P ops) (yQ O.hp hp (zV P O)) ops 0 [] ops.toList T H with
  | some (T1, H1) => some (.normal, T1, H1)
  | none => none
  else none
 | .seq x y, T, H => match zD P O hp x T H with
  | some (.normal, T1, H1) => zD P O hp y T1 H1
  | r => r
 | .cond c x y, T, H => if wR c then
   match zJ T c with
   | .bool true => zD P O hp x T H
   | .bool false => zD P O hp y T H
   | _ => none
  else none
 | .block id c, T, H => match zD P O hp c T H with
  | some (.exit id', T1, H1) => if id' = id then some (.normal, T1, H1) else some (.exit id', T1, H1)
  | r => r
 | .loop c, T, H => wS (zD P O hp c) T H
 | .exit id, T, H => some (.exit id, T, H)
 | .ret, T, H => some (.ret, T, H)
 | _, _, _ => none
theorem Wu {hp : Bool} : ∀ (c : Code) (T : List Value) (H : zi) (r), zD P O hp c T H = some r → ∃ k0, ∀ k fuel, k0 ≤ k → k0 ≤ fuel → jU P hp (yQ O.hp hp (qh P O k)) fuel c T H = some r := by
 intro c
 induction c with
 | skip => intro T H r h; exact ⟨0, fun k fuel _ _ => h⟩
 | region i ops d =>
  intro T H r h
  cases d with
  | false =>
   simp only [zD] at h
   split at h
   ·
    rename_i T1 H1 ho
    obtain ⟨k0, h0⟩ := abU (Wy QG) _ _ _ _ ho
    exact ⟨k0, fun k fuel hk _ => by simp only [jU, h0 k hk]; exact h⟩
   ·
    cases h
  | true =>
   simp only [zD] at h
   split at h
   ·
    rename_i hd
    split at h
    ·
     rename_i T1 H1 ho
     obtain ⟨k0, h0⟩ := aa2 (Wy QG) _ _ _ _ _ _ ho
     exact ⟨k0, fun k fuel hk _ => by simp only [jU, hd, if_true, h0 k hk]; exact h⟩
    ·
     cases h
   ·
    cases h
 | seq x y ihx ihy =>
  intro T H r h
  simp only [zD] at h
  split at h
  ·
   rename_i T1 H1 hx
   obtain ⟨k1, h1⟩ := ihx _ _ _ hx
   obtain ⟨k2, h2⟩ := ihy _ _ _ h
   exact ⟨max k1 k2, fun k fuel hk hf => by simp only [jU, h1 k fuel (by omega) (by omega)]; exact h2 k fuel (by omega) (by omega)⟩
  ·
   rename_i hne
   obtain ⟨k1, h1⟩ := ihx _ _ _ h
   refine ⟨k1, fun k fuel hk hf => ?_⟩
   simp only [jU, h1 k fuel hk hf]
   split
   ·
    rename_i T1 H1 he; exact absurd (h.trans he) (hne T1 H1)
   ·
    rfl
 | cond c x y ihx ihy =>
  intro T H r h
  simp only [zD] at h
  split at h
  ·
   rename_i hok
   split at h
   ·
    rename_i hb
    obtain ⟨k1, h1⟩ := ihx _ _ _ h
    exact ⟨k1, fun k fuel hk hf => by simp only [jU, hok, if_true, hb]; exact h1 k fuel hk hf⟩
   ·
    rename_i hb
    obtain ⟨k1, h1⟩ := ihy _ _ _ h
    exact ⟨k1, fun k fuel hk hf => by simp only [jU, hok, if_true, hb]; exact h1 k fuel hk hf⟩
   ·
    cases h
  ·
   cases h
 | block id c ih =>
  intro T H r h
  simp only [zD] at h
  split at h
  ·
   rename_i id' T1 H1 hc
   obtain ⟨k1, h1⟩ := ih _ _ _ hc
   exact ⟨k1, fun k fuel hk hf => by simp only [jU, h1 k fuel hk hf]; exact h⟩
  ·
   rename_i hne
   obtain ⟨k1, h1⟩ := ih _ _ _ h
   refine ⟨k1, fun k fuel hk hf => ?_⟩
   simp only [jU, h1 k fuel hk hf]
   split
   ·
    rename_i id' T1 H1 he; exact absurd (h.trans he) (hne id' T1 H1)
   ·
    rfl
 | loop c ih =>
  intro T H r h
  simp only [zD] at h
  obtain ⟨n, hn⟩ := xE h
  have key : ∀ (n : Nat) (T : List Value) (H : zi), wK n (zD P O hp c) T H = some r → ∃ k0, ∀ k fuel, k0 ≤ k → k0 ≤ fuel → ∀ j, n ≤ j → wK j (jU P hp (yQ O.hp hp (qh P O k)) fuel c) T H = some r := by
   intro n
   induction n with
   | zero => intro T H h; cases h
   | succ n ihn =>
    intro T H h
    simp only [wK] at h
    split at h
    ·
     rename_i T1 H1 hf
     obtain ⟨k1, h1⟩ := ih _ _ _ hf
     obtain ⟨k2, h2⟩ := ihn _ _ h
     refine ⟨max k1 k2, fun k fuel hk hfu j hj => ?_⟩
     obtain ⟨j, rfl⟩ : ∃ i, j = i + 1 := ⟨j - 1, by omega⟩
     simp only [wK, h1 k fuel (by omega) (by omega)]
     exact h2 k fuel (by omega) (by omega) j (by omega)
    ·
     rename_i hne
     obtain ⟨k1, h1⟩ := ih _ _ _ h
     refine ⟨k1, fun k fuel hk hfu j hj => ?_⟩
     obtain ⟨j, rfl⟩ : ∃ i, j = i + 1 := ⟨j - 1, by omega⟩
     simp only [wK, h1 k fuel hk hfu]
     split
     ·
      rename_i T1 H1 he; exact absurd (h.trans he) (hne T1 H1)
     ·
      rfl
  obtain ⟨k0, h0⟩ := key n T H hn
  exact ⟨max k0 n, fun k fuel hk hf => by simp only [jU]; exact h0 k fuel (by omega) (by omega) fuel (by omega)⟩
 | exit id => intro T H r h; exact ⟨0, fun k fuel _ _ => h⟩
 | ret => intro T H r h; exact ⟨0, fun k fuel _ _ => h⟩
 | _ => intro T H r h; simp only [zD] at h; cases h
theorem wU {f : FuncId} {fn : Func} {c : Code} {args : List Value} {H H1 H' : zi} {e : AEx} {T : List Value} {v : Value} (ho : O.fn f = none) (hpu : O.pu f = false) (hf : P.funcs[f]? = some fn) (hn : fn.name ≠ "runtime.NumGoroutine") (hb : fn.body = some c)
  (h : zD P O (O.hp f) c (args ++ List.replicate (fn.ntmps - args.length) undef) H = some (e, T, H1)) (he : e = .normal ∨ e = .ret) (hres : aa7 P fn T H1 = some (v, H')) : zV P O f args H = some (v, H') := by
 obtain ⟨k0, h0⟩ := Wu _ _ _ _ h
 refine QW ⟨k0 + 1, fun k hk => ?_⟩
 obtain ⟨k, rfl⟩ : ∃ i, k = i + 1 := ⟨k - 1, by omega⟩
 simp only [qh, ho, hf, if_neg hn, hb, hpu, Bool.false_eq_true, if_false, abL, h0 k k (by omega) (by omega)]
 rcases he with rfl | rfl <;> exact hres
theorem kX {f : FuncId} {fn : Func} {c : Code} {args : List Value} {S H1 H' : zi} {e : AEx} {T : List Value} {v : Value} (ho : O.fn f = none) (hpu : O.pu f = true) (hf : P.funcs[f]? = some fn) (hn : fn.name ≠ "runtime.NumGoroutine") (hb : fn.body = some c)
  (h : zD P O (O.hp f) c (args ++ List.replicate (fn.ntmps - args.length) undef) zi.empty = some (e, T, H1)) (he : e = .normal ∨ e = .ret) (hres : aa7 P fn T H1 = some (v, H')) (hca : args.all (jf 16) = true) (hcv : jf 16 v = true) : zV P O f args S = some (v, S) := by
 obtain ⟨k0, h0⟩ := Wu _ _ _ _ h
 refine QW ⟨k0 + 1, fun k hk => ?_⟩
 obtain ⟨k, rfl⟩ : ∃ i, k = i + 1 := ⟨k - 1, by omega⟩
 have hr : abL P (O.hp f) (yQ O.hp (O.hp f) (qh P O k)) k fn c args zi.empty = some (v, H') := by
  simp only [abL, h0 k k (by omega) (by omega)]
  rcases he with rfl | rfl <;> exact hres
 simp only [qh, ho, hf, if_neg hn, hb, hpu, if_true, aa3, if_pos hca, hr, if_pos hcv]
def Ty.ZJ : (t : Ty) → t.Val → List Value
 | .int k, n => [.int k n]
 | .bool, b => [.bool b]
 | .str, s => [.string s]
 | .slc _ e, l => match l with
  | none => [.slice none 0 0]
  | some l => [SL 1 e.sz l.length (l.flatMap e.ZJ)]
 | .pair a b, (x, y) => a.ZJ x ++ b.ZJ y
 | .unit, _ => []
theorem Ty.QM : ∀ (t : Ty) (x : t.Val), (t.ZJ x).length = t.sz := by
 intro t
 induction t with
 | pair a b iha ihb => rintro ⟨x, y⟩; simp [Ty.ZJ, Ty.sz, iha, ihb]
 | slc bytes e ih => intro x; cases x <;> rfl
 | _ => intro x; rfl
theorem ZM {e : Ty} (l : List e.Val) : (l.flatMap e.ZJ).length = l.length * e.sz := by
 induction l with
 | nil => simp
 | cons x l ih => simp [List.flatMap_cons, Ty.QM, ih, Nat.add_mul]; omega
def M0 : Mu := ⟨fun _ => none, fun _ => false, []⟩
theorem GI.none {H : zi} : GI M0 zi.empty H := ⟨(fun q o h => by cases h), (fun q q' r h => by cases h), (fun q r b h => by cases h), (fun q _ => rfl), (fun q r h => by cases h), (fun r h => by cases h), rfl, (fun q cs anc e h => by cases h)⟩
theorem Ty.WY : ∀ (t : Ty) (x : t.Val) (H : zi), Later M0 H M0 (t.place x H).2 ∧ L0 M0 (t.place x H).2 (t.ZJ x) (t.place x H).1 := by
 intro t
 induction t with
 | int k => intro x H; exact ⟨Later.refl _ _, VL.cons (.sg rfl) VL.nil⟩
 | bool => intro x H; exact ⟨Later.refl _ _, VL.cons (.sg rfl) VL.nil⟩
 | str => intro x H; exact ⟨Later.refl _ _, VL.cons (.sg rfl) VL.nil⟩
 | unit => intro x H; exact ⟨Later.refl _ _, VL.nil⟩
 | pair a b iha ihb =>
  rintro ⟨x, y⟩ H
  obtain ⟨h1, h2⟩ := iha x H
  obtain ⟨h3, h4⟩ := ihb y (a.place x H).2
  exact ⟨h1.trans h3, (h2.later h3).append h4⟩
 | slc bytes e ih =>
  intro x H
  match x with
  | none => exact ⟨Later.refl _ _, VL.cons (.sg rfl) VL.nil⟩
  | some [] => exact ⟨Later.refl _ _, VL.cons (.slE (e := e.sz)) VL.nil⟩
  | some (x :: l) =>
   have key : ∀ (l : List e.Val) (H : zi), Later M0 H M0 (jC e.place l H).2 ∧ L0 M0 (jC e.place l H).2 (l.flatMap e.ZJ) (jC e.place l H).1 := by
    intro l
    induction l with
    | nil => intro H; exact ⟨Later.refl _ _, VL.nil⟩
    | cons x l ihl =>
     intro H
     obtain ⟨h1, h2⟩ := ih x H
     obtain ⟨h3, h4⟩ := ihl (e.place x H).2
     exact ⟨h1.trans h3, (h2.later h3).append h4⟩
   obtain ⟨h1, h2⟩ := key (x :: l) H
   have hL : Later M0 (jC e.place (x :: l) H).2 M0 ((jC e.place (x :: l) H).2.push (.cells (jC e.place (x :: l) H).1 .ro e.sz)) := Wp (fun q r h => by cases h) _
   refine ⟨h1.trans hL, VL.cons ?_ VL.nil⟩
   have hlen : (jC e.place (x :: l) H).1.length = (l.length + 1) * e.sz := by rw [← h2.1, ZM]; rfl
   show V0 M0 ((jC e.place (x :: l) H).2.push (.cells (jC e.place (x :: l) H).1 .ro e.sz)) (SL 1 e.sz (l.length + 1) ((x :: l).flatMap e.ZJ)) (.slice (some ⟨(jC e.place (x :: l) H).2.next, 0, none⟩) (l.length + 1) (l.length + 1))
   refine VV.sl (o := 0) (l := (jC e.place (x :: l) H).1) (own := .ro) (by simp) ⟨fun q h => (by cases h), rfl⟩ (by rw [zi.zT, if_pos rfl]) (by omega) (by rw [List.toList_toArray, ZM]; rfl) (fun i hi => ?_)
   rw [Nat.zero_add, List.toList_toArray]
   exact (h2.2 i).qI hL
def Args.ZJ : (l : List (Bool × Ty)) → Args l → List Value
 | [], _ => []
 | (b, c) :: l, (x, xs) => kD b (c.ZJ x) :: Args.ZJ l xs
theorem acs {H : zi} {b : Bool} {cs cs' : List Value} (h : L0 M0 H cs cs') : V0 M0 H (kD b cs) (kD b cs') := by
 unfold kD
 split
 ·
  exact ZX h
 ·
  rw [xq, xq]; exact h.2 0
theorem Args.WY : ∀ (l : List (Bool × Ty)) (x : Args l) (H : zi), Later M0 H M0 (Args.place l x H).2 ∧ L0 M0 (Args.place l x H).2 (Args.ZJ l x) (Args.place l x H).1 := by
 intro l
 induction l with
 | nil => intro x H; exact ⟨Later.refl _ _, VL.nil⟩
 | cons p l ih =>
  obtain ⟨b, c⟩ := p
  rintro ⟨x, xs⟩ H
  obtain ⟨h1, h2⟩ := c.WY x H
  obtain ⟨h3, h4⟩ := ih xs (c.place x H).2
  exact ⟨h1.trans h3, VL.cons ((acs h2).qI h3) h4⟩
theorem QO (hO : QN P O) {f : FuncId} {codes : List (Bool × Ty)} {x : Args codes} {S' : zi} (h : zV P O f (Args.ZJ codes x) zi.empty = some (.bool true, S')) :
  ∃ k, (qH P k f (Args.place codes x zi.empty).1 (Args.place codes x zi.empty).2).map (·.1) = some (.bool true) := by
 obtain ⟨h1, h2⟩ := Args.WY codes x zi.empty
 obtain ⟨a, H', μ', ω', k1, k2, k3, k4, k5, k6⟩ := VT hO f _ _ _ _ _ h M0 _ W0 GI.none h2 (fun r s hs => by cases hs) (fun r s hs => by cases hs)
 have : a = .bool true := zU (k6.v0) rfl
 subst this
 exact XR k1
theorem acw {hps pus : FuncId → Bool} : QN P ⟨fun _ => none, hps, pus⟩ := fun f q h => by cases h
end
end Go.Abs
namespace Go.Abs
open Go.RowKit
section
variable {R : Type} {P : Program} {O : Ora} {fx : Fx} {hp nm : Bool} {chk : List Nat} {call : FuncId → List Value → M Value} {ops : Array Oper}
def okC (v : Value) (r : Option R) : Option R := if okq 3 v = true then r else none
@[simp] theorem Xb (b : Bool) (r : Option R) : okC (.bool b) r = r := Eq.trans rfl rfl
@[simp] theorem aac (k : IntKind) (n : Int) (r : Option R) : okC (.int k n) r = r := Eq.trans rfl rfl
@[simp] theorem J7 (s : ByteArray) (r : Option R) : okC (.string s) r = r := Eq.trans rfl rfl
@[simp] theorem Y2 (a : Option Addr) (n c : Nat) (r : Option R) : okC (.slice a n c) r = r := Eq.trans rfl rfl
@[simp] theorem Y8 (k : Nat) (v : Value) (r : Option R) : okC (.iface k v) r = r := Eq.trans rfl rfl
@[simp] theorem aez (a : Option Addr) (r : Option R) : okC (.pointer a) r = r := Eq.trans rfl rfl
def gdC (v : Value) (b : Bool) (s : M Value) (S : zi) (K : Value → zi → Option R) : Option R :=
 if (vb v == some b) = true then andThen (s S) (fun v S1 => okC v (K v S1)) else K undef S
@[simp] theorem adZ (s : M Value) (H : zi) (K : Value → zi → Option R) : gdC (.bool true) true s H K = andThen (s H) (fun v S1 => okC v (K v S1)) := Eq.trans rfl rfl
@[simp] theorem adi (s : M Value) (H : zi) (K : Value → zi → Option R) : gdC (.bool false) false s H K = andThen (s H) (fun v S1 => okC v (K v S1)) := Eq.trans rfl rfl
@[simp] theorem adF (s : M Value) (H : zi) (K : Value → zi → Option R) : gdC (.bool true) false s H K = K undef H := Eq.trans rfl rfl
@[simp] theorem adL (s : M Value) (H : zi) (K : Value → zi → Option R) : gdC (.bool false) true s H K = K undef H := Eq.trans rfl rfl
@[simp] theorem adI (s : M Value) (b : Bool) (H : zi) (K : Value → zi → Option R) : gdC undef b s H K = K undef H := Eq.trans rfl rfl
abbrev vV {α : Type} (a : α) : Type := Unit
def zO (s : Option (Value × zi)) (K : Value → zi → Option R) (p : vV K) : Option R := andThen s K
def gdK (v : Value) (b : Bool) (s : M Value) (S : zi) (K : Value → zi → Option R) (p : vV K) : Option R := gd v b s S K
def afQ (v : Value) (b : Bool) (s : M Value) (S : zi) (K : Value → zi → Option R) (p : vV K) : Option R := gdC v b s S K
def okK (v : Value) (r : Option R) (p : vV r) : Option R := okC v r
@[simp] theorem Qu (v : Value) (H : zi) (K : Value → zi → Option R) (p : vV K) : zO (some (v, H)) K p = K v H := Eq.trans rfl rfl
@[simp] theorem adU (s : M Value) (H : zi) (K : Value → zi → Option R) (p : vV K) : gdK (.bool true) true s H K p = zO (s H) K p := Eq.trans rfl rfl
@[simp] theorem adM (s : M Value) (H : zi) (K : Value → zi → Option R) (p : vV K) : gdK (.bool false) false s H K p = zO (s H) K p := Eq.trans rfl rfl
@[simp] theorem adC (s : M Value) (H : zi) (K : Value → zi → Option R) (p : vV K) : gdK (.bool true) false s H K p = K undef H := Eq.trans rfl rfl
@[simp] theorem adt (s : M Value) (H : zi) (K : Value → zi → Option R) (p : vV K) : gdK (.bool false) true s H K p = K undef H := Eq.trans rfl rfl
@[simp] theorem adQ (s : M Value) (b : Bool) (H : zi) (K : Value → zi → Option R) (p : vV K) : gdK undef b s H K p = K undef H := Eq.trans rfl rfl
@[simp] theorem aam (s : M Value) (H : zi) (K : Value → zi → Option R) (p : vV K) : afQ (.bool true) true s H K p = zO (s H) (fun v S1 => okK v (K v S1) ()) () := Eq.trans rfl rfl
@[simp] theorem VK (s : M Value) (H : zi) (K : Value → zi → Option R) (p : vV K) : afQ (.bool false) false s H K p = zO (s H) (fun v S1 => okK v (K v S1) ()) () := Eq.trans rfl rfl
@[simp] theorem abr (s : M Value) (H : zi) (K : Value → zi → Option R) (p : vV K) : afQ (.bool true) false s H K p = K undef H := Eq.trans rfl rfl
@[simp] theorem Vx (s : M Value) (H : zi) (K : Value → zi → Option R) (p : vV K) : afQ (.bool false) true s H K p = K undef H := Eq.trans rfl rfl
@[simp] theorem aaG (s : M Value) (b : Bool) (H : zi) (K : Value → zi → Option R) (p : vV K) : afQ undef b s H K p = K undef H := Eq.trans rfl rfl
@[simp] theorem KT (b : Bool) (r : Option R) (p : vV r) : okK (.bool b) r p = r := Eq.trans rfl rfl
@[simp] theorem abJ (k : IntKind) (n : Int) (r : Option R) (p : vV r) : okK (.int k n) r p = r := Eq.trans rfl rfl
@[simp] theorem Wx (s : ByteArray) (r : Option R) (p : vV r) : okK (.string s) r p = r := Eq.trans rfl rfl
@[simp] theorem QE (a : Option Addr) (n c : Nat) (r : Option R) (p : vV r) : okK (.slice a n c) r p = r := Eq.trans rfl rfl
@[simp] theorem JL (a : Option Addr) (r : Option R) (p : vV r) : okK (.pointer a) r p = r := Eq.trans rfl rfl
theorem adN {v : Value} (h : okq 3 v = true) (r : Option R) (p : vV r) : okK v r p = r := if_pos h
theorem aaK {l rest : List Oper} {o : Oper} {T : List Value} {T1 : Value → List Value} {S : zi} {v : Value} {r : Option (List Value × zi)} (hl : l = o :: rest) (hg : o.guard = none) (hm : ∀ v, qJ o rest T v = T1 v)
  (hs : jJ P fx call T o S = some (v, S)) (hK : je P fx call ops rest (T1 v) S = r) : je P fx call ops l T S = r := by
 subst hl
 simp only [je, Region.wanted, hg, if_true, hs, hm]
 exact hK
theorem ael {l rest : List Oper} {o : Oper} {T : List Value} {T1 : Value → List Value} {S : zi} {s : Option (Value × zi)} {K : Value → zi → Option (List Value × zi)} (hl : l = o :: rest) (hg : o.guard = none) (hm : ∀ v, qJ o rest T v = T1 v)
  (hs : jJ P fx call T o S = s) (hK : ∀ v S1, je P fx call ops rest (T1 v) S1 = K v S1) : je P fx call ops l T S = zO s K () := by
 show _ = andThen s K
 subst hl hs
 simp only [je, Region.wanted, hg, if_true, hm, hK]
 rfl
theorem aen {l rest : List Oper} {o : Oper} {T : List Value} {T1 : Value → List Value} {S : zi} {j : Nat} {b : Bool} {g : Value} {s : M Value} {K : Value → zi → Option (List Value × zi)} (hl : l = o :: rest) (hg : o.guard = some (j, b)) (hm : ∀ v, qJ o rest T v = T1 v)
  (hy : ynd ops T j = vb g) (hs : jJ P fx call T o S = s S) (hK : ∀ v S1, je P fx call ops rest (T1 v) S1 = K v S1) : je P fx call ops l T S = gdK g b s S K () := by
 show _ = gd g b s S K
 subst hl
 simp only [je, Region.wanted, hg, hy, hs, hm, hK, gd]
 rfl
theorem acE {l rest : List Oper} {o : Oper} {T : List Value} {T1 : Value → List Value} {S : zi} {k : Nat} {s : Option (Value × zi)} {K : Value → zi → Option (List Value × zi)} (hc : chk.contains k = false) (hl : l = o :: rest) (hg : o.guard = none) (hm : ∀ v, qJ o rest T v = T1 v)
  (hs : jJ P fx call T o S = s) (hK : ∀ v S1, jv P fx chk [] call ops (k + 1) [] rest (T1 v) S1 = K v S1) : jv P fx chk [] call ops k [] l T S = zO s K () := by
 show _ = andThen s K
 subst hl hs
 simp only [jv, yS, List.isEmpty_nil, if_true, Region.wanted, hg, if_true, hm, hK, hc, Bool.not_false, Bool.true_or]
 rfl
theorem abI {l rest : List Oper} {o : Oper} {T : List Value} {T1 : Value → List Value} {S : zi} {k : Nat} {s : Option (Value × zi)} {K : Value → zi → Option (List Value × zi)} (hc : chk.contains k = true) (hl : l = o :: rest) (hg : o.guard = none) (hm : ∀ v, qJ o rest T v = T1 v)
  (hs : jJ P fx call T o S = s) (hK : ∀ v S1, jv P fx chk [] call ops (k + 1) [] rest (T1 v) S1 = K v S1) : jv P fx chk [] call ops k [] l T S = zO s (fun v S1 => okK v (K v S1) ()) () := by
 show _ = andThen s (fun v S1 => okC v (K v S1))
 subst hl hs
 simp only [jv, yS, List.isEmpty_nil, if_true, Region.wanted, hg, if_true, hm, hK, hc, Bool.not_true, Bool.false_or]
 rfl
theorem XK {l rest : List Oper} {o : Oper} {T : List Value} {T1 : Value → List Value} {S : zi} {k : Nat} {v : Value} {r : Option (List Value × zi)} (hc : chk.contains k = false) (hl : l = o :: rest) (hg : o.guard = none) (hm : ∀ v, qJ o rest T v = T1 v)
  (hs : jJ P fx call T o S = some (v, S)) (hK : jv P fx chk [] call ops (k + 1) [] rest (T1 v) S = r) : jv P fx chk [] call ops k [] l T S = r := by
 subst hl
 simp only [jv, yS, List.isEmpty_nil, if_true, Region.wanted, hg, if_true, hs, hm, hc, Bool.not_false, Bool.true_or]
 exact hK
theorem KC {l rest : List Oper} {o : Oper} {T : List Value} {T1 : Value → List Value} {S : zi} {k : Nat} {v : Value} {r : Option (List Value × zi)} (hc : chk.contains k = true) (hl : l = o :: rest) (hg : o.guard = none) (hm : ∀ v, qJ o rest T v = T1 v)
  (hs : jJ P fx call T o S = some (v, S)) (hK : jv P fx chk [] call ops (k + 1) [] rest (T1 v) S = r) : jv P fx chk [] call ops k [] l T S = okK v r () := by
 show _ = okC v r
 subst hl
 simp only [jv, yS, List.isEmpty_nil, if_true, Region.wanted, hg, if_true, hs, hm, hc, Bool.not_true, Bool.false_or]
 rw [← hK]
 rfl
theorem aco {l rest : List Oper} {o : Oper} {T : List Value} {T1 : Value → List Value} {S : zi} {j k : Nat} {b : Bool} {g : Value} {s : M Value} {K : Value → zi → Option (List Value × zi)} (hc : chk.contains k = false) (hl : l = o :: rest) (hg : o.guard = some (j, b)) (hm : ∀ v, qJ o rest T v = T1 v)
  (hy : ynd ops T j = vb g) (hs : jJ P fx call T o S = s S) (hK : ∀ v S1, jv P fx chk [] call ops (k + 1) [] rest (T1 v) S1 = K v S1) : jv P fx chk [] call ops k [] l T S = gdK g b s S K () := by
 show _ = gd g b s S K
 subst hl
 simp only [jv, yS, List.isEmpty_nil, if_true, Region.wanted, hg, hy, hs, hm, hK, gd, hc, Bool.not_false, Bool.true_or, if_true]
 rfl
theorem acU {l rest : List Oper} {o : Oper} {T : List Value} {T1 : Value → List Value} {S : zi} {k : Nat} {s : Option (Value × zi)} {K : Value → zi → Option (List Value × zi)} (hc : chk.contains k = false) {x : Nat × Nat} {nl : List (Nat × Nat)} {hist : List (Value × zi)} {pe : Value} (hpe : qZ T o = pe) (hl : l = o :: rest) (hg : o.guard = none) (hm : ∀ v, qJ o rest T v = T1 v)
  (hs : jJ P fx call T o S = s) (hK : ∀ v S1, jv P fx chk (x :: nl) call ops (k + 1) (hist ++ [(pe, S)]) rest (T1 v) S1 = K v S1) : jv P fx chk (x :: nl) call ops k hist l T S = zO s K () := by
 show _ = andThen s K
 subst hl hs
 simp only [jv, yS, List.isEmpty_cons, Bool.false_eq_true, if_false, hpe, Region.wanted, hg, if_true, hm, hK, hc, Bool.not_false, Bool.true_or]
 rfl
theorem abk {l rest : List Oper} {o : Oper} {T : List Value} {T1 : Value → List Value} {S : zi} {k : Nat} {s : Option (Value × zi)} {K : Value → zi → Option (List Value × zi)} (hc : chk.contains k = true) {x : Nat × Nat} {nl : List (Nat × Nat)} {hist : List (Value × zi)} {pe : Value} (hpe : qZ T o = pe) (hl : l = o :: rest) (hg : o.guard = none) (hm : ∀ v, qJ o rest T v = T1 v)
  (hs : jJ P fx call T o S = s) (hK : ∀ v S1, jv P fx chk (x :: nl) call ops (k + 1) (hist ++ [(pe, S)]) rest (T1 v) S1 = K v S1) : jv P fx chk (x :: nl) call ops k hist l T S = zO s (fun v S1 => okK v (K v S1) ()) () := by
 show _ = andThen s (fun v S1 => okC v (K v S1))
 subst hl hs
 simp only [jv, yS, List.isEmpty_cons, Bool.false_eq_true, if_false, hpe, Region.wanted, hg, if_true, hm, hK, hc, Bool.not_true, Bool.false_or]
 rfl
theorem Vo {l rest : List Oper} {o : Oper} {T : List Value} {T1 : Value → List Value} {S : zi} {k : Nat} {v : Value} {r : Option (List Value × zi)} (hc : chk.contains k = false) {x : Nat × Nat} {nl : List (Nat × Nat)} {hist : List (Value × zi)} {pe : Value} (hpe : qZ T o = pe) (hl : l = o :: rest) (hg : o.guard = none) (hm : ∀ v, qJ o rest T v = T1 v)
  (hs : jJ P fx call T o S = some (v, S)) (hK : jv P fx chk (x :: nl) call ops (k + 1) (hist ++ [(pe, S)]) rest (T1 v) S = r) : jv P fx chk (x :: nl) call ops k hist l T S = r := by
 subst hl
 simp only [jv, yS, List.isEmpty_cons, Bool.false_eq_true, if_false, hpe, Region.wanted, hg, if_true, hs, hm, hc, Bool.not_false, Bool.true_or]
 exact hK
theorem abP {l rest : List Oper} {o : Oper} {T : List Value} {T1 : Value → List Value} {S : zi} {j k : Nat} {b : Bool} {g : Value} {s : M Value} {K : Value → zi → Option (List Value × zi)} (hc : chk.contains k = false) {x : Nat × Nat} {nl : List (Nat × Nat)} {hist : List (Value × zi)} {pe : Value} (hpe : qZ T o = pe) (hl : l = o :: rest) (hg : o.guard = some (j, b)) (hm : ∀ v, qJ o rest T v = T1 v)
  (hy : ynd ops T j = vb g) (hs : jJ P fx call T o S = s S) (hK : ∀ v S1, jv P fx chk (x :: nl) call ops (k + 1) (hist ++ [(pe, S)]) rest (T1 v) S1 = K v S1) : jv P fx chk (x :: nl) call ops k hist l T S = gdK g b s S K () := by
 show _ = gd g b s S K
 subst hl
 simp only [jv, yS, List.isEmpty_cons, Bool.false_eq_true, if_false, hpe, Region.wanted, hg, hy, hs, hm, hK, gd, hc, Bool.not_false, Bool.true_or, if_true]
 rfl
def ckK (c : Bool) (r : Option R) (p : vV r) : Option R := if c then r else none
@[simp] theorem KP (r : Option R) (p : vV r) : ckK true r p = r := Eq.trans rfl rfl
noncomputable def aeI (P : Program) (O : Ora) (hp : Bool) (v : Value) (x y : Code) (T : List Value) (S : zi) : St := ab3 v (zD P O hp x T S) (zD P O hp y T S)
@[simp] theorem J5 (x y : Code) (T : List Value) (S : zi) : aeI P O hp (.bool true) x y T S = zD P O hp x T S := Eq.trans rfl rfl
@[simp] theorem Jp (x y : Code) (T : List Value) (S : zi) : aeI P O hp (.bool false) x y T S = zD P O hp y T S := Eq.trans rfl rfl
@[simp] theorem Z8 (T : List Value) (H : zi) : zD P O hp .skip T H = some (.normal, T, H) := Eq.trans rfl rfl
@[simp] theorem J9 (T : List Value) (H : zi) : zD P O hp .ret T H = some (.ret, T, H) := Eq.trans rfl rfl
@[simp] theorem Jk (i : Nat) (T : List Value) (H : zi) : zD P O hp (.exit i) T H = some (.exit i, T, H) := Eq.trans rfl rfl
@[simp] theorem vU (i : Nat) (ops : Array Oper) (T : List Value) (H : zi) : zD P O false (.region i ops false) T H = QI (je P ⟨false, false, false⟩ (zV P O) ops ops.toList T H) := Eq.trans rfl rfl
@[simp] theorem xP (i : Nat) (ops : Array Oper) (T : List Value) (H : zi) : zD P O true (.region i ops false) T H = QI (je P ⟨true, false, false⟩ (yQ O.hp true (zV P O)) ops ops.toList T H) := Eq.trans rfl rfl
theorem yH {i : Nat} {ops : Array Oper} (hd : qp P ops = true) (hf : fixed P ops = nm) (hc : checked P ops = chk) {nl : List (Nat × Nat)} (hn : again P ops = nl) (T : List Value) (H : zi) : zD P O false (.region i ops true) T H = QI (jv P ⟨false, !chk.isEmpty, nm⟩ chk nl (zV P O) ops 0 [] ops.toList T H) := by
 subst hf hc hn
 simp only [zD, hd, if_true, yQ]
 rfl
@[simp] theorem J6 (x y : Code) (T : List Value) (H : zi) : zD P O hp (.seq x y) T H = afm (zD P O hp x T H) (zD P O hp y) := Eq.trans rfl rfl
@[simp] theorem ZA (i : Nat) (c : Code) (T : List Value) (H : zi) : zD P O hp (.block i c) T H = Qi i (zD P O hp c T H) := Eq.trans rfl rfl
@[simp] theorem Jv (c : Code) (T : List Value) (H : zi) : zD P O hp (.loop c) T H = wS (zD P O hp c) T H := Eq.trans rfl rfl
@[simp] theorem Ji (t : Tmp) (x y : Code) (T : List Value) (H : zi) : zD P O hp (.cond (.tmp t) x y) T H = aeI P O hp (T.getD t undef) x y T H := by
 simp only [zD, wR, if_true, zJ]
 rfl
@[simp] theorem Z4 : dem undef = undef := kN
@[simp] theorem abH (k : IntKind) (n : Int) : dem (.int k n) = .int k n := Eq.trans rfl rfl
@[simp] theorem Xm (b : Bool) : dem (.bool b) = .bool b := Eq.trans rfl rfl
@[simp] theorem WH (s : ByteArray) : dem (.string s) = .string s := Eq.trans rfl rfl
@[simp] theorem abB : dem (.slice none 0 0) = .slice none 0 0 := Eq.trans rfl rfl
@[simp] theorem abG (x : Array Value) : dem (.agg x) = .agg x := Eq.trans rfl rfl
@[simp] theorem Xj (f : Fn) (x c : Array Value) : dem (.func f x c) = .func f x c := Eq.trans rfl rfl
@[simp] theorem Jr (a : Option Addr) : dem (.pointer a) = .pointer a := Eq.trans rfl rfl
@[simp] theorem af4 (e n : Nat) (cs : List Value) : dem (SL 1 e n cs) = SL 1 e n cs := Eq.trans rfl rfl
@[simp] theorem af7 (e n : Nat) (cs : List Value) : dem (SL 2 e n cs) = SL 1 e n cs := Eq.trans rfl rfl
@[simp] theorem adr (k e n : Nat) (cs : List Value) (r : Option R) (p : vV r) : okK (SL k e n cs) r p = r := Eq.trans rfl rfl
@[simp] theorem adu (cs : List Value) (r : Option R) (p : vV r) : okK (EP cs) r p = r := Eq.trans rfl rfl
@[simp] theorem agf (k e n : Nat) (cs : List Value) (r : Option R) : okC (SL k e n cs) r = r := Eq.trans rfl rfl
@[simp] theorem adO (cs : List Value) (r : Option R) : okC (EP cs) r = r := Eq.trans rfl rfl
def sv (k e n : Nat) (cs : List Value) : Value := if k = 0 then .slice none 0 0 else SL k e n cs
structure Okv (k n : Nat) (cs : List Value) : Prop where
 le : k ≤ 2
 nil : k = 0 → n = 0 ∧ cs = []
theorem sv0 {e n : Nat} {cs : List Value} : sv 0 e n cs = .slice none 0 0 := rfl
theorem sv1 {e n : Nat} {cs : List Value} : sv 1 e n cs = SL 1 e n cs := rfl
theorem sv2 {e n : Nat} {cs : List Value} : sv 2 e n cs = SL 2 e n cs := rfl
@[simp] theorem KU (k e n : Nat) (cs : List Value) : dem (sv k e n cs) = sv (if k = 2 then 1 else k) e n cs := by
 unfold sv
 by_cases h0 : k = 0
 ·
  subst h0; rfl
 ·
  by_cases h2 : k = 2
  ·
   subst h2; rfl
  ·
   rw [if_neg h0, if_neg h2, if_neg h0]
   simp only [SL, dem, yX, if_neg h2]
@[simp] theorem Y6 (k e n : Nat) (cs : List Value) (r : Option R) : okC (sv k e n cs) r = r := by
 unfold sv; split <;> rfl
@[simp] theorem adb (k e n : Nat) (cs : List Value) (r : Option R) (p : vV r) : okK (sv k e n cs) r p = r := Y6 k e n cs r
theorem Xi {k e n : Nat} {cs : List Value} (h : Okv k n cs) : ∃ e', vSl (sv k e n cs) = some (e', n, cs) ∧ (e' = e ∨ n = 0 ∧ cs = []) := by
 unfold sv
 by_cases h0 : k = 0
 ·
  obtain ⟨rfl, rfl⟩ := h.nil h0
  rw [if_pos h0]
  exact ⟨0, rfl, .inr ⟨rfl, rfl⟩⟩
 ·
  rw [if_neg h0]
  have : k = 1 ∨ k = 2 := by have := h.le; omega
  exact ⟨e, by simp [SL, vSl, this], .inl rfl⟩
theorem aei {t te : TypeId} {k e n : Nat} {cs : List Value} {S : zi} (ht : P.underlying t = some (.slice te)) (h : Okv k n cs) : qA P t (sv k e n cs) S = some (goInt n, S) := by
 by_cases h0 : k = 0
 ·
  obtain ⟨rfl, rfl⟩ := h.nil h0
  subst h0
  simp only [sv0, qA, Qg, ht]
 ·
  obtain ⟨e', h1, _⟩ := Xi (e := e) h
  simp only [sv, if_neg h0] at h1 ⊢
  simp only [SL] at h1 ⊢
  simp only [qA, ht, h1]
theorem W9 {t te : TypeId} {k e n : Nat} {cs : List Value} {S : zi} {ki : IntKind} {i : Int} (ht : P.underlying t = some (.slice te)) (he : yV P te = some e) (h : Okv k n cs) (h0 : 0 ≤ i) (hi : i < n) :
  zZ P t (sv k e n cs) (.int ki i) S = some (EP ((cs.drop (i.toNat * e)).take e), S) := by
 have hk : k ≠ 0 := fun e => by have := (h.nil e).1; omega
 have hk2 : k = 1 ∨ k = 2 := by have := h.le; omega
 have h1 : vSl (SL k e n cs) = some (e, n, cs) := by simp [SL, vSl, hk2]
 simp only [sv, if_neg hk]
 simp only [SL] at h1 ⊢
 simp only [zZ, ht, h1, he, if_true]
 rw [if_pos ⟨h0, hi⟩]
@[simp] theorem Qe {t : TypeId} {v : Value} {S : zi} (ht : yB P t = some false) : ji P nm t (EP [v]) S = some (v, S) := by
 simp [EP, ji, ht]
theorem VZ {t : TypeId} {n : Nat} {cs : List Value} {S : zi} (ht : yB P t = some true) (hn : yV P t = some n) (hc : cs.length = n) : ji P nm t (EP cs) S = some (.agg cs.toArray, S) := by
 simp only [EP, ji, ht, hn, if_true, List.toList_toArray]
 rw [if_pos (by omega), ← hc, List.take_length]
theorem VP {t te : TypeId} {k e n : Nat} {cs : List Value} {S : zi} {lo hi : Option Value} {i j : Int} (ht : P.underlying t = some (.slice te)) (he : yV P te = some e) (h : Okv k n cs) (hlo : yj 0 lo = some i) (hhi : yj n hi = some j)
  (h0 : 0 ≤ i) (hij : i ≤ j) (hj : j ≤ n) : yA P t (sv k e n cs) lo hi S = some (sv (if k = 2 then 1 else k) e (j.toNat - i.toNat) ((cs.drop (i.toNat * e)).take ((j.toNat - i.toNat) * e)), S) := by
 by_cases hk : k = 0
 ·
  obtain ⟨rfl, rfl⟩ := h.nil hk
  subst hk
  simp only [sv0, yA, ht, vSl, he, hlo, hhi, if_pos h0, if_pos hij, if_pos hj]
  rfl
 ·
  have hk2 : k = 1 ∨ k = 2 := by have := h.le; omega
  have h1 : vSl (SL k e n cs) = some (e, n, cs) := by simp [SL, vSl, hk2]
  have h3 : (if k = 2 then 1 else k) = 1 := by rcases hk2 with rfl | rfl <;> rfl
  rw [h3]
  simp only [sv, if_neg hk]
  simp only [SL] at h1 ⊢
  simp only [yA, ht, h1, he, hlo, hhi, if_pos h0, if_pos hij, if_pos hj, if_true]
  rfl
theorem ab1 {t te : TypeId} {k e n : Nat} {cs : List Value} {S : zi} (ht : P.underlying t = some (.slice te)) (h : Okv k n cs) : jM P .eql t (sv k e n cs) (.slice none 0 0) S = some (.bool (decide (k = 0)), S) := by
 by_cases hk : k = 0
 ·
  subst hk
  simp only [sv0, jM, xk, yg, ht, kC]
  rfl
 ·
  have hk2 : k = 1 ∨ k = 2 := by have := h.le; omega
  have h1 : vSl (SL k e n cs) = some (e, n, cs) := by simp [SL, vSl, hk2]
  simp only [sv, if_neg hk]
  simp only [SL] at h1 ⊢
  simp only [jM, ht, h1]
  simp [hk]
@[simp] theorem JH (k e n : Nat) (cs : List Value) : WQ (sv k e n cs) = false := by unfold sv; split <;> rfl
@[simp] theorem Zj (dr : Bool) (t : TypeId) (k e n : Nat) (cs : List Value) (lo hi : Option Value) (S : zi) : wB P dr t (sv k e n cs) lo hi S = yA P t (sv k e n cs) lo hi S := by
 unfold wB; rw [JH]; rfl
@[simp] theorem xR (dr : Bool) (t : TypeId) (s : ByteArray) (lo hi : Option Value) (S : zi) : wB P dr t (.string s) lo hi S = yA P t (.string s) lo hi S := Eq.trans rfl rfl
@[simp] theorem Jt (hp dr : Bool) (src dst : TypeId) (k e n : Nat) (cs : List Value) (S : zi) : jO P hp dr src dst (sv k e n cs) S = kE P src dst (sv k e n cs) S := by
 unfold jO
 rw [JH]
 have : ∀ s, sv k e n cs ≠ .string s := by intro s; unfold sv; split <;> (intro h; cases h)
 cases hp <;> simp only [Bool.false_eq_true, if_false] <;> (split <;> first | rfl | (rename_i h; exact absurd h (this _)) | skip)
@[simp] theorem JZ (hp dr : Bool) (src dst : TypeId) (k : IntKind) (n : Int) (S : zi) : jO P hp dr src dst (.int k n) S = kE P src dst (.int k n) S := by cases hp <;> rfl
@[simp] theorem Zd (dr : Bool) (src dst : TypeId) (s : ByteArray) (S : zi) : jO P false dr src dst (.string s) S = kE P src dst (.string s) S := Eq.trans rfl rfl
@[simp] theorem xX (dr : Bool) (src dst : TypeId) (s : ByteArray) (S : zi) : jO P true dr src dst (.string s) S = jK P src dst (.string s) S := Eq.trans rfl rfl
theorem Ve {t te tx tex : TypeId} {k e n j m bytes : Nat} {cs ds : List Value} {z : Value} {S : zi} (ht : P.underlying t = some (.slice te)) (he : yV P te = some e) (hz : zeroOf P te = some z) (hzs : z.cells.size = e) (hb : bytesOf P te = some bytes) (hp : 0 < e)
  (htx : P.underlying tx = some (.slice tex)) (h : Okv k n cs) (hk : k ≠ 1) (hx : Okv j m ds) (hn : cs.length = n * e) (hm : ds.length = m * e) (h1 : cs.all (·.oneCell') = true) (h2 : ds.all (·.oneCell') = true) (hl : (n + m) * bytes ≤ 140737488355328) (hmax : n + m ≤ 4611686018427387903) :
  jl P t tx (sv k e n cs) (sv j e m ds) S = some (sv (if k = 0 ∧ m = 0 then 0 else 2) e (n + m) (cs ++ ds), S) := by
 have hel : jP P t = some te := by simp only [jP, ht]
 have hsrc : aeO P tx e (sv j e m ds) = some (m, ds) := by
  obtain ⟨e', q1, q2⟩ := Xi (e := e) hx
  have hns : ∀ s, sv j e m ds ≠ .string s := by intro s; unfold sv; split <;> (intro h; cases h)
  have hcond : m = 0 ∨ e' = e := q2.elim .inr fun h => .inl h.1
  unfold aeO
  split
  ·
   rename_i s hs; exact absurd hs (hns s)
  ·
   simp only [htx, q1, if_pos hcond, if_pos hm, h2, if_true]
 have hsrc : JO P tx e (sv j e m ds) S = some (m, ds) := by
  unfold JO
  rw [JH]
  exact hsrc
 by_cases hk0 : k = 0
 ·
  obtain ⟨rfl, rfl⟩ := h.nil hk0
  subst hk0
  simp only [sv0, jl, yc, hel, he, hz, hb, if_pos hp, if_pos hzs, hsrc]
  by_cases hm0 : m = 0
  ·
   subst hm0
   simp [sv0]
  ·
   rw [Nat.zero_add] at hl hmax
   rw [if_neg hm0, if_pos hl, if_pos hmax, if_neg Bool.false_ne_true, if_neg (fun h => hm0 h.2), sv2, Nat.zero_add, List.nil_append]
 ·
  have hk2 : k = 2 := by have := h.le; omega
  subst hk2
  rw [if_neg (fun h => hk0 h.1)]
  have h1' : cs.toArray.toList.all (·.oneCell') = true := by simpa using h1
  simp only [sv2, SL, jl, yc, hel, he, hz, hb, if_pos hp, if_pos hzs, hsrc, if_true, if_pos hl, if_pos hmax, h1']
@[simp] theorem KQ (op : BinOp) (t : TypeId) (k k' : IntKind) (a b : Int) (S : zi) : jM P op t (.int k a) (.int k' b) S = xk P op t (.int k a) (.int k' b) S := Eq.trans rfl rfl
@[simp] theorem Je (op : BinOp) (t : TypeId) (a b : ByteArray) (S : zi) : jM P op t (.string a) (.string b) S = xk P op t (.string a) (.string b) S := Eq.trans rfl rfl
@[simp] theorem Y9 (op : BinOp) (t : TypeId) (a b : Bool) (S : zi) : jM P op t (.bool a) (.bool b) S = xk P op t (.bool a) (.bool b) S := Eq.trans rfl rfl
@[simp] theorem afS (op : BinOp) (t : TypeId) (a b : Array Value) (S : zi) : jM P op t (.agg a) (.agg b) S = xk P op t (.agg a) (.agg b) S := Eq.trans rfl rfl
@[simp] theorem WG (b : Bool) (x y : Value) (S : zi) : qg (.bool b) x y S = some (if b then dem x else dem y, S) := Eq.trans rfl rfl
@[simp] theorem Qv {src dst : TypeId} (k : IntKind) (n : Int) (S : zi) : kE P src dst (.int k n) S = jK P src dst (.int k n) S := Eq.trans rfl rfl
@[simp] theorem xM (vs : List Value) (i : Nat) (S : zi) : zC (.tuple vs.toArray) i S = (vs[i]?).map (·, S) := by
 simp only [zC, List.getElem?_toArray]
 cases vs[i]? <;> rfl
end
end Go.Abs
namespace Go.Abs
theorem yK {P : Program} {fn : Func} {a b : Value} {r : List Value} {T : List Value} {S : zi} (h : zN P T S fn.results.toList = some (a :: b :: r)) (hn : aes fn.results.toList = true) (hall : (a :: b :: r).all jg = true) :
  aa7 P fn T S = some (.tuple (a :: b :: r).toArray, S) := by
 unfold aa7
 rw [h]
 dsimp only
 rw [if_pos hn, if_pos hall]
theorem qU {P : Program} {fn : Func} {a : Value} {T : List Value} {S : zi} (h : zN P T S fn.results.toList = some [a]) (hn : aes fn.results.toList = true) : aa7 P fn T S = some (a, S) := by
 unfold aa7
 rw [h]
 dsimp only
 rw [if_pos hn]
@[simp] theorem zL (k : IntKind) (n : Int) : jg (.int k n) = true := rfl
@[simp] theorem zI (b : Bool) : jg (.bool b) = true := rfl
@[simp] theorem KE (k e n : Nat) (cs : List Value) : jg (sv k e n cs) = true := by unfold sv; split <;> rfl
@[simp] theorem zM (x : Array Value) : jg (.agg x) = true := rfl
@[simp] theorem zG (a : Option Addr) (n c : Nat) : jg (.slice a n c) = true := rfl
end Go.Abs
namespace Go.Abs
open Go.RowKit
def vs {α : Type} (f : α → List Value) (e k : Nat) (l : List α) : Value := sv k e l.length (l.flatMap f)
structure Okl {α : Type} (k : Nat) (l : List α) : Prop where
 le : k ≤ 2
 nil : k = 0 → l = []
theorem Okl.own {α : Type} {l : List α} : Okl 2 l := ⟨Nat.le_refl 2, (fun h => by cases h)⟩
theorem Okl.read {α : Type} {l : List α} : Okl 1 l := ⟨by omega, (fun h => by cases h)⟩
theorem Okl.none {α : Type} : Okl 0 ([] : List α) := ⟨by omega, fun _ => rfl⟩
theorem Okl.dem {α : Type} {k : Nat} {l : List α} (h : Okl k l) : Okl (if k = 2 then 1 else k) l := ⟨by have := h.le; split <;> omega, fun hk => h.nil (by split at hk <;> omega)⟩
def cb (b : UInt8) : List Value := [.int .u8 b.toNat]
def ci (n : Int) : List Value := [.int .i64 n]
section
variable {R α : Type} {P : Program} {f : α → List Value} {e k j : Nat} {l m : List α} {t te tx tex : TypeId} {S : zi}
theorem Okl.okv (h : Okl k l) : Okv k l.length (l.flatMap f) := ⟨h.le, fun h0 => by rw [h.nil h0]; exact ⟨rfl, rfl⟩⟩
theorem qM (hf : ∀ x, (f x).length = e) (l : List α) : (l.flatMap f).length = l.length * e := by
 induction l with
 | nil => simp
 | cons x l ih => simp only [List.flatMap_cons, List.length_append, hf, ih, List.length_cons, Nat.add_mul]; omega
theorem ZC (hf : ∀ x, (f x).length = e) (l : List α) : ∀ (i : Nat), (l.flatMap f).drop (i * e) = (l.drop i).flatMap f := by
 induction l with
 | nil => intro i; simp
 | cons x l ih =>
  intro i
  cases i with
  | zero => simp
  | succ i =>
   rw [List.flatMap_cons, List.drop_succ_cons, ← ih i, List.drop_append, List.drop_eq_nil_of_le (by rw [hf, Nat.add_mul]; omega), List.nil_append, hf]
   congr 1
   rw [Nat.add_mul]; omega
theorem ZK (hf : ∀ x, (f x).length = e) (l : List α) : ∀ (i : Nat), (l.flatMap f).take (i * e) = (l.take i).flatMap f := by
 induction l with
 | nil => intro i; simp
 | cons x l ih =>
  intro i
  cases i with
  | zero => simp
  | succ i =>
   rw [List.flatMap_cons, List.take_succ_cons, List.flatMap_cons, ← ih i, List.take_append, List.take_of_length_le (by rw [hf, Nat.add_mul]; omega), hf]
   congr 2
   rw [Nat.add_mul]; omega
@[simp] theorem aao : dem (vs f e k l) = vs f e (if k = 2 then 1 else k) l := KU _ _ _ _
@[simp] theorem adD (r : Option R) : okC (vs f e k l) r = r := Y6 _ _ _ _ _
@[simp] theorem adJ (r : Option R) (p : vV r) : okK (vs f e k l) r p = r := Y6 _ _ _ _ _
@[simp] theorem afX : WQ (vs f e k l) = false := JH _ _ _ _
@[simp] theorem WI (dr : Bool) (lo hi : Option Value) : wB P dr t (vs f e k l) lo hi S = yA P t (vs f e k l) lo hi S := Zj _ _ _ _ _ _ _ _ _
@[simp] theorem qF (hp dr : Bool) (src dst : TypeId) : jO P hp dr src dst (vs f e k l) S = kE P src dst (vs f e k l) S := Jt _ _ _ _ _ _ _ _ _
@[simp] theorem zQ : jg (vs f e k l) = true := KE _ _ _ _
theorem aa5 (ht : P.underlying t = some (.slice te)) (h : Okl k l) : qA P t (vs f e k l) S = some (goInt l.length, S) := aei ht h.okv
theorem acC (ht : P.underlying t = some (.slice te)) (h : Okl k l) : jM P .eql t (vs f e k l) (.slice none 0 0) S = some (.bool (decide (k = 0)), S) := ab1 ht h.okv
theorem aex {ki : IntKind} {i : Int} (ht : P.underlying t = some (.slice te)) (he : yV P te = some e) (hf : ∀ x, (f x).length = e) (h : Okl k l) (h0 : 0 ≤ i) (hi : i < l.length) :
  zZ P t (vs f e k l) (.int ki i) S = some (EP (f (l[i.toNat]'(by omega))), S) := by
 unfold vs
 rw [W9 ht he h.okv h0 hi, ZC hf]
 have hlt : i.toNat < l.length := by omega
 have := ZK hf (l.drop i.toNat) 1
 rw [Nat.one_mul] at this
 rw [this, List.drop_eq_getElem_cons hlt, List.take_succ_cons, List.take_zero, List.flatMap_cons, List.flatMap_nil, List.append_nil]
theorem ac7 {lo hi : Option Value} {i j : Int} (ht : P.underlying t = some (.slice te)) (he : yV P te = some e) (hf : ∀ x, (f x).length = e) (h : Okl k l) (hlo : yj 0 lo = some i) (hhi : yj l.length hi = some j) (h0 : 0 ≤ i) (hij : i ≤ j) (hj : j ≤ l.length) :
  yA P t (vs f e k l) lo hi S = some (vs f e (if k = 2 then 1 else k) ((l.drop i.toNat).take (j.toNat - i.toNat)), S) := by
 unfold vs
 rw [VP ht he h.okv hlo hhi h0 hij hj, ZC hf, ZK hf]
 congr 3
 simp; omega
theorem Jw {bytes : Nat} {z : Value} (ht : P.underlying t = some (.slice te)) (he : yV P te = some e) (hz : zeroOf P te = some z) (hzs : z.cells.size = e) (hb : bytesOf P te = some bytes) (hp : 0 < e) (htx : P.underlying tx = some (.slice tex))
  (hf : ∀ x, (f x).length = e) (h1 : ∀ x, (f x).all (·.oneCell') = true) (h : Okl k l) (hk : k ≠ 1) (hm : Okl j m) (hl : (l.length + m.length) * bytes ≤ 140737488355328) (hmax : l.length + m.length ≤ 4611686018427387903) :
  jl P t tx (vs f e k l) (vs f e j m) S = some (vs f e (if k = 0 ∧ m.length = 0 then 0 else 2) (l ++ m), S) := by
 have hone : ∀ l : List α, (l.flatMap f).all (·.oneCell') = true := by
  intro l
  rw [List.all_flatMap, List.all_eq_true]
  exact fun x _ => h1 x
 unfold vs
 rw [Ve ht he hz hzs hb hp htx h.okv hk hm.okv (qM hf l) (qM hf m) (hone l) (hone m) hl hmax, List.flatMap_append, List.length_append]
theorem Qz (x : UInt8) : (cb x).length = 1 := rfl
theorem afe (x : UInt8) : (cb x).all (·.oneCell') = true := rfl
theorem adp (x : Int) : (ci x).length = 1 := rfl
theorem afo (x : Int) : (ci x).all (·.oneCell') = true := rfl
theorem ab5 (l : List UInt8) : jR (l.flatMap cb) = some l := by
 induction l with
 | nil => rfl
 | cons b l ih =>
  have : (b :: l).flatMap cb = .int .u8 b.toNat :: l.flatMap cb := rfl
  rw [this]
  simp only [jR, Jg, ih]
  simp
theorem zY {v : Value} {i j : Nat} {S : zi} (h : j ≠ i) : zC (zK j v) i S = zC v i S := by
 cases v with
 | tuple vs => simp only [zK, zC, Array.getElem?_modify, if_neg h]
 | _ => rfl
theorem aaV {v : Value} {S : zi} : zC (zK 0 v) 1 S = zC v 1 S := zY (by decide)
theorem V3 {v : Value} {S : zi} : zC (zK 0 v) 2 S = zC v 2 S := zY (by decide)
theorem aa1 {v : Value} {S : zi} : zC (zK 1 v) 2 S = zC v 2 S := zY (by decide)
theorem VQ {v : Value} {S : zi} : zC (zK 0 v) 3 S = zC v 3 S := zY (by decide)
theorem aar {v : Value} {S : zi} : zC (zK 1 v) 3 S = zC v 3 S := zY (by decide)
theorem aak {v : Value} {S : zi} : zC (zK 2 v) 3 S = zC v 3 S := zY (by decide)
theorem aa8 {v : Value} {S : zi} : zC (zK 0 v) 4 S = zC v 4 S := zY (by decide)
theorem abg {v : Value} {S : zi} : zC (zK 1 v) 4 S = zC v 4 S := zY (by decide)
theorem aa6 {v : Value} {S : zi} : zC (zK 2 v) 4 S = zC v 4 S := zY (by decide)
theorem VA {v : Value} {S : zi} : zC (zK 3 v) 4 S = zC v 4 S := zY (by decide)
theorem aaW {v : Value} {S : zi} : zC (zK 0 v) 5 S = zC v 5 S := zY (by decide)
theorem VD {v : Value} {S : zi} : zC (zK 1 v) 5 S = zC v 5 S := zY (by decide)
theorem aae {v : Value} {S : zi} : zC (zK 2 v) 5 S = zC v 5 S := zY (by decide)
theorem aaR {v : Value} {S : zi} : zC (zK 3 v) 5 S = zC v 5 S := zY (by decide)
theorem aay {v : Value} {S : zi} : zC (zK 4 v) 5 S = zC v 5 S := zY (by decide)
abbrev by_ (k : Nat) (l : List UInt8) : Value := vs cb 1 k l
abbrev iz (k : Nat) (l : List Int) : Value := vs ci 1 k l
theorem aaB {src dst : TypeId} {k : Nat} {l : List UInt8} (hs : P.underlying src = some (.slice te)) (he : P.underlying te = some (.int .u8)) (hd : P.underlying dst = some .string) (h : Okl k l) : kE P src dst (by_ k l) S = some (.string ⟨l.toArray⟩, S) := by
 obtain ⟨e', h1, _⟩ := Xi (e := 1) (h.okv (f := cb))
 have hlen : (l.flatMap cb).length = l.length := by rw [qM Qz]; omega
 have hns : ∀ s, by_ k l ≠ .string s := by intro s; unfold by_ vs sv; split <;> (intro h; cases h)
 unfold kE
 split
 ·
  rename_i s hs; exact absurd hs (hns s)
 ·
  unfold by_ vs
  rw [h1]
  simp only [hs, hd, he, if_pos hlen, ab5]
end
end Go.Abs
namespace Go.Abs
open Go.RowKit
def CLe (c d : FuncId → List Value → M Value) : Prop := ∀ g a S r, c g a S = some r → d g a S = some r
section
variable {P : Program} {O : Ora} {c d : FuncId → List Value → M Value}
theorem Wv (h : CLe c d) {fx : Fx} {T : List Value} {o : Oper} {S : zi} {r : Value × zi} (hs : jJ P fx c T o S = some r) : jJ P fx d T o S = some r := by
 unfold jJ at hs ⊢
 split at hs
 ·
  rename_i hok
  rw [if_pos hok]
  cases hop : o.op with
  | call q =>
   rw [hop] at hs
   dsimp only at hs ⊢
   cases hcal : q.callee with
   | value f =>
    rw [hcal] at hs
    dsimp only at hs ⊢
    split at hs
    ·
     rename_i g first captured hev
     exact h _ _ _ _ hs
    ·
     cases hs
   | builtin b => rw [hcal] at hs; exact hs
   | invoke a b => rw [hcal] at hs; cases hs
  | _ => rw [hop] at hs; exact hs
 ·
  cases hs
theorem VG (h : CLe c d) {fx : Fx} {ops : Array Oper} : ∀ (l : List Oper) (T : List Value) (S : zi) (r : List Value × zi), je P fx c ops l T S = some r → je P fx d ops l T S = some r := by
 intro l
 induction l with
 | nil => intro T S r hs; exact hs
 | cons o l ih =>
  intro T S r hs
  simp only [je] at hs ⊢
  split at hs
  ·
   rename_i hw
   rw [if_pos hw]
   split at hs
   ·
    rename_i v S' he
    rw [Wv h he]
    exact ih _ _ _ hs
   ·
    cases hs
  ·
   rename_i hw
   rw [if_neg hw]
   exact ih _ _ _ hs
theorem XW (h : CLe c d) {fx : Fx} {chk : List Nat} {nl : List (Nat × Nat)} {ops : Array Oper} : ∀ (l : List Oper) (i : Nat) (hist : List (Value × zi)) (T : List Value) (S : zi) (r : List Value × zi), jv P fx chk nl c ops i hist l T S = some r → jv P fx chk nl d ops i hist l T S = some r := by
 intro l
 induction l with
 | nil => intro i hist T S r hs; exact hs
 | cons o l ih =>
  intro i hist T S r hs
  simp only [jv] at hs ⊢
  split at hs
  ·
   rename_i hw
   rw [if_pos hw]
   split at hs
   ·
    rename_i v S' he
    rw [Wv h he]
    dsimp only
    split at hs
    ·
     rename_i hq
     rw [if_pos hq]
     exact ih _ _ _ _ _ hs
    ·
     cases hs
   ·
    cases hs
  ·
   rename_i hw
   rw [if_neg hw]
   exact ih _ _ _ _ _ hs
theorem J8 (h : CLe c d) {hp : Bool} {n m : Nat} (hn : n ≤ m) : ∀ (q : Code) (T : List Value) (S : zi) (r), jU P hp c n q T S = some r → jU P hp d m q T S = some r := by
 intro q
 induction q with
 | skip => intro T S r hs; exact hs
 | exit id => intro T S r hs; exact hs
 | ret => intro T S r hs; exact hs
 | region i ops dr =>
  intro T S r hs
  cases dr with
  | false =>
   simp only [jU] at hs ⊢
   split at hs
   ·
    rename_i T1 S1 ho
    rw [VG h _ _ _ _ ho]; exact hs
   ·
    cases hs
  | true =>
   simp only [jU] at hs ⊢
   split at hs
   ·
    rename_i hd
    rw [if_pos hd]
    split at hs
    ·
     rename_i T1 S1 ho
     rw [XW h _ _ _ _ _ _ ho]; exact hs
    ·
     cases hs
   ·
    cases hs
 | seq x y ihx ihy =>
  intro T S r hs
  simp only [jU] at hs ⊢
  split at hs
  ·
   rename_i T1 S1 hx
   rw [ihx _ _ _ hx]
   exact ihy _ _ _ hs
  ·
   rename_i hne
   rw [ihx _ _ _ hs]
   split
   ·
    rename_i T1 S1 he; exact absurd (hs.trans he) (hne T1 S1)
   ·
    rfl
 | cond x y z ihy ihz =>
  intro T S r hs
  simp only [jU] at hs ⊢
  split at hs
  ·
   rename_i hok
   rw [if_pos hok]
   split at hs
   ·
    rename_i hb; exact ihy _ _ _ hs
   ·
    rename_i hb; exact ihz _ _ _ hs
   ·
    cases hs
  ·
   cases hs
 | block id x ih =>
  intro T S r hs
  simp only [jU] at hs ⊢
  split at hs
  ·
   rename_i id' T1 S1 hx
   rw [ih _ _ _ hx]; exact hs
  ·
   rename_i hne
   rw [ih _ _ _ hs]
   split
   ·
    rename_i id' T1 S1 he; exact absurd (hs.trans he) (hne id' T1 S1)
   ·
    rfl
 | loop x ih =>
  intro T S r hs
  simp only [jU] at hs ⊢
  have key : ∀ (n : Nat) (T : List Value) (S : zi), ∀ k, wK k (jU P hp c n x) T S = some r → (∀ T S r, jU P hp c n x T S = some r → jU P hp d m x T S = some r) → wK k (jU P hp d m x) T S = some r := by
   intro n T S k hk hx
   induction k generalizing T S with
   | zero => cases hk
   | succ k ihk =>
    simp only [wK] at hk ⊢
    split at hk
    ·
     rename_i T1 S1 h1
     rw [hx _ _ _ h1]
     exact ihk _ _ hk
    ·
     rename_i hne
     rw [hx _ _ _ hk]
     split
     ·
      rename_i T1 S1 he; exact absurd (hk.trans he) (hne T1 S1)
     ·
      rfl
  exact YI hn (key n T S n hs ih)
 | _ => intro T S r hs; simp only [jU] at hs; cases hs
theorem Vm {hps : FuncId → Bool} {hp : Bool} (h : CLe c d) : CLe (yQ hps hp c) (yQ hps hp d) := by
 cases hp with
 | false => exact h
 | true =>
  intro g a S r hs
  unfold yQ at hs ⊢
  dsimp only at hs ⊢
  split at hs
  ·
   rename_i hg; rw [if_pos hg]; exact h _ _ _ _ hs
  ·
   rename_i hg
   rw [if_neg hg]
   split at hs <;> first | (cases hs; done) | skip
   rename_i m S1 hf
   split at hs <;> first | (cases hs; done) | skip
   rename_i r0 hr0
   (try rw [hf])
   (try dsimp only)
   rw [h _ _ _ _ hr0]
   exact hs
theorem QD (h : CLe c d) {hp : Bool} {n m : Nat} (hn : n ≤ m) {fn : Func} {q : Code} {a : List Value} {S : zi} {r : Value × zi} (hs : abL P hp c n fn q a S = some r) : abL P hp d m fn q a S = some r := by
 unfold abL at hs ⊢
 split at hs
 ·
  rename_i T1 S1 hx
  rw [J8 h hn _ _ _ _ hx]; exact hs
 ·
  rename_i T1 S1 hx
  rw [J8 h hn _ _ _ _ hx]; exact hs
 ·
  cases hs
theorem acQ : ∀ (n m : Nat), n ≤ m → CLe (qh P O n) (qh P O m) := by
 intro n
 induction n with
 | zero => intro m _ g a S r h; cases h
 | succ n ih =>
  intro m hm g a S r h
  obtain ⟨m, rfl⟩ : ∃ k, m = k + 1 := ⟨m - 1, by omega⟩
  simp only [qh] at h ⊢
  cases ho : O.fn g with
  | some q => rw [ho] at h; exact h
  | none =>
   rw [ho] at h
   dsimp only at h ⊢
   cases hf : P.funcs[g]? with
   | none => rw [hf] at h; cases h
   | some fn =>
    rw [hf] at h
    dsimp only at h ⊢
    split at h
    ·
     cases h
    ·
     rename_i hn
     rw [if_neg hn]
     cases hb : fn.body with
     | none => rw [hb] at h; cases h
     | some q =>
      rw [hb] at h
      dsimp only at h ⊢
      have hc := Vm (hps := O.hp) (hp := O.hp g) (ih m (by omega))
      split at h
      ·
       rename_i hpu
       rw [if_pos hpu]
       unfold aa3 at h ⊢
       split at h <;> first | (cases h; done) | skip
       rename_i hca
       rw [if_pos hca]
       split at h <;> first | (cases h; done) | skip
       rename_i v1 S1 hr
       rw [QD hc (by omega) hr]
       exact h
      ·
       rename_i hpu
       rw [if_neg hpu]
       exact QD hc (by omega) h
theorem ac5 {n : Nat} {g : FuncId} {args : List Value} {S : zi} {r : Value × zi} (h : qh P O n g args S = some r) : zV P O g args S = some r :=
 QW ⟨n, fun k hk => acQ n k hk _ _ _ _ h⟩
end
end Go.Abs
namespace Go.Abs
open Go.RowKit
theorem Xf (x : (Ty.slc 1 (.int .u8)).Val) (hg : (Ty.slc 1 (.int .u8)).Good x) : ∃ k l, Okl k l ∧ k ≠ 2 ∧ (Ty.slc 1 (.int .u8)).ZJ x = [by_ k l] ∧ l.length ≤ 140737488351232 := by
 match x, hg with
 | none, _ => exact ⟨0, [], Okl.none, by decide, rfl, by simp⟩
 | some xs, hg =>
  obtain ⟨h1, h2, h3⟩ := hg
  have key : ∀ xs : List Int, (∀ n ∈ xs, (Lit.int .u8 n).wf = true) → (xs.flatMap fun n => [Value.int .u8 n]) = (xs.map fun n => UInt8.ofNat n.toNat).flatMap cb := by
   intro xs
   induction xs with
   | nil => intro _; rfl
   | cons n xs ih =>
    intro h
    have hw := h n (by simp)
    simp [Lit.wf, IntKind.min, IntKind.max, IntKind.signed, IntKind.bits] at hw
    have e : (Value.int .u8 n) = .int .u8 ((UInt8.ofNat n.toNat).toNat : Int) := by
     simp only [UInt8.toNat_ofNat']
     congr 1
     omega
    rw [List.flatMap_cons, ih (fun m hm => h m (by simp [hm])), List.map_cons, List.flatMap_cons, e]
    rfl
  refine ⟨1, (show List Int from xs).map fun n => UInt8.ofNat n.toNat, Okl.read, by decide, ?_, ?_⟩
  ·
   have e := key (show List Int from xs) h3
   show [SL 1 1 (show List Int from xs).length ((show List Int from xs).flatMap fun n => [Value.int .u8 n])] = [_]
   unfold by_ vs
   rw [sv1, List.length_map, ← e]
  ·
   have : (show List Int from xs).length * 1 ≤ 140737488351232 := h1
   rw [List.length_map]; omega
theorem KY {n : Int} (h : (Lit.int .i64 n).wf = true) : -9223372036854775808 ≤ n ∧ n < 9223372036854775808 := by
 simp [Lit.wf, IntKind.min, IntKind.max, IntKind.signed, IntKind.bits] at h
 omega
def abY (call : FuncId → List Value → M Value) (g : FuncId) (args : List Value) : M Value := fun S => match Zm args S with
 | some (m, S1) => match call g m S1 with
  | some r => some (aav S S1 args r)
  | none => none
 | none => none
end Go.Abs
namespace Go.Abs
open Go.RowKit
section
variable {P : Program} {μ μ1 : Mu} {S S1 H H1 : zi} {ω ω1 : Nat → Option wo}
def Yt (n : Nat) (lg : List Nat) (μ : Mu) : Mu := ⟨fun q => if q < n then μ q else none, μ.hid, lg⟩
theorem yE {n q : Nat} {lg : List Nat} {μ : Mu} {x : Nat × Bool} (h : Yt n lg μ q = some x) : μ q = some x ∧ q < n := by
 simp only [Yt] at h
 split at h
 ·
  exact ⟨h, by assumption⟩
 ·
  cases h
theorem qO {n q : Nat} {lg : List Nat} {μ : Mu} (h : q < n) : Yt n lg μ q = μ q := if_pos h
theorem ZI.cut {n r : Nat} {lg : List Nat} {μ : Mu} (h : ZI μ r) : ZI (Yt n lg μ) r := ⟨fun q hq => h.1 q (yE hq).1, h.2⟩
theorem VV.cut {n : Nat} {lg : List Nat} (hf : ∀ q, n ≤ q → μ q = none) {ℓ : Option wo} {v a : Value} (h : VV μ1 H1 ω1 ℓ v a) : ∀ {H0 : zi} {ω0 : Nat → Option wo} {ℓ0 : Option wo} {a0 : Value}, VV μ H0 ω0 ℓ0 v a0 → VV (Yt n lg μ1) H1 ω1 ℓ v a := by
 have lt : ∀ {q : Nat} {x : Nat × Bool}, μ q = some x → q < n := fun {q x} h => Nat.lt_of_not_le fun hn => by rw [hf q hn] at h; cases h
 induction h with
 | sg h => intro _ _ _ _ _; exact .sg h
 | ptr h =>
  intro _ _ _ _ h0
  cases h0 with
  | sg hs => simp [Go.Abs.sg] at hs
  | ptr k => exact .ptr (by rw [qO (lt k)]; exact h)
 | map h =>
  intro _ _ _ _ h0
  cases h0 with
  | sg hs => simp [Go.Abs.sg] at hs
  | map k => exact .map (by rw [qO (lt k)]; exact h)
 | slm h =>
  intro _ _ _ _ h0
  cases h0 with
  | sg hs => simp [Go.Abs.sg] at hs
  | slm k => exact .slm (by rw [qO (lt k)]; exact h)
 | slE => intro _ _ _ _ _; exact .slE
 | sl hr hp hg hl hn hc ih =>
  intro _ _ _ _ h0
  cases h0 with
  | sg hs => simp [Go.Abs.sg] at hs
  | slE => exact .sl hr hp.cut hg hl hn (fun i hi => by simp at hi)
  | sl _ _ _ _ _ k => exact .sl hr hp.cut hg hl hn (fun i hi => ih i hi (k i hi))
 | so hω hr hp hg hl hn hc ih =>
  intro _ _ _ _ h0
  cases h0 with
  | sg hs => simp [Go.Abs.sg] at hs
  | so _ _ _ _ _ _ k => exact .so hω hr hp.cut hg hl hn (fun i hi => ih i hi (k i hi))
 | ep hr hp hg hl hc ih =>
  intro _ _ _ _ h0
  cases h0 with
  | sg hs => simp [Go.Abs.sg] at hs
  | ep _ _ _ _ k => exact .ep hr hp.cut hg hl (fun i hi => ih i hi (k i hi))
 | func fn hx hc h1 h2 ih1 ih2 =>
  intro _ _ _ _ h0
  cases h0 with
  | sg hs => simp [Go.Abs.sg] at hs
  | func _ _ _ k1 k2 => exact .func fn hx hc (fun i => ih1 i (k1 i)) (fun i => ih2 i (k2 i))
 | agg hx hh ih =>
  intro _ _ _ _ h0
  cases h0 with
  | sg hs => simp [Go.Abs.sg] at hs
  | agg _ k => exact .agg hx (fun i => ih i (k i))
 | nores => intro _ _ _ _ _; exact .nores
 | tuple hx hh ih =>
  intro _ _ _ _ h0
  cases h0 with
  | sg hs => simp [Go.Abs.sg] at hs
  | nores => exact .tuple hx (fun i => ih i (a0 := Go.undef) (show VV μ H1 ω1 none ((#[] : Array Value).getD i Go.undef) Go.undef from by simpa using VV.undef))
  | tuple _ k => exact .tuple hx (fun i => ih i (k i))
structure Ext (S S1 : zi) : Prop where
 next : S.next ≤ S1.next
 get : ∀ k, k < S.next → S1.get k = S.get k
 log : ∃ new, S1.log = new ++ S.log ∧ ∀ k ∈ new, S.next ≤ k
theorem Ext.refl (S : zi) : Ext S S := ⟨Nat.le_refl _, fun _ _ => rfl, [], rfl, fun k h => by cases h⟩
theorem Ext.trans {S2 : zi} (h : Ext S S1) (k : Ext S1 S2) : Ext S S2 := ⟨Nat.le_trans h.1 k.1, fun q hq => (k.2 q (Nat.lt_of_lt_of_le hq h.1)).trans (h.2 q hq), by
 obtain ⟨n1, e1, f1⟩ := h.log
 obtain ⟨n2, e2, f2⟩ := k.log
 refine ⟨n2 ++ n1, by rw [e2, e1, List.append_assoc], fun q hq => ?_⟩
 rcases List.mem_append.1 hq with hq | hq
 ·
  exact Nat.le_trans h.1 (f2 q hq)
 ·
  exact f1 q hq⟩
theorem Ext.push (S : zi) (o : wL) : Ext S (S.push o) := ⟨by simp, fun k hk => by rw [zi.zT, if_neg (by omega)], [], rfl, fun k h => by cases h⟩
theorem Ext.set {S S1 : zi} (h : Ext S S1) {r : Nat} (hr : S.next ≤ r) (o : wL) : Ext S (S1.set r o) := ⟨by simpa using h.1, fun k hk => by rw [zi.jk, if_neg (by omega)]; exact h.2 k hk, by
 obtain ⟨n1, e1, f1⟩ := h.log
 refine ⟨r :: n1, by rw [zi.YE, e1]; rfl, fun q hq => ?_⟩
 rcases List.mem_cons.1 hq with rfl | hq
 ·
  exact hr
 ·
  exact f1 q hq⟩
theorem GI.cut (hG : GI μ S H) (hG1 : GI μ1 S1 H1) (hE : Ext S S1) : GI (Yt S.next S.log μ1) S H1 := by
 have lt : ∀ {q o}, S.get q = some o → o.alive = true → q < S.next := fun {q o} h ha => by
  obtain ⟨r, o', h1, _⟩ := hG.obj q o h ha
  exact Nat.lt_of_not_le fun hn => by rw [hG.fresh q hn] at h1; cases h1
 refine ⟨fun q o ho ha => ?_, fun q q' r h1 h2 => hG1.inj q q' r (yE h1).1 (yE h2).1, fun q r b h => hG1.lt q r b (yE h).1, fun q h => if_neg (by omega), fun q r h => hG1.vis q r (yE h).1, hG1.hlt, rfl, hG.anc⟩
 have hq := lt ho ha
 obtain ⟨r1, o1, h1, h2, h3⟩ := hG1.obj q o (by rw [hE.2 q hq]; exact ho) ha
 obtain ⟨r0, o0, k1, k2, k3⟩ := hG.obj q o ho ha
 refine ⟨r1, o1, by rw [qO hq]; exact h1, h2, ?_⟩
 cases o with
 | cells cs own esz =>
  cases o1 with
  | cells cs1 own1 esz1 =>
   cases o0 with
   | cells cs0 own0 esz0 =>
    obtain ⟨e1, w1, l1⟩ := h3
    obtain ⟨e0, w0, l0⟩ := k3
    refine ⟨e1, ?_, l1.1, fun i => (l1.2 i).cut hG.fresh (l0.2 i)⟩
    cases own with
    | ro => cases own1 with
     | ro => exact True.intro
     | own a => exact w1.elim
    | own a => cases own1 with
     | ro => exact w1.elim
     | own a1 => cases own0 with
      | ro => exact w0.elim
      | own a0 =>
       refine JM.mono w1 fun b hb r hr => ?_
       obtain ⟨r2, h2⟩ := JM.left w0 b hb
       rw [qO (Nat.lt_of_not_le fun hn => by rw [hG.fresh b hn] at h2; cases h2)]
       exact hr
   | map es c => exact k3.elim
   | dead => exact k3.elim
  | map es c => exact h3.elim
  | dead => exact h3.elim
 | map es c =>
  cases o1 with
  | map es1 c1 =>
   cases o0 with
   | map es0 c0 =>
    obtain ⟨e1, w1, l1⟩ := h3
    obtain ⟨e0, w0, l0⟩ := k3
    refine ⟨e1, w1, fun i e he => ?_⟩
    obtain ⟨e', p1, p2, p3, p4⟩ := l1 i e he
    obtain ⟨e'', q1, q2, q3, q4⟩ := l0 i e he
    exact ⟨e', p1, p2, p3, p4.cut hG.fresh q4⟩
   | cells cs own e => exact k3.elim
   | dead => exact k3.elim
  | cells cs own e => exact h3.elim
  | dead => exact h3.elim
 | dead => cases ha
inductive Lower (S : zi) (v1 : Value) (S1 : zi) : Value → Prop
 | same (h : ground v1 = true) : Lower S v1 S1 v1
 | own {r n e : Nat} {cs : List Value} (hv : v1 = .slice (some ⟨r, 0, none⟩) n n) (hr : S.next ≤ r) (hg : S1.get r = some (.cells cs (.own []) e)) (hn : cs.length = n * e) (hs : cs.all sg = true) : Lower S v1 S1 (SL 2 e n cs)
theorem afw {O0 : Ora} (hO : QN P O0) {f : FuncId} {q : List Value → M Value} (h : ∀ args S v S', q args S = some (v, S') → S' = S ∧ ∃ v1 S1, zV P O0 f args S = some (v1, S1) ∧ Ext S S1 ∧ Lower S v1 S1 v) :
  Zf P (fun g args => if g = f then q args else fun _ => none) := by
 intro g args aargs S v S' hq μ H ω hG hA hD hE
 dsimp only at hq
 split at hq
 ·
  rename_i hgf
  subst hgf
  obtain ⟨rfl, v1, S1, hv, hx, hlow⟩ := h _ _ _ _ hq
  obtain ⟨a, H1, μ1, ω1, k1, k2, k3, k4, k5, k6⟩ := VT hO g args aargs S' v1 S1 hv μ H ω hG hA hD hE
  have hL : Later μ H (Yt S'.next S'.log μ1) H1 := by
   refine ⟨fun q r b hm => ?_, k3.next, fun q r hm => k3.new q r (yE hm).1, k3.hid, k3.same, (by
    obtain ⟨new, n1, n2⟩ := k3.still
    obtain ⟨nx, x1, x2⟩ := hx.log
    refine ⟨[], by show S'.log = _; rw [hG.log]; rfl, fun q r hq _ => ?_⟩
    have hqn : q < S'.next := Nat.lt_of_not_le fun hn => by rw [hG.fresh q hn] at hq; cases hq
    have hnew : q ∉ new := fun hm => by
     rw [k2.log, hG.log, x1] at n1
     have := List.append_cancel_right n1
     subst this
     have := x2 q hm
     omega
    obtain ⟨p1, p2⟩ := n2 q r hq hnew
    exact ⟨by rw [qO hqn]; exact p1, p2⟩), fun r l own e hr hp hg => k3.cells r l own e hr hp hg⟩
   obtain ⟨b', hb⟩ := k3.mu q r b hm
   exact ⟨b', by rw [qO (Nat.lt_of_not_le fun hn => by rw [hG.fresh q hn] at hm; cases hm)]; exact hb⟩
  have hDom : Dom (Yt S'.next S'.log μ1) H1 ω1 := fun r s hr => ⟨(k5 r s hr).1, (k5 r s hr).2.cut⟩
  cases hlow with
  | same hgr =>
   have : a = v := zU k6.v0 hgr
   subst this
   exact ⟨a, H1, _, ω1, k1, hG.cut k2 hx, hL, k4, hDom, VV.jH hgr⟩
  | @own r n e cs hv1 hr hg hn hs =>
   subst hv1
   cases k6 with
   | sg hs => simp [Go.Abs.sg] at hs
   | @slm _ _ _ r' b _ hm =>
    obtain ⟨r2, l, own', ho, hm', hg', hl⟩ := k2.cells hg
    rw [hm] at hm'; cases hm'
    cases own' with
    | ro => exact ho.elim
    | own anc' =>
    have hpr : ZI (Yt S'.next S'.log μ1) r' := ⟨fun q hq => by
     obtain ⟨h1, h2⟩ := yE hq
     have := k2.inj q r r' h1 hm
     omega, k2.vis r r' hm⟩
    have hnω : ∀ x s, ω1 x = some s → x ≠ r' := fun x s hx e => (k5 x s hx).2.1 r (by rw [e]; exact hm)
    refine ⟨_, H1, _, fun x => if x = r' then some (.res none) else ω1 x, k1, hG.cut k2 hx, hL, fun x hx => ?_, fun x s hx => ?_, ?_⟩
    ·
     obtain ⟨e1, e2⟩ := k4 x hx
     exact ⟨by dsimp only; rw [if_neg (hnω x _ e1)]; exact e1, e2⟩
    ·
     dsimp only at hx
     split at hx
     ·
      rename_i e1; subst e1; exact ⟨k2.lt r x _ hm, hpr⟩
     ·
      exact hDom x s hx
    ·
     refine .so (by simp) (k2.lt r r' _ hm) hpr hg' (by rw [← hl.1]; exact hn) (by simpa using hn) fun i hi => ?_
     have h2 := hl.2 i
     have hi' : i < cs.length := by omega
     have hsi : sg (cs.getD i undef) = true := by
      rw [List.getD_eq_getElem?_getD, List.getElem?_eq_getElem hi']
      exact List.all_eq_true.1 hs _ (List.getElem_mem hi')
     have : l.getD i undef = cs.getD i undef := by
      generalize cs.getD i undef = u at h2 hsi
      generalize l.getD i undef = u' at h2
      cases h2 <;> first | rfl | (simp [Go.Abs.sg] at hsi)
     simp only [List.toList_toArray]
     rw [this]
     exact .sg hsi
 ·
  cases hq
end
end Go.Abs
namespace Go.Abs
open Go.RowKit
section
variable {P : Program} {S : zi} {t te tx tex : TypeId} {q o n c e i r : Nat} {cs : List Value} {own : Own} {anc : List Nat} {v x : Value} {hp : Bool}
theorem kW (a : Addr) (S : zi) : yL (.pointer (some a)) S = some (.pointer (some a), S) := Eq.trans rfl rfl
theorem YC (h : S.get q = some (.cells cs own e)) (ha : yB P t = some false) (hv : cs[o]? = some v) (hn : ∀ l, v ≠ .agg l) : ji P false t (.pointer (some ⟨q, o, none⟩)) S = some (dem v, S) := by
 unfold ji
 simp only [Bool.false_eq_true, if_false]
 have : wG P t (.pointer (some ⟨q, o, none⟩)) S = some (v, S) := by simp only [wG, h, ha, hv]
 rw [this]
 split
 ·
  rename_i l S2 he; cases he; exact absurd rfl (hn _)
 ·
  rename_i v2 S2 _ he; cases he; rfl
 ·
  rename_i he; cases he
theorem ZR {k : IntKind} {m : Int} (h : S.get q = some (.cells cs own e)) (ha : yB P t = some false) (hv : cs[o]? = some (.int k m)) : ji P false t (.pointer (some ⟨q, o, none⟩)) S = some (.int k m, S) :=
 YC h ha hv (fun l h => by cases h)
theorem Ym {a : Option Addr} {n c : Nat} (h : S.get q = some (.cells cs own e)) (ha : yB P t = some false) (hv : cs[o]? = some (.slice a n c)) : ji P false t (.pointer (some ⟨q, o, none⟩)) S = some (.slice a n c, S) :=
 YC h ha hv (fun l h => by cases h)
theorem ac4 (h : S.get q = some (.cells cs own e)) (ha : yB P t = some true) (hs : yV P t = some n) (hle : o + n ≤ cs.length) : ji P false t (.pointer (some ⟨q, o, none⟩)) S = some (.agg (((cs.drop o).take n).toArray.map yX), S) := by
 unfold ji
 simp only [Bool.false_eq_true, if_false]
 have : wG P t (.pointer (some ⟨q, o, none⟩)) S = some (.agg ((cs.drop o).take n).toArray, S) := by simp only [wG, h, ha, hs, if_pos hle]
 rw [this]
theorem QB (h : S.get q = some (.cells cs (.own anc) e)) (hs : yV P t = some n) (hx : x.cells.size = n) (h1 : x.cells.toList.all (·.oneCell') = true) (hle : o + n ≤ cs.length) :
  qm P t (.pointer (some ⟨q, o, none⟩)) x S = some (undef, (S.kills anc).set q (.cells (splice cs o x.cells.toList) (.own []) e)) := by
 simp only [qm, xU, h, hs, if_pos hx, if_pos h1, if_pos hle]
theorem abh (ht : P.underlying t = some (.slice te)) (a : Option Addr) (n c : Nat) (S : zi) : qA P t (.slice a n c) S = some (goInt n, S) := by
 simp only [qA, Qg, ht]
theorem abd {lo hi : Option Value} {l h : Int} {dr : Bool} (hd : dr = false) (hg : S.get q = some (.cells cs own e)) (ht : P.underlying t = some (.slice te)) (hs : yV P te = some e) (hl : yj 0 lo = some l) (hh : yj n hi = some h) (h0 : 0 ≤ l) (h1 : l ≤ h) (h2 : h ≤ n) :
  wB P dr t (.slice (some ⟨q, o, none⟩) n c) lo hi S = some (.slice (some ⟨q, o + l.toNat * e, none⟩) (h.toNat - l.toNat) (h.toNat - l.toNat), S) := by
 subst hd
 simp only [wB, WQ, if_true, Bool.false_eq_true, if_false, wZ, ht, hs, hl, hh, if_pos h0, if_pos h1, if_pos h2, hg]
theorem aaT {lo hi : Option Value} {l h : Int} {dr : Bool} (ht : P.underlying t = some (.slice te)) (hs : yV P te = some e) (hl : yj 0 lo = some l) (hh : yj 0 hi = some h) (h0 : 0 ≤ l) (h1 : l ≤ h) (h2 : h ≤ 0) :
  wB P dr t (.slice none 0 0) lo hi S = some (.slice none 0 0, S) := by
 have h2' : h ≤ ((0 : Nat) : Int) := h2
 simp only [wB, WQ, Bool.false_eq_true, if_false, yA, ht, vSl, hs, hl, hh, if_pos h0, if_pos h1, if_pos h2']
theorem aeu {k m : Nat} {ds : List Value} (htx : P.underlying tx = some (.slice tex)) (hx : Okv k m ds) (hm : ds.length = m * e) (h2 : ds.all (·.oneCell') = true) : aeO P tx e (sv k e m ds) = some (m, ds) := by
 obtain ⟨e', q1, q2⟩ := Xi (e := e) hx
 have hns : ∀ s, sv k e m ds ≠ .string s := by intro s; unfold sv; split <;> (intro h; cases h)
 have hcond : m = 0 ∨ e' = e := q2.elim .inr fun h => .inl h.1
 unfold aeO
 split
 ·
  rename_i s hs; exact absurd hs (hns s)
 ·
  simp only [htx, q1, if_pos hcond, if_pos hm, h2, if_true]
theorem acK {k m : Nat} {ds : List Value} (htx : P.underlying tx = some (.slice tex)) (hx : Okv k m ds) (hm : ds.length = m * e) (h2 : ds.all (·.oneCell') = true) : JO P tx e (sv k e m ds) S = some (m, ds) := by
 unfold JO
 rw [JH]
 exact aeu htx hx hm h2
theorem X7 {bytes k : Nat} {z : Value} {news : List Value} (hel : P.underlying t = some (.slice te)) (he : yV P te = some e) (hz : zeroOf P te = some z) (hzs : z.cells.size = e) (hb : bytesOf P te = some bytes) (hpos : 0 < e) (hsrc : JO P tx e x S = some (k, news))
  (hg : S.get q = some (.cells cs (.own anc) e)) (hle : o + n * e ≤ cs.length) (hmax : (n + k) * bytes ≤ 140737488355328) (hmax2 : n + k ≤ 4611686018427387903) (h1 : ((cs.drop o).take (n * e)).all (·.oneCell') = true) :
  yc P hp t tx (.slice (some ⟨q, o, none⟩) n c) x S = some (.slice (some ⟨S.next, 0, none⟩) (n + k) (n + k),
   if o + n * e = cs.length then (S.set q (.cells cs .ro e)).push (.cells ((cs.drop o).take (n * e) ++ news) (.own (if n * e = 0 then [] else q :: anc)) e)
   else ((S.kills anc).set q .dead).push (.cells ((cs.drop o).take (n * e) ++ news) (.own []) e)) := by
 have hel2 : jP P t = some te := by simp only [jP, hel]
 simp only [yc, hel2, he, hz, hb, if_pos hpos, if_pos hzs, hsrc, hg, if_true, if_pos hle, if_pos hmax, if_pos hmax2, if_pos h1, wW]
 by_cases h : o + n * e = cs.length
 ·
  rw [if_pos h, if_pos h]
 ·
  rw [if_neg h, if_neg h]
theorem XD {bytes k : Nat} {z : Value} {news : List Value} (hel : P.underlying t = some (.slice te)) (he : yV P te = some e) (hz : zeroOf P te = some z) (hzs : z.cells.size = e) (hb : bytesOf P te = some bytes) (hpos : 0 < e) (hsrc : JO P tx e x S = some (k, news))
  (hmax : k * bytes ≤ 140737488355328) (hmax2 : k ≤ 4611686018427387903) :
  yc P true t tx (.slice none 0 0) x S = some (if k = 0 then .slice none 0 0 else .slice (some ⟨S.next, 0, none⟩) k k, if k = 0 then S else S.push (.cells news (.own []) e)) := by
 have hel2 : jP P t = some te := by simp only [jP, hel]
 simp only [yc, hel2, he, hz, hb, if_pos hpos, if_pos hzs, hsrc, if_pos hmax, if_pos hmax2, if_true]
 by_cases h : k = 0
 ·
  rw [if_pos h, if_pos h, if_pos h]
 ·
  rw [if_neg h, if_neg h, if_neg h]
theorem ad7 {r2 o2 c2 : Nat} {cs2 : List Value} {own2 : Own} {e2 : Nat} (ht : P.underlying t = some (.slice te)) (hs : yV P te = some e) (hg2 : S.get r2 = some (.cells cs2 own2 e2)) (hle2 : o2 + n * e ≤ cs2.length) (hg : S.get q = some (.cells cs (.own anc) i)) (hn : n ≠ 0) (hle : o + n * e ≤ cs.length) (h1 : ((cs2.drop o2).take (n * e)).all (·.oneCell') = true) :
  JU P t tx (.slice (some ⟨q, o, none⟩) n c) (.slice (some ⟨r2, o2, none⟩) n c2) S = some (goInt n, (S.kills anc).set q (.cells (splice cs o ((cs2.drop o2).take (n * e))) (.own []) i)) := by
 have hel2 : jP P t = some te := by simp only [jP, ht]
 have hmin : Nat.min n n = n := Nat.min_self n
 simp only [JU, hel2, hs, JA, hmin, if_neg hn, hg, wC, hg2, if_pos hle2, if_pos hle, h1, if_true]
theorem Qw (ht : P.underlying t = some (.slice te)) (hs : yV P te = some e) (c2 : Nat) (s : Value) (hsn : ∃ f, JA s S = some (0, f)) (a : Option Addr) (ha : a = none ∨ ∃ q o, a = some ⟨q, o, none⟩) : JU P t tx (.slice a 0 0) s S = some (goInt 0, S) := by
 have hel2 : jP P t = some te := by simp only [jP, ht]
 obtain ⟨f, hf⟩ := hsn
 have hmin : Nat.min 0 0 = 0 := Nat.min_self 0
 rcases ha with rfl | ⟨q, o, rfl⟩
 ·
  simp only [JU, hel2, hs, hf]
 ·
  simp only [JU, hel2, hs, hf, hmin, if_true]
theorem Xc {l : Nat} {k k2 : IntKind} {z : Value} {bytes : Nat} (ht : P.underlying t = some (.slice te)) (he : yV P te = some e) (hz : zeroOf P te = some z) (hb : bytesOf P te = some bytes) (hgz : ground z = true) (hzs : z.cells.size = e) (hpos : 0 < e) (hmax : l * bytes ≤ 140737488355328) (hmax2 : l ≤ 9223372036854775807) :
  jA P t (.int k l) (.int k2 l) S = some (.slice (some ⟨S.next, 0, none⟩) l l, S.push (.cells (zl z.cells.toList l) (.own []) e)) := by
 have hel2 : jP P t = some te := by simp only [jP, ht]
 have h0 : (0 : Int) ≤ (l : Int) := by omega
 have h1 : (l : Int) * bytes ≤ 140737488355328 := by
  have h : ((l * bytes : Nat) : Int) ≤ 140737488355328 := by omega
  rwa [Int.natCast_mul] at h
 have h2 : (l : Int) ≤ 9223372036854775807 := by omega
 simp only [jA, hel2, he, hz, hb, if_pos hgz, if_pos hzs, if_pos hpos, if_pos h0, Int.le_refl, if_true, if_pos h1, if_pos h2, Int.toNat_natCast]
end
theorem ZQ {α : Type} {f : α → List Value} {e k d : Nat} {l : List α} (hk : k ≤ 2) (h : ∀ x ∈ l, (f x).all (jf d) = true) : jf (d + 4) (vs f e k l) = true := by
 unfold vs sv
 split
 ·
  rfl
 ·
  show ((l.flatMap f).toArray.toList.all (jf d)) = true
  rw [List.toList_toArray, List.all_flatMap, List.all_eq_true]
  exact h
theorem Yy {k d : Nat} {l : List UInt8} (hk : k ≤ 2) : jf (d + 5) (by_ k l) = true := ZQ hk (fun _ _ => rfl)
theorem aaX {l : List Value} {d : Nat} (h : l.all (jf d) = true) : jf (d + 1) (.agg l.toArray) = true := by
 show l.toArray.toList.all (jf d) = true
 simpa using h
theorem xZ {l : List Value} {d : Nat} (h : l.all (jf d) = true) : jf (d + 1) (.tuple l.toArray) = true := by
 show l.toArray.toList.all (jf d) = true
 simpa using h
theorem all1 {p : Value → Bool} {a : Value} (h : p a = true) : [a].all p = true := by simp [h]
theorem all2 {p : Value → Bool} {a b : Value} (h : p a = true) (k : p b = true) : [a, b].all p = true := by simp [h, k]
theorem acu {k e n : Nat} {cs : List Value} : (sv k e n cs).cells = #[sv k e n cs] := by unfold sv; split <;> rfl
theorem abO {α : Type} {f : α → List Value} {e k : Nat} {l : List α} : (vs f e k l).cells = #[vs f e k l] := acu
theorem aeb {k e n : Nat} {cs : List Value} : yX (sv k e n cs) = sv (if k = 2 then 1 else k) e n cs := by rw [← KU]; unfold sv; split <;> rfl
theorem aeA {α : Type} {f : α → List Value} {e k : Nat} {l : List α} : yX (vs f e k l) = vs f e (if k = 2 then 1 else k) l := aeb
theorem acG {k : IntKind} {n : Int} : yX (.int k n) = .int k n := rfl
theorem kG {x : Array Value} : (Value.agg x).cells = x := rfl
theorem vP {k : IntKind} {n : Int} : (Value.int k n).cells = #[.int k n] := rfl
@[simp] theorem Qq (a : Option Addr) (n c : Nat) : dem (.slice a n c) = .slice a n c := Eq.trans rfl rfl
@[simp] theorem aap (a : Option Nat) : dem (.map a) = .map a := Eq.trans rfl rfl
theorem wrap_i64 {n : Int} (h0 : -9223372036854775808 ≤ n) (h : n < 9223372036854775808) : IntKind.i64.wrap n = n := by
 simp [IntKind.wrap, IntKind.bits, IntKind.signed]
 split <;> omega
theorem Qk {l pre suf : List Int} {n : Int} (hl : l = pre ++ n :: suf) (h : Int.toNat (pre.length : Int) < l.length) : l[Int.toNat (pre.length : Int)] = n := by
 subst hl; simp
theorem adn {α : Type} {l pre suf : List α} {n : α} (hl : l = pre ++ n :: suf) (h : Int.toNat (pre.length : Int) < l.length) : l[Int.toNat (pre.length : Int)] = n := by
 subst hl; simp
theorem afU (k : Nat) : (if (if k = 2 then 1 else k) = 2 then 1 else if k = 2 then 1 else k) = if k = 2 then 1 else k := by split <;> simp_all
theorem aaE (k : Nat) : (if k = 2 then 1 else k) ≠ 2 := by split <;> omega
theorem ZO (Sa Sb : zi) : qW undef Sa Sb = true := rfl
theorem Qy (cs : List Value) (Sa Sb : zi) : qW (EP cs) Sa Sb = true := rfl
theorem Js {q o e : Nat} {cs : List Value} {own : Own} {S : zi} (h : S.get q = some (.cells cs own e)) : qW (.pointer (some ⟨q, o, none⟩)) S S = true := by
 simp only [qW, h, Nat.sub_self, List.take_zero, List.contains_nil, Bool.not_false, Bool.and_self]
end Go.Abs
namespace Go.Abs
open Go.RowKit
section
variable {P : Program} {fx : Fx} {chk : List Nat} {call : FuncId → List Value → M Value} {ops : Array Oper}
theorem sP (f : Func) (i n : Nat) {l : List Oper} {T : List Value} {T1 : Value → List Value} {S : zi} {v : Value} {r : Option (List Value × zi)} (hK : je P fx call ops ((reg f i).toList.drop (n + 1)) (T1 v) S = r) (hl : l = (opAt f i n) :: ((reg f i).toList.drop (n + 1)) := by kernel_rfl) (hg : (opAt f i n).guard = none := by kernel_rfl) (hm : ∀ v, qJ (opAt f i n) ((reg f i).toList.drop (n + 1)) T v = T1 v := by exact fun _ => rfl) (hs : jJ P fx call T (opAt f i n) S = some (v, S) := by kernel_rfl) : je P fx call ops l T S = r :=
 aaK hl hg hm hs hK
theorem sD (f : Func) (i n : Nat) {l : List Oper} {T : List Value} {T1 : Value → List Value} {S : zi} {s : Option (Value × zi)} {K : Value → zi → Option (List Value × zi)} (hK : ∀ v S1, je P fx call ops ((reg f i).toList.drop (n + 1)) (T1 v) S1 = K v S1) (hl : l = (opAt f i n) :: ((reg f i).toList.drop (n + 1)) := by kernel_rfl) (hg : (opAt f i n).guard = none := by kernel_rfl) (hm : ∀ v, qJ (opAt f i n) ((reg f i).toList.drop (n + 1)) T v = T1 v := by exact fun _ => rfl) (hs : jJ P fx call T (opAt f i n) S = s := by kernel_rfl) : je P fx call ops l T S = zO s K () :=
 ael hl hg hm hs hK
theorem sG (f : Func) (i n : Nat) {l : List Oper} {T : List Value} {T1 : Value → List Value} {S : zi} {j : Nat} {b : Bool} {g : Value} {s : M Value} {K : Value → zi → Option (List Value × zi)} (hK : ∀ v S1, je P fx call ops ((reg f i).toList.drop (n + 1)) (T1 v) S1 = K v S1) (hl : l = (opAt f i n) :: ((reg f i).toList.drop (n + 1)) := by kernel_rfl) (hg : (opAt f i n).guard = some (j, b) := by kernel_rfl) (hm : ∀ v, qJ (opAt f i n) ((reg f i).toList.drop (n + 1)) T v = T1 v := by exact fun _ => rfl) (hy : ynd ops T j = vb g := by kernel_rfl) (hs : jJ P fx call T (opAt f i n) S = s S := by kernel_rfl) : je P fx call ops l T S = gdK g b s S K () :=
 aen hl hg hm hy hs hK
theorem tD (f : Func) (i n : Nat) {l : List Oper} {T : List Value} {T1 : Value → List Value} {S : zi} {k : Nat} {s : Option (Value × zi)} {K : Value → zi → Option (List Value × zi)} (hK : ∀ v S1, jv P fx chk [] call ops (k + 1) [] ((reg f i).toList.drop (n + 1)) (T1 v) S1 = K v S1) (hc : chk.contains k = false := by kernel_rfl) (hl : l = (opAt f i n) :: ((reg f i).toList.drop (n + 1)) := by kernel_rfl) (hg : (opAt f i n).guard = none := by kernel_rfl) (hm : ∀ v, qJ (opAt f i n) ((reg f i).toList.drop (n + 1)) T v = T1 v := by exact fun _ => rfl) (hs : jJ P fx call T (opAt f i n) S = s := by kernel_rfl) : jv P fx chk [] call ops k [] l T S = zO s K () :=
 acE hc hl hg hm hs hK
theorem tDC (f : Func) (i n : Nat) {l : List Oper} {T : List Value} {T1 : Value → List Value} {S : zi} {k : Nat} {s : Option (Value × zi)} {K : Value → zi → Option (List Value × zi)} (hK : ∀ v S1, jv P fx chk [] call ops (k + 1) [] ((reg f i).toList.drop (n + 1)) (T1 v) S1 = K v S1) (hc : chk.contains k = true := by kernel_rfl) (hl : l = (opAt f i n) :: ((reg f i).toList.drop (n + 1)) := by kernel_rfl) (hg : (opAt f i n).guard = none := by kernel_rfl) (hm : ∀ v, qJ (opAt f i n) ((reg f i).toList.drop (n + 1)) T v = T1 v := by exact fun _ => rfl) (hs : jJ P fx call T (opAt f i n) S = s := by kernel_rfl) : jv P fx chk [] call ops k [] l T S = zO s (fun v S1 => okK v (K v S1) ()) () :=
 abI hc hl hg hm hs hK
theorem tP (f : Func) (i n : Nat) {l : List Oper} {T : List Value} {T1 : Value → List Value} {S : zi} {k : Nat} {v : Value} {r : Option (List Value × zi)} (hK : jv P fx chk [] call ops (k + 1) [] ((reg f i).toList.drop (n + 1)) (T1 v) S = r) (hc : chk.contains k = false := by kernel_rfl) (hl : l = (opAt f i n) :: ((reg f i).toList.drop (n + 1)) := by kernel_rfl) (hg : (opAt f i n).guard = none := by kernel_rfl) (hm : ∀ v, qJ (opAt f i n) ((reg f i).toList.drop (n + 1)) T v = T1 v := by exact fun _ => rfl) (hs : jJ P fx call T (opAt f i n) S = some (v, S) := by kernel_rfl) : jv P fx chk [] call ops k [] l T S = r :=
 XK hc hl hg hm hs hK
theorem tPC (f : Func) (i n : Nat) {l : List Oper} {T : List Value} {T1 : Value → List Value} {S : zi} {k : Nat} {v : Value} {r : Option (List Value × zi)} (hK : jv P fx chk [] call ops (k + 1) [] ((reg f i).toList.drop (n + 1)) (T1 v) S = r) (hc : chk.contains k = true := by kernel_rfl) (hl : l = (opAt f i n) :: ((reg f i).toList.drop (n + 1)) := by kernel_rfl) (hg : (opAt f i n).guard = none := by kernel_rfl) (hm : ∀ v, qJ (opAt f i n) ((reg f i).toList.drop (n + 1)) T v = T1 v := by exact fun _ => rfl) (hs : jJ P fx call T (opAt f i n) S = some (v, S) := by kernel_rfl) : jv P fx chk [] call ops k [] l T S = okK v r () :=
 KC hc hl hg hm hs hK
theorem tG (f : Func) (i n : Nat) {l : List Oper} {T : List Value} {T1 : Value → List Value} {S : zi} {j k : Nat} {b : Bool} {g : Value} {s : M Value} {K : Value → zi → Option (List Value × zi)} (hK : ∀ v S1, jv P fx chk [] call ops (k + 1) [] ((reg f i).toList.drop (n + 1)) (T1 v) S1 = K v S1) (hc : chk.contains k = false := by kernel_rfl) (hl : l = (opAt f i n) :: ((reg f i).toList.drop (n + 1)) := by kernel_rfl) (hg : (opAt f i n).guard = some (j, b) := by kernel_rfl) (hm : ∀ v, qJ (opAt f i n) ((reg f i).toList.drop (n + 1)) T v = T1 v := by exact fun _ => rfl) (hy : ynd ops T j = vb g := by kernel_rfl) (hs : jJ P fx call T (opAt f i n) S = s S := by kernel_rfl) : jv P fx chk [] call ops k [] l T S = gdK g b s S K () :=
 aco hc hl hg hm hy hs hK
theorem uD (f : Func) (i n : Nat) {l : List Oper} {T : List Value} {T1 : Value → List Value} {S : zi} {k : Nat} {s : Option (Value × zi)} {K : Value → zi → Option (List Value × zi)} {x : Nat × Nat} {nl : List (Nat × Nat)} {hist : List (Value × zi)} {pe : Value} (hK : ∀ v S1, jv P fx chk (x :: nl) call ops (k + 1) (hist ++ [(pe, S)]) ((reg f i).toList.drop (n + 1)) (T1 v) S1 = K v S1) (hc : chk.contains k = false := by kernel_rfl) (hpe : qZ T (opAt f i n) = pe := by kernel_rfl) (hl : l = (opAt f i n) :: ((reg f i).toList.drop (n + 1)) := by kernel_rfl) (hg : (opAt f i n).guard = none := by kernel_rfl) (hm : ∀ v, qJ (opAt f i n) ((reg f i).toList.drop (n + 1)) T v = T1 v := by exact fun _ => rfl) (hs : jJ P fx call T (opAt f i n) S = s := by kernel_rfl) : jv P fx chk (x :: nl) call ops k hist l T S = zO s K () :=
 acU hc hpe hl hg hm hs hK
theorem uDC (f : Func) (i n : Nat) {l : List Oper} {T : List Value} {T1 : Value → List Value} {S : zi} {k : Nat} {s : Option (Value × zi)} {K : Value → zi → Option (List Value × zi)} {x : Nat × Nat} {nl : List (Nat × Nat)} {hist : List (Value × zi)} {pe : Value} (hK : ∀ v S1, jv P fx chk (x :: nl) call ops (k + 1) (hist ++ [(pe, S)]) ((reg f i).toList.drop (n + 1)) (T1 v) S1 = K v S1) (hc : chk.contains k = true := by kernel_rfl) (hpe : qZ T (opAt f i n) = pe := by kernel_rfl) (hl : l = (opAt f i n) :: ((reg f i).toList.drop (n + 1)) := by kernel_rfl) (hg : (opAt f i n).guard = none := by kernel_rfl) (hm : ∀ v, qJ (opAt f i n) ((reg f i).toList.drop (n + 1)) T v = T1 v := by exact fun _ => rfl) (hs : jJ P fx call T (opAt f i n) S = s := by kernel_rfl) : jv P fx chk (x :: nl) call ops k hist l T S = zO s (fun v S1 => okK v (K v S1) ()) () :=
 abk hc hpe hl hg hm hs hK
theorem uP (f : Func) (i n : Nat) {l : List Oper} {T : List Value} {T1 : Value → List Value} {S : zi} {k : Nat} {v : Value} {r : Option (List Value × zi)} {x : Nat × Nat} {nl : List (Nat × Nat)} {hist : List (Value × zi)} {pe : Value} (hK : jv P fx chk (x :: nl) call ops (k + 1) (hist ++ [(pe, S)]) ((reg f i).toList.drop (n + 1)) (T1 v) S = r) (hc : chk.contains k = false := by kernel_rfl) (hpe : qZ T (opAt f i n) = pe := by kernel_rfl) (hl : l = (opAt f i n) :: ((reg f i).toList.drop (n + 1)) := by kernel_rfl) (hg : (opAt f i n).guard = none := by kernel_rfl) (hm : ∀ v, qJ (opAt f i n) ((reg f i).toList.drop (n + 1)) T v = T1 v := by exact fun _ => rfl) (hs : jJ P fx call T (opAt f i n) S = some (v, S) := by kernel_rfl) : jv P fx chk (x :: nl) call ops k hist l T S = r :=
 Vo hc hpe hl hg hm hs hK
theorem uG (f : Func) (i n : Nat) {l : List Oper} {T : List Value} {T1 : Value → List Value} {S : zi} {j k : Nat} {b : Bool} {g : Value} {s : M Value} {K : Value → zi → Option (List Value × zi)} {x : Nat × Nat} {nl : List (Nat × Nat)} {hist : List (Value × zi)} {pe : Value} (hK : ∀ v S1, jv P fx chk (x :: nl) call ops (k + 1) (hist ++ [(pe, S)]) ((reg f i).toList.drop (n + 1)) (T1 v) S1 = K v S1) (hc : chk.contains k = false := by kernel_rfl) (hpe : qZ T (opAt f i n) = pe := by kernel_rfl) (hl : l = (opAt f i n) :: ((reg f i).toList.drop (n + 1)) := by kernel_rfl) (hg : (opAt f i n).guard = some (j, b) := by kernel_rfl) (hm : ∀ v, qJ (opAt f i n) ((reg f i).toList.drop (n + 1)) T v = T1 v := by exact fun _ => rfl) (hy : ynd ops T j = vb g := by kernel_rfl) (hs : jJ P fx call T (opAt f i n) S = s S := by kernel_rfl) : jv P fx chk (x :: nl) call ops k hist l T S = gdK g b s S K () :=
 abP hc hpe hl hg hm hy hs hK
end
end Go.Abs
namespace Go.Proofs.Ytblpnklfimkfoaa
open Go.Abs
def O0 : Ora := ⟨fun _ => none, fun f => ([23, 25, 40] : List Nat).contains f, fun f => ([9, 11, 12, 13, 16, 18, 20, 22, 24, 29, 31, 37, 38, 41] : List Nat).contains f⟩
theorem aeF : QN Try.prog O0 := acw
end Go.Proofs.Ytblpnklfimkfoaa
namespace Go.Proofs.Ytblpnklfimkfoaa
open Go.Abs
abbrev zB.id : FuncId := 25
noncomputable def zB.code : Code := (Code.seq (Code.region 0 (reg Try.f25 0) false) (Code.seq (Code.region 1 (reg Try.f25 1) false) (Code.seq (Code.region 2 (reg Try.f25 2) false) (Code.seq (Code.region 3 (reg Try.f25 3) false) Code.ret))))
theorem zB.body : Try.f25.body = some zB.code := by kernel_rfl
variable (b m u c o p q r s t d f g i j k l : Value) (S : zi)
theorem zB.r0  : je Try.prog ⟨true, false, false⟩ (yQ O0.hp true (zV Try.prog O0)) (reg Try.f25 0) (reg Try.f25 0).toList ([b,m,u,c,o,p,q,r,s,t,d,f,g,i,j,k,l]) S =
  ( some ([b,m,Value.slice none 0 0,c,o,p,q,r,s,t,d,f,g,i,j,k,l], S)) := by
 kernel_rfl
theorem zB.r1  : je Try.prog ⟨true, false, false⟩ (yQ O0.hp true (zV Try.prog O0)) (reg Try.f25 1) (reg Try.f25 1).toList ([b,m,u,c,o,p,q,r,s,t,d,f,g,i,j,k,l]) S =
  (zO (yL (dem b) S) (fun C n => zO (zS Try.prog 73 C 0 n) (fun w z => zO (ji Try.prog false 26 w z) (fun x A => zO (qA Try.prog 26 x A) (fun v B => zO (jA Try.prog 26 v v B) (fun y D => some ([b,m,u,y,dem b,C,w,x,v,dem y,d,f,g,i,j,k,l], D)) ()) ()) ()) ()) ()) := by
 kernel_rfl
theorem zB.r2  : je Try.prog ⟨true, false, false⟩ (yQ O0.hp true (zV Try.prog O0)) (reg Try.f25 2) (reg Try.f25 2).toList ([b,m,u,c,o,p,q,r,s,t,d,f,g,i,j,k,l]) S =
  (zO (yL (dem b) S) (fun w n => zO (zS Try.prog 73 w 0 n) (fun x z => zO (ji Try.prog false 26 x z) (fun v A => zO (JU Try.prog 26 26 (dem c) v A) (fun y B => some ([b,m,u,c,o,p,q,r,s,t,dem c,dem b,w,x,v,y,l], B)) ()) ()) ()) ()) := by
 kernel_rfl
theorem zB.r3  : je Try.prog ⟨true, false, false⟩ (yQ O0.hp true (zV Try.prog O0)) (reg Try.f25 3) (reg Try.f25 3).toList ([b,m,u,c,o,p,q,r,s,t,d,f,g,i,j,k,l]) S =
  ( some ([b,m,c,dem c,o,p,q,r,s,t,d,f,g,i,j,k,dem c], S)) := by
 kernel_rfl
theorem zB.rs : type_of% (And.intro @zB.r0 (And.intro @zB.r1 (And.intro @zB.r2 (@zB.r3)))) := And.intro @zB.r0 (And.intro @zB.r1 (And.intro @zB.r2 (@zB.r3)))
theorem zB.runs {b : Value} {S n : zi} {e : AEx} {T : List Value} (h : zD Try.prog O0 true zB.code ([b,undef,undef,undef,undef,undef,undef,undef,undef,undef,undef,undef,undef,undef,undef,undef,undef]) S = some (e, T, n)) (he : e = .normal ∨ e = .ret) : zV Try.prog O0 25 [b] S = some (T.getD 2 undef, n) :=
 wU rfl rfl Try.func25 (by decide) zB.body (by exact h) he (qU (a := T.getD 2 undef) ((show zN Try.prog T n Try.f25.results.toList = zN Try.prog T n [(ResultVar.tmp 2)] from by kernel_rfl).trans (by simp only [zN])) (by kernel_rfl))
end Go.Proofs.Ytblpnklfimkfoaa
namespace Go.Proofs.Ytblpnklfimkfoaa
open Go.Abs
theorem afH : Try.prog.underlying 3 = some (TypeDesc.int IntKind.i64) := by kernel_rfl
theorem afb : yV Try.prog 3 = some 1 := by kernel_rfl
theorem af9 : bytesOf Try.prog 3 = some 8 := by kernel_rfl
theorem afY : zeroOf Try.prog 3 = (some (Value.int IntKind.i64 0)) := by kernel_rfl
theorem abp : yB Try.prog 3 = some false := by kernel_rfl
theorem Kz : Try.prog.underlying 5 = some (TypeDesc.int IntKind.u8) := by kernel_rfl
theorem yR : yV Try.prog 5 = some 1 := by kernel_rfl
theorem JF : bytesOf Try.prog 5 = some 1 := by kernel_rfl
theorem Jf : zeroOf Try.prog 5 = (some (Value.int IntKind.u8 0)) := by kernel_rfl
theorem aeT : yB Try.prog 5 = some false := by kernel_rfl
theorem acO : Try.prog.underlying 9 = some TypeDesc.string := by kernel_rfl
theorem qN : Try.prog.underlying 22 = some (TypeDesc.slice 28) := by kernel_rfl
theorem jw : Try.prog.underlying 26 = some (TypeDesc.slice 5) := by kernel_rfl
theorem kS : yB Try.prog 26 = some false := by kernel_rfl
theorem qE : yV Try.prog 28 = some 5 := by kernel_rfl
theorem aaA : bytesOf Try.prog 28 = some 56 := by kernel_rfl
theorem VX : zeroOf Try.prog 28 = (some (Value.agg #[(Value.int IntKind.i64 0), (Value.int IntKind.i64 0), (Value.int IntKind.i64 0), (Value.int IntKind.i64 0), (Value.slice none 0 0)])) := by kernel_rfl
theorem Y7 : yB Try.prog 28 = some true := by kernel_rfl
theorem Yo : Try.prog.underlying 56 = some (TypeDesc.slice 3) := by kernel_rfl
theorem ZW : Try.prog.underlying 75 = some (TypeDesc.int IntKind.u64) := by kernel_rfl
theorem kY (q o : Nat) (S : zi) : zS Try.prog 28 (.pointer (some ⟨q, o, none⟩)) 0 S = some (.pointer (some ⟨q, o + 0, none⟩), S) := by kernel_rfl
theorem xg (q o : Nat) (S : zi) : zS Try.prog 28 (.pointer (some ⟨q, o, none⟩)) 1 S = some (.pointer (some ⟨q, o + 1, none⟩), S) := by kernel_rfl
theorem kJ (q o : Nat) (S : zi) : zS Try.prog 28 (.pointer (some ⟨q, o, none⟩)) 2 S = some (.pointer (some ⟨q, o + 2, none⟩), S) := by kernel_rfl
theorem kP (q o : Nat) (S : zi) : zS Try.prog 28 (.pointer (some ⟨q, o, none⟩)) 3 S = some (.pointer (some ⟨q, o + 3, none⟩), S) := by kernel_rfl
theorem kR (q o : Nat) (S : zi) : zS Try.prog 28 (.pointer (some ⟨q, o, none⟩)) 4 S = some (.pointer (some ⟨q, o + 4, none⟩), S) := by kernel_rfl
theorem qy (q o : Nat) (S : zi) : zS Try.prog 73 (.pointer (some ⟨q, o, none⟩)) 0 S = some (.pointer (some ⟨q, o + 0, none⟩), S) := by kernel_rfl
theorem xC {fx : Bool} {x0 x1 x2 x3 x4 : Value} {S : zi} : ji Try.prog fx 28 (EP [x0, x1, x2, x3, x4]) S = some (.agg [x0, x1, x2, x3, x4].toArray, S) := VZ Y7 qE rfl
theorem Vq {q : Nat} {x0 x1 x2 x3 x4 : Value} {own : Own} {e : Nat} {S : zi} (h : S.get q = some (.cells [x0, x1, x2, x3, x4] own e)) : ji Try.prog false 28 (.pointer (some ⟨q, 0, none⟩)) S = some (.agg [yX x0, yX x1, yX x2, yX x3, yX x4].toArray, S) := (ac4 (o := 0) h Y7 qE (by simp)).trans (by simp)
theorem XJ  (S : zi) : yC Try.prog 28 [] S = some (.agg [(Value.int IntKind.i64 0), (Value.int IntKind.i64 0), (Value.int IntKind.i64 0), (Value.int IntKind.i64 0), (Value.slice none 0 0)].toArray, S) := by
 kernel_rfl
theorem xK {y0 y1 y2 y3 y4 : Value} (h0 : y0.cells = #[y0]) (h1 : y1.cells = #[y1]) (h2 : y2.cells = #[y2]) (h3 : y3.cells = #[y3]) (h4 : y4.cells = #[y4]) (S : zi) : yC Try.prog 28 [(0, y0), (1, y1), (2, y2), (3, y3), (4, y4)] S = some (.agg [y0, y1, y2, y3, y4].toArray, S) := by
 rw [show yC Try.prog 28 [(0, y0), (1, y1), (2, y2), (3, y3), (4, y4)] S = (match xI ([(0, 1), (1, 1), (2, 1), (3, 1), (4, 1)][·]?) [(Value.int IntKind.i64 0), (Value.int IntKind.i64 0), (Value.int IntKind.i64 0), (Value.int IntKind.i64 0), (Value.slice none 0 0)] [(0, y0), (1, y1), (2, y2), (3, y3), (4, y4)] with | some l => some (.agg l.toArray, S) | none => none) from by kernel_rfl]
 simp [xI, splice, kG, h0, h1, h2, h3, h4]
@[simp] theorem yY (k : IntKind) (n : Int) (H : zi) : jK Try.prog 3 75 (.int k n) H = some (.int IntKind.u64 (IntKind.wrap IntKind.u64 n), H) := vI afH ZW k n
@[simp] theorem Ju (k : IntKind) (n : Int) (H : zi) : jK Try.prog 5 75 (.int k n) H = some (.int IntKind.u64 (IntKind.wrap IntKind.u64 n), H) := vI Kz ZW k n
@[simp] theorem Yu (k : IntKind) (n : Int) (H : zi) : jK Try.prog 75 3 (.int k n) H = some (.int IntKind.i64 (IntKind.wrap IntKind.i64 n), H) := vI ZW afH k n
@[simp] theorem kL (k : IntKind) (n : Int) (H : zi) : jK Try.prog 75 5 (.int k n) H = some (.int IntKind.u8 (IntKind.wrap IntKind.u8 n), H) := vI ZW Kz k n
theorem JQ (S : zi) : zW Try.prog 22 0 [] S = some (sv 2 5 0 [], S) := by kernel_rfl
theorem kU (S : zi) : zW Try.prog 26 0 [] S = some (sv 2 1 0 [], S) := by kernel_rfl
theorem ZF (x0 : Int) (S : zi) : zW Try.prog 26 1 [(0, .int IntKind.u8 x0)] S = some (sv 2 1 1 [.int IntKind.u8 x0], S) := by kernel_rfl
theorem XQ (x0 : Int) (S : zi) : zW Try.prog 56 1 [(0, .int IntKind.i64 x0)] S = some (sv 2 1 1 [.int IntKind.i64 x0], S) := by kernel_rfl
theorem qc {k : Nat} {l : List UInt8} {S : zi} (h : Okl k l) : qA Try.prog 26 (by_ k l) S = some (goInt l.length, S) := aa5 jw h
theorem af5 {k : Nat} {l : List UInt8} {S : zi} {ki : IntKind} {i : Int} (h : Okl k l) (h0 : 0 ≤ i) (hi : i < l.length) : zZ Try.prog 26 (by_ k l) (.int ki i) S = some (EP [.int .u8 (l[i.toNat]'(by omega)).toNat], S) := aex jw yR Qz h h0 hi
theorem ad1 {fx : Bool} {v : Value} {S : zi} : ji Try.prog fx 5 (EP [v]) S = some (v, S) := Qe aeT
theorem vK {k : Nat} {l : List UInt8} {S : zi} {lo hi : Option Value} {i j : Int} (h : Okl k l) (hlo : yj 0 lo = some i) (hhi : yj l.length hi = some j) (h0 : 0 ≤ i) (hij : i ≤ j) (hj : j ≤ l.length) : yA Try.prog 26 (by_ k l) lo hi S = some (by_ (if k = 2 then 1 else k) ((l.drop i.toNat).take (j.toNat - i.toNat)), S) := ac7 jw yR Qz h hlo hhi h0 hij hj
theorem yu {k : Nat} {l : List UInt8} {S : zi} {j : Nat} {m : List UInt8} (h : Okl k l) (hk : k ≠ 1) (hm : Okl j m) (hl : l.length + m.length ≤ 140737488355328) : jl Try.prog 26 26 (by_ k l) (by_ j m) S = some (by_ (if k = 0 ∧ m.length = 0 then 0 else 2) (l ++ m), S) := Jw jw yR Jf rfl JF (by omega) jw Qz afe h hk hm (by omega) (by omega)
theorem aa9 {k : Nat} {l : List UInt8} {S : zi} (h : Okl k l) (hl : l.length ≤ 140737488355328) : jl Try.prog 26 26 (by_ 2 []) (by_ k l) S = some (by_ 2 l, S) := by
 rw [yu Okl.own (by decide) h (by simpa using hl)]; rfl
theorem ab6 {k : Nat} {l : List UInt8} {S : zi} (h : Okl k l) : jM Try.prog .eql 26 (by_ k l) (.slice none 0 0) S = some (.bool (decide (k = 0)), S) := acC jw h
theorem Xy {k : Nat} {l : List UInt8} {S : zi} (h : Okl k l) : kE Try.prog 26 9 (by_ k l) S = some (.string ⟨l.toArray⟩, S) := aaB jw Kz acO h
theorem V9 {k : Nat} {l : List Int} {S : zi} (h : Okl k l) : qA Try.prog 56 (iz k l) S = some (goInt l.length, S) := aa5 Yo h
theorem aeW {k : Nat} {l : List Int} {S : zi} {ki : IntKind} {i : Int} (h : Okl k l) (h0 : 0 ≤ i) (hi : i < l.length) : zZ Try.prog 56 (iz k l) (.int ki i) S = some (EP [.int .i64 (l[i.toNat]'(by omega))], S) := aex Yo afb adp h h0 hi
theorem Zk {fx : Bool} {v : Value} {S : zi} : ji Try.prog fx 3 (EP [v]) S = some (v, S) := Qe abp
theorem abe {k : Nat} {l : List Int} {S : zi} {j : Nat} {m : List Int} (h : Okl k l) (hk : k ≠ 1) (hm : Okl j m) (hl : l.length + m.length ≤ 17592186044416) : jl Try.prog 56 56 (iz k l) (iz j m) S = some (iz (if k = 0 ∧ m.length = 0 then 0 else 2) (l ++ m), S) := Jw Yo afb afY rfl af9 (by omega) Yo adp afo h hk hm (by omega) (by omega)
theorem wk : type_of% (And.intro @J6 (And.intro @vU (And.intro @ZA (And.intro @Z8 (And.intro @J9 (And.intro @Jk (And.intro @Ji (And.intro @Jv (And.intro @ZL (And.intro @Ql (And.intro @JB (And.intro @Y4 (And.intro @Xu (And.intro @vS (And.intro @WJ (And.intro @Jo (And.intro @J5 (And.intro @Jp (And.intro @Qu (And.intro @adU (And.intro @adM (And.intro @adC (And.intro @adt (And.intro @adQ (And.intro @aam (And.intro @VK (And.intro @abr (And.intro @Vx (And.intro @aaG (And.intro @KP (And.intro @ZO (And.intro @Qy (And.intro @Bool.and_true (And.intro @Bool.true_and (And.intro @Bool.and_self (And.intro @KT (And.intro @abJ (And.intro @Wx (And.intro @QE (And.intro @JL (And.intro @adr (And.intro @adu (And.intro @adb (And.intro @adJ (And.intro @afa (And.intro @afM (And.intro @afl (And.intro @afi (And.intro @afc (And.intro @adZ (And.intro @adi (And.intro @adF (And.intro @adL (And.intro @adI (And.intro @VB (And.intro @WG (And.intro @Bool.false_eq_true (And.intro @Xb (And.intro @aac (And.intro @J7 (And.intro @Y2 (And.intro @Y8 (And.intro @adD (And.intro @Y6 (And.intro @adO (And.intro @Z4 (And.intro @abH (And.intro @Xm (And.intro @WH (And.intro @abB (And.intro @abG (And.intro @Xj (And.intro @Jr (And.intro @Qq (And.intro @aap (And.intro @aao (And.intro @KU (And.intro @Yh (And.intro @KQ (And.intro @Je (And.intro @Y9 (And.intro @Qv (And.intro @JZ (And.intro @Zd (And.intro @xX (And.intro @Jt (And.intro @qF (And.intro @Zj (And.intro @WI (And.intro @xR (And.intro @xP (And.intro @xM (And.intro @YF (And.intro @WS (And.intro @Xk (And.intro @Yk (And.intro @YH (And.intro @Yb (And.intro @WL (And.intro @Yj (And.intro @Yq (And.intro @abu (And.intro @Bool.not_true (And.intro @Bool.not_false (And.intro @Bool.true_eq_false (And.intro @decide_true (And.intro @decide_false (And.intro @aaV (And.intro @V3 (And.intro @aa1 (And.intro @VQ (And.intro @aar (And.intro @aak (And.intro @aa8 (And.intro @abg (And.intro @aa6 (And.intro @VA (And.intro @aaW (And.intro @VD (And.intro @aae (And.intro @aaR (@aay)))))))))))))))))))))))))))))))))))))))))))))))))))))))))))))))))))))))))))))))))))))))))))))))))))))))))))))))))))))))))) := And.intro @J6 (And.intro @vU (And.intro @ZA (And.intro @Z8 (And.intro @J9 (And.intro @Jk (And.intro @Ji (And.intro @Jv (And.intro @ZL (And.intro @Ql (And.intro @JB (And.intro @Y4 (And.intro @Xu (And.intro @vS (And.intro @WJ (And.intro @Jo (And.intro @J5 (And.intro @Jp (And.intro @Qu (And.intro @adU (And.intro @adM (And.intro @adC (And.intro @adt (And.intro @adQ (And.intro @aam (And.intro @VK (And.intro @abr (And.intro @Vx (And.intro @aaG (And.intro @KP (And.intro @ZO (And.intro @Qy (And.intro @Bool.and_true (And.intro @Bool.true_and (And.intro @Bool.and_self (And.intro @KT (And.intro @abJ (And.intro @Wx (And.intro @QE (And.intro @JL (And.intro @adr (And.intro @adu (And.intro @adb (And.intro @adJ (And.intro @afa (And.intro @afM (And.intro @afl (And.intro @afi (And.intro @afc (And.intro @adZ (And.intro @adi (And.intro @adF (And.intro @adL (And.intro @adI (And.intro @VB (And.intro @WG (And.intro @Bool.false_eq_true (And.intro @Xb (And.intro @aac (And.intro @J7 (And.intro @Y2 (And.intro @Y8 (And.intro @adD (And.intro @Y6 (And.intro @adO (And.intro @Z4 (And.intro @abH (And.intro @Xm (And.intro @WH (And.intro @abB (And.intro @abG (And.intro @Xj (And.intro @Jr (And.intro @Qq (And.intro @aap (And.intro @aao (And.intro @KU (And.intro @Yh (And.intro @KQ (And.intro @Je (And.intro @Y9 (And.intro @Qv (And.intro @JZ (And.intro @Zd (And.intro @xX (And.intro @Jt (And.intro @qF (And.intro @Zj (And.intro @WI (And.intro @xR (And.intro @xP (And.intro @xM (And.intro @YF (And.intro @WS (And.intro @Xk (And.intro @Yk (And.intro @YH (And.intro @Yb (And.intro @WL (And.intro @Yj (And.intro @Yq (And.intro @abu (And.intro @Bool.not_true (And.intro @Bool.not_false (And.intro @Bool.true_eq_false (And.intro @decide_true (And.intro @decide_false (And.intro @aaV (And.intro @V3 (And.intro @aa1 (And.intro @VQ (And.intro @aar (And.intro @aak (And.intro @aa8 (And.intro @abg (And.intro @aa6 (And.intro @VA (And.intro @aaW (And.intro @VD (And.intro @aae (And.intro @aaR (@aay)))))))))))))))))))))))))))))))))))))))))))))))))))))))))))))))))))))))))))))))))))))))))))))))))))))))))))))))))))))))))
theorem zSs : type_of% (And.intro wk (And.intro (@List.getD_cons_succ Value) (And.intro (@List.getD_cons_zero Value) (And.intro @if_true.{1} (And.intro @if_false.{1} (And.intro (@List.getElem?_cons_succ Value) (And.intro (@List.getElem?_cons_zero Value) (And.intro @Option.map_some.{0,0} @eq_self.{1})))))))) := And.intro wk (And.intro (@List.getD_cons_succ Value) (And.intro (@List.getD_cons_zero Value) (And.intro @if_true.{1} (And.intro @if_false.{1} (And.intro (@List.getElem?_cons_succ Value) (And.intro (@List.getElem?_cons_zero Value) (And.intro @Option.map_some.{0,0} @eq_self.{1})))))))
end Go.Proofs.Ytblpnklfimkfoaa
namespace Go.Proofs.Ytblpnklfimkfoaa
open Go.Abs
def aaU (args : List Value) : M Value := fun S =>
 match args with
 | [.pointer (some ⟨q, 0, none⟩)] => match S.get q with
  | some (.cells (dv :: _) _ _) => if q < S.next then match dv with
   | .slice none 0 0 => some (SL 2 1 0 [], S)
   | .slice (some ⟨r, 0, none⟩) n _ => match S.get r with
    | some (.cells cs _ _) => if n ≤ cs.length then if (cs.take n).all sg then if n ≤ 140737488355328 then if r < S.next then some (SL 2 1 n (cs.take n), S) else none else none else none else none
    | _ => none
   | _ => none
   else none
  | _ => none
 | _ => none
theorem Zt {cs xs : List Value} (h : cs.length = xs.length) : splice cs 0 xs = xs := by
 unfold splice
 rw [List.take_zero, List.nil_append, Nat.zero_add, ← h, List.drop_length, List.append_nil]
theorem Zx {l : List Value} (h : l.all sg = true) : l.all (·.oneCell') = true := by
 rw [List.all_eq_true] at *
 intro x hx
 have := h x hx
 cases x <;> first | rfl | (simp [sg] at this)
theorem zB.nil {S : zi} {q e : Nat} {rest : List Value} {own : Own} (hq : S.get q = some (.cells (.slice none 0 0 :: rest) own e)) (hlt : q < S.next) :
  zV Try.prog O0 zB.id [.pointer (some ⟨q, 0, none⟩)] S = some (.slice (some ⟨S.next, 0, none⟩) 0 0, S.push (.cells [] (.own []) 1)) := by
 obtain ⟨T, hTe⟩ : ∃ T, T = (.pointer (some ⟨q, 0, none⟩) :: undef :: undef :: undef :: undef :: undef :: undef :: undef :: undef :: undef :: undef :: undef :: undef :: undef :: undef :: undef :: undef :: []) := ⟨_, rfl⟩
 have hr : zD Try.prog O0 true zB.code T S = zD Try.prog O0 true zB.code T S := rfl
 have l1 := Ym (t := 26) (o := 0 + 0) hq kS rfl
 have m1 := Xc (S := S) (k := .i64) (k2 := .i64) (l := 0) jw yR Jf JF rfl rfl (by decide) (by decide) (by decide)
 have hq2 : (S.push (.cells (zl (Value.int .u8 0).cells.toList 0) (.own []) 1)).get q = some (.cells (.slice none 0 0 :: rest) own e) := by rw [zi.zT, if_neg (by omega)]; exact hq
 have l2 := Ym (t := 26) (o := 0 + 0) hq2 kS rfl
 have c2 := Qw (P := Try.prog) (t := 26) (tx := 26) (S := S.push (.cells (zl (Value.int .u8 0).cells.toList 0) (.own []) 1)) jw yR 0 (.slice none 0 0) ⟨_, rfl⟩ (some ⟨S.next, 0, none⟩) (.inr ⟨_, _, rfl⟩)
 have ln := fun S => abh jw none 0 0 S
 conv at hr =>
  rhs
  rw [hTe]
  simp only [zB.code, zB.rs, zSs, reduceIte, Nat.reduceEqDiff, Int.reduceEq, Int.reduceLT, Int.reduceLE, kW, qy, l1, ln, goInt, m1, l2, c2]
 rw [hTe] at hr
 exact zB.runs hr (.inr rfl)
theorem zB.full {S : zi} {q e r n c i : Nat} {rest cs : List Value} {own own2 : Own} (hq : S.get q = some (.cells (.slice (some ⟨r, 0, none⟩) n c :: rest) own e)) (hlt : q < S.next) (hg : S.get r = some (.cells cs own2 i)) (hn : n ≤ cs.length)
  (hs : (cs.take n).all sg = true) (hb : n ≤ 140737488355328) (hrn : r < S.next) :
  ∃ S1, zV Try.prog O0 zB.id [.pointer (some ⟨q, 0, none⟩)] S = some (.slice (some ⟨S.next, 0, none⟩) n n, S1) ∧ Ext S S1 ∧ S1.get S.next = some (.cells (cs.take n) (.own []) 1) := by
 obtain ⟨T, hTe⟩ : ∃ T, T = (.pointer (some ⟨q, 0, none⟩) :: undef :: undef :: undef :: undef :: undef :: undef :: undef :: undef :: undef :: undef :: undef :: undef :: undef :: undef :: undef :: undef :: []) := ⟨_, rfl⟩
 have hr : zD Try.prog O0 true zB.code T S = zD Try.prog O0 true zB.code T S := rfl
 have l1 := Ym (t := 26) (o := 0 + 0) hq kS rfl
 have m1 := Xc (S := S) (k := .i64) (k2 := .i64) (l := n) jw yR Jf JF rfl rfl (by decide) (by omega) (by omega)
 have hq2 : (S.push (.cells (zl (Value.int .u8 0).cells.toList n) (.own []) 1)).get q = some (.cells (.slice (some ⟨r, 0, none⟩) n c :: rest) own e) := by rw [zi.zT, if_neg (by omega)]; exact hq
 have hg2 : (S.push (.cells (zl (Value.int .u8 0).cells.toList n) (.own []) 1)).get r = some (.cells cs own2 i) := by rw [zi.zT, if_neg (by omega)]; exact hg
 have hg3 : (S.push (.cells (zl (Value.int .u8 0).cells.toList n) (.own []) 1)).get S.next = some (.cells (zl (Value.int .u8 0).cells.toList n) (.own []) 1) := by rw [zi.zT, if_pos rfl]
 have l2 := Ym (t := 26) (o := 0 + 0) hq2 kS rfl
 have ln := fun S => abh jw (some ⟨r, 0, none⟩) n c S
 by_cases h0 : n = 0
 ·
  subst h0
  have c2 : JU Try.prog 26 26 (.slice (some ⟨S.next, 0, none⟩) 0 0) (.slice (some ⟨r, 0, none⟩) 0 c) (S.push (.cells (zl (Value.int .u8 0).cells.toList 0) (.own []) 1)) = some (goInt 0, S.push (.cells (zl (Value.int .u8 0).cells.toList 0) (.own []) 1)) :=
   Qw jw yR 0 _ ⟨_, rfl⟩ (some ⟨S.next, 0, none⟩) (.inr ⟨_, _, rfl⟩)
  conv at hr =>
   rhs
   rw [hTe]
   simp only [zB.code, zB.rs, zSs, reduceIte, Nat.reduceEqDiff, Int.reduceEq, Int.reduceLT, Int.reduceLE, kW, qy, l1, ln, goInt, m1, l2, c2]
  rw [hTe] at hr
  have hrun := zB.runs hr (.inr rfl)
  exact ⟨_, hrun, Ext.push _ _, hg3⟩
 ·
  have c2 := ad7 (t := 26) (tx := 26) (o := 0) (o2 := 0) (c := n) (c2 := c) jw yR hg2 (n := n) (by omega) hg3 h0 (by rw [Xd]; show 0 + n * 1 ≤ n * 1; omega) (by rw [List.drop_zero, Nat.mul_one]; exact Zx hs)
  conv at hr =>
   rhs
   rw [hTe]
   simp only [zB.code, zB.rs, zSs, reduceIte, Nat.reduceEqDiff, Int.reduceEq, Int.reduceLT, Int.reduceLE, kW, qy, l1, ln, goInt, m1, l2, c2]
  rw [hTe] at hr
  have hrun := zB.runs hr (.inr rfl)
  refine ⟨_, hrun, (Ext.push _ _).set (Nat.le_refl _) _, ?_⟩
  rw [zi.jk, if_pos rfl, List.drop_zero, Nat.mul_one, Zt (by rw [Xd, List.length_take, Nat.min_eq_left hn]; show n * 1 = n; omega)]
theorem aag : Zf Try.prog (fun g args => if g = 25 then aaU args else fun _ => none) := by
 refine afw aeF fun args S v S' h => ?_
 unfold aaU at h
 split at h <;> first | (cases h; done) | skip
 rename_i q
 split at h <;> first | (cases h; done) | skip
 rename_i dv rest own e hq
 split at h <;> first | (cases h; done) | skip
 rename_i hlt
 split at h <;> first | (cases h; done) | skip
 ·
  cases h
  exact ⟨rfl, _, _, zB.nil hq hlt, Ext.push _ _, .own rfl (Nat.le_refl _) (by rw [zi.zT, if_pos rfl]) rfl rfl⟩
 ·
  rename_i r n c
  split at h <;> first | (cases h; done) | skip
  rename_i cs own2 i hg
  split at h <;> first | (cases h; done) | skip
  rename_i h1
  split at h <;> first | (cases h; done) | skip
  rename_i h2
  split at h <;> first | (cases h; done) | skip
  rename_i h3
  split at h <;> first | (cases h; done) | skip
  rename_i h4
  cases h
  obtain ⟨S1, k1, k2, k3⟩ := zB.full hq hlt hg h1 h2 h3 h4
  exact ⟨rfl, _, S1, k1, k2, .own rfl (Nat.le_refl _) k3 (by rw [List.length_take, Nat.min_eq_left h1, Nat.mul_one]) h2⟩
end Go.Proofs.Ytblpnklfimkfoaa
namespace Go.Proofs.Ytblpnklfimkfoaa
open Go.Abs
def O : Ora := ⟨fun f => if f = 25 then some aaU else none, fun f => ([23, 25, 40] : List Nat).contains f, fun f => ([9, 11, 12, 13, 16, 18, 20, 22, 24, 29, 31, 37, 38, 41] : List Nat).contains f⟩
theorem ae8 : QN Try.prog O := by
 intro f q h
 simp only [O] at h
 split at h
 ·
  rename_i hf; subst hf; cases h; exact aag
 ·
  cases h
end Go.Proofs.Ytblpnklfimkfoaa
namespace Go.Proofs.Ytblpnklfimkfoaa
open Go.Abs
noncomputable def zh.jd : Code := (Code.seq (Code.region 8 (reg Try.f7 8) false) (Code.seq (Code.cond (Operand.tmp 30) Code.skip (Code.exit 0)) (Code.seq (Code.block 1 (Code.seq (Code.region 9 (reg Try.f7 9) false) (Code.seq (Code.region 10 (reg Try.f7 10) false) (Code.seq (Code.region 11 (reg Try.f7 11) false) (Code.cond (Operand.tmp 39) (Code.seq (Code.region 12 (reg Try.f7 12) false) (Code.region 13 (reg Try.f7 13) false)) Code.skip))))) (Code.region 14 (reg Try.f7 14) false))))
noncomputable def zh.WZ : Code := (Code.seq (Code.region 21 (reg Try.f7 21) false) (Code.seq (Code.cond (Operand.tmp 78) Code.skip (Code.exit 2)) (Code.seq (Code.block 3 (Code.seq (Code.region 22 (reg Try.f7 22) false) (Code.seq (Code.region 23 (reg Try.f7 23) false) (Code.seq (Code.seq (Code.region 24 (reg Try.f7 24) false) (Code.cond (Operand.tmp 87) (Code.seq (Code.region 25 (reg Try.f7 25) false) Code.ret) Code.skip)) (Code.region 26 (reg Try.f7 26) false))))) (Code.region 27 (reg Try.f7 27) false))))
noncomputable def zh.code : Code := (Code.seq (Code.region 0 (reg Try.f7 0) false) (Code.seq (Code.seq (Code.region 1 (reg Try.f7 1) false) (Code.cond (Operand.tmp 21) (Code.seq (Code.region 2 (reg Try.f7 2) false) Code.ret) Code.skip)) (Code.seq (Code.seq (Code.region 3 (reg Try.f7 3) false) (Code.cond (Operand.tmp 24) (Code.seq (Code.region 4 (reg Try.f7 4) false) Code.ret) Code.skip)) (Code.seq (Code.region 5 (reg Try.f7 5) false) (Code.seq (Code.region 6 (reg Try.f7 6) false) (Code.seq (Code.seq (Code.region 7 (reg Try.f7 7) false) (Code.block 0 (Code.loop zh.jd))) (Code.seq (Code.region 15 (reg Try.f7 15) false) (Code.seq (Code.seq (Code.region 16 (reg Try.f7 16) false) (Code.cond (Operand.tmp 66) (Code.seq (Code.region 17 (reg Try.f7 17) false) Code.ret) Code.skip)) (Code.seq (Code.region 18 (reg Try.f7 18) false) (Code.seq (Code.region 19 (reg Try.f7 19) false) (Code.seq (Code.seq (Code.region 20 (reg Try.f7 20) false) (Code.block 2 (Code.loop zh.WZ))) (Code.seq (Code.region 28 (reg Try.f7 28) true) Code.ret))))))))))))
theorem zh.body : Try.f7.body = some zh.code := by kernel_rfl
theorem zh.eta {T : List Value} (h : T.length = 105) : T = [T.getD 0 undef,T.getD 1 undef,T.getD 2 undef,T.getD 3 undef,T.getD 4 undef,T.getD 5 undef,T.getD 6 undef,T.getD 7 undef,T.getD 8 undef,T.getD 9 undef,T.getD 10 undef,T.getD 11 undef,T.getD 12 undef,T.getD 13 undef,T.getD 14 undef,T.getD 15 undef,T.getD 16 undef,T.getD 17 undef,T.getD 18 undef,T.getD 19 undef,T.getD 20 undef,T.getD 21 undef,T.getD 22 undef,T.getD 23 undef,T.getD 24 undef,T.getD 25 undef,T.getD 26 undef,T.getD 27 undef,T.getD 28 undef,T.getD 29 undef,T.getD 30 undef,T.getD 31 undef,T.getD 32 undef,T.getD 33 undef,T.getD 34 undef,T.getD 35 undef,T.getD 36 undef,T.getD 37 undef,T.getD 38 undef,T.getD 39 undef,T.getD 40 undef,T.getD 41 undef,T.getD 42 undef,T.getD 43 undef,T.getD 44 undef,T.getD 45 undef,T.getD 46 undef,T.getD 47 undef,T.getD 48 undef,T.getD 49 undef,T.getD 50 undef,T.getD 51 undef,T.getD 52 undef,T.getD 53 undef,T.getD 54 undef,T.getD 55 undef,T.getD 56 undef,T.getD 57 undef,T.getD 58 undef,T.getD 59 undef,T.getD 60 undef,T.getD 61 undef,T.getD 62 undef,T.getD 63 undef,T.getD 64 undef,T.getD 65 undef,T.getD 66 undef,T.getD 67 undef,T.getD 68 undef,T.getD 69 undef,T.getD 70 undef,T.getD 71 undef,T.getD 72 undef,T.getD 73 undef,T.getD 74 undef,T.getD 75 undef,T.getD 76 undef,T.getD 77 undef,T.getD 78 undef,T.getD 79 undef,T.getD 80 undef,T.getD 81 undef,T.getD 82 undef,T.getD 83 undef,T.getD 84 undef,T.getD 85 undef,T.getD 86 undef,T.getD 87 undef,T.getD 88 undef,T.getD 89 undef,T.getD 90 undef,T.getD 91 undef,T.getD 92 undef,T.getD 93 undef,T.getD 94 undef,T.getD 95 undef,T.getD 96 undef,T.getD 97 undef,T.getD 98 undef,T.getD 99 undef,T.getD 100 undef,T.getD 101 undef,T.getD 102 undef,T.getD 103 undef,T.getD 104 undef] := (yI T 105 h).trans (by kernel_rfl)
variable (x0 x1 x2 x3 x4 x5 x6 x7 x8 x9 l s k m i n t u o p A B C D E F G w x q H I J K L M N P Q R U V W X Y Z a0 a1 a2 a3 a4 a5 a6 a7 a8 a9 b0 b1 b2 b3 b4 b5 b6 b7 b8 b9 c0 c1 c2 c3 c4 c5 c6 c7 c8 y z r c9 d0 d1 d2 d3 d4 d5 d6 d7 d8 d9 f0 f1 f2 f3 f4 f5 f6 f8 f9 g0 g1 b c d f g : Value) (S : zi)
theorem zh.r0  : je Try.prog ⟨false, false, false⟩ (zV Try.prog O) (reg Try.f7 0) (reg Try.f7 0).toList ([x0,x1,x2,x3,x4,x5,x6,x7,x8,x9,l,s,k,m,i,n,t,u,o,p,A,B,C,D,E,F,G,w,x,q,H,I,J,K,L,M,N,P,Q,R,U,V,W,X,Y,Z,a0,a1,a2,a3,a4,a5,a6,a7,a8,a9,b0,b1,b2,b3,b4,b5,b6,b7,b8,b9,c0,c1,c2,c3,c4,c5,c6,c7,c8,y,z,r,c9,d0,d1,d2,d3,d4,d5,d6,d7,d8,d9,f0,f1,f2,f3,f4,f5,f6,f8,f9,g0,g1,b,c,d,f,g]) S =
  ( some ([x0,x1,x2,x3,Value.bool false,x5,x6,x7,x8,x9,l,s,k,m,i,n,t,u,o,p,A,B,C,D,E,F,G,w,x,q,H,I,J,K,L,M,N,P,Q,R,U,V,W,X,Y,Z,a0,a1,a2,a3,a4,a5,a6,a7,a8,a9,b0,b1,b2,b3,b4,b5,b6,b7,b8,b9,c0,c1,c2,c3,c4,c5,c6,c7,c8,y,z,r,c9,d0,d1,d2,d3,d4,d5,d6,d7,d8,d9,f0,f1,f2,f3,f4,f5,f6,f8,f9,g0,g1,b,c,d,f,g], S)) := by
 kernel_rfl
theorem zh.r1  : je Try.prog ⟨false, false, false⟩ (zV Try.prog O) (reg Try.f7 1) (reg Try.f7 1).toList ([x0,x1,x2,x3,x4,x5,x6,x7,x8,x9,l,s,k,m,i,n,t,u,o,p,A,B,C,D,E,F,G,w,x,q,H,I,J,K,L,M,N,P,Q,R,U,V,W,X,Y,Z,a0,a1,a2,a3,a4,a5,a6,a7,a8,a9,b0,b1,b2,b3,b4,b5,b6,b7,b8,b9,c0,c1,c2,c3,c4,c5,c6,c7,c8,y,z,r,c9,d0,d1,d2,d3,d4,d5,d6,d7,d8,d9,f0,f1,f2,f3,f4,f5,f6,f8,f9,g0,g1,b,c,d,f,g]) S =
  (zO ((zV Try.prog O) 10 [] S) (fun v0 S1 => zO (aUn Try.prog UnOp.not v0 S1) (fun v1 S2 => some ([x0,x1,x2,x3,x4,x5,x6,x7,x8,x9,l,s,k,m,i,n,t,u,o,p,v0,v1,C,D,E,F,G,w,x,q,H,I,J,K,L,M,N,P,Q,R,U,V,W,X,Y,Z,a0,a1,a2,a3,a4,a5,a6,a7,a8,a9,b0,b1,b2,b3,b4,b5,b6,b7,b8,b9,c0,c1,c2,c3,c4,c5,c6,c7,c8,y,z,r,c9,d0,d1,d2,d3,d4,d5,d6,d7,d8,d9,f0,f1,f2,f3,f4,f5,f6,f8,f9,g0,g1,b,c,d,f,g], S2)) ()) ()) := by
 kernel_rfl
theorem zh.r2  : je Try.prog ⟨false, false, false⟩ (zV Try.prog O) (reg Try.f7 2) (reg Try.f7 2).toList ([x0,x1,x2,x3,x4,x5,x6,x7,x8,x9,l,s,k,m,i,n,t,u,o,p,A,B,C,D,E,F,G,w,x,q,H,I,J,K,L,M,N,P,Q,R,U,V,W,X,Y,Z,a0,a1,a2,a3,a4,a5,a6,a7,a8,a9,b0,b1,b2,b3,b4,b5,b6,b7,b8,b9,c0,c1,c2,c3,c4,c5,c6,c7,c8,y,z,r,c9,d0,d1,d2,d3,d4,d5,d6,d7,d8,d9,f0,f1,f2,f3,f4,f5,f6,f8,f9,g0,g1,b,c,d,f,g]) S =
  ( some ([x0,x1,x2,x3,Value.bool false,x5,x6,x7,x8,x9,l,s,k,m,i,n,t,u,o,p,A,B,C,D,E,F,G,w,x,q,H,I,J,K,L,M,N,P,Q,R,U,V,W,X,Y,Z,a0,a1,a2,a3,a4,a5,a6,a7,a8,a9,b0,b1,b2,b3,b4,b5,b6,b7,b8,b9,c0,c1,c2,c3,c4,c5,c6,c7,c8,y,z,r,c9,d0,d1,d2,d3,d4,d5,d6,d7,d8,d9,f0,f1,f2,f3,f4,f5,f6,f8,f9,g0,g1,b,c,d,f,g], S)) := by
 kernel_rfl
theorem zh.r3  : je Try.prog ⟨false, false, false⟩ (zV Try.prog O) (reg Try.f7 3) (reg Try.f7 3).toList ([x0,x1,x2,x3,x4,x5,x6,x7,x8,x9,l,s,k,m,i,n,t,u,o,p,A,B,C,D,E,F,G,w,x,q,H,I,J,K,L,M,N,P,Q,R,U,V,W,X,Y,Z,a0,a1,a2,a3,a4,a5,a6,a7,a8,a9,b0,b1,b2,b3,b4,b5,b6,b7,b8,b9,c0,c1,c2,c3,c4,c5,c6,c7,c8,y,z,r,c9,d0,d1,d2,d3,d4,d5,d6,d7,d8,d9,f0,f1,f2,f3,f4,f5,f6,f8,f9,g0,g1,b,c,d,f,g]) S =
  (zO (qA Try.prog 22 (dem x0) S) (fun v1 S1 => zO (jM Try.prog BinOp.gtr 3 v1 (Value.int IntKind.i64 40) S1) (fun v2 S2 => some ([x0,x1,x2,x3,x4,x5,x6,x7,x8,x9,l,s,k,m,i,n,t,u,o,p,A,B,dem x0,v1,v2,F,G,w,x,q,H,I,J,K,L,M,N,P,Q,R,U,V,W,X,Y,Z,a0,a1,a2,a3,a4,a5,a6,a7,a8,a9,b0,b1,b2,b3,b4,b5,b6,b7,b8,b9,c0,c1,c2,c3,c4,c5,c6,c7,c8,y,z,r,c9,d0,d1,d2,d3,d4,d5,d6,d7,d8,d9,f0,f1,f2,f3,f4,f5,f6,f8,f9,g0,g1,b,c,d,f,g], S2)) ()) ()) := by
 kernel_rfl
theorem zh.r4  : je Try.prog ⟨false, false, false⟩ (zV Try.prog O) (reg Try.f7 4) (reg Try.f7 4).toList ([x0,x1,x2,x3,x4,x5,x6,x7,x8,x9,l,s,k,m,i,n,t,u,o,p,A,B,C,D,E,F,G,w,x,q,H,I,J,K,L,M,N,P,Q,R,U,V,W,X,Y,Z,a0,a1,a2,a3,a4,a5,a6,a7,a8,a9,b0,b1,b2,b3,b4,b5,b6,b7,b8,b9,c0,c1,c2,c3,c4,c5,c6,c7,c8,y,z,r,c9,d0,d1,d2,d3,d4,d5,d6,d7,d8,d9,f0,f1,f2,f3,f4,f5,f6,f8,f9,g0,g1,b,c,d,f,g]) S =
  ( some ([x0,x1,x2,x3,Value.bool true,x5,x6,x7,x8,x9,l,s,k,m,i,n,t,u,o,p,A,B,C,D,E,F,G,w,x,q,H,I,J,K,L,M,N,P,Q,R,U,V,W,X,Y,Z,a0,a1,a2,a3,a4,a5,a6,a7,a8,a9,b0,b1,b2,b3,b4,b5,b6,b7,b8,b9,c0,c1,c2,c3,c4,c5,c6,c7,c8,y,z,r,c9,d0,d1,d2,d3,d4,d5,d6,d7,d8,d9,f0,f1,f2,f3,f4,f5,f6,f8,f9,g0,g1,b,c,d,f,g], S)) := by
 kernel_rfl
theorem zh.r5  : je Try.prog ⟨false, false, false⟩ (zV Try.prog O) (reg Try.f7 5) (reg Try.f7 5).toList ([x0,x1,x2,x3,x4,x5,x6,x7,x8,x9,l,s,k,m,i,n,t,u,o,p,A,B,C,D,E,F,G,w,x,q,H,I,J,K,L,M,N,P,Q,R,U,V,W,X,Y,Z,a0,a1,a2,a3,a4,a5,a6,a7,a8,a9,b0,b1,b2,b3,b4,b5,b6,b7,b8,b9,c0,c1,c2,c3,c4,c5,c6,c7,c8,y,z,r,c9,d0,d1,d2,d3,d4,d5,d6,d7,d8,d9,f0,f1,f2,f3,f4,f5,f6,f8,f9,g0,g1,b,c,d,f,g]) S =
  (zO (zW Try.prog 26 0 [] S) (fun v0 S1 => some ([x0,x1,x2,x3,x4,v0,x6,x7,x8,x9,l,s,k,m,i,n,t,u,o,p,A,B,C,D,E,dem v0,G,w,x,q,H,I,J,K,L,M,N,P,Q,R,U,V,W,X,Y,Z,a0,a1,a2,a3,a4,a5,a6,a7,a8,a9,b0,b1,b2,b3,b4,b5,b6,b7,b8,b9,c0,c1,c2,c3,c4,c5,c6,c7,c8,y,z,r,c9,d0,d1,d2,d3,d4,d5,d6,d7,d8,d9,f0,f1,f2,f3,f4,f5,f6,f8,f9,g0,g1,b,c,d,f,g], S1)) ()) := by
 kernel_rfl
theorem zh.r6  : je Try.prog ⟨false, false, false⟩ (zV Try.prog O) (reg Try.f7 6) (reg Try.f7 6).toList ([x0,x1,x2,x3,x4,x5,x6,x7,x8,x9,l,s,k,m,i,n,t,u,o,p,A,B,C,D,E,F,G,w,x,q,H,I,J,K,L,M,N,P,Q,R,U,V,W,X,Y,Z,a0,a1,a2,a3,a4,a5,a6,a7,a8,a9,b0,b1,b2,b3,b4,b5,b6,b7,b8,b9,c0,c1,c2,c3,c4,c5,c6,c7,c8,y,z,r,c9,d0,d1,d2,d3,d4,d5,d6,d7,d8,d9,f0,f1,f2,f3,f4,f5,f6,f8,f9,g0,g1,b,c,d,f,g]) S =
  (zO (zW Try.prog 22 0 [] S) (fun v0 S1 => some ([x0,x1,x2,x3,x4,x5,v0,x7,x8,x9,l,s,k,m,i,n,t,u,o,p,A,B,C,D,E,F,dem v0,w,x,q,H,I,J,K,L,M,N,P,Q,R,U,V,W,X,Y,Z,a0,a1,a2,a3,a4,a5,a6,a7,a8,a9,b0,b1,b2,b3,b4,b5,b6,b7,b8,b9,c0,c1,c2,c3,c4,c5,c6,c7,c8,y,z,r,c9,d0,d1,d2,d3,d4,d5,d6,d7,d8,d9,f0,f1,f2,f3,f4,f5,f6,f8,f9,g0,g1,b,c,d,f,g], S1)) ()) := by
 kernel_rfl
theorem zh.r7  : je Try.prog ⟨false, false, false⟩ (zV Try.prog O) (reg Try.f7 7) (reg Try.f7 7).toList ([x0,x1,x2,x3,x4,x5,x6,x7,x8,x9,l,s,k,m,i,n,t,u,o,p,A,B,C,D,E,F,G,w,x,q,H,I,J,K,L,M,N,P,Q,R,U,V,W,X,Y,Z,a0,a1,a2,a3,a4,a5,a6,a7,a8,a9,b0,b1,b2,b3,b4,b5,b6,b7,b8,b9,c0,c1,c2,c3,c4,c5,c6,c7,c8,y,z,r,c9,d0,d1,d2,d3,d4,d5,d6,d7,d8,d9,f0,f1,f2,f3,f4,f5,f6,f8,f9,g0,g1,b,c,d,f,g]) S =
  (zO (qA Try.prog 22 (dem x0) S) (fun v1 S1 => some ([x0,x1,x2,x3,x4,x5,x6,x7,x8,x9,l,s,k,m,i,n,t,u,o,p,A,B,C,D,E,F,G,dem x0,v1,Value.int IntKind.i64 0,H,I,J,K,L,M,N,P,Q,R,U,V,W,X,Y,Z,a0,a1,a2,a3,a4,a5,a6,a7,a8,a9,b0,b1,b2,b3,b4,b5,b6,b7,b8,b9,c0,c1,c2,c3,c4,c5,c6,c7,c8,y,z,r,c9,d0,d1,d2,d3,d4,d5,d6,d7,d8,d9,f0,f1,f2,f3,f4,f5,f6,f8,f9,g0,g1,b,c,d,f,g], S1)) ()) := by
 kernel_rfl
theorem zh.r8  : je Try.prog ⟨false, false, false⟩ (zV Try.prog O) (reg Try.f7 8) (reg Try.f7 8).toList ([x0,x1,x2,x3,x4,x5,x6,x7,x8,x9,l,s,k,m,i,n,t,u,o,p,A,B,C,D,E,F,G,w,x,q,H,I,J,K,L,M,N,P,Q,R,U,V,W,X,Y,Z,a0,a1,a2,a3,a4,a5,a6,a7,a8,a9,b0,b1,b2,b3,b4,b5,b6,b7,b8,b9,c0,c1,c2,c3,c4,c5,c6,c7,c8,y,z,r,c9,d0,d1,d2,d3,d4,d5,d6,d7,d8,d9,f0,f1,f2,f3,f4,f5,f6,f8,f9,g0,g1,b,c,d,f,g]) S =
  (zO (jM Try.prog BinOp.lss 3 q x S) (fun v0 S1 => some ([x0,x1,x2,x3,x4,x5,x6,x7,x8,x9,l,s,k,m,i,n,t,u,o,p,A,B,C,D,E,F,G,w,x,q,v0,I,J,K,L,M,N,P,Q,R,U,V,W,X,Y,Z,a0,a1,a2,a3,a4,a5,a6,a7,a8,a9,b0,b1,b2,b3,b4,b5,b6,b7,b8,b9,c0,c1,c2,c3,c4,c5,c6,c7,c8,y,z,r,c9,d0,d1,d2,d3,d4,d5,d6,d7,d8,d9,f0,f1,f2,f3,f4,f5,f6,f8,f9,g0,g1,b,c,d,f,g], S1)) ()) := by
 kernel_rfl
theorem zh.r9  : je Try.prog ⟨false, false, false⟩ (zV Try.prog O) (reg Try.f7 9) (reg Try.f7 9).toList ([x0,x1,x2,x3,x4,x5,x6,x7,x8,x9,l,s,k,m,i,n,t,u,o,p,A,B,C,D,E,F,G,w,x,q,H,I,J,K,L,M,N,P,Q,R,U,V,W,X,Y,Z,a0,a1,a2,a3,a4,a5,a6,a7,a8,a9,b0,b1,b2,b3,b4,b5,b6,b7,b8,b9,c0,c1,c2,c3,c4,c5,c6,c7,c8,y,z,r,c9,d0,d1,d2,d3,d4,d5,d6,d7,d8,d9,f0,f1,f2,f3,f4,f5,f6,f8,f9,g0,g1,b,c,d,f,g]) S =
  (zO (zZ Try.prog 22 w q S) (fun v0 S1 => zO (ji Try.prog false 28 v0 S1) (fun v1 S2 => zO (y8 Try.prog 28 S2) (fun v2 S3 => zO (qm Try.prog 28 v2 (dem v1) S3) (fun v3 S4 => some ([x0,x1,x2,x3,x4,x5,x6,x7,v2,x9,l,s,k,m,i,n,t,u,o,p,A,B,C,D,E,F,G,w,x,q,H,v0,v1,K,L,M,N,P,Q,R,U,V,W,X,Y,Z,a0,a1,a2,a3,a4,a5,a6,a7,a8,a9,b0,b1,b2,b3,b4,b5,b6,b7,b8,b9,c0,c1,c2,c3,c4,c5,c6,c7,c8,y,z,r,c9,d0,d1,d2,d3,d4,d5,d6,d7,d8,d9,f0,f1,f2,f3,f4,f5,f6,f8,f9,g0,g1,b,c,d,f,g], S4)) ()) ()) ()) ()) := by
 kernel_rfl
theorem zh.r10  : je Try.prog ⟨false, false, false⟩ (zV Try.prog O) (reg Try.f7 10) (reg Try.f7 10).toList ([x0,x1,x2,x3,x4,x5,x6,x7,x8,x9,l,s,k,m,i,n,t,u,o,p,A,B,C,D,E,F,G,w,x,q,H,I,J,K,L,M,N,P,Q,R,U,V,W,X,Y,Z,a0,a1,a2,a3,a4,a5,a6,a7,a8,a9,b0,b1,b2,b3,b4,b5,b6,b7,b8,b9,c0,c1,c2,c3,c4,c5,c6,c7,c8,y,z,r,c9,d0,d1,d2,d3,d4,d5,d6,d7,d8,d9,f0,f1,f2,f3,f4,f5,f6,f8,f9,g0,g1,b,c,d,f,g]) S =
  (zO (ji Try.prog false 28 x8 S) (fun v0 S1 => zO ((zV Try.prog O) 11 [(dem v0)] S1) (fun v1 S2 => zO (zC v1 0 S2) (fun v3 S3 => zO (zC (zK 0 v1) 1 S3) (fun v4 S4 => some ([x0,x1,x2,x3,x4,x5,x6,x7,x8,v3,v4,s,k,m,i,n,t,u,o,p,A,B,C,D,E,F,G,w,x,q,H,I,J,zK 1 (zK 0 v1),v0,dem v1,dem v3,dem v4,Q,R,U,V,W,X,Y,Z,a0,a1,a2,a3,a4,a5,a6,a7,a8,a9,b0,b1,b2,b3,b4,b5,b6,b7,b8,b9,c0,c1,c2,c3,c4,c5,c6,c7,c8,y,z,r,c9,d0,d1,d2,d3,d4,d5,d6,d7,d8,d9,f0,f1,f2,f3,f4,f5,f6,f8,f9,g0,g1,b,c,d,f,g], S4)) ()) ()) ()) ()) := by
 kernel_rfl
theorem zh.r11  : je Try.prog ⟨false, false, false⟩ (zV Try.prog O) (reg Try.f7 11) (reg Try.f7 11).toList ([x0,x1,x2,x3,x4,x5,x6,x7,x8,x9,l,s,k,m,i,n,t,u,o,p,A,B,C,D,E,F,G,w,x,q,H,I,J,K,L,M,N,P,Q,R,U,V,W,X,Y,Z,a0,a1,a2,a3,a4,a5,a6,a7,a8,a9,b0,b1,b2,b3,b4,b5,b6,b7,b8,b9,c0,c1,c2,c3,c4,c5,c6,c7,c8,y,z,r,c9,d0,d1,d2,d3,d4,d5,d6,d7,d8,d9,f0,f1,f2,f3,f4,f5,f6,f8,f9,g0,g1,b,c,d,f,g]) S =
  (zO (jM Try.prog BinOp.eql 29 (dem l) (Value.int IntKind.i64 0) S) (fun v1 S1 => some ([x0,x1,x2,x3,x4,x5,x6,x7,x8,x9,l,s,k,m,i,n,t,u,o,p,A,B,C,D,E,F,G,w,x,q,H,I,J,K,L,M,N,P,dem l,v1,U,V,W,X,Y,Z,a0,a1,a2,a3,a4,a5,a6,a7,a8,a9,b0,b1,b2,b3,b4,b5,b6,b7,b8,b9,c0,c1,c2,c3,c4,c5,c6,c7,c8,y,z,r,c9,d0,d1,d2,d3,d4,d5,d6,d7,d8,d9,f0,f1,f2,f3,f4,f5,f6,f8,f9,g0,g1,b,c,d,f,g], S1)) ()) := by
 kernel_rfl
theorem zh.r12  : je Try.prog ⟨false, false, false⟩ (zV Try.prog O) (reg Try.f7 12) (reg Try.f7 12).toList ([x0,x1,x2,x3,x4,x5,x6,x7,x8,x9,l,s,k,m,i,n,t,u,o,p,A,B,C,D,E,F,G,w,x,q,H,I,J,K,L,M,N,P,Q,R,U,V,W,X,Y,Z,a0,a1,a2,a3,a4,a5,a6,a7,a8,a9,b0,b1,b2,b3,b4,b5,b6,b7,b8,b9,c0,c1,c2,c3,c4,c5,c6,c7,c8,y,z,r,c9,d0,d1,d2,d3,d4,d5,d6,d7,d8,d9,f0,f1,f2,f3,f4,f5,f6,f8,f9,g0,g1,b,c,d,f,g]) S =
  (zO (jl Try.prog 26 26 x5 (dem x9) S) (fun v2 S1 => some ([x0,x1,x2,x3,x4,v2,x6,x7,x8,x9,l,s,k,m,i,n,t,u,o,p,A,B,C,D,E,F,G,w,x,q,H,I,J,K,L,M,N,P,Q,R,dem x5,dem x9,dem v2,X,Y,Z,a0,a1,a2,a3,a4,a5,a6,a7,a8,a9,b0,b1,b2,b3,b4,b5,b6,b7,b8,b9,c0,c1,c2,c3,c4,c5,c6,c7,c8,y,z,r,c9,d0,d1,d2,d3,d4,d5,d6,d7,d8,d9,f0,f1,f2,f3,f4,f5,f6,f8,f9,g0,g1,b,c,d,f,g], S1)) ()) := by
 kernel_rfl
theorem zh.r13  : je Try.prog ⟨false, false, false⟩ (zV Try.prog O) (reg Try.f7 13) (reg Try.f7 13).toList ([x0,x1,x2,x3,x4,x5,x6,x7,x8,x9,l,s,k,m,i,n,t,u,o,p,A,B,C,D,E,F,G,w,x,q,H,I,J,K,L,M,N,P,Q,R,U,V,W,X,Y,Z,a0,a1,a2,a3,a4,a5,a6,a7,a8,a9,b0,b1,b2,b3,b4,b5,b6,b7,b8,b9,c0,c1,c2,c3,c4,c5,c6,c7,c8,y,z,r,c9,d0,d1,d2,d3,d4,d5,d6,d7,d8,d9,f0,f1,f2,f3,f4,f5,f6,f8,f9,g0,g1,b,c,d,f,g]) S =
  (zO (ji Try.prog false 28 x8 S) (fun v1 S1 => zO (zW Try.prog 22 1 [(0, v1)] S1) (fun v2 S2 => zO (jl Try.prog 22 22 x6 v2 S2) (fun v3 S3 => some ([x0,x1,x2,x3,x4,x5,v3,x7,x8,x9,l,s,k,m,i,n,t,u,o,p,A,B,C,D,E,F,G,w,x,q,H,I,J,K,L,M,N,P,Q,R,U,V,W,dem x6,v1,v2,dem v3,a1,a2,a3,a4,a5,a6,a7,a8,a9,b0,b1,b2,b3,b4,b5,b6,b7,b8,b9,c0,c1,c2,c3,c4,c5,c6,c7,c8,y,z,r,c9,d0,d1,d2,d3,d4,d5,d6,d7,d8,d9,f0,f1,f2,f3,f4,f5,f6,f8,f9,g0,g1,b,c,d,f,g], S3)) ()) ()) ()) := by
 kernel_rfl
theorem zh.r14  : je Try.prog ⟨false, false, false⟩ (zV Try.prog O) (reg Try.f7 14) (reg Try.f7 14).toList ([x0,x1,x2,x3,x4,x5,x6,x7,x8,x9,l,s,k,m,i,n,t,u,o,p,A,B,C,D,E,F,G,w,x,q,H,I,J,K,L,M,N,P,Q,R,U,V,W,X,Y,Z,a0,a1,a2,a3,a4,a5,a6,a7,a8,a9,b0,b1,b2,b3,b4,b5,b6,b7,b8,b9,c0,c1,c2,c3,c4,c5,c6,c7,c8,y,z,r,c9,d0,d1,d2,d3,d4,d5,d6,d7,d8,d9,f0,f1,f2,f3,f4,f5,f6,f8,f9,g0,g1,b,c,d,f,g]) S =
  (zO (jM Try.prog BinOp.add 3 q (Value.int IntKind.i64 1) S) (fun v0 S1 => some ([x0,x1,x2,x3,x4,x5,x6,x7,x8,x9,l,s,k,m,i,n,t,u,o,p,A,B,C,D,E,F,G,w,x,dem v0,H,I,J,K,L,M,N,P,Q,R,U,V,W,X,Y,Z,a0,v0,a2,a3,a4,a5,a6,a7,a8,a9,b0,b1,b2,b3,b4,b5,b6,b7,b8,b9,c0,c1,c2,c3,c4,c5,c6,c7,c8,y,z,r,c9,d0,d1,d2,d3,d4,d5,d6,d7,d8,d9,f0,f1,f2,f3,f4,f5,f6,f8,f9,g0,g1,b,c,d,f,g], S1)) ()) := by
 kernel_rfl
theorem zh.r15  : je Try.prog ⟨false, false, false⟩ (zV Try.prog O) (reg Try.f7 15) (reg Try.f7 15).toList ([x0,x1,x2,x3,x4,x5,x6,x7,x8,x9,l,s,k,m,i,n,t,u,o,p,A,B,C,D,E,F,G,w,x,q,H,I,J,K,L,M,N,P,Q,R,U,V,W,X,Y,Z,a0,a1,a2,a3,a4,a5,a6,a7,a8,a9,b0,b1,b2,b3,b4,b5,b6,b7,b8,b9,c0,c1,c2,c3,c4,c5,c6,c7,c8,y,z,r,c9,d0,d1,d2,d3,d4,d5,d6,d7,d8,d9,f0,f1,f2,f3,f4,f5,f6,f8,f9,g0,g1,b,c,d,f,g]) S =
  (zO (zW Try.prog 26 0 [] S) (fun v0 S1 => zO (jl Try.prog 26 26 v0 (dem x5) S1) (fun v2 S2 => zO (zW Try.prog 26 1 [(0, (Value.int IntKind.u8 0))] S2) (fun v3 S3 => zO (jl Try.prog 26 26 v2 v3 S3) (fun v4 S4 => zO ((zV Try.prog O) 9 [(dem v4)] S4) (fun v5 S5 => zO (zC v5 0 S5) (fun v7 S6 => zO (zC (zK 0 v5) 1 S6) (fun v8 S7 => some ([x0,x1,x2,x3,x4,x5,x6,x7,x8,x9,l,v7,v8,m,i,n,t,u,o,p,A,B,C,D,E,F,G,w,x,q,H,I,J,K,L,M,N,P,Q,R,U,V,W,X,Y,Z,a0,a1,zK 1 (zK 0 v5),dem v0,dem x5,dem v2,v3,v4,dem v5,dem v7,dem v8,b1,b2,b3,b4,b5,b6,b7,b8,b9,c0,c1,c2,c3,c4,c5,c6,c7,c8,y,z,r,c9,d0,d1,d2,d3,d4,d5,d6,d7,d8,d9,f0,f1,f2,f3,f4,f5,f6,f8,f9,g0,g1,b,c,d,f,g], S7)) ()) ()) ()) ()) ()) ()) ()) := by
 kernel_rfl
theorem zh.r16  : je Try.prog ⟨false, false, false⟩ (zV Try.prog O) (reg Try.f7 16) (reg Try.f7 16).toList ([x0,x1,x2,x3,x4,x5,x6,x7,x8,x9,l,s,k,m,i,n,t,u,o,p,A,B,C,D,E,F,G,w,x,q,H,I,J,K,L,M,N,P,Q,R,U,V,W,X,Y,Z,a0,a1,a2,a3,a4,a5,a6,a7,a8,a9,b0,b1,b2,b3,b4,b5,b6,b7,b8,b9,c0,c1,c2,c3,c4,c5,c6,c7,c8,y,z,r,c9,d0,d1,d2,d3,d4,d5,d6,d7,d8,d9,f0,f1,f2,f3,f4,f5,f6,f8,f9,g0,g1,b,c,d,f,g]) S =
  (zO (qA Try.prog 26 (dem x5) S) (fun v2 S1 => zO (jM Try.prog BinOp.neq 3 (dem k) v2 S1) (fun v3 S2 => gdK (dem v3) false (ret s) S2 (fun v5 S3 => gdK (dem v3) false (ret x6) S3 (fun v6 S4 => gdK (dem v3) false ((zV Try.prog O) 14 [(dem (dem v5)), (dem (dem v6))]) S4 (fun v7 S5 => gdK (dem v3) false (aUn Try.prog UnOp.not v7) S5 (fun v8 S6 => zO (qg (dem v3) (Value.bool true) v8 S6) (fun v9 S7 => some ([x0,x1,x2,x3,x4,x5,x6,x7,x8,x9,l,s,k,m,i,n,t,u,o,p,A,B,C,D,E,F,G,w,x,q,H,I,J,K,L,M,N,P,Q,R,U,V,W,X,Y,Z,a0,a1,a2,a3,a4,a5,a6,a7,a8,a9,b0,dem k,dem x5,v2,v3,dem v3,dem v5,dem v6,v7,v8,v9,c1,c2,c3,c4,c5,c6,c7,c8,y,z,r,c9,d0,d1,d2,d3,d4,d5,d6,d7,d8,d9,f0,f1,f2,f3,f4,f5,f6,f8,f9,g0,g1,b,c,d,f,g], S7)) ()) ()) ()) ()) ()) ()) ()) := by
 refine sP Try.f7 16 0 (v := k) ?_
 refine sP Try.f7 16 1 (v := x5) ?_
 refine sD Try.f7 16 2 (fun v2 S1 => ?_)
 refine sD Try.f7 16 3 (fun v3 S2 => ?_)
 refine sP Try.f7 16 4 (v := v3) ?_
 refine sG Try.f7 16 5 (j := 4) (fun v5 S3 => ?_)
 refine sG Try.f7 16 6 (j := 4) (fun v6 S4 => ?_)
 refine sG Try.f7 16 7 (j := 4) (fun v7 S5 => ?_)
 refine sG Try.f7 16 8 (j := 4) (fun v8 S6 => ?_)
 refine sD Try.f7 16 9 (fun v9 S7 => ?_)
 kernel_rfl
theorem zh.r17  : je Try.prog ⟨false, false, false⟩ (zV Try.prog O) (reg Try.f7 17) (reg Try.f7 17).toList ([x0,x1,x2,x3,x4,x5,x6,x7,x8,x9,l,s,k,m,i,n,t,u,o,p,A,B,C,D,E,F,G,w,x,q,H,I,J,K,L,M,N,P,Q,R,U,V,W,X,Y,Z,a0,a1,a2,a3,a4,a5,a6,a7,a8,a9,b0,b1,b2,b3,b4,b5,b6,b7,b8,b9,c0,c1,c2,c3,c4,c5,c6,c7,c8,y,z,r,c9,d0,d1,d2,d3,d4,d5,d6,d7,d8,d9,f0,f1,f2,f3,f4,f5,f6,f8,f9,g0,g1,b,c,d,f,g]) S =
  ( some ([x0,x1,x2,x3,Value.bool false,x5,x6,x7,x8,x9,l,s,k,m,i,n,t,u,o,p,A,B,C,D,E,F,G,w,x,q,H,I,J,K,L,M,N,P,Q,R,U,V,W,X,Y,Z,a0,a1,a2,a3,a4,a5,a6,a7,a8,a9,b0,b1,b2,b3,b4,b5,b6,b7,b8,b9,c0,c1,c2,c3,c4,c5,c6,c7,c8,y,z,r,c9,d0,d1,d2,d3,d4,d5,d6,d7,d8,d9,f0,f1,f2,f3,f4,f5,f6,f8,f9,g0,g1,b,c,d,f,g], S)) := by
 kernel_rfl
theorem zh.r18  : je Try.prog ⟨false, false, false⟩ (zV Try.prog O) (reg Try.f7 18) (reg Try.f7 18).toList ([x0,x1,x2,x3,x4,x5,x6,x7,x8,x9,l,s,k,m,i,n,t,u,o,p,A,B,C,D,E,F,G,w,x,q,H,I,J,K,L,M,N,P,Q,R,U,V,W,X,Y,Z,a0,a1,a2,a3,a4,a5,a6,a7,a8,a9,b0,b1,b2,b3,b4,b5,b6,b7,b8,b9,c0,c1,c2,c3,c4,c5,c6,c7,c8,y,z,r,c9,d0,d1,d2,d3,d4,d5,d6,d7,d8,d9,f0,f1,f2,f3,f4,f5,f6,f8,f9,g0,g1,b,c,d,f,g]) S =
  (zO (zW Try.prog 26 0 [] S) (fun v0 S1 => zO (jl Try.prog 26 26 v0 (dem x1) S1) (fun v2 S2 => zO ((zV Try.prog O) 9 [(dem v2)] S2) (fun v3 S3 => zO (zC v3 0 S3) (fun v5 S4 => zO (zC (zK 0 v3) 1 S4) (fun v6 S5 => some ([x0,x1,x2,x3,x4,x5,x6,x7,x8,x9,l,s,k,v5,v6,n,t,u,o,p,A,B,C,D,E,F,G,w,x,q,H,I,J,K,L,M,N,P,Q,R,U,V,W,X,Y,Z,a0,a1,a2,a3,a4,a5,a6,a7,a8,a9,b0,b1,b2,b3,b4,b5,b6,b7,b8,b9,c0,zK 1 (zK 0 v3),dem v0,dem x1,v2,dem v3,dem v5,dem v6,c8,y,z,r,c9,d0,d1,d2,d3,d4,d5,d6,d7,d8,d9,f0,f1,f2,f3,f4,f5,f6,f8,f9,g0,g1,b,c,d,f,g], S5)) ()) ()) ()) ()) ()) := by
 kernel_rfl
theorem zh.r19  : je Try.prog ⟨false, false, false⟩ (zV Try.prog O) (reg Try.f7 19) (reg Try.f7 19).toList ([x0,x1,x2,x3,x4,x5,x6,x7,x8,x9,l,s,k,m,i,n,t,u,o,p,A,B,C,D,E,F,G,w,x,q,H,I,J,K,L,M,N,P,Q,R,U,V,W,X,Y,Z,a0,a1,a2,a3,a4,a5,a6,a7,a8,a9,b0,b1,b2,b3,b4,b5,b6,b7,b8,b9,c0,c1,c2,c3,c4,c5,c6,c7,c8,y,z,r,c9,d0,d1,d2,d3,d4,d5,d6,d7,d8,d9,f0,f1,f2,f3,f4,f5,f6,f8,f9,g0,g1,b,c,d,f,g]) S =
  (zO (zW Try.prog 26 0 [] S) (fun v0 S1 => some ([x0,x1,x2,x3,x4,x5,x6,x7,x8,x9,l,s,k,m,i,v0,t,u,o,p,A,B,C,D,E,F,G,w,x,q,H,I,J,K,L,M,N,P,Q,R,U,V,W,X,Y,Z,a0,a1,a2,a3,a4,a5,a6,a7,a8,a9,b0,b1,b2,b3,b4,b5,b6,b7,b8,b9,c0,c1,c2,c3,c4,c5,c6,c7,dem v0,y,z,r,c9,d0,d1,d2,d3,d4,d5,d6,d7,d8,d9,f0,f1,f2,f3,f4,f5,f6,f8,f9,g0,g1,b,c,d,f,g], S1)) ()) := by
 kernel_rfl
theorem zh.r20  : je Try.prog ⟨false, false, false⟩ (zV Try.prog O) (reg Try.f7 20) (reg Try.f7 20).toList ([x0,x1,x2,x3,x4,x5,x6,x7,x8,x9,l,s,k,m,i,n,t,u,o,p,A,B,C,D,E,F,G,w,x,q,H,I,J,K,L,M,N,P,Q,R,U,V,W,X,Y,Z,a0,a1,a2,a3,a4,a5,a6,a7,a8,a9,b0,b1,b2,b3,b4,b5,b6,b7,b8,b9,c0,c1,c2,c3,c4,c5,c6,c7,c8,y,z,r,c9,d0,d1,d2,d3,d4,d5,d6,d7,d8,d9,f0,f1,f2,f3,f4,f5,f6,f8,f9,g0,g1,b,c,d,f,g]) S =
  (zO (qA Try.prog 22 (dem m) S) (fun v1 S1 => some ([x0,x1,x2,x3,x4,x5,x6,x7,x8,x9,l,s,k,m,i,n,t,u,o,p,A,B,C,D,E,F,G,w,x,q,H,I,J,K,L,M,N,P,Q,R,U,V,W,X,Y,Z,a0,a1,a2,a3,a4,a5,a6,a7,a8,a9,b0,b1,b2,b3,b4,b5,b6,b7,b8,b9,c0,c1,c2,c3,c4,c5,c6,c7,c8,dem m,v1,Value.int IntKind.i64 0,c9,d0,d1,d2,d3,d4,d5,d6,d7,d8,d9,f0,f1,f2,f3,f4,f5,f6,f8,f9,g0,g1,b,c,d,f,g], S1)) ()) := by
 kernel_rfl
theorem zh.r21  : je Try.prog ⟨false, false, false⟩ (zV Try.prog O) (reg Try.f7 21) (reg Try.f7 21).toList ([x0,x1,x2,x3,x4,x5,x6,x7,x8,x9,l,s,k,m,i,n,t,u,o,p,A,B,C,D,E,F,G,w,x,q,H,I,J,K,L,M,N,P,Q,R,U,V,W,X,Y,Z,a0,a1,a2,a3,a4,a5,a6,a7,a8,a9,b0,b1,b2,b3,b4,b5,b6,b7,b8,b9,c0,c1,c2,c3,c4,c5,c6,c7,c8,y,z,r,c9,d0,d1,d2,d3,d4,d5,d6,d7,d8,d9,f0,f1,f2,f3,f4,f5,f6,f8,f9,g0,g1,b,c,d,f,g]) S =
  (zO (jM Try.prog BinOp.lss 3 r z S) (fun v0 S1 => some ([x0,x1,x2,x3,x4,x5,x6,x7,x8,x9,l,s,k,m,i,n,t,u,o,p,A,B,C,D,E,F,G,w,x,q,H,I,J,K,L,M,N,P,Q,R,U,V,W,X,Y,Z,a0,a1,a2,a3,a4,a5,a6,a7,a8,a9,b0,b1,b2,b3,b4,b5,b6,b7,b8,b9,c0,c1,c2,c3,c4,c5,c6,c7,c8,y,z,r,v0,d0,d1,d2,d3,d4,d5,d6,d7,d8,d9,f0,f1,f2,f3,f4,f5,f6,f8,f9,g0,g1,b,c,d,f,g], S1)) ()) := by
 kernel_rfl
theorem zh.r22  : je Try.prog ⟨false, false, false⟩ (zV Try.prog O) (reg Try.f7 22) (reg Try.f7 22).toList ([x0,x1,x2,x3,x4,x5,x6,x7,x8,x9,l,s,k,m,i,n,t,u,o,p,A,B,C,D,E,F,G,w,x,q,H,I,J,K,L,M,N,P,Q,R,U,V,W,X,Y,Z,a0,a1,a2,a3,a4,a5,a6,a7,a8,a9,b0,b1,b2,b3,b4,b5,b6,b7,b8,b9,c0,c1,c2,c3,c4,c5,c6,c7,c8,y,z,r,c9,d0,d1,d2,d3,d4,d5,d6,d7,d8,d9,f0,f1,f2,f3,f4,f5,f6,f8,f9,g0,g1,b,c,d,f,g]) S =
  (zO (zZ Try.prog 22 y r S) (fun v0 S1 => zO (ji Try.prog false 28 v0 S1) (fun v1 S2 => zO (y8 Try.prog 28 S2) (fun v2 S3 => zO (qm Try.prog 28 v2 (dem v1) S3) (fun v3 S4 => some ([x0,x1,x2,x3,x4,x5,x6,x7,x8,x9,l,s,k,m,i,n,t,v2,o,p,A,B,C,D,E,F,G,w,x,q,H,I,J,K,L,M,N,P,Q,R,U,V,W,X,Y,Z,a0,a1,a2,a3,a4,a5,a6,a7,a8,a9,b0,b1,b2,b3,b4,b5,b6,b7,b8,b9,c0,c1,c2,c3,c4,c5,c6,c7,c8,y,z,r,c9,v0,v1,d2,d3,d4,d5,d6,d7,d8,d9,f0,f1,f2,f3,f4,f5,f6,f8,f9,g0,g1,b,c,d,f,g], S4)) ()) ()) ()) ()) := by
 kernel_rfl
theorem zh.r23  : je Try.prog ⟨false, false, false⟩ (zV Try.prog O) (reg Try.f7 23) (reg Try.f7 23).toList ([x0,x1,x2,x3,x4,x5,x6,x7,x8,x9,l,s,k,m,i,n,t,u,o,p,A,B,C,D,E,F,G,w,x,q,H,I,J,K,L,M,N,P,Q,R,U,V,W,X,Y,Z,a0,a1,a2,a3,a4,a5,a6,a7,a8,a9,b0,b1,b2,b3,b4,b5,b6,b7,b8,b9,c0,c1,c2,c3,c4,c5,c6,c7,c8,y,z,r,c9,d0,d1,d2,d3,d4,d5,d6,d7,d8,d9,f0,f1,f2,f3,f4,f5,f6,f8,f9,g0,g1,b,c,d,f,g]) S =
  (zO (ji Try.prog false 28 u S) (fun v0 S1 => zO ((zV Try.prog O) 11 [(dem v0)] S1) (fun v1 S2 => zO (zC v1 0 S2) (fun v3 S3 => zO (zC (zK 0 v1) 1 S3) (fun v4 S4 => some ([x0,x1,x2,x3,x4,x5,x6,x7,x8,x9,l,s,k,m,i,n,t,u,v3,v4,A,B,C,D,E,F,G,w,x,q,H,I,J,K,L,M,N,P,Q,R,U,V,W,X,Y,Z,a0,a1,a2,a3,a4,a5,a6,a7,a8,a9,b0,b1,b2,b3,b4,b5,b6,b7,b8,b9,c0,c1,c2,c3,c4,c5,c6,c7,c8,y,z,r,c9,d0,d1,zK 1 (zK 0 v1),v0,dem v1,dem v3,dem v4,d7,d8,d9,f0,f1,f2,f3,f4,f5,f6,f8,f9,g0,g1,b,c,d,f,g], S4)) ()) ()) ()) ()) := by
 kernel_rfl
theorem zh.r24  : je Try.prog ⟨false, false, false⟩ (zV Try.prog O) (reg Try.f7 24) (reg Try.f7 24).toList ([x0,x1,x2,x3,x4,x5,x6,x7,x8,x9,l,s,k,m,i,n,t,u,o,p,A,B,C,D,E,F,G,w,x,q,H,I,J,K,L,M,N,P,Q,R,U,V,W,X,Y,Z,a0,a1,a2,a3,a4,a5,a6,a7,a8,a9,b0,b1,b2,b3,b4,b5,b6,b7,b8,b9,c0,c1,c2,c3,c4,c5,c6,c7,c8,y,z,r,c9,d0,d1,d2,d3,d4,d5,d6,d7,d8,d9,f0,f1,f2,f3,f4,f5,f6,f8,f9,g0,g1,b,c,d,f,g]) S =
  (zO (jM Try.prog BinOp.neq 29 (dem p) (Value.int IntKind.i64 0) S) (fun v1 S1 => some ([x0,x1,x2,x3,x4,x5,x6,x7,x8,x9,l,s,k,m,i,n,t,u,o,p,A,B,C,D,E,F,G,w,x,q,H,I,J,K,L,M,N,P,Q,R,U,V,W,X,Y,Z,a0,a1,a2,a3,a4,a5,a6,a7,a8,a9,b0,b1,b2,b3,b4,b5,b6,b7,b8,b9,c0,c1,c2,c3,c4,c5,c6,c7,c8,y,z,r,c9,d0,d1,d2,d3,d4,d5,d6,dem p,v1,d9,f0,f1,f2,f3,f4,f5,f6,f8,f9,g0,g1,b,c,d,f,g], S1)) ()) := by
 kernel_rfl
theorem zh.r25  : je Try.prog ⟨false, false, false⟩ (zV Try.prog O) (reg Try.f7 25) (reg Try.f7 25).toList ([x0,x1,x2,x3,x4,x5,x6,x7,x8,x9,l,s,k,m,i,n,t,u,o,p,A,B,C,D,E,F,G,w,x,q,H,I,J,K,L,M,N,P,Q,R,U,V,W,X,Y,Z,a0,a1,a2,a3,a4,a5,a6,a7,a8,a9,b0,b1,b2,b3,b4,b5,b6,b7,b8,b9,c0,c1,c2,c3,c4,c5,c6,c7,c8,y,z,r,c9,d0,d1,d2,d3,d4,d5,d6,d7,d8,d9,f0,f1,f2,f3,f4,f5,f6,f8,f9,g0,g1,b,c,d,f,g]) S =
  ( some ([x0,x1,x2,x3,Value.bool false,x5,x6,x7,x8,x9,l,s,k,m,i,n,t,u,o,p,A,B,C,D,E,F,G,w,x,q,H,I,J,K,L,M,N,P,Q,R,U,V,W,X,Y,Z,a0,a1,a2,a3,a4,a5,a6,a7,a8,a9,b0,b1,b2,b3,b4,b5,b6,b7,b8,b9,c0,c1,c2,c3,c4,c5,c6,c7,c8,y,z,r,c9,d0,d1,d2,d3,d4,d5,d6,d7,d8,d9,f0,f1,f2,f3,f4,f5,f6,f8,f9,g0,g1,b,c,d,f,g], S)) := by
 kernel_rfl
theorem zh.r26  : je Try.prog ⟨false, false, false⟩ (zV Try.prog O) (reg Try.f7 26) (reg Try.f7 26).toList ([x0,x1,x2,x3,x4,x5,x6,x7,x8,x9,l,s,k,m,i,n,t,u,o,p,A,B,C,D,E,F,G,w,x,q,H,I,J,K,L,M,N,P,Q,R,U,V,W,X,Y,Z,a0,a1,a2,a3,a4,a5,a6,a7,a8,a9,b0,b1,b2,b3,b4,b5,b6,b7,b8,b9,c0,c1,c2,c3,c4,c5,c6,c7,c8,y,z,r,c9,d0,d1,d2,d3,d4,d5,d6,d7,d8,d9,f0,f1,f2,f3,f4,f5,f6,f8,f9,g0,g1,b,c,d,f,g]) S =
  (zO (jl Try.prog 26 26 n (dem o) S) (fun v2 S1 => some ([x0,x1,x2,x3,x4,x5,x6,x7,x8,x9,l,s,k,m,i,v2,t,u,o,p,A,B,C,D,E,F,G,w,x,q,H,I,J,K,L,M,N,P,Q,R,U,V,W,X,Y,Z,a0,a1,a2,a3,a4,a5,a6,a7,a8,a9,b0,b1,b2,b3,b4,b5,b6,b7,b8,b9,c0,c1,c2,c3,c4,c5,c6,c7,c8,y,z,r,c9,d0,d1,d2,d3,d4,d5,d6,d7,d8,dem n,dem o,dem v2,f2,f3,f4,f5,f6,f8,f9,g0,g1,b,c,d,f,g], S1)) ()) := by
 kernel_rfl
theorem zh.r27  : je Try.prog ⟨false, false, false⟩ (zV Try.prog O) (reg Try.f7 27) (reg Try.f7 27).toList ([x0,x1,x2,x3,x4,x5,x6,x7,x8,x9,l,s,k,m,i,n,t,u,o,p,A,B,C,D,E,F,G,w,x,q,H,I,J,K,L,M,N,P,Q,R,U,V,W,X,Y,Z,a0,a1,a2,a3,a4,a5,a6,a7,a8,a9,b0,b1,b2,b3,b4,b5,b6,b7,b8,b9,c0,c1,c2,c3,c4,c5,c6,c7,c8,y,z,r,c9,d0,d1,d2,d3,d4,d5,d6,d7,d8,d9,f0,f1,f2,f3,f4,f5,f6,f8,f9,g0,g1,b,c,d,f,g]) S =
  (zO (jM Try.prog BinOp.add 3 r (Value.int IntKind.i64 1) S) (fun v0 S1 => some ([x0,x1,x2,x3,x4,x5,x6,x7,x8,x9,l,s,k,m,i,n,t,u,o,p,A,B,C,D,E,F,G,w,x,q,H,I,J,K,L,M,N,P,Q,R,U,V,W,X,Y,Z,a0,a1,a2,a3,a4,a5,a6,a7,a8,a9,b0,b1,b2,b3,b4,b5,b6,b7,b8,b9,c0,c1,c2,c3,c4,c5,c6,c7,c8,y,z,dem v0,c9,d0,d1,d2,d3,d4,d5,d6,d7,d8,d9,f0,f1,v0,f3,f4,f5,f6,f8,f9,g0,g1,b,c,d,f,g], S1)) ()) := by
 kernel_rfl
theorem zh.d28 : qp Try.prog (reg Try.f7 28) = true := by kernel_rfl
theorem zh.agn : fixed Try.prog (reg Try.f7 28) = false := by kernel_rfl
theorem zh.k28 : checked Try.prog (reg Try.f7 28) = [] := by kernel_rfl
theorem zh.g28 : again Try.prog (reg Try.f7 28) = [] := by kernel_rfl
theorem zh.r28  : zD Try.prog O false (.region 28 (reg Try.f7 28) true) ([x0,x1,x2,x3,x4,x5,x6,x7,x8,x9,l,s,k,m,i,n,t,u,o,p,A,B,C,D,E,F,G,w,x,q,H,I,J,K,L,M,N,P,Q,R,U,V,W,X,Y,Z,a0,a1,a2,a3,a4,a5,a6,a7,a8,a9,b0,b1,b2,b3,b4,b5,b6,b7,b8,b9,c0,c1,c2,c3,c4,c5,c6,c7,c8,y,z,r,c9,d0,d1,d2,d3,d4,d5,d6,d7,d8,d9,f0,f1,f2,f3,f4,f5,f6,f8,f9,g0,g1,b,c,d,f,g]) S =
  QI (zO (qA Try.prog 26 (dem x1) S) (fun v2 S1 => zO (jM Try.prog BinOp.leq 3 (dem i) v2 S1) (fun v3 S2 => gdK (dem v3) true (ret n) S2 (fun v5 S3 => gdK (dem v3) true (jO Try.prog false false 26 9 (dem v5)) S3 (fun v6 S4 => gdK (dem v3) true (ret x1) S4 (fun v7 S5 => gdK (dem v3) true (ret i) S5 (fun v8 S6 => gdK (dem v3) true (wB Try.prog false 26 (dem v7) none (some (dem v8))) S6 (fun v9 S7 => gdK (dem v3) true (jO Try.prog false false 26 9 v9) S7 (fun g3 S8 => gdK (dem v3) true (jM Try.prog BinOp.eql 9 v6 g3) S8 (fun g4 S9 => zO (qg (dem v3) g4 (Value.bool false) S9) (fun g2 g5 => some ([x0,x1,x2,x3,g2,x5,x6,x7,x8,x9,l,s,k,m,i,n,t,u,o,p,A,B,C,D,E,F,G,w,x,q,H,I,J,K,L,M,N,P,Q,R,U,V,W,X,Y,Z,a0,a1,a2,a3,a4,a5,a6,a7,a8,a9,b0,b1,b2,b3,b4,b5,b6,b7,b8,b9,c0,c1,c2,c3,c4,c5,c6,c7,c8,y,z,r,c9,d0,d1,d2,d3,d4,d5,d6,d7,d8,d9,f0,f1,f2,dem i,dem x1,v2,v3,dem v3,dem v5,v6,dem v7,dem v8,v9,g3,g4,dem g2], g5)) ()) ()) ()) ()) ()) ()) ()) ()) ()) ()) := by
 rw [yH zh.d28 zh.agn zh.k28 zh.g28]
 refine congrArg QI ?_
 refine tP Try.f7 28 0 (v := i) ?_
 refine tP Try.f7 28 1 (v := x1) ?_
 refine tD Try.f7 28 2 (fun v2 S1 => ?_)
 refine tD Try.f7 28 3 (fun v3 S2 => ?_)
 refine tP Try.f7 28 4 (v := v3) ?_
 refine tG Try.f7 28 5 (j := 4) (fun v5 S3 => ?_)
 refine tG Try.f7 28 6 (j := 4) (fun v6 S4 => ?_)
 refine tG Try.f7 28 7 (j := 4) (fun v7 S5 => ?_)
 refine tG Try.f7 28 8 (j := 4) (fun v8 S6 => ?_)
 refine tG Try.f7 28 9 (j := 4) (fun v9 S7 => ?_)
 refine tG Try.f7 28 10 (j := 4) (fun g3 S8 => ?_)
 refine tG Try.f7 28 11 (j := 4) (fun g4 S9 => ?_)
 refine tD Try.f7 28 12 (fun g2 g5 => ?_)
 refine tP Try.f7 28 13 (v := g2) ?_
 kernel_rfl
theorem zh.rs : type_of% (And.intro @zh.r0 (And.intro @zh.r1 (And.intro @zh.r2 (And.intro @zh.r3 (And.intro @zh.r4 (And.intro @zh.r5 (And.intro @zh.r6 (And.intro @zh.r7 (And.intro @zh.r8 (And.intro @zh.r9 (And.intro @zh.r10 (And.intro @zh.r11 (And.intro @zh.r12 (And.intro @zh.r13 (And.intro @zh.r14 (And.intro @zh.r15 (And.intro @zh.r16 (And.intro @zh.r17 (And.intro @zh.r18 (And.intro @zh.r19 (And.intro @zh.r20 (And.intro @zh.r21 (And.intro @zh.r22 (And.intro @zh.r23 (And.intro @zh.r24 (And.intro @zh.r25 (And.intro @zh.r26 (And.intro @zh.r27 (@zh.r28))))))))))))))))))))))))))))) := And.intro @zh.r0 (And.intro @zh.r1 (And.intro @zh.r2 (And.intro @zh.r3 (And.intro @zh.r4 (And.intro @zh.r5 (And.intro @zh.r6 (And.intro @zh.r7 (And.intro @zh.r8 (And.intro @zh.r9 (And.intro @zh.r10 (And.intro @zh.r11 (And.intro @zh.r12 (And.intro @zh.r13 (And.intro @zh.r14 (And.intro @zh.r15 (And.intro @zh.r16 (And.intro @zh.r17 (And.intro @zh.r18 (And.intro @zh.r19 (And.intro @zh.r20 (And.intro @zh.r21 (And.intro @zh.r22 (And.intro @zh.r23 (And.intro @zh.r24 (And.intro @zh.r25 (And.intro @zh.r26 (And.intro @zh.r27 (@zh.r28))))))))))))))))))))))))))))
theorem zh.runs {x0 x1 : Value} {S S1 : zi} {e : AEx} {T : List Value} (h : zD Try.prog O false zh.code ([x0,x1,undef,undef,undef,undef,undef,undef,undef,undef,undef,undef,undef,undef,undef,undef,undef,undef,undef,undef,undef,undef,undef,undef,undef,undef,undef,undef,undef,undef,undef,undef,undef,undef,undef,undef,undef,undef,undef,undef,undef,undef,undef,undef,undef,undef,undef,undef,undef,undef,undef,undef,undef,undef,undef,undef,undef,undef,undef,undef,undef,undef,undef,undef,undef,undef,undef,undef,undef,undef,undef,undef,undef,undef,undef,undef,undef,undef,undef,undef,undef,undef,undef,undef,undef,undef,undef,undef,undef,undef,undef,undef,undef,undef,undef,undef,undef,undef,undef,undef,undef,undef,undef,undef,undef]) S = some (e, T, S1)) (he : e = .normal ∨ e = .ret) : zV Try.prog O 7 [x0, x1] S = some (T.getD 4 undef, S1) :=
 wU rfl rfl Try.func7 (by decide) zh.body (by exact h) he (qU (a := T.getD 4 undef) ((show zN Try.prog T S1 Try.f7.results.toList = zN Try.prog T S1 [(ResultVar.tmp 4)] from by kernel_rfl).trans (by simp only [zN])) (by kernel_rfl))
end Go.Proofs.Ytblpnklfimkfoaa
namespace Go.Proofs.Ytblpnklfimkfoaa
open Go.Abs
abbrev zH.id : FuncId := 38
noncomputable def zH.code : Code := (Code.seq (Code.region 0 (reg Try.f38 0) false) (Code.seq (Code.region 1 (reg Try.f38 1) false) Code.ret))
theorem zH.body : Try.f38.body = some zH.code := by kernel_rfl
variable (g i k l x4 x5 x6 x7 x8 x9 o p q r s t u w x y z A B C D E F G H I J K L M N P Q R U V : Value) (S : zi)
theorem zH.r0  : je Try.prog ⟨false, false, false⟩ (zV Try.prog O) (reg Try.f38 0) (reg Try.f38 0).toList ([g,i,k,l,x4,x5,x6,x7,x8,x9,o,p,q,r,s,t,u,w,x,y,z,A,B,C,D,E,F,G,H,I,J,K,L,M,N,P,Q,R,U,V]) S =
  (zO (X5 (dem g) S) (fun W m => zO (X5 (dem i) m) (fun X S2 => some ([g,i,W,X,Value.bool false,x5,x6,x7,x8,x9,o,p,q,r,s,t,u,w,x,y,z,A,B,C,D,E,F,G,H,I,J,K,L,M,N,P,Q,R,U,V], S2)) ()) ()) := by
 kernel_rfl
theorem zH.r1  : je Try.prog ⟨false, false, false⟩ (zV Try.prog O) (reg Try.f38 1) (reg Try.f38 1).toList ([g,i,k,l,x4,x5,x6,x7,x8,x9,o,p,q,r,s,t,u,w,x,y,z,A,B,C,D,E,F,G,H,I,J,K,L,M,N,P,Q,R,U,V]) S =
  (zO (zS Try.prog 28 k 0 S) (fun W m => zO (ji Try.prog false 3 W m) (fun X S2 => zO (zS Try.prog 28 l 0 S2) (fun v2 S3 => zO (ji Try.prog false 3 v2 S3) (fun v3 S4 => zO (jM Try.prog BinOp.eql 3 X v3 S4) (fun f S5 => gdK (dem f) true (zS Try.prog 28 k 1) S5 (fun v6 S6 => gdK (dem f) true (ji Try.prog false 3 v6) S6 (fun v7 S7 => gdK (dem f) true (zS Try.prog 28 l 1) S7 (fun v8 S8 => gdK (dem f) true (ji Try.prog false 3 v8) S8 (fun v9 S9 => gdK (dem f) true (jM Try.prog BinOp.eql 3 v7 v9) S9 (fun Y b6 => zO (qg (dem f) Y (Value.bool false) b6) (fun c b7 => gdK (dem c) true (zS Try.prog 28 k 2) b7 (fun Z b8 => gdK (dem c) true (ji Try.prog false 3 Z) b8 (fun a0 b9 => gdK (dem c) true (zS Try.prog 28 l 2) b9 (fun a1 c0 => gdK (dem c) true (ji Try.prog false 3 a1) c0 (fun a2 c1 => gdK (dem c) true (jM Try.prog BinOp.eql 3 a0 a2) c1 (fun a3 c2 => zO (qg (dem c) a3 (Value.bool false) c2) (fun d c3 => gdK (dem d) true (zS Try.prog 28 k 3) c3 (fun a4 c4 => gdK (dem d) true (ji Try.prog false 3 a4) c4 (fun a5 c5 => gdK (dem d) true (zS Try.prog 28 l 3) c5 (fun a6 c6 => gdK (dem d) true (ji Try.prog false 3 a6) c6 (fun a7 c7 => gdK (dem d) true (jM Try.prog BinOp.eql 3 a5 a7) c7 (fun a8 c8 => zO (qg (dem d) a8 (Value.bool false) c8) (fun b c9 => gdK (dem b) true (zS Try.prog 28 k 4) c9 (fun a9 d0 => gdK (dem b) true (ji Try.prog false 26 a9) d0 (fun b0 d1 => gdK (dem b) true (jO Try.prog false false 26 9 b0) d1 (fun b1 d2 => gdK (dem b) true (zS Try.prog 28 l 4) d2 (fun b2 d3 => gdK (dem b) true (ji Try.prog false 26 b2) d3 (fun b3 d4 => gdK (dem b) true (jO Try.prog false false 26 9 b3) d4 (fun b4 d5 => gdK (dem b) true (jM Try.prog BinOp.eql 9 b1 b4) d5 (fun b5 d6 => zO (qg (dem b) b5 (Value.bool false) d6) (fun n d7 => some ([g,i,k,l,n,W,X,v2,v3,f,dem f,v6,v7,v8,v9,Y,c,dem c,Z,a0,a1,a2,a3,d,dem d,a4,a5,a6,a7,a8,b,dem b,a9,b0,b1,b2,b3,b4,b5,dem n], d7)) ()) ()) ()) ()) ()) ()) ()) ()) ()) ()) ()) ()) ()) ()) ()) ()) ()) ()) ()) ()) ()) ()) ()) ()) ()) ()) ()) ()) ()) ()) ()) := by
 refine sD Try.f38 1 0 (fun W m => ?_)
 refine sD Try.f38 1 1 (fun X S2 => ?_)
 refine sD Try.f38 1 2 (fun v2 S3 => ?_)
 refine sD Try.f38 1 3 (fun v3 S4 => ?_)
 refine sD Try.f38 1 4 (fun f S5 => ?_)
 refine sP Try.f38 1 5 (v := f) ?_
 refine sG Try.f38 1 6 (j := 5) (fun v6 S6 => ?_)
 refine sG Try.f38 1 7 (j := 5) (fun v7 S7 => ?_)
 refine sG Try.f38 1 8 (j := 5) (fun v8 S8 => ?_)
 refine sG Try.f38 1 9 (j := 5) (fun v9 S9 => ?_)
 refine sG Try.f38 1 10 (j := 5) (fun Y b6 => ?_)
 refine sD Try.f38 1 11 (fun c b7 => ?_)
 refine sP Try.f38 1 12 (v := c) ?_
 refine sG Try.f38 1 13 (j := 12) (fun Z b8 => ?_)
 refine sG Try.f38 1 14 (j := 12) (fun a0 b9 => ?_)
 refine sG Try.f38 1 15 (j := 12) (fun a1 c0 => ?_)
 refine sG Try.f38 1 16 (j := 12) (fun a2 c1 => ?_)
 refine sG Try.f38 1 17 (j := 12) (fun a3 c2 => ?_)
 refine sD Try.f38 1 18 (fun d c3 => ?_)
 refine sP Try.f38 1 19 (v := d) ?_
 refine sG Try.f38 1 20 (j := 19) (fun a4 c4 => ?_)
 refine sG Try.f38 1 21 (j := 19) (fun a5 c5 => ?_)
 refine sG Try.f38 1 22 (j := 19) (fun a6 c6 => ?_)
 refine sG Try.f38 1 23 (j := 19) (fun a7 c7 => ?_)
 refine sG Try.f38 1 24 (j := 19) (fun a8 c8 => ?_)
 refine sD Try.f38 1 25 (fun b c9 => ?_)
 refine sP Try.f38 1 26 (v := b) ?_
 refine sG Try.f38 1 27 (j := 26) (fun a9 d0 => ?_)
 refine sG Try.f38 1 28 (j := 26) (fun b0 d1 => ?_)
 refine sG Try.f38 1 29 (j := 26) (fun b1 d2 => ?_)
 refine sG Try.f38 1 30 (j := 26) (fun b2 d3 => ?_)
 refine sG Try.f38 1 31 (j := 26) (fun b3 d4 => ?_)
 refine sG Try.f38 1 32 (j := 26) (fun b4 d5 => ?_)
 refine sG Try.f38 1 33 (j := 26) (fun b5 d6 => ?_)
 refine sD Try.f38 1 34 (fun n d7 => ?_)
 refine sP Try.f38 1 35 (v := n) ?_
 kernel_rfl
theorem zH.rs : type_of% (And.intro @zH.r0 (@zH.r1)) := And.intro @zH.r0 (@zH.r1)
theorem zH.runs {g i : Value} {S m : zi} {e : AEx} {T : List Value} (h : zD Try.prog O false zH.code ([g,i,undef,undef,undef,undef,undef,undef,undef,undef,undef,undef,undef,undef,undef,undef,undef,undef,undef,undef,undef,undef,undef,undef,undef,undef,undef,undef,undef,undef,undef,undef,undef,undef,undef,undef,undef,undef,undef,undef]) zi.empty = some (e, T, m)) (he : e = .normal ∨ e = .ret) (hca : [g, i].all (jf 16) = true) (hcv : jf 16 (T.getD 4 undef) = true) : zV Try.prog O 38 [g, i] S = some (T.getD 4 undef, S) :=
 kX rfl rfl Try.func38 (by decide) zH.body (by exact h) he (qU (a := T.getD 4 undef) ((show zN Try.prog T m Try.f38.results.toList = zN Try.prog T m [(ResultVar.tmp 4)] from by kernel_rfl).trans (by simp only [zN])) (by kernel_rfl)) hca hcv
end Go.Proofs.Ytblpnklfimkfoaa
namespace Go.Proofs.Ytblpnklfimkfoaa
open Go.Abs
abbrev zk.id : FuncId := 14
noncomputable def zk.jd : Code := (Code.seq (Code.region 4 (reg Try.f14 4) false) (Code.seq (Code.cond (Operand.tmp 14) Code.skip (Code.exit 0)) (Code.seq (Code.block 1 (Code.seq (Code.region 5 (reg Try.f14 5) false) (Code.seq (Code.region 6 (reg Try.f14 6) true) (Code.cond (Operand.tmp 25) (Code.seq (Code.region 7 (reg Try.f14 7) false) Code.ret) Code.skip)))) (Code.region 8 (reg Try.f14 8) false))))
noncomputable def zk.code : Code := (Code.seq (Code.region 0 (reg Try.f14 0) false) (Code.seq (Code.seq (Code.region 1 (reg Try.f14 1) false) (Code.cond (Operand.tmp 10) (Code.seq (Code.region 2 (reg Try.f14 2) false) Code.ret) Code.skip)) (Code.seq (Code.seq (Code.region 3 (reg Try.f14 3) false) (Code.block 0 (Code.loop zk.jd))) (Code.seq (Code.region 9 (reg Try.f14 9) false) Code.ret))))
theorem zk.body : Try.f14.body = some zk.code := by kernel_rfl
theorem zk.eta {T : List Value} (h : T.length = 27) : T = [T.getD 0 undef,T.getD 1 undef,T.getD 2 undef,T.getD 3 undef,T.getD 4 undef,T.getD 5 undef,T.getD 6 undef,T.getD 7 undef,T.getD 8 undef,T.getD 9 undef,T.getD 10 undef,T.getD 11 undef,T.getD 12 undef,T.getD 13 undef,T.getD 14 undef,T.getD 15 undef,T.getD 16 undef,T.getD 17 undef,T.getD 18 undef,T.getD 19 undef,T.getD 20 undef,T.getD 21 undef,T.getD 22 undef,T.getD 23 undef,T.getD 24 undef,T.getD 25 undef,T.getD 26 undef] := (yI T 27 h).trans (by kernel_rfl)
variable (d w y z E x A B C D f g c b i j k l m n o p q r s t u : Value) (S : zi)
theorem zk.r0  : je Try.prog ⟨false, false, false⟩ (zV Try.prog O) (reg Try.f14 0) (reg Try.f14 0).toList ([d,w,y,z,E,x,A,B,C,D,f,g,c,b,i,j,k,l,m,n,o,p,q,r,s,t,u]) S =
  ( some ([d,w,y,z,Value.bool false,x,A,B,C,D,f,g,c,b,i,j,k,l,m,n,o,p,q,r,s,t,u], S)) := by
 kernel_rfl
theorem zk.r1  : je Try.prog ⟨false, false, false⟩ (zV Try.prog O) (reg Try.f14 1) (reg Try.f14 1).toList ([d,w,y,z,E,x,A,B,C,D,f,g,c,b,i,j,k,l,m,n,o,p,q,r,s,t,u]) S =
  (zO (qA Try.prog 22 (dem d) S) (fun H F => zO (qA Try.prog 22 (dem w) F) (fun G I => zO (jM Try.prog BinOp.neq 3 H G I) (fun W J => some ([d,w,y,z,E,x,dem d,H,dem w,G,W,g,c,b,i,j,k,l,m,n,o,p,q,r,s,t,u], J)) ()) ()) ()) := by
 kernel_rfl
theorem zk.r2  : je Try.prog ⟨false, false, false⟩ (zV Try.prog O) (reg Try.f14 2) (reg Try.f14 2).toList ([d,w,y,z,E,x,A,B,C,D,f,g,c,b,i,j,k,l,m,n,o,p,q,r,s,t,u]) S =
  ( some ([d,w,y,z,Value.bool false,x,A,B,C,D,f,g,c,b,i,j,k,l,m,n,o,p,q,r,s,t,u], S)) := by
 kernel_rfl
theorem zk.r3  : je Try.prog ⟨false, false, false⟩ (zV Try.prog O) (reg Try.f14 3) (reg Try.f14 3).toList ([d,w,y,z,E,x,A,B,C,D,f,g,c,b,i,j,k,l,m,n,o,p,q,r,s,t,u]) S =
  (zO (qA Try.prog 22 (dem d) S) (fun H F => some ([d,w,y,z,E,x,A,B,C,D,f,dem d,H,Value.int IntKind.i64 0,i,j,k,l,m,n,o,p,q,r,s,t,u], F)) ()) := by
 kernel_rfl
theorem zk.r4  : je Try.prog ⟨false, false, false⟩ (zV Try.prog O) (reg Try.f14 4) (reg Try.f14 4).toList ([d,w,y,z,E,x,A,B,C,D,f,g,c,b,i,j,k,l,m,n,o,p,q,r,s,t,u]) S =
  (zO (jM Try.prog BinOp.lss 3 b c S) (fun K F => some ([d,w,y,z,E,x,A,B,C,D,f,g,c,b,K,j,k,l,m,n,o,p,q,r,s,t,u], F)) ()) := by
 kernel_rfl
theorem zk.r5  : je Try.prog ⟨false, false, false⟩ (zV Try.prog O) (reg Try.f14 5) (reg Try.f14 5).toList ([d,w,y,z,E,x,A,B,C,D,f,g,c,b,i,j,k,l,m,n,o,p,q,r,s,t,u]) S =
  ( some ([d,w,y,z,E,b,A,B,C,D,f,g,c,dem b,i,dem b,k,l,m,n,o,p,q,r,s,t,u], S)) := by
 kernel_rfl
theorem zk.d6 : qp Try.prog (reg Try.f14 6) = true := by kernel_rfl
theorem zk.ff6 : fixed Try.prog (reg Try.f14 6) = false := by kernel_rfl
theorem zk.k6 : checked Try.prog (reg Try.f14 6) = [] := by kernel_rfl
theorem zk.g6 : again Try.prog (reg Try.f14 6) = [] := by kernel_rfl
theorem zk.r6  : zD Try.prog O false (.region 6 (reg Try.f14 6) true) ([d,w,y,z,E,x,A,B,C,D,f,g,c,b,i,j,k,l,m,n,o,p,q,r,s,t,u]) S =
  QI (zO (zZ Try.prog 22 (dem d) (dem x) S) (fun L F => zO (ji Try.prog false 28 L F) (fun G I => zO (zZ Try.prog 22 (dem w) (dem x) I) (fun M J => zO (ji Try.prog false 28 M J) (fun N Q => zO ((zV Try.prog O) 38 [(dem G), (dem N)] Q) (fun P R => zO (aUn Try.prog UnOp.not P R) (fun U V => some ([d,w,y,z,E,x,A,B,C,D,f,g,c,b,i,j,dem d,dem x,L,G,dem w,dem x,M,N,P,U,u], V)) ()) ()) ()) ()) ()) ()) := by
 rw [yH zk.d6 zk.ff6 zk.k6 zk.g6]
 refine congrArg QI ?_
 refine tP Try.f14 6 0 (v := d) ?_
 refine tP Try.f14 6 1 (v := x) ?_
 refine tD Try.f14 6 2 (fun L F => ?_)
 refine tD Try.f14 6 3 (fun G I => ?_)
 refine tP Try.f14 6 4 (v := w) ?_
 refine tP Try.f14 6 5 (v := x) ?_
 refine tD Try.f14 6 6 (fun M J => ?_)
 refine tD Try.f14 6 7 (fun N Q => ?_)
 refine tD Try.f14 6 8 (fun P R => ?_)
 refine tD Try.f14 6 9 (fun U V => ?_)
 kernel_rfl
theorem zk.r7  : je Try.prog ⟨false, false, false⟩ (zV Try.prog O) (reg Try.f14 7) (reg Try.f14 7).toList ([d,w,y,z,E,x,A,B,C,D,f,g,c,b,i,j,k,l,m,n,o,p,q,r,s,t,u]) S =
  ( some ([d,w,y,z,Value.bool false,x,A,B,C,D,f,g,c,b,i,j,k,l,m,n,o,p,q,r,s,t,u], S)) := by
 kernel_rfl
theorem zk.r8  : je Try.prog ⟨false, false, false⟩ (zV Try.prog O) (reg Try.f14 8) (reg Try.f14 8).toList ([d,w,y,z,E,x,A,B,C,D,f,g,c,b,i,j,k,l,m,n,o,p,q,r,s,t,u]) S =
  (zO (jM Try.prog BinOp.add 3 b (Value.int IntKind.i64 1) S) (fun K F => some ([d,w,y,z,E,x,A,B,C,D,f,g,c,dem K,i,j,k,l,m,n,o,p,q,r,s,t,K], F)) ()) := by
 kernel_rfl
theorem zk.r9  : je Try.prog ⟨false, false, false⟩ (zV Try.prog O) (reg Try.f14 9) (reg Try.f14 9).toList ([d,w,y,z,E,x,A,B,C,D,f,g,c,b,i,j,k,l,m,n,o,p,q,r,s,t,u]) S =
  ( some ([d,w,y,z,Value.bool true,x,A,B,C,D,f,g,c,b,i,j,k,l,m,n,o,p,q,r,s,t,u], S)) := by
 kernel_rfl
theorem zk.rs : type_of% (And.intro @zk.r0 (And.intro @zk.r1 (And.intro @zk.r2 (And.intro @zk.r3 (And.intro @zk.r4 (And.intro @zk.r5 (And.intro @zk.r6 (And.intro @zk.r7 (And.intro @zk.r8 (@zk.r9)))))))))) := And.intro @zk.r0 (And.intro @zk.r1 (And.intro @zk.r2 (And.intro @zk.r3 (And.intro @zk.r4 (And.intro @zk.r5 (And.intro @zk.r6 (And.intro @zk.r7 (And.intro @zk.r8 (@zk.r9)))))))))
theorem zk.runs {d w : Value} {S F : zi} {e : AEx} {T : List Value} (h : zD Try.prog O false zk.code ([d,w,undef,undef,undef,undef,undef,undef,undef,undef,undef,undef,undef,undef,undef,undef,undef,undef,undef,undef,undef,undef,undef,undef,undef,undef,undef]) S = some (e, T, F)) (he : e = .normal ∨ e = .ret) : zV Try.prog O 14 [d, w] S = some (T.getD 4 undef, F) :=
 wU rfl rfl Try.func14 (by decide) zk.body (by exact h) he (qU (a := T.getD 4 undef) ((show zN Try.prog T F Try.f14.results.toList = zN Try.prog T F [(ResultVar.tmp 4)] from by kernel_rfl).trans (by simp only [zN])) (by kernel_rfl))
end Go.Proofs.Ytblpnklfimkfoaa
namespace Go.Proofs.Ytblpnklfimkfoaa
open Go.Abs
abbrev zx.id : FuncId := 29
noncomputable def zx.code : Code := (Code.seq (Code.region 0 (reg Try.f29 0) false) (Code.seq (Code.region 1 (reg Try.f29 1) false) (Code.seq (Code.seq (Code.region 2 (reg Try.f29 2) false) (Code.cond (Operand.tmp 16) (Code.seq (Code.region 3 (reg Try.f29 3) false) Code.ret) Code.skip)) (Code.seq (Code.region 4 (reg Try.f29 4) false) (Code.seq (Code.region 5 (reg Try.f29 5) false) (Code.seq (Code.seq (Code.region 6 (reg Try.f29 6) false) (Code.cond (Operand.tmp 26) (Code.region 7 (reg Try.f29 7) true) Code.skip)) (Code.seq (Code.region 8 (reg Try.f29 8) true) Code.ret)))))))
theorem zx.body : Try.f29.body = some zx.code := by kernel_rfl
variable (x0 x1 x2 x3 a x5 x6 x7 x8 x9 b c d f g i k l m n o p q r s t u w x y z A B C D E F G H I J K L M N P Q R U V W X Y : Value) (S : zi)
theorem zx.r0  : je Try.prog ⟨false, false, false⟩ (zV Try.prog O) (reg Try.f29 0) (reg Try.f29 0).toList ([x0,x1,x2,x3,a,x5,x6,x7,x8,x9,b,c,d,f,g,i,k,l,m,n,o,p,q,r,s,t,u,w,x,y,z,A,B,C,D,E,F,G,H,I,J,K,L,M,N,P,Q,R,U,V,W,X,Y]) S =
  (zO (y8 Try.prog 28 S) (fun v0 Z => some ([x0,x1,v0,Value.bool false,a,x5,x6,x7,x8,x9,b,c,d,f,g,i,k,l,m,n,o,p,q,r,s,t,u,w,x,y,z,A,B,C,D,E,F,G,H,I,J,K,L,M,N,P,Q,R,U,V,W,X,Y], Z)) ()) := by
 kernel_rfl
theorem zx.r1  : je Try.prog ⟨false, false, false⟩ (zV Try.prog O) (reg Try.f29 1) (reg Try.f29 1).toList ([x0,x1,x2,x3,a,x5,x6,x7,x8,x9,b,c,d,f,g,i,k,l,m,n,o,p,q,r,s,t,u,w,x,y,z,A,B,C,D,E,F,G,H,I,J,K,L,M,N,P,Q,R,U,V,W,X,Y]) S =
  (zO ((zV Try.prog O) 44 [(dem (dem x0)), (Value.int IntKind.i64 4)] S) (fun v1 Z => zO (zC v1 0 Z) (fun v3 S2 => zO (zC (zK 0 v1) 1 S2) (fun v4 S3 => zO (zC (zK 1 (zK 0 v1)) 2 S3) (fun v5 S4 => some ([x0,x1,x2,x3,v3,v4,v5,x7,x8,zK 2 (zK 1 (zK 0 v1)),dem x0,dem v1,dem v3,dem v4,dem v5,i,k,l,m,n,o,p,q,r,s,t,u,w,x,y,z,A,B,C,D,E,F,G,H,I,J,K,L,M,N,P,Q,R,U,V,W,X,Y], S4)) ()) ()) ()) ()) := by
 kernel_rfl
theorem zx.r2  : je Try.prog ⟨false, false, false⟩ (zV Try.prog O) (reg Try.f29 2) (reg Try.f29 2).toList ([x0,x1,x2,x3,a,x5,x6,x7,x8,x9,b,c,d,f,g,i,k,l,m,n,o,p,q,r,s,t,u,w,x,y,z,A,B,C,D,E,F,G,H,I,J,K,L,M,N,P,Q,R,U,V,W,X,Y]) S =
  (zO (jM Try.prog BinOp.neq 29 (dem x6) (Value.int IntKind.i64 0) S) (fun v1 Z => some ([x0,x1,x2,x3,a,x5,x6,x7,x8,x9,b,c,d,f,g,dem x6,v1,l,m,n,o,p,q,r,s,t,u,w,x,y,z,A,B,C,D,E,F,G,H,I,J,K,L,M,N,P,Q,R,U,V,W,X,Y], Z)) ()) := by
 kernel_rfl
theorem zx.r3  : je Try.prog ⟨false, false, false⟩ (zV Try.prog O) (reg Try.f29 3) (reg Try.f29 3).toList ([x0,x1,x2,x3,a,x5,x6,x7,x8,x9,b,c,d,f,g,i,k,l,m,n,o,p,q,r,s,t,u,w,x,y,z,A,B,C,D,E,F,G,H,I,J,K,L,M,N,P,Q,R,U,V,W,X,Y]) S =
  (zO (yC Try.prog 28 [] S) (fun v0 Z => zO (qm Try.prog 28 x2 (dem v0) Z) (fun v1 S2 => some ([x0,x1,x2,Value.bool false,a,x5,x6,x7,x8,x9,b,c,d,f,g,i,k,v0,m,n,o,p,q,r,s,t,u,w,x,y,z,A,B,C,D,E,F,G,H,I,J,K,L,M,N,P,Q,R,U,V,W,X,Y], S2)) ()) ()) := by
 kernel_rfl
theorem zx.r4  : je Try.prog ⟨false, false, false⟩ (zV Try.prog O) (reg Try.f29 4) (reg Try.f29 4).toList ([x0,x1,x2,x3,a,x5,x6,x7,x8,x9,b,c,d,f,g,i,k,l,m,n,o,p,q,r,s,t,u,w,x,y,z,A,B,C,D,E,F,G,H,I,J,K,L,M,N,P,Q,R,U,V,W,X,Y]) S =
  (zO ((zV Try.prog O) 28 [(dem (dem x5))] S) (fun v1 Z => zO (zC v1 0 Z) (fun v3 S2 => zO (zC (zK 0 v1) 1 S2) (fun v4 S3 => zO (zC (zK 1 (zK 0 v1)) 2 S3) (fun v5 S4 => some ([x0,x1,x2,x3,a,v4,v5,v3,x8,x9,b,c,d,f,g,i,k,l,zK 2 (zK 1 (zK 0 v1)),dem x5,dem v1,dem v3,dem v4,dem v5,s,t,u,w,x,y,z,A,B,C,D,E,F,G,H,I,J,K,L,M,N,P,Q,R,U,V,W,X,Y], S4)) ()) ()) ()) ()) := by
 kernel_rfl
theorem zx.r5  : je Try.prog ⟨false, false, false⟩ (zV Try.prog O) (reg Try.f29 5) (reg Try.f29 5).toList ([x0,x1,x2,x3,a,x5,x6,x7,x8,x9,b,c,d,f,g,i,k,l,m,n,o,p,q,r,s,t,u,w,x,y,z,A,B,C,D,E,F,G,H,I,J,K,L,M,N,P,Q,R,U,V,W,X,Y]) S =
  (zO (yC Try.prog 28 [] S) (fun v0 Z => zO (y8 Try.prog 28 Z) (fun v1 S2 => zO (qm Try.prog 28 v1 (dem v0) S2) (fun v2 S3 => some ([x0,x1,x2,x3,a,x5,x6,x7,v1,x9,b,c,d,f,g,i,k,l,m,n,o,p,q,r,v0,t,u,w,x,y,z,A,B,C,D,E,F,G,H,I,J,K,L,M,N,P,Q,R,U,V,W,X,Y], S3)) ()) ()) ()) := by
 kernel_rfl
theorem zx.r6  : je Try.prog ⟨false, false, false⟩ (zV Try.prog O) (reg Try.f29 6) (reg Try.f29 6).toList ([x0,x1,x2,x3,a,x5,x6,x7,x8,x9,b,c,d,f,g,i,k,l,m,n,o,p,q,r,s,t,u,w,x,y,z,A,B,C,D,E,F,G,H,I,J,K,L,M,N,P,Q,R,U,V,W,X,Y]) S =
  (zO (jM Try.prog BinOp.eql 29 (dem x6) (Value.int IntKind.i64 0) S) (fun v1 Z => some ([x0,x1,x2,x3,a,x5,x6,x7,x8,x9,b,c,d,f,g,i,k,l,m,n,o,p,q,r,s,dem x6,v1,w,x,y,z,A,B,C,D,E,F,G,H,I,J,K,L,M,N,P,Q,R,U,V,W,X,Y], Z)) ()) := by
 kernel_rfl
theorem zx.d7 : qp Try.prog (reg Try.f29 7) = true := by kernel_rfl
theorem zx.ff7 : fixed Try.prog (reg Try.f29 7) = false := by kernel_rfl
theorem zx.k7 : checked Try.prog (reg Try.f29 7) = [] := by kernel_rfl
theorem zx.g7 : again Try.prog (reg Try.f29 7) = [] := by kernel_rfl
theorem zx.r7  : zD Try.prog O false (.region 7 (reg Try.f29 7) true) ([x0,x1,x2,x3,a,x5,x6,x7,x8,x9,b,c,d,f,g,i,k,l,m,n,o,p,q,r,s,t,u,w,x,y,z,A,B,C,D,E,F,G,H,I,J,K,L,M,N,P,Q,R,U,V,W,X,Y]) S =
  QI (zO (zZ Try.prog 56 (dem a) (Value.int IntKind.i64 0) S) (fun v1 Z => zO (ji Try.prog false 3 v1 Z) (fun v2 S2 => zO (zZ Try.prog 56 (dem a) (Value.int IntKind.i64 1) S2) (fun v4 S3 => zO (ji Try.prog false 3 v4 S3) (fun v5 S4 => zO (zZ Try.prog 56 (dem a) (Value.int IntKind.i64 2) S4) (fun v7 S5 => zO (ji Try.prog false 3 v7 S5) (fun v8 S6 => zO (zZ Try.prog 56 (dem a) (Value.int IntKind.i64 3) S6) (fun a1 S7 => zO (ji Try.prog false 3 a1 S7) (fun a0 S8 => zO (yC Try.prog 28 [(0, (dem v2)), (1, (dem v5)), (2, (dem v8)), (3, (dem a0)), (4, (dem (dem x7)))] S8) (fun a3 S9 => zO (qm Try.prog 28 x8 (dem a3) S9) (fun a4 a2 => some ([x0,x1,x2,x3,a,x5,x6,x7,x8,x9,b,c,d,f,g,i,k,l,m,n,o,p,q,r,s,t,u,dem a,v1,v2,dem a,v4,v5,dem a,v7,v8,dem a,a1,a0,dem x7,a3,K,L,M,N,P,Q,R,U,V,W,X,Y], a2)) ()) ()) ()) ()) ()) ()) ()) ()) ()) ()) := by
 rw [yH zx.d7 zx.ff7 zx.k7 zx.g7]
 refine congrArg QI ?_
 refine tP Try.f29 7 0 (v := a) ?_
 refine tD Try.f29 7 1 (fun v1 Z => ?_)
 refine tD Try.f29 7 2 (fun v2 S2 => ?_)
 refine tP Try.f29 7 3 (v := a) ?_
 refine tD Try.f29 7 4 (fun v4 S3 => ?_)
 refine tD Try.f29 7 5 (fun v5 S4 => ?_)
 refine tP Try.f29 7 6 (v := a) ?_
 refine tD Try.f29 7 7 (fun v7 S5 => ?_)
 refine tD Try.f29 7 8 (fun v8 S6 => ?_)
 refine tP Try.f29 7 9 (v := a) ?_
 refine tD Try.f29 7 10 (fun a1 S7 => ?_)
 refine tD Try.f29 7 11 (fun a0 S8 => ?_)
 refine tP Try.f29 7 12 (v := x7) ?_
 refine tD Try.f29 7 13 (fun a3 S9 => ?_)
 refine tD Try.f29 7 14 (fun a4 a2 => ?_)
 kernel_rfl
theorem zx.d8 : qp Try.prog (reg Try.f29 8) = true := by kernel_rfl
theorem zx.ff8 : fixed Try.prog (reg Try.f29 8) = false := by kernel_rfl
theorem zx.k8 : checked Try.prog (reg Try.f29 8) = [0, 11] := by kernel_rfl
theorem zx.g8 : again Try.prog (reg Try.f29 8) = [(0, 10)] := by kernel_rfl
theorem zx.r8  : zD Try.prog O false (.region 8 (reg Try.f29 8) true) ([x0,x1,x2,x3,a,x5,x6,x7,x8,x9,b,c,d,f,g,i,k,l,m,n,o,p,q,r,s,t,u,w,x,y,z,A,B,C,D,E,F,G,H,I,J,K,L,M,N,P,Q,R,U,V,W,X,Y]) S =
  QI (zO (ji Try.prog false 28 x8 S) (fun v0 Z => okK v0 ( zO (jM Try.prog BinOp.eql 29 (dem x6) (Value.int IntKind.i64 0) Z) (fun v2 S2 => gdK (dem v2) true (ret x5) S2 (fun v4 S3 => gdK (dem v2) true (qA Try.prog 26 (dem v4)) S3 (fun v5 S4 => gdK (dem v2) true (jM Try.prog BinOp.eql 3 v5 (Value.int IntKind.i64 0)) S4 (fun v6 S5 => zO (qg (dem v2) v6 (Value.bool false) S5) (fun v7 S6 => gdK (dem v7) true (ji Try.prog false 28 x8) S6 (fun v9 S7 => gdK (dem v7) true ((zV Try.prog O) 31 [(dem v9)]) S7 (fun a1 S8 => zO (qg (dem v7) a1 (Value.bool false) S8) (fun a0 S9 => okK a0 ( zO (qm Try.prog 28 x2 (dem v0) S9) (fun a5 a2 => ckK (qW x8 S S8 && (true)) (some ([x0,x1,x2,a0,a,x5,x6,x7,x8,x9,b,c,d,f,g,i,k,l,m,n,o,p,q,r,s,t,u,w,x,y,z,A,B,C,D,E,F,G,H,I,J,v0,dem x6,v2,dem v2,dem v4,v5,v6,v7,dem v7,v9,a1,dem a0], a2)) ()) ()) ()) ()) ()) ()) ()) ()) ()) ()) ()) ()) ()) := by
 rw [yH zx.d8 zx.ff8 zx.k8 zx.g8]
 refine congrArg QI ?_
 refine uDC Try.f29 8 0 (pe := x8) (fun v0 Z => ?_)
 refine uP Try.f29 8 1 (v := x6) (pe := undef) ?_
 refine uD Try.f29 8 2 (pe := undef) (fun v2 S2 => ?_)
 refine uP Try.f29 8 3 (v := v2) (pe := undef) ?_
 refine uG Try.f29 8 4 (j := 3) (pe := undef) (fun v4 S3 => ?_)
 refine uG Try.f29 8 5 (j := 3) (pe := undef) (fun v5 S4 => ?_)
 refine uG Try.f29 8 6 (j := 3) (pe := undef) (fun v6 S5 => ?_)
 refine uD Try.f29 8 7 (pe := undef) (fun v7 S6 => ?_)
 refine uP Try.f29 8 8 (v := v7) (pe := undef) ?_
 refine uG Try.f29 8 9 (j := 8) (pe := x8) (fun v9 S7 => ?_)
 refine uG Try.f29 8 10 (j := 8) (pe := undef) (fun a1 S8 => ?_)
 refine uDC Try.f29 8 11 (pe := undef) (fun a0 S9 => ?_)
 refine uD Try.f29 8 12 (pe := undef) (fun a5 a2 => ?_)
 refine uP Try.f29 8 13 (v := a0) (pe := undef) ?_
 kernel_rfl
theorem zx.rs : type_of% (And.intro @zx.r0 (And.intro @zx.r1 (And.intro @zx.r2 (And.intro @zx.r3 (And.intro @zx.r4 (And.intro @zx.r5 (And.intro @zx.r6 (And.intro @zx.r7 (@zx.r8))))))))) := And.intro @zx.r0 (And.intro @zx.r1 (And.intro @zx.r2 (And.intro @zx.r3 (And.intro @zx.r4 (And.intro @zx.r5 (And.intro @zx.r6 (And.intro @zx.r7 (@zx.r8))))))))
theorem zx.runs {x0 : Value} {S Z : zi} {e : AEx} {T : List Value} (h : zD Try.prog O false zx.code ([x0,undef,undef,undef,undef,undef,undef,undef,undef,undef,undef,undef,undef,undef,undef,undef,undef,undef,undef,undef,undef,undef,undef,undef,undef,undef,undef,undef,undef,undef,undef,undef,undef,undef,undef,undef,undef,undef,undef,undef,undef,undef,undef,undef,undef,undef,undef,undef,undef,undef,undef,undef,undef]) zi.empty = some (e, T, Z)) (he : e = .normal ∨ e = .ret) {w0 : Value} (c0 : ji Try.prog false 28 (T.getD 2 undef) Z = some (w0, Z)) (h0 : jg (w0) = true) (h1 : jg (T.getD 3 undef) = true) (hca : [x0].all (jf 16) = true) (hcv : jf 16 (Value.tuple #[w0, T.getD 3 undef]) = true) : zV Try.prog O 29 [x0] S = some (Value.tuple #[w0, T.getD 3 undef], S) :=
 kX rfl rfl Try.func29 (by decide) zx.body (by exact h) he ((yK ((show zN Try.prog T Z Try.f29.results.toList = zN Try.prog T Z [(ResultVar.cell 2 28), (ResultVar.tmp 3)] from by kernel_rfl).trans (by simp only [zN, c0])) (by kernel_rfl) (by simp only [List.all_cons, List.all_nil, h0, h1, Bool.and_true])).trans rfl) hca hcv
end Go.Proofs.Ytblpnklfimkfoaa
namespace Go.Proofs.Ytblpnklfimkfoaa
open Go.Abs
abbrev zo.id : FuncId := 9
noncomputable def zo.jd : Code := (Code.seq (Code.seq (Code.region 3 (reg Try.f9 3) false) (Code.cond (Operand.tmp 14) Code.skip (Code.exit 0))) (Code.block 1 (Code.seq (Code.region 4 (reg Try.f9 4) false) (Code.seq (Code.seq (Code.region 5 (reg Try.f9 5) false) (Code.cond (Operand.tmp 24) (Code.exit 0) Code.skip)) (Code.seq (Code.region 6 (reg Try.f9 6) false) (Code.seq (Code.seq (Code.region 7 (reg Try.f9 7) false) (Code.cond (Operand.tmp 31) (Code.exit 0) Code.skip)) (Code.seq (Code.region 8 (reg Try.f9 8) false) (Code.region 9 (reg Try.f9 9) false))))))))
noncomputable def zo.code : Code := (Code.seq (Code.region 0 (reg Try.f9 0) false) (Code.seq (Code.region 1 (reg Try.f9 1) false) (Code.seq (Code.region 2 (reg Try.f9 2) false) (Code.seq (Code.block 0 (Code.loop zo.jd)) (Code.seq (Code.region 10 (reg Try.f9 10) false) Code.ret)))))
theorem zo.body : Try.f9.body = some zo.code := by kernel_rfl
theorem zo.eta {T : List Value} (h : T.length = 43) : T = [T.getD 0 undef,T.getD 1 undef,T.getD 2 undef,T.getD 3 undef,T.getD 4 undef,T.getD 5 undef,T.getD 6 undef,T.getD 7 undef,T.getD 8 undef,T.getD 9 undef,T.getD 10 undef,T.getD 11 undef,T.getD 12 undef,T.getD 13 undef,T.getD 14 undef,T.getD 15 undef,T.getD 16 undef,T.getD 17 undef,T.getD 18 undef,T.getD 19 undef,T.getD 20 undef,T.getD 21 undef,T.getD 22 undef,T.getD 23 undef,T.getD 24 undef,T.getD 25 undef,T.getD 26 undef,T.getD 27 undef,T.getD 28 undef,T.getD 29 undef,T.getD 30 undef,T.getD 31 undef,T.getD 32 undef,T.getD 33 undef,T.getD 34 undef,T.getD 35 undef,T.getD 36 undef,T.getD 37 undef,T.getD 38 undef,T.getD 39 undef,T.getD 40 undef,T.getD 41 undef,T.getD 42 undef] := (yI T 43 h).trans (by kernel_rfl)
variable (b Q U V L K M N P R a c d f g i j k l m n o p q r s t u v w x y z A B C D E F G H I J : Value) (S : zi)
theorem zo.r0  : je Try.prog ⟨false, false, false⟩ (zV Try.prog O) (reg Try.f9 0) (reg Try.f9 0).toList ([b,Q,U,V,L,K,M,N,P,R,a,c,d,f,g,i,j,k,l,m,n,o,p,q,r,s,t,u,v,w,x,y,z,A,B,C,D,E,F,G,H,I,J]) S =
  ( some ([b,Q,Value.slice none 0 0,Value.int IntKind.i64 0,L,K,M,N,P,R,a,c,d,f,g,i,j,k,l,m,n,o,p,q,r,s,t,u,v,w,x,y,z,A,B,C,D,E,F,G,H,I,J], S)) := by
 kernel_rfl
theorem zo.r1  : je Try.prog ⟨false, false, false⟩ (zV Try.prog O) (reg Try.f9 1) (reg Try.f9 1).toList ([b,Q,U,V,L,K,M,N,P,R,a,c,d,f,g,i,j,k,l,m,n,o,p,q,r,s,t,u,v,w,x,y,z,A,B,C,D,E,F,G,H,I,J]) S =
  ( some ([b,Q,U,V,Value.slice none 0 0,K,M,N,P,R,a,c,d,f,g,i,j,k,l,m,n,o,p,q,r,s,t,u,v,w,x,y,z,A,B,C,D,E,F,G,H,I,J], S)) := by
 kernel_rfl
theorem zo.r2  : je Try.prog ⟨false, false, false⟩ (zV Try.prog O) (reg Try.f9 2) (reg Try.f9 2).toList ([b,Q,U,V,L,K,M,N,P,R,a,c,d,f,g,i,j,k,l,m,n,o,p,q,r,s,t,u,v,w,x,y,z,A,B,C,D,E,F,G,H,I,J]) S =
  ( some ([b,Q,U,V,L,Value.int IntKind.i64 0,M,N,P,R,a,c,d,f,g,i,j,k,l,m,n,o,p,q,r,s,t,u,v,w,x,y,z,A,B,C,D,E,F,G,H,I,J], S)) := by
 kernel_rfl
theorem zo.r3  : je Try.prog ⟨false, false, false⟩ (zV Try.prog O) (reg Try.f9 3) (reg Try.f9 3).toList ([b,Q,U,V,L,K,M,N,P,R,a,c,d,f,g,i,j,k,l,m,n,o,p,q,r,s,t,u,v,w,x,y,z,A,B,C,D,E,F,G,H,I,J]) S =
  (zO (qA Try.prog 26 (dem b) S) (fun v2 W => zO (jM Try.prog BinOp.lss 3 (dem K) v2 W) (fun X Z => some ([b,Q,U,V,L,K,M,N,P,R,a,dem K,dem b,v2,X,i,j,k,l,m,n,o,p,q,r,s,t,u,v,w,x,y,z,A,B,C,D,E,F,G,H,I,J], Z)) ()) ()) := by
 kernel_rfl
theorem zo.r4  : je Try.prog ⟨false, false, false⟩ (zV Try.prog O) (reg Try.f9 4) (reg Try.f9 4).toList ([b,Q,U,V,L,K,M,N,P,R,a,c,d,f,g,i,j,k,l,m,n,o,p,q,r,s,t,u,v,w,x,y,z,A,B,C,D,E,F,G,H,I,J]) S =
  (zO (wB Try.prog false 26 (dem b) (some (dem K)) none S) (fun v2 W => zO ((zV Try.prog O) 28 [(dem v2)] W) (fun X Z => zO (zC X 0 Z) (fun v5 S3 => zO (zC (zK 0 X) 1 S3) (fun v6 S4 => zO (zC (zK 1 (zK 0 X)) 2 S4) (fun v7 S5 => some ([b,Q,U,V,L,K,v5,v6,v7,R,a,c,d,f,g,zK 2 (zK 1 (zK 0 X)),dem b,dem K,v2,dem X,dem v5,dem v6,dem v7,q,r,s,t,u,v,w,x,y,z,A,B,C,D,E,F,G,H,I,J], S5)) ()) ()) ()) ()) ()) := by
 kernel_rfl
theorem zo.r5  : je Try.prog ⟨false, false, false⟩ (zV Try.prog O) (reg Try.f9 5) (reg Try.f9 5).toList ([b,Q,U,V,L,K,M,N,P,R,a,c,d,f,g,i,j,k,l,m,n,o,p,q,r,s,t,u,v,w,x,y,z,A,B,C,D,E,F,G,H,I,J]) S =
  (zO (jM Try.prog BinOp.neq 29 (dem P) (Value.int IntKind.i64 0) S) (fun Y W => some ([b,Q,U,V,L,K,M,N,P,R,a,c,d,f,g,i,j,k,l,m,n,o,p,dem P,Y,s,t,u,v,w,x,y,z,A,B,C,D,E,F,G,H,I,J], W)) ()) := by
 kernel_rfl
theorem zo.r6  : je Try.prog ⟨false, false, false⟩ (zV Try.prog O) (reg Try.f9 6) (reg Try.f9 6).toList ([b,Q,U,V,L,K,M,N,P,R,a,c,d,f,g,i,j,k,l,m,n,o,p,q,r,s,t,u,v,w,x,y,z,A,B,C,D,E,F,G,H,I,J]) S =
  (zO ((zV Try.prog O) 29 [(dem (dem M))] S) (fun Y W => zO (zC Y 0 W) (fun X Z => zO (zC (zK 0 Y) 1 Z) (fun v4 S3 => zO (y8 Try.prog 28 S3) (fun v5 S4 => zO (qm Try.prog 28 v5 (dem X) S4) (fun v6 S5 => some ([b,Q,U,V,L,K,M,N,P,v5,v4,c,d,f,g,i,j,k,l,m,n,o,p,q,r,zK 1 (zK 0 Y),dem M,dem Y,X,dem v4,x,y,z,A,B,C,D,E,F,G,H,I,J], S5)) ()) ()) ()) ()) ()) := by
 kernel_rfl
theorem zo.r7  : je Try.prog ⟨false, false, false⟩ (zV Try.prog O) (reg Try.f9 7) (reg Try.f9 7).toList ([b,Q,U,V,L,K,M,N,P,R,a,c,d,f,g,i,j,k,l,m,n,o,p,q,r,s,t,u,v,w,x,y,z,A,B,C,D,E,F,G,H,I,J]) S =
  (zO (aUn Try.prog UnOp.not (dem a) S) (fun Y W => some ([b,Q,U,V,L,K,M,N,P,R,a,c,d,f,g,i,j,k,l,m,n,o,p,q,r,s,t,u,v,w,dem a,Y,z,A,B,C,D,E,F,G,H,I,J], W)) ()) := by
 kernel_rfl
theorem zo.r8  : je Try.prog ⟨false, false, false⟩ (zV Try.prog O) (reg Try.f9 8) (reg Try.f9 8).toList ([b,Q,U,V,L,K,M,N,P,R,a,c,d,f,g,i,j,k,l,m,n,o,p,q,r,s,t,u,v,w,x,y,z,A,B,C,D,E,F,G,H,I,J]) S =
  (zO (ji Try.prog false 28 R S) (fun Y W => zO (zW Try.prog 22 1 [(0, Y)] W) (fun v2 Z => zO (jl Try.prog 22 22 L v2 Z) (fun X S3 => some ([b,Q,U,V,X,K,M,N,P,R,a,c,d,f,g,i,j,k,l,m,n,o,p,q,r,s,t,u,v,w,x,y,dem L,Y,v2,dem X,D,E,F,G,H,I,J], S3)) ()) ()) ()) := by
 kernel_rfl
theorem zo.r9  : je Try.prog ⟨false, false, false⟩ (zV Try.prog O) (reg Try.f9 9) (reg Try.f9 9).toList ([b,Q,U,V,L,K,M,N,P,R,a,c,d,f,g,i,j,k,l,m,n,o,p,q,r,s,t,u,v,w,x,y,z,A,B,C,D,E,F,G,H,I,J]) S =
  (zO (qA Try.prog 26 (dem b) S) (fun Y W => zO (qA Try.prog 26 (dem N) W) (fun X Z => zO (jM Try.prog BinOp.sub 3 Y X Z) (fun v4 S3 => some ([b,Q,U,V,L,v4,M,N,P,R,a,c,d,f,g,i,j,k,l,m,n,o,p,q,r,s,t,u,v,w,x,y,z,A,B,C,dem b,Y,dem N,X,dem v4,I,J], S3)) ()) ()) ()) := by
 kernel_rfl
theorem zo.r10  : je Try.prog ⟨false, false, false⟩ (zV Try.prog O) (reg Try.f9 10) (reg Try.f9 10).toList ([b,Q,U,V,L,K,M,N,P,R,a,c,d,f,g,i,j,k,l,m,n,o,p,q,r,s,t,u,v,w,x,y,z,A,B,C,D,E,F,G,H,I,J]) S =
  ( some ([b,Q,L,K,dem L,dem K,M,N,P,R,a,c,d,f,g,i,j,k,l,m,n,o,p,q,r,s,t,u,v,w,x,y,z,A,B,C,D,E,F,G,H,dem L,dem K], S)) := by
 kernel_rfl
theorem zo.rs : type_of% (And.intro @zo.r0 (And.intro @zo.r1 (And.intro @zo.r2 (And.intro @zo.r3 (And.intro @zo.r4 (And.intro @zo.r5 (And.intro @zo.r6 (And.intro @zo.r7 (And.intro @zo.r8 (And.intro @zo.r9 (@zo.r10))))))))))) := And.intro @zo.r0 (And.intro @zo.r1 (And.intro @zo.r2 (And.intro @zo.r3 (And.intro @zo.r4 (And.intro @zo.r5 (And.intro @zo.r6 (And.intro @zo.r7 (And.intro @zo.r8 (And.intro @zo.r9 (@zo.r10))))))))))
theorem zo.runs {b : Value} {S W : zi} {e : AEx} {T : List Value} (h : zD Try.prog O false zo.code ([b,undef,undef,undef,undef,undef,undef,undef,undef,undef,undef,undef,undef,undef,undef,undef,undef,undef,undef,undef,undef,undef,undef,undef,undef,undef,undef,undef,undef,undef,undef,undef,undef,undef,undef,undef,undef,undef,undef,undef,undef,undef,undef]) zi.empty = some (e, T, W)) (he : e = .normal ∨ e = .ret)  (h0 : jg (T.getD 2 undef) = true) (h1 : jg (T.getD 3 undef) = true) (hca : [b].all (jf 16) = true) (hcv : jf 16 (Value.tuple #[T.getD 2 undef, T.getD 3 undef]) = true) : zV Try.prog O 9 [b] S = some (Value.tuple #[T.getD 2 undef, T.getD 3 undef], S) :=
 kX rfl rfl Try.func9 (by decide) zo.body (by exact h) he ((yK ((show zN Try.prog T W Try.f9.results.toList = zN Try.prog T W [(ResultVar.tmp 2), (ResultVar.tmp 3)] from by kernel_rfl).trans (by simp only [zN])) (by kernel_rfl) (by simp only [List.all_cons, List.all_nil, h0, h1, Bool.and_true])).trans rfl) hca hcv
end Go.Proofs.Ytblpnklfimkfoaa
