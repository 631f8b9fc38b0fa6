/-
The interpreter over an abstract heap, and what it says of the program's runs: part ValB.
-/
import Derived.Test.YtooljmmlekmkeaaValA
import Derived.KernelRfl
set_option linter.unusedVariables false
set_option linter.unusedSimpArgs false
/-
Calls; every step; regions in the text's order.
-/
namespace Go.Abs
open Go.RowKit

/-- Calls of the value interpreter are the interpreter's calls. -/
def VCall (P : Program) (call : FuncId → List Value → M Value) : Prop := ∀ g args aargs S v S', call g args S = some (v, S') → ∀ μ H ω, GI μ S H → L0 μ H args aargs → Dom μ H ω → (∀ r s, ω r = some s → s = .ext) →
  ∃ a H' μ' ω', lim P g aargs H = some (a, H') ∧ GI μ' S' H' ∧ Later μ H μ' H' ∧ Kept ω H ω' H' ∧ Dom μ' H' ω' ∧ VV μ' H' ω' (some (.res none)) v a

section
variable {P : Program} {call : FuncId → List Value → M Value} {μ : Mu} {ω : Nat → Option Spot} {S S' H : AHeap} {T A : List Value}

theorem call_out (hc : VCall P call) {g : FuncId} {args aargs : List Value} {v : Value} (hG : GI μ S H) (hT : TI μ H ω T A) (h : call g args S = some (v, S')) (ha : L0 μ H args aargs) : Out μ ω H A T S' v (lim P g aargs H) := by
  obtain ⟨a, H', μ', ω', h1, h2, h3, h4, h5, h6⟩ := hc g args aargs S v S' h μ H (fun r => (ω r).map fun _ => .ext) hG ha (fun r s hs => by
    cases hr : ω r with
    | none => simp [hr] at hs
    | some s0 => exact hT.dom r s0 hr) (fun r s hs => by
    cases hr : ω r with
    | none => simp [hr] at hs
    | some s0 => simp [hr] at hs; exact hs.symm)
  have kept : ∀ r s, ω r = some s → ω' r = some .ext ∧ H'.get r = H.get r := fun r s hs => h4 r (by dsimp only; rw [hs]; rfl)
  refine ⟨a, H', μ', fun r => match ω' r with | some .ext => ω r | some (.slot _ _) => none | x => x, h1, h2, h3, fun r hr => ?_, fun r s hs => ?_, hT.len, fun i => ?_, ?_⟩
  · obtain ⟨k1, k2⟩ := kept r _ hr
    exact ⟨by (try dsimp only); rw [k1]; exact hr, k2⟩
  · dsimp only at hs
    cases hr : ω' r with
    | none => rw [hr] at hs; cases hs
    | some s0 =>
      have := h5 r s0 hr
      exact this
  · refine (hT.slots i).later h3 (K := fun _ => True) (fun _ _ _ _ _ => trivial) (fun r s _ hr => ?_) (fun _ _ => trivial)
    obtain ⟨k1, k2⟩ := kept r s hr
    exact ⟨by (try dsimp only); rw [k1]; exact hr, k2⟩
  · refine h6.later (Later.refl _ _) (K := fun s => ∃ j, s = .res j) (fun s i t ⟨j, hj⟩ ht => by subst hj; cases j <;> cases ht; exact ⟨_, rfl⟩) (fun r s ⟨j, hj⟩ hr => ?_) (fun s hs => by cases hs; exact ⟨_, rfl⟩)
    subst hj
    exact ⟨by (try dsimp only); rw [hr], rfl⟩

def freeSlot (t : Nat) : Spot → Option Spot
  | .slot i j => if i = t then some (.res j) else some (.slot i j)
  | s => some s
def freePart (t k : Nat) : Spot → Option Spot
  | .slot i (some j) => if i = t ∧ j = k then some (.res none) else some (.slot i (some j))
  | s => some s

theorem move_out {x : Operand} (hG : GI μ S H) (hT : TI μ H ω T A) (hx : okArg x = true) : Out μ ω H A (demOperand T x) S (evalT T x) (some (evalT A x, H)) := by
  cases x with
  | const v => exact Out.same hG hT (VV.ground_refl hx)
  | global g => cases hx
  | func f => exact Out.same hG hT (hT.eval (x := .func f) rfl)
  | tmp t =>
    refine ⟨_, H, μ, fun r => (ω r).bind (freeSlot t), rfl, hG, Later.refl μ H, fun r hr => ⟨by dsimp only; rw [hr]; rfl, rfl⟩, fun r s hs => ?_, by simp [demOperand, demSlot, hT.len], fun i => ?_, ?_⟩
    · dsimp only at hs
      cases hr : ω r with
      | none => rw [hr] at hs; cases hs
      | some s0 => exact hT.dom r s0 hr
    · dsimp only [demOperand, demSlot]
      rw [getD_set]
      by_cases hi : i = t
      · subst hi
        by_cases hlt : i < T.length
        · rw [if_pos ⟨rfl, hlt⟩]
          exact (hT.slots i).v0.at0
        · rw [if_neg (fun h => hlt h.2)]
          rw [List.getD_eq_getElem?_getD, List.getElem?_eq_none (Nat.le_of_not_lt hlt), List.getD_eq_getElem?_getD, List.getElem?_eq_none (by rw [← hT.len]; omega)]
          exact .nores
      · rw [if_neg (fun h => hi h.1)]
        refine (hT.slots i).reloc (fun _ => rfl) _ (fun s hs => ?_)
        cases hs
        refine ⟨_, rfl, by simp only [freeSlot]; rw [if_neg hi], fun k t' ht => ?_⟩
        cases ht
        exact ⟨_, rfl, by simp only [freeSlot]; rw [if_neg hi]⟩
    · refine (hT.slots t).reloc (fun _ => rfl) _ (fun s hs => ?_)
      cases hs
      refine ⟨_, rfl, by simp only [freeSlot, if_true], fun k t' ht => ?_⟩
      cases ht
      exact ⟨_, rfl, by simp only [freeSlot, if_true]⟩

theorem getD_modify (vs : Array Value) (i k : Nat) (f : Value → Value) (hf : f undef = undef) : (vs.modify i f).getD k undef = if k = i then f (vs.getD k undef) else vs.getD k undef := by
  rw [Array.getD_eq_getD_getElem?, Array.getD_eq_getD_getElem?, Array.getElem?_modify]
  by_cases h : i = k
  · subst h
    rw [if_pos rfl, if_pos rfl]
    cases vs[i]? with
    | none => exact hf.symm
    | some v => rfl
  · rw [if_neg h, if_neg (fun e => h e.symm)]

theorem VV.part {ω' : Nat → Option Spot} {ℓ ℓ' : Option Spot} {v a : Value} (h : VV μ H ω ℓ v a) (hℓ : ∀ s, ℓ = some s → ∀ k, s.comp k = none) : VV μ H ω' ℓ' (Go.Abs.dem1 v) a := by
  by_cases ht : ∃ x, v = .tuple x
  · obtain ⟨x, rfl⟩ := ht
    show VV μ H ω' ℓ' (.tuple x) a
    cases h with
    | sg hs => simp [Go.Abs.sg] at hs
    | nores => exact .nores
    | tuple hx hh =>
      refine .tuple hx fun i => ?_
      have := hh i
      cases ℓ with
      | none => exact this.at0
      | some s =>
        have e : (some s).bind (·.comp i) = none := hℓ s rfl i
        rw [e] at this
        exact this.at0
  · have e : Go.Abs.dem v = Go.Abs.dem1 v := by
      cases v <;> first | rfl | exact absurd ⟨_, rfl⟩ ht
    rw [← e]
    exact h.v0.at0
def extOperand (T : List Value) (i : Nat) : Operand → List Value
  | .tmp t => T.set t (demPart i (T.getD t undef))
  | _ => T
theorem extract_out {x : Operand} {i : Nat} {v : Value} (hG : GI μ S H) (hT : TI μ H ω T A) (hx : okArg x = true) (h : aExtract (evalT T x) i S = some (v, S')) :
    Out μ ω H A (extOperand T i x) S' v (aExtract (evalT A x) i H) := by
  cases x with
  | const w =>
    exfalso
    unfold aExtract at h
    split at h
    · rename_i vs he
      simp only [evalT] at he
      subst he
      simp [okArg, ground, Go.Abs.sg] at hx
    · cases h
  | global g => cases hx
  | func f => simp [evalT, aExtract] at h
  | tmp t =>
    simp only [evalT, extOperand] at h ⊢
    unfold aExtract at h
    split at h
    · rename_i vs hvs
      split at h <;> first | (cases h; done) | skip
      rename_i w hw
      cases h
      have hs := hT.slots t
      rw [hvs] at hs
      have hil : i < vs.size := (Array.getElem?_eq_some_iff.1 hw).1
      have hlt : t < T.length := by
        rcases Nat.lt_or_ge t T.length with h | h
        · exact h
        · rw [List.getD_eq_getElem?_getD, List.getElem?_eq_none h] at hvs
          cases hvs
          simp at hil
      generalize hA : A.getD t undef = at' at hs
      cases hs with
      | sg hs => simp [Go.Abs.sg] at hs
      | nores => simp at hil
      | @tuple _ _ y hxs hxx =>
        have hiy : i < y.size := by rw [← hxs]; exact hil
        have hrun : aExtract (.tuple y) i H = some (y[i], H) := by simp only [aExtract, Array.getElem?_eq_getElem hiy]
        rw [hrun]
        have hcomp := hxx i
        rw [Array.getD_eq_getD_getElem?, hw, Array.getD_eq_getD_getElem?, Array.getElem?_eq_getElem hiy] at hcomp
        simp only [Option.getD_some] at hcomp
        refine ⟨_, H, μ, fun r => (ω r).bind (freePart t i), rfl, hG, Later.refl μ H, fun r hr => ⟨by dsimp only; rw [hr]; rfl, rfl⟩, fun r s hs => ?_, by simp [hT.len], fun k => ?_, ?_⟩
        · dsimp only at hs
          cases hr : ω r with
          | none => rw [hr] at hs; cases hs
          | some s0 => exact hT.dom r s0 hr
        · rw [getD_set]
          by_cases hk : k = t
          · subst hk
            rw [if_pos ⟨rfl, hlt⟩, hA, hvs]
            simp only [demPart]
            refine .tuple (by simpa using hxs) fun j => ?_
            rw [getD_modify _ _ _ _ rfl]
            by_cases hj : j = i
            · subst hj
              rw [if_pos rfl]
              exact (hxx j).part (fun s hs k => by cases hs; rfl)
            · rw [if_neg hj]
              refine (hxx j).reloc (fun _ => rfl) _ (fun s hs => ?_)
              cases hs
              refine ⟨_, rfl, by simp only [freePart]; rw [if_neg (fun e => hj e.2)], fun a b hb => by cases hb⟩
          · rw [if_neg (fun e => hk e.1)]
            refine (hT.slots k).reloc (fun _ => rfl) _ (fun s hs => ?_)
            cases hs
            refine ⟨_, rfl, rfl, fun a b hb => ?_⟩
            cases hb
            exact ⟨_, rfl, by simp only [freePart]; rw [if_neg (fun e => hk e.1)]⟩
        · refine hcomp.reloc (fun _ => rfl) _ (fun s hs => ?_)
          cases hs
          exact ⟨_, rfl, by simp [freePart], fun a b hb => by cases hb⟩
    · cases h

theorem args_L0 (hT : TI μ H ω T A) : ∀ (xs : List Operand), xs.all okArg = true → L0 μ H (xs.map fun x => dem (evalT T x)) (xs.map (evalT A)) := by
  intro xs h
  exact LV.map fun x hx => hT.eval (List.all_eq_true.1 h x hx)
theorem ground_args {xs : List Operand} (hT : TI μ H ω T A) (h : xs.all okArg = true) (hg : (xs.map (evalT T)).all ground = true) : xs.map (evalT A) = xs.map (evalT T) := by
  apply List.map_congr_left
  intro x hx
  exact ground_of (hT.eval (List.all_eq_true.1 h x hx)) (List.all_eq_true.1 hg _ (List.mem_map.2 ⟨x, hx, rfl⟩))

theorem moved_eq {o : Oper} (h : hands o = false) (hc : ∀ c, o.op ≠ .call c) : moved o T = T := by
  unfold moved
  unfold hands at h
  split <;> first | rfl | (rename_i he; exact absurd he (hc _)) | (rename_i he; rw [he] at h; cases h)

/-- Every step. -/
theorem step_out {fx : Fx} (hc : VCall P call) {o : Oper} {v : Value} (hG : GI μ S H) (hT : TI μ H ω T A) (h : vStep P fx call T o S = some (v, S')) : Out μ ω H A (moved o T) S' v (aStep P (lim P) A o H) := by
  unfold vStep at h
  split at h <;> first | (cases h; done) | skip
  rename_i hok
  unfold aStep
  rw [if_pos hok]
  have hargs : o.op.operands.toList.all okArg = true := hok
  have hev : ∀ x ∈ o.op.operands.toList, V0 μ H (dem (evalT T x)) (evalT A x) := fun x hx => hT.eval (List.all_eq_true.1 hargs x hx)
  have hoka : ∀ x ∈ o.op.operands.toList, okArg x = true := fun x hx => List.all_eq_true.1 hargs x hx
  obtain ⟨dst, op, type, pos, after, guard⟩ := o
  by_cases hcall : ∃ c, op = .call c
  · obtain ⟨c, rfl⟩ := hcall
    dsimp only at h hev hoka hargs ⊢
    have hcargs : c.args.toList.all okArg = true := by
      rw [List.all_eq_true]
      intro x hx
      refine hoka x ?_
      simp only [Op.operands, Call.operands]
      cases c.callee <;> simp <;> first | exact .inr (by simpa using hx) | exact (by simpa using hx)
    cases hcal : c.callee with
    | value f =>
      rw [hcal] at h
      dsimp only at h ⊢
      have hf := hev f (by simp [Op.operands, Call.operands, hcal])
      split at h <;> first | (cases h; done) | skip
      rename_i g first captured hfe
      rw [hfe] at hf
      have hf : V0 μ H (.func (.func g) first captured) (evalT A f) := hf
      generalize hfa : evalT A f = fa at hf
      cases hf with
      | sg hs => simp [Go.Abs.sg] at hs
      | func _ hx hcs h1 h2 =>
        rename_i x' c'
        dsimp only
        have l1 : L0 μ H first.toList x'.toList := ⟨by simpa using hx, fun i => by rw [getD_toList, getD_toList]; exact h1 i⟩
        have l2 : L0 μ H captured.toList c'.toList := ⟨by simpa using hcs, fun i => by rw [getD_toList, getD_toList]; exact h2 i⟩
        have hm : moved ⟨dst, .call c, type, pos, after, guard⟩ T = T := by simp only [moved, hcal]
        rw [hm]
        exact call_out hc hG hT h ((l1.append (args_L0 hT _ hcargs)).append l2)
    | invoke r m => rw [hcal] at h; cases h
    | builtin b =>
      rw [hcal] at h
      dsimp only at h ⊢
      unfold vBuiltin at h
      unfold aBuiltin
      cases b <;> dsimp only at h ⊢ <;> first | (cases h; done) | skip
      case len =>
        split at h <;> first | (cases h; done) | skip
        rename_i t x0 ht ha
        obtain ⟨x, hx, rfl⟩ : ∃ x, c.args.toList = [x] ∧ evalT T x = x0 := by
          match hl : c.args.toList with
          | [] => rw [hl] at ha; cases ha
          | [y] => rw [hl] at ha; simp at ha; exact ⟨y, rfl, ha⟩
          | y :: z :: w => rw [hl] at ha; simp at ha
        have hm : moved ⟨dst, .call c, type, pos, after, guard⟩ T = T := by simp only [moved, hcal]
        rw [hm, ht, hx]
        rw [hx] at hcargs
        obtain ⟨rfl, a, h1, h2⟩ := len_sim h (hT.eval (List.all_eq_true.1 hcargs x (by simp)))
        simp only [List.map_cons, List.map_nil]
        rw [h1]
        exact Out.same hG hT h2
      case append =>
        split at h <;> first | (cases h; done) | skip
        rename_i t tx s0 x0 ht ha
        obtain ⟨so, x, hx, rfl, rfl⟩ : ∃ so x, c.args.toList = [so, x] ∧ evalT T so = s0 ∧ evalT T x = x0 := by
          match hl : c.args.toList with
          | [] => rw [hl] at ha; cases ha
          | [y] => rw [hl] at ha; simp at ha
          | [y, z] => rw [hl] at ha; simp at ha; exact ⟨y, z, rfl, ha.1, ha.2⟩
          | y :: z :: w :: u => rw [hl] at ha; simp at ha
        rw [hx] at hcargs
        have hso := List.all_eq_true.1 hcargs so (by simp)
        have hm : moved ⟨dst, .call c, type, pos, after, guard⟩ T = demOperand T so := by
          simp only [moved, hcal, hx]
          cases so <;> rfl
        rw [hm, ht, hx]
        exact append_out hG hT hso h (hT.eval (List.all_eq_true.1 hcargs x (by simp)))
      case copy =>
        split at h <;> first | (cases h; done) | skip
        rename_i t tx s0 x0 ht ha
        obtain ⟨so, x, hx, rfl, rfl⟩ : ∃ so x, c.args.toList = [so, x] ∧ evalT T so = s0 ∧ evalT T x = x0 := by
          match hl : c.args.toList with
          | [] => rw [hl] at ha; cases ha
          | [y] => rw [hl] at ha; simp at ha
          | [y, z] => rw [hl] at ha; simp at ha; exact ⟨y, z, rfl, ha.1, ha.2⟩
          | y :: z :: w :: u => rw [hl] at ha; simp at ha
        rw [hx] at hcargs
        have hm : moved ⟨dst, .call c, type, pos, after, guard⟩ T = T := by simp only [moved, hcal]
        rw [hm, ht, hx]
        exact copy_out hG hT h (hT.eval (List.all_eq_true.1 hcargs so (by simp))) (hT.eval (List.all_eq_true.1 hcargs x (by simp)))
      case clear =>
        split at h <;> first | (cases h; done) | skip
        rename_i t x0 ht ha
        obtain ⟨x, hx, rfl⟩ : ∃ x, c.args.toList = [x] ∧ evalT T x = x0 := by
          match hl : c.args.toList with
          | [] => rw [hl] at ha; cases ha
          | [y] => rw [hl] at ha; simp at ha; exact ⟨y, rfl, ha⟩
          | y :: z :: w => rw [hl] at ha; simp at ha
        have hm : moved ⟨dst, .call c, type, pos, after, guard⟩ T = T := by simp only [moved, hcal]
        rw [hm, ht, hx]
        rw [hx] at hcargs
        exact clear_out hG hT h (hT.eval (List.all_eq_true.1 hcargs x (by simp)))
      case min =>
        obtain ⟨rfl, hg, hga, hh⟩ := ground_sim (H := H) h
        have hm : moved ⟨dst, .call c, type, pos, after, guard⟩ T = T := by simp only [moved, hcal]
        rw [hm, ground_args hT hcargs hga, hh]
        exact Out.same hG hT (V0.ground hg)
      case max =>
        obtain ⟨rfl, hg, hga, hh⟩ := ground_sim (H := H) h
        have hm : moved ⟨dst, .call c, type, pos, after, guard⟩ T = T := by simp only [moved, hcal]
        rw [hm, ground_args hT hcargs hga, hh]
        exact Out.same hG hT (V0.ground hg)
  · have hnc : ∀ c, op ≠ .call c := fun c hc => hcall ⟨c, hc⟩
    have hV : vOp P fx (evalT T) ⟨dst, op, type, pos, after, guard⟩ S = some (v, S') := by
      cases op <;> first | exact h | exact absurd rfl (hnc _)
    suffices hs : Out μ ω H A (moved ⟨dst, op, type, pos, after, guard⟩ T) S' v (aOp P (evalT A) ⟨dst, op, type, pos, after, guard⟩ H) by
      cases op <;> first | exact hs | exact absurd rfl (hnc _)
    by_cases hh : hands ⟨dst, op, type, pos, after, guard⟩ = true
    · cases op <;> first | (cases hh; done) | skip
      case move x =>
        cases hV
        have := move_out hG hT (hoka x (by simp [Op.operands]))
        have hm : moved ⟨dst, .move x, type, pos, after, guard⟩ T = demOperand T x := by cases x <;> rfl
        rw [hm]; exact this
      case assign x =>
        cases hV
        have := move_out hG hT (hoka x (by simp [Op.operands]))
        have hm : moved ⟨dst, .assign x, type, pos, after, guard⟩ T = demOperand T x := by cases x <;> rfl
        rw [hm]; exact this
      case extract x i =>
        have := extract_out hG hT (hoka x (by simp [Op.operands])) hV
        have hm : moved ⟨dst, .extract x i, type, pos, after, guard⟩ T = (extOperand T i x) := by cases x <;> rfl
        rw [hm]; exact this
    · have hh : hands ⟨dst, op, type, pos, after, guard⟩ = false := by simpa using hh
      rw [moved_eq hh hnc]
      by_cases hch : isCh P ⟨dst, op, type, pos, after, guard⟩ = false
      · obtain ⟨rfl, a, h1, h2, h3⟩ := op_sim hV hch hev (.inr hG) (.inr hG)
        rw [h1]
        exact Out.same hG hT (h3 hh)
      · unfold vOp at hV
        unfold aOp
        cases op <;> dsimp only at hV hev ⊢ <;> first | (cases hV; done) | (exact absurd rfl hch) | (cases hh; done) | skip
        case alloc e => exact alloc_out hG hT hV
        case box x _ => exact box_out hG hT hV (hev x (by simp [Op.operands]))
        case buildSlice t len parts _ =>
          have hps := parts_sim (μ := μ) (H := H) (parts := parts.toList) (ρ := evalT T) (ρA := evalT A) fun p hp => hev p.2 (by simp [Op.operands]; exact ⟨p.1, by simpa using hp⟩)
          split at hV
          · exact buildMem_out hG hT hV hps
          · exact buildSlice_out hG hT hV hps
        case makeMap t r _ => exact makeMap_out hG hT hV (fun h => by cases r <;> simp at h ⊢)
        case mapUpdate t x k w _ => exact mapUpdate_out hG hT hV (hev x (by simp [Op.operands])) (hev k (by simp [Op.operands])) (hev w (by simp [Op.operands]))
        case store a x _ => exact store_out hG hT hV (hev a (by simp [Op.operands])) (hev x (by simp [Op.operands]))
        case makeSlice l c _ =>
          split at hV
          · exact makeMem_out hG hT hV (hev l (by simp [Op.operands])) (hev c (by simp [Op.operands]))
          · exact makeSlice_out hG hT hV (hev l (by simp [Op.operands])) (hev c (by simp [Op.operands]))
        case convert dst' x _ =>
          have hd : ∃ e, P.underlying dst' = some (.slice e) := by
            unfold isCh at hch
            dsimp only at hch
            split at hch
            · exact ⟨_, by assumption⟩
            · exact absurd rfl hch
          obtain ⟨e, hd⟩ := hd
          cases x with
          | tmp t => exact convF_out hG hT hV (hT.slots t) hd
          | const w => exact convF_out hG hT hV (VV.ground_refl (ℓ := none) (hoka (.const w) (by simp [Op.operands]))) hd
          | global g => have := hoka (.global g) (by simp [Op.operands]); cases this
          | func f => exact convF_out hG hT hV (ℓ := none) ((hT.eval (x := .func f) rfl).at0) hd

theorem ynd_sim {ops : Array Oper} (hT : TI μ H ω T A) (j : Nat) : ynd ops T j = ynd ops A j := by
  unfold ynd
  cases hd : (ops[j]?).bind (·.dst) with
  | none => rfl
  | some d =>
    simp only [Option.bind_some]
    have := hT.slots d
    have e := hT.len
    by_cases hlt : d < T.length
    · have hlt' : d < A.length := by rw [← e]; exact hlt
      simp only [List.getD_eq_getElem?_getD, List.getElem?_eq_getElem hlt, List.getElem?_eq_getElem hlt', Option.getD_some] at this
      rw [List.getElem?_eq_getElem hlt, List.getElem?_eq_getElem hlt']
      generalize T[d] = u at *
      generalize A[d] = u' at *
      cases this <;> rfl
    · have hlt' : A.length ≤ d := by rw [← e]; exact Nat.le_of_not_lt hlt
      rw [List.getElem?_eq_none (Nat.le_of_not_lt hlt), List.getElem?_eq_none hlt']

theorem TI.moved (hT : TI μ H ω T A) (o : Oper) : TI μ H ω (moved o T) A := by
  have slot : ∀ t, TI μ H ω (demSlot T t) A := by
    intro t
    refine ⟨by simp [demSlot, hT.len], fun i => ?_, hT.dom, hT.nores⟩
    rw [demSlot, getD_set]
    split
    · rename_i h; rw [h.1]; exact (hT.slots t).dem
    · exact hT.slots i
  unfold Go.Abs.moved
  split
  · exact slot _
  · exact slot _
  · rename_i t i _
    refine ⟨by simp [hT.len], fun k => ?_, hT.dom, hT.nores⟩
    rw [getD_set]
    split
    · rename_i h
      rw [h.1]
      have := hT.slots t
      generalize T.getD t undef = w at this
      cases w with
      | tuple vs =>
        simp only [demPart]
        generalize A.getD t undef = a at this
        cases this with
        | sg hs => simp [Go.Abs.sg] at hs
        | nores => rw [show (#[] : Array Value).modify i Go.Abs.dem1 = #[] by simp]; exact .nores
        | @tuple _ _ y hxs hxx =>
          refine .tuple (by simpa using hxs) fun j => ?_
          rw [getD_modify _ _ _ _ rfl]
          by_cases hj : j = i
          · subst hj
            rw [if_pos rfl]
            exact (hxx j).part (fun s hs k => by cases hs; rfl)
          · rw [if_neg hj]; exact hxx j
      | _ => exact this
    · exact hT.slots k
  · split
    · exact slot _
    · exact hT
  · exact hT

/-- What stands behind a run. -/
def After (μ : Mu) (ω : Nat → Option Spot) (H : AHeap) (T' : List Value) (S' : AHeap) (R : Option (List Value × AHeap)) : Prop :=
  ∃ A' H' μ' ω', R = some (A', H') ∧ GI μ' S' H' ∧ Later μ H μ' H' ∧ Kept ω H ω' H' ∧ TI μ' H' ω' T' A'

/-- A step, and its result in its slot. -/
theorem step_put {fx : Fx} (hc : VCall P call) {o : Oper} {rest : List Oper} {v : Value} (hG : GI μ S H) (hT : TI μ H ω T A) (h : vStep P fx call T o S = some (v, S')) :
    ∃ a H' μ' ω', aStep P (lim P) A o H = some (a, H') ∧ GI μ' S' H' ∧ Later μ H μ' H' ∧ Kept ω H ω' H' ∧ TI μ' H' ω' (vPut o rest T v) (putT A o.dst a) := by
  unfold vPut
  split
  · rename_i hl
    have hm : ∃ x, o.op = .move x := by
      unfold lent at hl
      split at hl
      · rename_i x _ he _; exact ⟨x, he⟩
      · cases hl
    obtain ⟨x, hx⟩ := hm
    unfold vStep at h
    split at h <;> first | (cases h; done) | skip
    rename_i hok
    have hox : okArg x = true := List.all_eq_true.1 (show o.op.operands.toList.all okArg = true from hok) x (by rw [hx]; simp [Op.operands])
    rw [hx] at h
    dsimp only at h
    unfold vOp at h
    rw [hx] at h
    cases h
    have ha : aStep P (lim P) A o H = some (evalT A x, H) := by
      unfold aStep
      rw [if_pos hok, hx]
      dsimp only
      unfold aOp
      rw [hx]
      rfl
    rw [ha]
    exact (Out.same hG hT (hT.eval hox)).put o.dst
  · exact (step_out hc hG hT h).put o.dst
theorem unwanted_put {o : Oper} {rest : List Oper} (hG : GI μ S H) (hT : TI μ H ω T A) : ∃ μ' ω', GI μ' S H ∧ Later μ H μ' H ∧ Kept ω H ω' H ∧ TI μ' H ω' (vPut o rest T undef) (putT A o.dst undef) := by
  unfold vPut
  split
  · rw [show dem undef = undef from dem_nores]
    obtain ⟨a, H1, μ1, ω1, h1, h2, h3, h4, h5⟩ := (Out.same hG hT (VV.undef)).put o.dst
    cases h1
    exact ⟨μ1, ω1, h2, h3, h4, h5⟩
  · obtain ⟨a, H1, μ1, ω1, h1, h2, h3, h4, h5⟩ := (Out.same hG (hT.moved o) (VV.undef)).put o.dst
    cases h1
    exact ⟨μ1, ω1, h2, h3, h4, h5⟩

theorem ops_out {fx : Fx} (hc : VCall P call) {ops : Array Oper} : ∀ (l : List Oper) (T T' A : List Value) (S S' H : AHeap) (μ : Mu) (ω : Nat → Option Spot), vOps P fx call ops l T S = some (T', S') → GI μ S H → TI μ H ω T A → After μ ω H T' S' (aOps P (lim P) ops l A H) := by
  intro l
  induction l with
  | nil =>
    intro T T' A S S' H μ ω h hG hT
    simp only [vOps, Option.some.injEq, Prod.mk.injEq] at h
    obtain ⟨rfl, rfl⟩ := h
    exact ⟨A, H, μ, ω, rfl, hG, Later.refl _ _, Kept.refl _ _, hT⟩
  | cons o l ih =>
    intro T T' A S S' H μ ω h hG hT
    have hy : (ynd ops T) = ynd ops A := funext fun j => ynd_sim hT j
    simp only [vOps] at h
    simp only [aOps, ← hy]
    split at h
    · rename_i hw
      split at h
      · rename_i v S1 hs
        obtain ⟨a, H1, μ1, ω1, h1, h2, h3, h4, h5⟩ := step_put (rest := l) hc hG hT hs
        obtain ⟨A2, H2, μ2, ω2, k1, k2, k3, k4, k5⟩ := ih _ _ _ _ _ _ _ _ h h2 h5
        refine ⟨A2, H2, μ2, ω2, ?_, k2, h3.trans k3, h4.trans k4, k5⟩
        rw [if_pos hw, h1]
        exact k1
      · cases h
    · rename_i hw
      obtain ⟨μ1, ω1, h2, h3, h4, h5⟩ := unwanted_put (o := o) (rest := l) hG hT
      obtain ⟨A2, H2, μ2, ω2, k1, k2, k3, k4, k5⟩ := ih _ _ _ _ _ _ _ _ h h2 h5
      refine ⟨A2, H2, μ2, ω2, ?_, k2, h3.trans k3, h4.trans k4, k5⟩
      rw [if_neg hw]
      exact k1
end
end Go.Abs

/-
Regions that draw their order: what the text's order answers is what they answer.
-/
namespace Go.Abs
open Go.RowKit

section
variable {P : Program} {call : FuncId → List Value → M Value} {μ μ2 : Mu} {S S' G H H2 : AHeap} {T A : List Value}

theorem HFree.two {s : M Value} (hs : HFree s) {a : Value} {G' : AHeap} (h : s G = some (a, G')) : ∀ H, s H = some (a, H) := by
  obtain ⟨o, ho⟩ := hs
  rw [ho] at h
  cases o with
  | none => cases h
  | some w =>
    simp only [Option.map_some, Option.some.injEq, Prod.mk.injEq] at h
    intro H
    rw [ho, h.1]; rfl
theorem hfree_build {t : TypeId} {ps : List (Nat × Value)} : HFree (aBuild P t ps) := by
  refine ⟨(aBuild P t ps AHeap.empty).map (·.1), fun H => ?_⟩
  unfold aBuild
  split
  · split
    · split
      · split
        · split <;> rfl
        · rfl
      · split
        · split <;> rfl
        · rfl
      · rfl
    · rfl
  · rfl
theorem hfree_nilCheck {x : Value} : HFree (aNilCheck x) := by
  refine ⟨(aNilCheck x AHeap.empty).map (·.1), fun H => ?_⟩
  unfold aNilCheck
  split <;> rfl
theorem hfree_index {t : TypeId} {x i : Value} : HFree (aIndex P t x i) := by
  unfold aIndex
  refine ⟨(aIndex P t x i AHeap.empty).map (·.1), fun H => ?_⟩
  unfold aIndex
  dsimp only
  split
  · split
    · split
      · split <;> rfl
      · rfl
    · rfl
  · obtain ⟨o, ho⟩ := hfree_ground (P := P) _ _
    rw [ho, ho]
    cases o <;> rfl
  · rfl
theorem hfree_len {t : TypeId} {x : Value} (hx : ∀ m, x ≠ .map m) : HFree (aLen P t x) := by
  refine ⟨(aLen P t x AHeap.empty).map (·.1), fun H => ?_⟩
  unfold aLen
  split <;> first | rfl | exact absurd rfl (hx _)

theorem okq_dem {d : Nat} {v : Value} (h : okq d v = true) : okq d (dem v) = true := by
  cases v with
  | iface k v => cases d <;> rfl
  | tuple vs => cases d <;> cases h
  | _ => exact h
theorem okq_veq : ∀ (d : Nat) {v a : Value}, okq d v = true → V0 μ H v a → veqN d a a = true := by
  intro d
  induction d with
  | zero =>
    intro v a h hv
    cases hv <;> first | (cases h; done) | (simp [veqN]; done) | skip
    rename_i hs
    cases v <;> first | (simp [veqN]; done) | (simp [Go.Abs.sg] at hs; done) | skip
  | succ d ih =>
    intro v a h hv
    cases hv <;> first | (cases h; done) | (simp [veqN]; done) | skip
    · rename_i hs
      cases v <;> first | (simp [veqN]; done) | (simp [Go.Abs.sg] at hs; done) | skip
    · rename_i x x' hx hh
      unfold veqN
      simp only [decide_true, Bool.true_and]
      rw [List.all_eq_true]
      intro p hp
      obtain ⟨i, hi, he⟩ := List.mem_iff_getElem.1 hp
      simp only [List.length_zip, Nat.min_self] at hi
      rw [List.getElem_zip] at he
      subst he
      have hi' : i < x'.size := by simpa using hi
      have hi2 : i < x.size := by rw [hx]; exact hi'
      have h2 := hh i
      rw [Array.getD_eq_getD_getElem?, Array.getElem?_eq_getElem hi2, Array.getD_eq_getD_getElem?, Array.getElem?_eq_getElem hi'] at h2
      have h3 : okq d x[i] = true := List.all_eq_true.1 (show x.toList.all (okq d) = true from h) _ (by simp)
      have := ih h3 h2
      simpa using this

theorem isHs_dem (x : Value) : isHs (dem x) = isHs x := by cases x <;> rfl
/-- Operations that read nothing answer the same at any time. -/
theorem op_any {fx : Fx} {o : Oper} {v : Value} (hdr : fx.dr = true) (h : vStep P fx call T o S = some (v, S')) (hn : isCh P o = false) (hr : readsHeap o = false) (ho : ∀ x ∈ o.op.operands.toList, V0 μ G (dem (evalT T x)) (evalT A x)) :
    ∃ a, V0 μ G (dem v) a ∧ ∀ H, aOp P (evalT A) o H = some (a, H) ∧ aStep P (lim P) A o H = some (a, H) := by
  have hrm : readsMem o = false := by
    unfold readsHeap at hr
    unfold readsMem
    split <;> simp_all
  unfold vStep at h
  split at h <;> first | (cases h; done) | skip
  rename_i hok
  obtain ⟨dst, op, type, pos, after, guard⟩ := o
  by_cases hcall : ∃ c, op = .call c
  · obtain ⟨c, rfl⟩ := hcall
    dsimp only at h ho
    unfold isCh at hn
    dsimp only at hn
    have hcargs : ∀ x ∈ c.args.toList, V0 μ G (dem (evalT T x)) (evalT A x) := by
      intro x hx
      refine ho x ?_
      simp only [Op.operands, Call.operands]
      cases c.callee <;> simp <;> first | exact .inr (by simpa using hx) | exact (by simpa using hx)
    have step : ∀ {b : Builtin} (a : Value), c.callee = .builtin b → (∀ H, aBuiltin P b c.argTypes type (c.args.toList.map (evalT A)) H = some (a, H)) → ∀ H, aOp P (evalT A) ⟨dst, .call c, type, pos, after, guard⟩ H = some (a, H) ∧ aStep P (lim P) A ⟨dst, .call c, type, pos, after, guard⟩ H = some (a, H) := by
      intro b a hb hall H
      constructor
      · unfold aOp; dsimp only; rw [hb]; exact hall H
      · unfold aStep; rw [if_pos hok]; dsimp only; rw [hb]; exact hall H
    cases hcal : c.callee with
    | value f => rw [hcal] at hn; cases hn
    | invoke r m => rw [hcal] at hn; cases hn
    | builtin b =>
      rw [hcal] at h
      dsimp only at h
      unfold vBuiltin at h
      rw [hcal] at hn
      have gargs : (c.args.toList.map (evalT T)).all ground = true → c.args.toList.map (evalT A) = c.args.toList.map (evalT T) := by
        intro hg
        apply List.map_congr_left
        intro x hx
        exact ground_of (hcargs x hx) (List.all_eq_true.1 hg _ (List.mem_map.2 ⟨x, hx, rfl⟩))
      cases b <;> dsimp only at h hn <;> first | (cases h; done) | (cases hn; done) | skip
      case len =>
        split at h <;> first | (cases h; done) | skip
        rename_i t x0 ht ha
        obtain ⟨x, hx, rfl⟩ : ∃ x, c.args.toList = [x] ∧ evalT T x = x0 := by
          match hl : c.args.toList with
          | [] => rw [hl] at ha; cases ha
          | [y] => rw [hl] at ha; simp at ha; exact ⟨y, rfl, ha⟩
          | y :: z :: w => rw [hl] at ha; simp at ha
        have hxv := hcargs x (by rw [hx]; simp)
        obtain ⟨rfl, a, h1, h2⟩ := len_sim h hxv
        have hmap : ∀ m, evalT A x ≠ .map m := by
          intro m hm
          rw [hm] at hxv
          generalize hu : dem (evalT T x) = u at hxv
          have hum : ∃ m', u = .map m' := by cases hxv <;> exact ⟨_, rfl⟩
          obtain ⟨m', rfl⟩ := hum
          have : evalT T x = .map m' := by
            cases hv : evalT T x <;> rw [hv] at hu <;> simp [dem, dem1] at hu <;> rw [hu]
          rw [this] at h
          simp [vLen] at h
        refine ⟨a, h2.dem, step a hcal fun H => ?_⟩
        unfold aBuiltin
        dsimp only
        rw [ht, hx]
        exact (hfree_len hmap).two h1 H
      case min =>
        obtain ⟨rfl, hg, hga, hh⟩ := ground_sim (H := G) h
        refine ⟨v, (V0.ground hg).dem, step v hcal fun H => ?_⟩
        unfold aBuiltin
        dsimp only
        rw [gargs hga]
        exact (hfree_ground _ _).two hh H
      case max =>
        obtain ⟨rfl, hg, hga, hh⟩ := ground_sim (H := G) h
        refine ⟨v, (V0.ground hg).dem, step v hcal fun H => ?_⟩
        unfold aBuiltin
        dsimp only
        rw [gargs hga]
        exact (hfree_ground _ _).two hh H
  · have hnc : ∀ c, op ≠ .call c := fun c hc => hcall ⟨c, hc⟩
    have hV : vOp P fx (evalT T) ⟨dst, op, type, pos, after, guard⟩ S = some (v, S') := by
      cases op <;> first | exact h | exact absurd rfl (hnc _)
    obtain ⟨rfl, a, h1, h2, h3⟩ := op_sim (ρA := evalT A) hV hn ho (.inl (memFree_of hrm)) (.inl hdr)
    have hA : ∀ H, aStep P (lim P) A ⟨dst, op, type, pos, after, guard⟩ H = aOp P (evalT A) ⟨dst, op, type, pos, after, guard⟩ H := by
      intro H
      unfold aStep
      rw [if_pos hok]
      cases op <;> first | rfl | exact absurd rfl (hnc _)
    refine ⟨a, h2, fun H => ?_⟩
    rw [hA]
    have key : aOp P (evalT A) ⟨dst, op, type, pos, after, guard⟩ H = some (a, H) := by
      have hf : HFree (aOp P (evalT A) ⟨dst, op, type, pos, after, guard⟩) := by
        unfold isCh at hn
        unfold readsHeap at hr
        unfold aOp
        unfold vOp at hV
        cases op <;> dsimp only at hn hr hV ⊢ <;> first | (cases hn; done) | (cases hr; done) | (cases hV; done) | skip
        · exact hfree_ret _
        · exact hfree_ret _
        · exact hfree_pick _ _ _
        · exact hfree_build
        · exact hfree_nilCheck
        · exact hfree_bin _ _ _ _
        · exact hfree_un _ _
        · exact hfree_ret _
        · exact hfree_fieldAddr _ _ _
        · exact hfree_field _ _ _
        · exact hfree_indexAddr _ _ _
        · exact hfree_index
        · exact hfree_extract _ _
      exact hf.two h1 H
    exact ⟨key, key⟩

theorem aLoad_two {t : TypeId} {r o e : Nat} {l : List Value} {own own' : Own} {a : Value} (hg : G.get r = some (.cells l own e)) (hg' : H2.get r = some (.cells l own' e)) (h : aLoad P t (.pointer (some ⟨r, o, none⟩)) G = some (a, G)) :
    aLoad P t (.pointer (some ⟨r, o, none⟩)) H2 = some (a, H2) := by
  simp only [aLoad, hg] at h
  simp only [aLoad, hg']
  (repeat' split at h) <;> first | (cases h; done) | skip
  all_goals simp_all
theorem VV.backed {v : Value} {r o n c : Nat} (h : V0 μ G v (.slice (some ⟨r, o, none⟩) n c)) (hv : isHs v = false) : ∃ l own e, r < G.next ∧ Priv μ r ∧ G.get r = some (.cells l own e) := by
  cases h with
  | sg hs => simp [Go.Abs.sg] at hs
  | slm hm => simp [isHs] at hv
  | sl hr hp hg _ _ _ => exact ⟨_, _, _, hr, hp, hg⟩
theorem aCells_two {x : Value} {n : Nat} {cs : List Value} (hx : ∀ r o n c, x = .slice (some ⟨r, o, none⟩) n c → ∃ l own own' e, G.get r = some (.cells l own e) ∧ H2.get r = some (.cells l own' e)) (h : aCells x n G = some cs) : aCells x n H2 = some cs := by
  unfold aCells at h ⊢
  split at h
  · rename_i r o k c
    obtain ⟨l, own, own', e, hg, hg'⟩ := hx _ _ _ _ rfl
    rw [hg] at h
    rw [hg']
    exact h
  · exact h
  · exact h
  · cases h
theorem aConv_two {src dst : TypeId} {x a : Value} (hd : ∀ e, P.underlying dst ≠ some (.slice e)) (hx : ∀ r o n c, x = .slice (some ⟨r, o, none⟩) n c → ∃ l own own' e, G.get r = some (.cells l own e) ∧ H2.get r = some (.cells l own' e)) (h : aConv P src dst x G = some (a, G)) :
    aConv P src dst x H2 = some (a, H2) := by
  unfold aConv at h ⊢
  split at h
  · rename_i b n c
    (try dsimp only)
    split at h
    · rename_i e hs hdd
      split at h <;> first | (cases h; done) | skip
      rename_i he
      split at h <;> first | (cases h; done) | skip
      rename_i cs hcs
      rw [aCells_two hx hcs]
      (try dsimp only)
      split at h <;> first | (cases h; done) | skip
      rename_i bs hbs
      (try rw [hbs])
      cases h
      rfl
    · rename_i e0 e hs hdd
      exact absurd hdd (hd e)
    · cases h
  · rename_i s
    (try dsimp only)
    split at h
    · rename_i d e hs hdd
      exact absurd hdd (hd e)
    · exact (hfree_ground _ _).two h H2
  · exact (hfree_ground _ _).two h H2
theorem aSlice_two {t : TypeId} {x a : Value} {lo hi : Option Value} (hx : ∀ r o n c, x = .slice (some ⟨r, o, none⟩) n c → ∃ l own own' e, G.get r = some (.cells l own e) ∧ H2.get r = some (.cells l own' e)) (h : aSlice P t x lo hi G = some (a, G)) :
    aSlice P t x lo hi H2 = some (a, H2) := by
  unfold aSlice at h ⊢
  split at h
  · rename_i s hu
    exact (hfree_ground _ _).two h H2
  · rename_i e b n c hu
    (try dsimp only)
    split at h <;> first | (cases h; done) | skip
    rename_i size l hh hs hl hhi
    (try simp only [hs, hl, hhi])
    split at h <;> first | (cases h; done) | skip
    rename_i c0
    split at h <;> first | (cases h; done) | skip
    rename_i c1
    split at h <;> first | (cases h; done) | skip
    rename_i c2
    rw [if_pos c0, if_pos c1, if_pos c2]
    split at h
    · split at h <;> first | (cases h; done) | skip
      rename_i hn
      cases h
      rw [if_pos hn]
    · rename_i r o
      obtain ⟨l2, own, own', e2, hg, hg'⟩ := hx _ _ _ _ rfl
      rw [hg] at h
      rw [hg']
      dsimp only at h ⊢
      split at h <;> first | (cases h; done) | skip
      rename_i he
      rw [if_pos he]
      cases h
      rfl
    · split at h <;> first | (cases h; done) | skip
      rename_i hn
      cases h
      rw [if_pos hn]
    · cases h
  · cases h
theorem aLoad_same {t : TypeId} {r o : Nat} {a : Value} {G' : AHeap} (hg : H2.get r = G.get r) (h : aLoad P t (.pointer (some ⟨r, o, none⟩)) G = some (a, G')) : aLoad P t (.pointer (some ⟨r, o, none⟩)) H2 = some (a, H2) := by
  simp only [aLoad] at h ⊢
  rw [hg]
  (repeat' split at h) <;> first | (cases h; done) | skip
  all_goals simp_all
theorem aLookup_same {t : TypeId} {x k : Value} {ok : Bool} {a : Value} {G' : AHeap} (hg : ∀ r, x = .map (some r) → H2.get r = G.get r) (h : aLookup P t x k ok G = some (a, G')) : aLookup P t x k ok H2 = some (a, H2) := by
  have e : ∀ H : AHeap, aLookup P t x k ok H = (aLookup P t x k ok H).map (fun r => (r.1, H)) := by
    intro H
    unfold aLookup
    (try dsimp only)
    (repeat' split) <;> rfl
  have e2 : (aLookup P t x k ok H2).map (·.1) = (aLookup P t x k ok G).map (·.1) := by
    cases x with
    | map b =>
      cases b with
      | none => unfold aLookup; dsimp only; (repeat' split) <;> rfl
      | some r =>
        unfold aLookup
        dsimp only
        rw [hg r rfl]
        (repeat' split) <;> rfl
    | _ => unfold aLookup; (try dsimp only) <;> (try ((repeat' split) <;> rfl))
  rw [h] at e2
  rw [e H2]
  cases hh : aLookup P t x k ok H2 with
  | none => rw [hh] at e2; cases e2
  | some w =>
    rw [hh] at e2
    simp only [Option.map_some, Option.some.injEq] at e2 ⊢
    rw [e2]
/-- Operations that change nothing answer the same later. -/
theorem op_at {fx : Fx} {o : Oper} {v : Value} (hdr : fx.dr = true) (h : vStep P fx call T o S = some (v, S')) (hn : isCh P o = false) (hm : memFree (evalT T) o) (ho : ∀ x ∈ o.op.operands.toList, V0 μ G (dem (evalT T x)) (evalT A x)) (hL : Later μ G μ2 H2) :
    ∃ a, V0 μ G (dem v) a ∧ aOp P (evalT A) o G = some (a, G) ∧ aOp P (evalT A) o H2 = some (a, H2) ∧ aStep P (lim P) A o G = some (a, G) ∧ aStep P (lim P) A o H2 = some (a, H2) := by
  by_cases hr : readsHeap o = false
  · obtain ⟨a, h1, h2⟩ := op_any hdr h hn hr ho
    exact ⟨a, h1, (h2 G).1, (h2 H2).1, (h2 G).2, (h2 H2).2⟩
  · unfold vStep at h
    split at h <;> first | (cases h; done) | skip
    rename_i hok
    obtain ⟨dst, op, type, pos, after, guard⟩ := o
    unfold readsHeap at hr
    cases op <;> dsimp only at h hr <;> first | (exact absurd rfl hr) | skip
    case load t addr =>
      obtain ⟨rfl, a, h1, h2, h3⟩ := op_sim (ρA := evalT A) h hn ho (.inl hm) (.inl hdr)
      have hA : ∀ H, aStep P (lim P) A ⟨dst, .load t addr, type, pos, after, guard⟩ H = aOp P (evalT A) ⟨dst, .load t addr, type, pos, after, guard⟩ H := fun H => by unfold aStep; rw [if_pos hok]
      have key : aOp P (evalT A) ⟨dst, .load t addr, type, pos, after, guard⟩ H2 = some (a, H2) := by
        have hx := ho addr (by simp [Op.operands])
        have h : vLoad P fx.nm t (evalT T addr) S' = some (v, S') := h
        unfold aOp at h1 ⊢
        dsimp only at h1 ⊢
        unfold vLoad at h
        split at h
        · rename_i k cs he
          split at h <;> first | (cases h; done) | skip
          rename_i hk
          subst hk
          rw [he] at hx
          have hx : V0 μ G (.iface 3 (.agg cs)) (evalT A addr) := hx
          generalize hq : evalT A addr = q at hx h1 ⊢
          cases hx with
          | sg hs => simp [Go.Abs.sg] at hs
          | ep hr hp hg hl hc =>
            obtain ⟨own', hg'⟩ := hL.cells _ _ _ _ hr hp hg
            exact aLoad_two hg hg' h1
        · rename_i ad he
          exact absurd he (hm ad)
        · cases h
      exact ⟨a, h2, h1, key, by rw [hA]; exact h1, by rw [hA]; exact key⟩
    case convert src d x =>
      obtain ⟨rfl, a, h1, h2, h3⟩ := op_sim (ρA := evalT A) h hn ho (.inl hm) (.inl hdr)
      have hA : ∀ H, aStep P (lim P) A ⟨dst, .convert src d x, type, pos, after, guard⟩ H = aOp P (evalT A) ⟨dst, .convert src d x, type, pos, after, guard⟩ H := fun H => by unfold aStep; rw [if_pos hok]
      have key : aOp P (evalT A) ⟨dst, .convert src d x, type, pos, after, guard⟩ H2 = some (a, H2) := by
        have hx := ho x (by simp [Op.operands])
        unfold aOp at h1 ⊢
        dsimp only at h1 ⊢
        refine aConv_two (fun e he => ?_) (fun r o n c hq => ?_) h1
        · unfold isCh at hn
          dsimp only at hn
          rw [he] at hn; cases hn
        · rw [hq] at hx
          have hh : isHs (dem (evalT T x)) = false := by
            rw [isHs_dem]
            have h : vConvF P fx.hp fx.dr src d (evalT T x) S' = some (v, S') := h
            unfold vConvF at h
            split at h
            · first | (cases h; done) | (rw [hdr] at h; simp at h)
            · rename_i hh; simpa using hh
          obtain ⟨l, own, e, hr, hp, hg⟩ := hx.backed hh
          obtain ⟨own', hg'⟩ := hL.cells _ _ _ _ hr hp hg
          exact ⟨l, own, own', e, hg, hg'⟩
      exact ⟨a, h2, h1, key, by rw [hA]; exact h1, by rw [hA]; exact key⟩
    case slice t x lo hi mx =>
      obtain ⟨rfl, a, h1, h2, h3⟩ := op_sim (ρA := evalT A) h hn ho (.inl hm) (.inl hdr)
      have hA : ∀ H, aStep P (lim P) A ⟨dst, .slice t x lo hi mx, type, pos, after, guard⟩ H = aOp P (evalT A) ⟨dst, .slice t x lo hi mx, type, pos, after, guard⟩ H := fun H => by unfold aStep; rw [if_pos hok]
      have key : aOp P (evalT A) ⟨dst, .slice t x lo hi mx, type, pos, after, guard⟩ H2 = some (a, H2) := by
        have hx := ho x (by simp [Op.operands])
        unfold aOp at h1 ⊢
        cases mx with
        | some m => cases h1
        | none =>
          dsimp only at h1 ⊢
          refine aSlice_two (fun r o n c hq => ?_) h1
          rw [hq] at hx
          have hh : isHs (dem (evalT T x)) = false := by
            rw [isHs_dem]
            have h : vSliceF P fx.dr t (evalT T x) (lo.map (evalT T)) (hi.map (evalT T)) S' = some (v, S') := h
            unfold vSliceF at h
            split at h
            · first | (cases h; done) | (rw [hdr] at h; simp at h)
            · rename_i hh; simpa using hh
          obtain ⟨l, own, e, hr, hp, hg⟩ := hx.backed hh
          obtain ⟨own', hg'⟩ := hL.cells _ _ _ _ hr hp hg
          exact ⟨l, own, own', e, hg, hg'⟩
      exact ⟨a, h2, h1, key, by rw [hA]; exact h1, by rw [hA]; exact key⟩
    case lookup t x k ok =>
      exact hm.elim
end
end Go.Abs

/-
Regions that draw: their line of states, and what is asked again.
-/
namespace Go.Abs
open Go.RowKit

/-- The states of a run, one by one. -/
structure Line (P : Program) (fx : Fx) (chk : List Nat) (call : FuncId → List Value → M Value) (ops : Array Oper) (k0 : Nat) (l : List Oper) (Ts As : Nat → List Value) (Ss Hs : Nat → AHeap) (μs : Nat → Mu) (ωs : Nat → Nat → Option Spot) (vs as : Nat → Value) : Prop where
  inv : ∀ k, k ≤ l.length → GI (μs k) (Ss k) (Hs k) ∧ TI (μs k) (Hs k) (ωs k) (Ts k) (As k)
  step : ∀ k o, l[k]? = some o → Later (μs k) (Hs k) (μs (k + 1)) (Hs (k + 1)) ∧ Kept (ωs k) (Hs k) (ωs (k + 1)) (Hs (k + 1)) ∧
    ((Region.wanted o (ynd ops (As k)) = true ∧ vStep P fx call (Ts k) o (Ss k) = some (vs k, Ss (k + 1)) ∧ aStep P (lim P) (As k) o (Hs k) = some (as k, Hs (k + 1)) ∧
        Ts (k + 1) = vPut o (l.drop (k + 1)) (Ts k) (vs k) ∧ As (k + 1) = putT (As k) o.dst (as k) ∧ (chk.contains (k0 + k) = true → okq 3 (vs k) = true)) ∨
     (Region.wanted o (ynd ops (As k)) = false ∧ as k = undef ∧ Ts (k + 1) = vPut o (l.drop (k + 1)) (Ts k) undef ∧ As (k + 1) = putT (As k) o.dst undef ∧ Hs (k + 1) = Hs k))

section
variable {P : Program} {call : FuncId → List Value → M Value}

theorem line_of {fx : Fx} {chk : List Nat} {nl : List (Nat × Nat)} (hc : VCall P call) {ops : Array Oper} : ∀ (l : List Oper) (k0 : Nat) (hist : List (Value × AHeap)) (T T' A : List Value) (S S' H : AHeap) (μ : Mu) (ω : Nat → Option Spot), vOpsD P fx chk nl call ops k0 hist l T S = some (T', S') → GI μ S H → TI μ H ω T A →
    ∃ Ts As Ss Hs μs ωs vs as tr, Line P fx chk call ops k0 l Ts As Ss Hs μs ωs vs as ∧ Ts 0 = T ∧ As 0 = A ∧ Ss 0 = S ∧ Hs 0 = H ∧ μs 0 = μ ∧ ωs 0 = ω ∧ Ts l.length = T' ∧ Ss l.length = S' ∧
      aTrace P (lim P) ops l A H = some (tr, As l.length, Hs l.length) ∧ (∀ k, k < l.length → tr[k]? = some (As k, Hs k, as k)) ∧ (∀ k, k ≤ l.length → (tr.map (·.2.1) ++ [Hs l.length])[k]? = some (Hs k)) ∧
      ∃ hs : List (Value × AHeap), hs.length = l.length ∧ (∀ k o, l[k]? = some o → hs[k]? = some (memOp (Ts k) o, Ss k)) ∧ (nl.isEmpty = false → nl.all (stillP (hist ++ hs ++ [(undef, S')])) = true) := by
  intro l
  induction l with
  | nil =>
    intro k0 hist T T' A S S' H μ ω h hG hT
    simp only [vOpsD] at h
    split at h <;> first | (cases h; done) | skip
    rename_i hst
    cases h
    refine ⟨fun _ => T, fun _ => A, fun _ => S, fun _ => H, fun _ => μ, fun _ => ω, fun _ => undef, fun _ => undef, [], ⟨fun k _ => ⟨hG, hT⟩, fun k o ho => by simp at ho⟩, rfl, rfl, rfl, rfl, rfl, rfl, rfl, rfl, rfl, fun k hk => by simp at hk, fun k hk => ?_, [], rfl, fun k o ho => by simp at ho, fun he => ?_⟩
    · have : k = 0 := by simpa using hk
      subst this
      rfl
    · simpa [histOf, he] using hst
  | cons o l ih =>
    intro k0 hist T T' A S S' H μ ω h hG hT
    have hy : (ynd ops T) = ynd ops A := funext fun j => ynd_sim hT j
    simp only [vOpsD] at h
    -- one step ahead of a line
    have glue : ∀ (T1 A1 : List Value) (S1 H1 : AHeap) (μ1 : Mu) (ω1 : Nat → Option Spot) (v a : Value), vOpsD P fx chk nl call ops (k0 + 1) (histOf nl hist (memOp T o) S) l T1 S1 = some (T', S') → GI μ1 S1 H1 → TI μ1 H1 ω1 T1 A1 → Later μ H μ1 H1 → Kept ω H ω1 H1 →
        ((Region.wanted o (ynd ops A) = true ∧ vStep P fx call T o S = some (v, S1) ∧ aStep P (lim P) A o H = some (a, H1) ∧ T1 = vPut o l T v ∧ A1 = putT A o.dst a ∧ (chk.contains k0 = true → okq 3 v = true)) ∨
         (Region.wanted o (ynd ops A) = false ∧ a = undef ∧ T1 = vPut o l T undef ∧ A1 = putT A o.dst undef ∧ H1 = H)) →
        (∀ tr A2 H2, aTrace P (lim P) ops l A1 H1 = some (tr, A2, H2) → aTrace P (lim P) ops (o :: l) A H = some ((A, H, a) :: tr, A2, H2)) →
        ∃ Ts As Ss Hs μs ωs vs as tr, Line P fx chk call ops k0 (o :: l) Ts As Ss Hs μs ωs vs as ∧ Ts 0 = T ∧ As 0 = A ∧ Ss 0 = S ∧ Hs 0 = H ∧ μs 0 = μ ∧ ωs 0 = ω ∧ Ts (o :: l).length = T' ∧ Ss (o :: l).length = S' ∧
          aTrace P (lim P) ops (o :: l) A H = some (tr, As (o :: l).length, Hs (o :: l).length) ∧ (∀ k, k < (o :: l).length → tr[k]? = some (As k, Hs k, as k)) ∧ (∀ k, k ≤ (o :: l).length → (tr.map (·.2.1) ++ [Hs (o :: l).length])[k]? = some (Hs k)) ∧
          ∃ hs : List (Value × AHeap), hs.length = (o :: l).length ∧ (∀ k o', (o :: l)[k]? = some o' → hs[k]? = some (memOp (Ts k) o', Ss k)) ∧ (nl.isEmpty = false → nl.all (stillP (hist ++ hs ++ [(undef, S')])) = true) := by
      intro T1 A1 S1 H1 μ1 ω1 v a hrest hG1 hT1 hL hK hstep htr
      obtain ⟨Ts, As, Ss, Hs, μs, ωs, vs, as, tr, hline, e1, e2, e3, e4, e5, e6, e7, e8, e9, e10, e11, hs, e12, e13, e14⟩ := ih _ _ _ _ _ _ _ _ _ _ hrest hG1 hT1
      refine ⟨fun k => match k with | 0 => T | k + 1 => Ts k, fun k => match k with | 0 => A | k + 1 => As k, fun k => match k with | 0 => S | k + 1 => Ss k, fun k => match k with | 0 => H | k + 1 => Hs k,
        fun k => match k with | 0 => μ | k + 1 => μs k, fun k => match k with | 0 => ω | k + 1 => ωs k, fun k => match k with | 0 => v | k + 1 => vs k, fun k => match k with | 0 => a | k + 1 => as k, (A, H, a) :: tr,
        ⟨fun k hk => ?_, fun k o' ho => ?_⟩, rfl, rfl, rfl, rfl, rfl, rfl, e7, e8, htr _ _ _ e9, fun k hk => ?_, fun k hk => ?_, (memOp T o, S) :: hs, by simp [e12], fun k o' ho => ?_, fun he => ?_⟩
      · cases k with
        | zero => exact ⟨hG, hT⟩
        | succ k => exact hline.inv k (by simpa using hk)
      · cases k with
        | zero =>
          simp only [List.getElem?_cons_zero, Option.some.injEq] at ho
          subst ho
          dsimp only
          rw [e1, e2, e3, e4, e5, e6]
          exact ⟨hL, hK, hstep⟩
        | succ k =>
          have := hline.step k o' (by simpa using ho)
          rw [show k0 + 1 + k = k0 + (k + 1) by omega] at this
          exact this
      · cases k with
        | zero => rfl
        | succ k => simpa using e10 k (by simpa using hk)
      · cases k with
        | zero => rfl
        | succ k => simpa using e11 k (by simpa using hk)
      · cases k with
        | zero =>
          simp only [List.getElem?_cons_zero, Option.some.injEq] at ho
          subst ho
          rfl
        | succ k => simpa using e13 k o' (by simpa using ho)
      · have := e14 he
        rw [show histOf nl hist (memOp T o) S = hist ++ [(memOp T o, S)] by simp [histOf, he]] at this
        simpa using this
    split at h
    · rename_i hw
      split at h
      · rename_i v S1 hs
        split at h <;> first | (cases h; done) | skip
        rename_i hchk
        obtain ⟨a, H1, μ1, ω1, h1, h2, h3, h4, h5⟩ := step_put (rest := l) hc hG hT hs
        have hw' : Region.wanted o (ynd ops A) = true := by rw [← hy]; exact hw
        refine glue _ _ _ H1 μ1 ω1 v a h h2 h5 h3 h4 (.inl ⟨hw', hs, h1, rfl, rfl, fun hk => ?_⟩) (fun tr A2 H2 ht => ?_)
        · rw [hk] at hchk; simpa using hchk
        · simp only [aTrace, hw', if_true, h1, ht]
      · cases h
    · rename_i hw
      obtain ⟨μ1, ω1, h2, h3, h4, h5⟩ := unwanted_put (o := o) (rest := l) hG hT
      have hw' : Region.wanted o (ynd ops A) = false := by rw [← hy]; simpa using hw
      refine glue _ _ _ H μ1 ω1 undef undef h h2 h5 h3 h4 (.inr ⟨hw', rfl, rfl, rfl, rfl⟩) (fun tr A2 H2 ht => ?_)
      simp only [aTrace, hw', ht]
      rfl

variable {fx : Fx} {chk : List Nat} {ops : Array Oper} {k0 : Nat} {l : List Oper} {Ts As : Nat → List Value} {Ss Hs : Nat → AHeap} {μs : Nat → Mu} {ωs : Nat → Nat → Option Spot} {vs as : Nat → Value}

theorem Line.later (hl : Line P fx chk call ops k0 l Ts As Ss Hs μs ωs vs as) {i : Nat} : ∀ (d : Nat), i + d ≤ l.length → Later (μs i) (Hs i) (μs (i + d)) (Hs (i + d)) := by
  intro d
  induction d with
  | zero => intro _; exact Later.refl _ _
  | succ d ih =>
    intro hd
    have ho : l[i + d]? = some l[i + d] := List.getElem?_eq_getElem (by omega)
    exact (ih (by omega)).trans (hl.step (i + d) _ ho).1
theorem Line.kept (hl : Line P fx chk call ops k0 l Ts As Ss Hs μs ωs vs as) : ∀ (d : Nat), d ≤ l.length → Kept (ωs 0) (Hs 0) (ωs d) (Hs d) := by
  intro d
  induction d with
  | zero => intro _; exact Kept.refl _ _
  | succ d ih =>
    intro hd
    have ho : l[d]? = some l[d] := List.getElem?_eq_getElem (by omega)
    exact (ih (by omega)).trans (hl.step d _ ho).2.1

theorem dem_demPart (i : Nat) (w : Value) : dem (demPart i w) = dem w := by
  cases w with
  | tuple vs =>
    simp only [demPart, dem]
    congr 1
    apply Array.ext (by simp)
    intro k h1 h2
    rw [Array.getElem_map, Array.getElem_map, Array.getElem_modify]
    split
    · have : ∀ v, dem1 (dem1 v) = dem1 v := by
        intro v
        cases v with
        | iface k v =>
          simp only [dem1]
          by_cases h : k = 2
          · rw [if_pos h, if_neg (by decide)]
          · rw [if_neg h, if_neg h]
        | _ => rfl
      exact this _
    · rfl
  | _ => rfl
theorem moved_dem (o : Oper) (T : List Value) (t : Nat) : dem ((moved o T).getD t undef) = dem (T.getD t undef) := by
  have slot : ∀ t', dem ((demSlot T t').getD t undef) = dem (T.getD t undef) := by
    intro t'
    rw [demSlot, getD_set]
    split
    · rename_i h; rw [h.1, dem_dem]
    · rfl
  unfold moved
  split
  · exact slot _
  · exact slot _
  · rw [getD_set]
    split
    · rename_i h; rw [h.1, dem_demPart]
    · rfl
  · split
    · exact slot _
    · rfl
  · rfl
theorem moved_length (o : Oper) (T : List Value) : (moved o T).length = T.length := by
  unfold moved
  split <;> first | simp [demSlot] | rfl | skip
  split <;> first | simp [demSlot] | rfl

theorem vPut_none {o : Oper} {rest : List Oper} {T : List Value} {v : Value} (hd : o.dst = none) (t : Nat) : dem ((vPut o rest T v).getD t undef) = dem (T.getD t undef) := by
  unfold vPut
  rw [hd]
  split
  · rfl
  · exact moved_dem o T t
theorem vPut_some {o : Oper} {rest : List Oper} {T : List Value} {v : Value} {d : Nat} (hd : o.dst = some d) (t : Nat) : dem ((vPut o rest T v).getD t undef) = if t = d ∧ d < T.length then dem v else dem (T.getD t undef) := by
  unfold vPut
  rw [hd]
  split
  · simp only [putT]
    rw [getD_set]
    split
    · exact dem_dem v
    · rfl
  · simp only [putT]
    rw [getD_set, moved_length]
    split
    · rfl
    · exact moved_dem o T t

/-- Slots that don't hang on an operation have what they had. -/
def Clear (μ : Mu) (G : AHeap) (bad : List Nat) (T A : List Value) : Prop := ∀ t, bad.contains t = false → V0 μ G (dem (T.getD t undef)) (A.getD t undef)
theorem Clear.operands {μ : Mu} {G : AHeap} {bad : List Nat} {T A : List Value} (h : Clear μ G bad T A) {o : Oper} (hok : opOk o = true) (hc : operandsClear bad o = true) : ∀ x ∈ o.op.operands.toList, V0 μ G (dem (evalT T x)) (evalT A x) := by
  intro x hx
  have h1 := List.all_eq_true.1 (show o.op.operands.toList.all okArg = true from hok) x hx
  have h2 := List.all_eq_true.1 hc x hx
  cases x with
  | tmp t => exact h t (by simpa using h2)
  | const v => exact (VV.ground_refl (μ := μ) (H := G) (ω := W0) (ℓ := none) h1).v0
  | global g => cases h1
  | func f =>
    have : V0 μ G (.func (.func f) #[] #[]) (.func (.func f) #[] #[]) := .func _ rfl rfl (fun i => by simpa using VV.undef) (fun i => by simpa using VV.undef)
    exact this
theorem vStep_ok {T : List Value} {o : Oper} {S S' : AHeap} {v : Value} (h : vStep P fx call T o S = some (v, S')) : opOk o = true := by
  unfold vStep at h
  split at h
  · assumption
  · cases h

/-- What is read in memory where it must be without places. -/
theorem mem_ground {fx : Fx} {o : Oper} {T A : List Value} {v : Value} {S S' H : AHeap} {μ : Mu} (h : vStep P fx call T o S = some (v, S')) (hnm : fx.nm = true) (hm : ¬ memFree (evalT T) o) (hG : GI μ S H) (ho : ∀ x ∈ o.op.operands.toList, V0 μ H (dem (evalT T x)) (evalT A x)) :
    ground v = true ∧ ∃ a, aStep P (lim P) A o H = some (a, H) ∧ a = v := by
  have hok := vStep_ok h
  unfold vStep at h
  rw [if_pos hok] at h
  obtain ⟨dst, op, type, pos, after, guard⟩ := o
  unfold memFree at hm
  cases op <;> dsimp only at h hm <;> first | (exact absurd True.intro hm) | skip
  case load t a =>
    have h : vLoad P fx.nm t (evalT T a) S = some (v, S') := h
    obtain ⟨q, hq⟩ : ∃ q, evalT T a = .pointer q := Classical.byContradiction fun hn => hm fun q hq => hn ⟨q, hq⟩
    obtain ⟨rfl, w, k1, k2⟩ := load_sim h (ho a (by simp [Op.operands])) (.inr hG)
    rw [hnm] at h
    have hgr : ground v = true := by
      unfold vLoad at h
      rw [hq] at h
      dsimp only at h
      split at h <;> first | (cases h; done) | skip
      · split at h
        · split at h <;> first | (cases h; done) | skip
          rename_i hg
          cases h
          exact hg
        · rename_i hf; exact absurd rfl hf
      · split at h
        · split at h <;> first | (cases h; done) | skip
          rename_i hg
          cases h
          exact hg
        · rename_i hf; exact absurd rfl hf
    refine ⟨hgr, w, ?_, k2.ground_eq hgr⟩
    unfold aStep
    rw [if_pos hok]
    exact k1
  case lookup t x k ok =>
    have h : vLookup P fx.nm t (evalT T x) (evalT T k) ok S = some (v, S') := h
    unfold vLookup at h
    rw [hnm] at h
    simp at h
theorem Line.clear (hdr : fx.dr = true) (hl : Line P fx chk call ops k0 l Ts As Ss Hs μs ωs vs as) {j : Nat} (hj : j ≤ l.length) : ∀ (rest : List Oper) (bad : List Nat) (k : Nat), j ≤ k → l.drop k = rest → Clear (μs j) (Hs j) bad (Ts k) (As k) →
    ∀ d, d ≤ rest.length → Clear (μs j) (Hs j) ((taint P fx.nm rest bad).getD d []) (Ts (k + d)) (As (k + d)) := by
  intro rest
  induction rest with
  | nil =>
    intro bad k hjk hr hC d hd
    have : d = 0 := by simpa using hd
    subst this
    exact hC
  | cons o rest ih =>
    intro bad k hjk hr hC d hd
    have hkl : k < l.length := by
      have := congrArg List.length hr
      simp at this; omega
    have ho : l[k]? = some o := by
      have := congrArg (·[0]?) hr
      simpa [List.getElem?_drop] using this
    cases d with
    | zero => exact hC
    | succ d =>
      simp only [taint, List.getD_cons_succ]
      rw [show k + (d + 1) = k + 1 + d by omega]
      refine ih _ (k + 1) (by omega) ?_ ?_ d (by simpa using hd)
      · rw [← List.drop_drop, hr]; rfl
      · obtain ⟨hL, _, hor⟩ := hl.step k o ho
        obtain ⟨hG, hT⟩ := hl.inv k (by omega)
        have hlen := hT.len
        intro t ht
        cases hd : o.dst with
        | none =>
          rw [hd] at ht
          rcases hor with ⟨_, _, _, e1, e2, _⟩ | ⟨_, _, e1, e2, _⟩
          · rw [e1, vPut_none hd, e2, hd]; exact hC t ht
          · rw [e1, vPut_none hd, e2, hd]; exact hC t ht
        | some dd =>
          rw [hd] at ht
          dsimp only at ht
          have htb : bad.contains t = false := by
            split at ht
            · simp only [List.contains_cons, Bool.or_eq_false_iff] at ht; exact ht.2
            · exact ht
          rcases hor with ⟨hw, hv, ha, e1, e2, _⟩ | ⟨_, _, e1, e2, _⟩
          · rw [e1, vPut_some hd, e2, hd]
            simp only [putT]
            rw [getD_set, hlen]
            by_cases hc : t = dd ∧ dd < (As k).length
            · rw [if_pos hc, if_pos hc]
              have hcond : ¬ (isCh P o || !operandsClear bad o || (readsMem o && !fx.nm)) = true := by
                intro hh
                rw [if_pos hh] at ht
                simp [hc.1] at ht
              simp only [Bool.or_eq_true, not_or, Bool.not_eq_true, Bool.not_eq_eq_eq_not, Bool.not_true, Bool.and_eq_true, not_and] at hcond
              obtain ⟨⟨q1, q2⟩, q3⟩ := hcond
              have q2' : operandsClear bad o = true := by simpa using q2
              have hLj : Later (μs j) (Hs j) (μs k) (Hs k) := by
                have := hl.later (i := j) (k - j) (by omega)
                rwa [show j + (k - j) = k by omega] at this
              by_cases hm : memFree (evalT (Ts k)) o
              · obtain ⟨a, h1, _, _, _, h5⟩ := op_at hdr hv q1 hm (hC.operands (vStep_ok hv) q2') hLj
                rw [ha] at h5
                have e : as k = a := by simpa using congrArg (Option.map Prod.fst) h5
                subst e
                exact h1
              · have hrm : readsMem o = true := by
                  cases hrm : readsMem o with
                  | true => rfl
                  | false => exact absurd (memFree_of hrm) hm
                have hnm : fx.nm = true := by have := q3 hrm; simpa using this
                obtain ⟨g1, a, g2, g3⟩ := mem_ground hv hnm hm hG (fun x hx => hT.eval (List.all_eq_true.1 (show o.op.operands.toList.all okArg = true from vStep_ok hv) x hx))
                rw [ha] at g2
                have e : as k = a := by simpa using congrArg (Option.map Prod.fst) g2
                subst e
                rw [g3, ground_dem g1]
                exact V0.ground g1
            · rw [if_neg hc, if_neg hc]
              exact hC t htb
          · rw [e1, vPut_some hd, e2, hd]
            simp only [putT]
            rw [getD_set, hlen]
            by_cases hc : t = dd ∧ dd < (As k).length
            · rw [if_pos hc, if_pos hc, show dem undef = undef from dem_nores]
              exact .nores
            · rw [if_neg hc, if_neg hc]
              exact hC t htb

/-- Regions that draw. -/
theorem drawn_out {hp0 : Bool} (hc : VCall P call) {T T' A : List Value} {S S' H : AHeap} {μ : Mu} {ω : Nat → Option Spot} (hd : drawnOk P ops = true) (h : vOpsD P ⟨hp0, !(checked P ops).isEmpty, fixed P ops⟩ (checked P ops) (again P ops) call ops 0 [] ops.toList T S = some (T', S')) (hG : GI μ S H) (hT : TI μ H ω T A) :
    After μ ω H T' S' (aDrawn P (lim P) ops A H) := by
  obtain ⟨Ts, As, Ss, Hs, μs, ωs, vs, as, tr, hline, rfl, rfl, rfl, rfl, rfl, rfl, rfl, rfl, e9, e10, e11, hs, e12, e13, e14⟩ := line_of hc _ _ _ _ _ _ _ _ _ _ _ h hG hT
  obtain ⟨hGn, hTn⟩ := hline.inv ops.toList.length (Nat.le_refl _)
  have hLn := hline.later (i := 0) ops.toList.length (by omega)
  rw [Nat.zero_add] at hLn
  refine ⟨As ops.toList.length, Hs ops.toList.length, μs ops.toList.length, ωs ops.toList.length, ?_, hGn, hLn, hline.kept _ (Nat.le_refl _), hTn⟩
  simp only [drawnOk, drawnOkB, Bool.and_eq_true] at hd
  refine drawn_of hd.1 e9 fun p hp => ?_
  have hchk : (checked P ops).contains p.1 = true := by
    unfold checked
    simp only [List.contains_eq_mem, decide_eq_true_eq]
    exact List.mem_map.2 ⟨p, hp, rfl⟩
  have hdr : (Fx.mk hp0 (!(checked P ops).isEmpty) (fixed P ops)).dr = true := by
    show (!(checked P ops).isEmpty) = true
    cases hl : checked P ops with
    | nil => rw [hl] at hchk; cases hchk
    | cons a b => rfl
  have hp2 := List.all_eq_true.1 hd.2 p hp
  have hp0 := hp
  unfold need at hp
  obtain ⟨i, hi, hp⟩ := List.mem_flatMap.1 hp
  obtain ⟨j, hj, hp⟩ := List.mem_filterMap.1 hp
  have hi : i < ops.toList.length := List.mem_range.1 hi
  have hj : j < ops.toList.length := List.mem_range.1 hj
  split at hp <;> first | (cases hp; done) | skip
  rename_i oi oj hoi hoj
  split at hp <;> first | (cases hp; done) | skip
  rename_i hcond
  cases hp
  simp only [Bool.and_eq_true, Bool.not_eq_true'] at hcond
  obtain ⟨⟨hni, hcj⟩, _⟩ := hcond
  dsimp only at hp2 hchk ⊢
  rw [hoi] at hp2
  dsimp only at hp2
  have hij : i ≠ j := by
    intro e; subst e
    rw [hoi] at hoj; cases hoj
    rw [hni] at hcj; cases hcj
  have hGj : (tr.map (·.2.1) ++ [Hs ops.toList.length])[if j < i then j else j + 1]? = some (Hs (if j < i then j else j + 1)) := e11 _ (by split <;> omega)
  unfold recheckAt
  rw [hoi, e10 i hi, hGj]
  dsimp only
  obtain ⟨_, _, hor⟩ := hline.step i oi hoi
  rcases hor with ⟨hw, hv, ha, heT, heA, hq⟩ | ⟨hw, _⟩
  · rw [hw]
    simp only [Bool.not_true, Bool.false_or]
    obtain ⟨hGi, hTi⟩ := hline.inv i (by omega)
    have hops : ∀ x ∈ oi.op.operands.toList, V0 (μs i) (Hs i) (dem (evalT (Ts i) x)) (evalT (As i) x) := fun x hx => hTi.eval (List.all_eq_true.1 (show oi.op.operands.toList.all okArg = true from vStep_ok hv) x hx)
    have hq3 : okq 3 (vs i) = true := hq (by rw [Nat.zero_add]; exact hchk)
    have same : ∃ G', aOp P (evalT (As i)) oi (Hs (if j < i then j else j + 1)) = some (as i, G') ∧ veqN 3 (as i) (as i) = true := by
      by_cases hm : memFree (evalT (Ts i)) oi
      case neg =>
        have hrm : readsMem oi = true := by
          cases hrm : readsMem oi with
          | true => rfl
          | false => exact absurd (memFree_of hrm) hm
        have hin : (i, j) ∈ again P ops := List.mem_filter.2 ⟨hp0, by dsimp only; rw [hoi]; exact hrm⟩
        have hne : (again P ops).isEmpty = false := by
          cases hl : again P ops with
          | nil => rw [hl] at hin; cases hin
          | cons a b => rfl
        have hst := List.all_eq_true.1 (e14 hne) _ hin
        rw [List.nil_append] at hst
        have hi1 : (hs ++ [(undef, Ss ops.toList.length)])[i]? = some (memOp (Ts i) oi, Ss i) := by
          rw [List.getElem?_append_left (by omega)]; exact e13 i oi hoi
        have hj1 : ∃ p2, (hs ++ [(undef, Ss ops.toList.length)])[if j < i then j else j + 1]? = some (p2, Ss (if j < i then j else j + 1)) := by
          by_cases hjl : (if j < i then j else j + 1) < ops.toList.length
          · rw [List.getElem?_append_left (by omega)]
            exact ⟨_, e13 _ _ (List.getElem?_eq_getElem hjl)⟩
          · have : (if j < i then j else j + 1) = ops.toList.length := by split at hjl <;> (rename_i hh; simp only [hh, if_true, if_false]; omega)
            rw [this, List.getElem?_append_right (by omega), e12, Nat.sub_self]
            exact ⟨_, rfl⟩
        obtain ⟨p2, hj1⟩ := hj1
        unfold stillP at hst
        dsimp only at hst
        rw [hi1, hj1] at hst
        dsimp only at hst
        -- the object is the same in both
        have obj : ∀ q r b, μs i q = some (r, b) → (∀ Sa Sb, stillQ (memOp (Ts i) oi) Sa Sb = true → (∃ o, Sa.get q = some o ∧ o.alive = true) ∧ q ∉ Sb.log.take (Sb.log.length - Sa.log.length)) → (Hs (if j < i then j else j + 1)).get r = (Hs i).get r := by
          intro q r b hq hQ
          by_cases hji : j < i
          · rw [if_pos hji] at hst ⊢
            rw [if_pos hji] at hst
            obtain ⟨⟨o1, g1, g2⟩, g3⟩ := hQ _ _ hst
            obtain ⟨hGj3, _⟩ := hline.inv j (by omega)
            obtain ⟨r0, _, g4, _⟩ := hGj3.obj q o1 g1 g2
            have hL := hline.later (i := j) (i - j) (by omega)
            rw [show j + (i - j) = i by omega] at hL
            obtain ⟨b', hb'⟩ := hL.mu q r0 true g4
            rw [hq] at hb'
            cases hb'
            obtain ⟨new, n1, n2⟩ := hL.still
            rw [hGj3.log, hGi.log] at n1
            rw [n1] at g3
            simp only [List.length_append, Nat.add_sub_cancel, List.take_left] at g3
            exact (n2 q r g4 g3).2.symm
          · rw [if_neg hji] at hst ⊢
            rw [if_neg hji] at hst
            obtain ⟨⟨o1, g1, g2⟩, g3⟩ := hQ _ _ hst
            have hb := hGi.at hq g1 g2
            subst hb
            have hL := hline.later (i := i) (j + 1 - i) (by omega)
            rw [show i + (j + 1 - i) = j + 1 by omega] at hL
            obtain ⟨hGj3, _⟩ := hline.inv (j + 1) (by omega)
            obtain ⟨new, n1, n2⟩ := hL.still
            rw [hGj3.log, hGi.log] at n1
            rw [n1] at g3
            simp only [List.length_append, Nat.add_sub_cancel, List.take_left] at g3
            exact (n2 q r hq g3).2
        clear hst hi1 hj1
        have hok := vStep_ok hv
        have hvo := hv
        unfold vStep at hv
        rw [if_pos hok] at hv
        obtain ⟨dst, op, type, pos, after, guard⟩ := oi
        unfold memFree at hm
        cases op <;> dsimp only at hv hm <;> first | (exact absurd True.intro hm) | skip
        case load t a =>
          have hv : vLoad P (fixed P ops) t (evalT (Ts i) a) (Ss i) = some (vs i, Ss (i + 1)) := hv
          obtain ⟨ad, hq⟩ : ∃ q, evalT (Ts i) a = .pointer q := Classical.byContradiction fun hn => hm fun q hq => hn ⟨q, hq⟩
          have hx := hops a (by simp [Op.operands])
          obtain ⟨_, w, k1, k2⟩ := load_sim hv hx (.inr hGi)
          have hA : aStep P (lim P) (As i) ⟨dst, .load t a, type, pos, after, guard⟩ (Hs i) = aLoad P t (evalT (As i) a) (Hs i) := by unfold aStep; rw [if_pos hok]; rfl
          rw [hA, k1] at ha
          have e : w = as i := by simpa using congrArg (Option.map Prod.fst) ha
          subst e
          rw [hq] at hx
          have hx : V0 (μs i) (Hs i) (.pointer ad) (evalT (As i) a) := hx
          generalize hpa : evalT (As i) a = pa at hx k1
          have hres : aLoad P t pa (Hs (if j < i then j else j + 1)) = some (as i, Hs (if j < i then j else j + 1)) := by
            cases hx with
            | sg hs =>
              cases ad with
              | none => simp [aLoad] at k1
              | some ad => simp [Go.Abs.sg] at hs
            | @ptr _ q o r b hmq =>
              refine aLoad_same (obj q r b hmq fun Sa Sb hQ => ?_) k1
              have hQ : stillQ (evalT (Ts i) a) Sa Sb = true := hQ
              rw [hq] at hQ
              simp only [stillQ, Bool.and_eq_true, Bool.not_eq_true', List.contains_eq_mem, decide_eq_false_iff_not] at hQ
              refine ⟨?_, hQ.2⟩
              have h1 := hQ.1
              split at h1 <;> first | (cases h1; done) | skip
              rename_i hsa
              exact ⟨_, hsa, rfl⟩
          rw [← hpa] at hres
          exact ⟨_, hres, okq_veq 3 (okq_dem hq3) k2.dem⟩
        case lookup t x k ok =>
          have hv : vLookup P (fixed P ops) t (evalT (Ts i) x) (evalT (Ts i) k) ok (Ss i) = some (vs i, Ss (i + 1)) := hv
          have hx := hops x (by simp [Op.operands])
          obtain ⟨_, w, k1, k2⟩ := lookup_sim hv hx (hops k (by simp [Op.operands])) (.inr hGi)
          have hA : aStep P (lim P) (As i) ⟨dst, .lookup t x k ok, type, pos, after, guard⟩ (Hs i) = aLookup P t (evalT (As i) x) (evalT (As i) k) ok (Hs i) := by unfold aStep; rw [if_pos hok]; rfl
          rw [hA, k1] at ha
          have e : w = as i := by simpa using congrArg (Option.map Prod.fst) ha
          subst e
          have hres : aLookup P t (evalT (As i) x) (evalT (As i) k) ok (Hs (if j < i then j else j + 1)) = some (as i, Hs (if j < i then j else j + 1)) := by
            refine aLookup_same (fun r hr => ?_) k1
            rw [hr] at hx
            generalize hu : dem (evalT (Ts i) x) = u at hx
            have hum : ∃ q b, u = .map (some q) ∧ μs i q = some (r, b) := by
              cases hx with
              | sg hs => simp [Go.Abs.sg] at hs
              | map hmq => exact ⟨_, _, rfl, hmq⟩
            obtain ⟨q, b, rfl, hmq⟩ := hum
            have hxe : evalT (Ts i) x = .map (some q) := by
              cases hvx : evalT (Ts i) x <;> rw [hvx] at hu <;> simp [dem, dem1] at hu <;> rw [hu]
            refine obj q r b hmq fun Sa Sb hQ => ?_
            have hQ : stillQ (evalT (Ts i) x) Sa Sb = true := hQ
            rw [hxe] at hQ
            simp only [stillQ, Bool.and_eq_true, Bool.not_eq_true', List.contains_eq_mem, decide_eq_false_iff_not] at hQ
            refine ⟨?_, hQ.2⟩
            have h1 := hQ.1
            split at h1 <;> first | (cases h1; done) | skip
            rename_i hsa
            exact ⟨_, hsa, rfl⟩
          exact ⟨_, hres, okq_veq 3 (okq_dem hq3) k2.dem⟩
      by_cases hrd : readsHeap oi = false
      · obtain ⟨a, h1, h2⟩ := op_any hdr hv hni hrd hops
        have h3 := (h2 (Hs i)).2
        rw [ha] at h3
        have e : as i = a := by simpa using congrArg (Option.map Prod.fst) h3
        subst e
        exact ⟨_, (h2 _).1, okq_veq 3 (okq_dem hq3) h1⟩
      · have hrd : readsHeap oi = true := by simpa using hrd
        by_cases hlt : i < j
        · rw [if_neg (by omega)]
          have hL := hline.later (i := i) (j + 1 - i) (by omega)
          rw [show i + (j + 1 - i) = j + 1 by omega] at hL
          obtain ⟨a, h1, _, h3, h4, _⟩ := op_at hdr hv hni hm hops hL
          rw [ha] at h4
          have e : as i = a := by simpa using congrArg (Option.map Prod.fst) h4
          subst e
          exact ⟨_, h3, okq_veq 3 (okq_dem hq3) h1⟩
        · rw [if_pos (by omega)]
          rw [hrd] at hp2
          have hcl : operandsClear ((taint P (fixed P ops) (ops.toList.drop j) []).getD (i - j) []) oi = true := by
            simpa [hlt] using hp2
          obtain ⟨hGj2, hTj⟩ := hline.inv j (by omega)
          have hC0 : Clear (μs j) (Hs j) [] (Ts j) (As j) := fun t _ => (hTj.slots t).v0
          have hC := hline.clear hdr (j := j) (by omega) _ [] j (Nat.le_refl _) rfl hC0 (i - j) (by rw [List.length_drop]; omega)
          rw [show j + (i - j) = i by omega] at hC
          have hL := hline.later (i := j) (i - j) (by omega)
          rw [show j + (i - j) = i by omega] at hL
          obtain ⟨a, h1, h2, _, _, h5⟩ := op_at hdr hv hni hm (hC.operands (vStep_ok hv) hcl) hL
          rw [ha] at h5
          have e : as i = a := by simpa using congrArg (Option.map Prod.fst) h5
          subst e
          exact ⟨_, h2, okq_veq 3 (okq_dem hq3) h1⟩
    obtain ⟨G', h1, h2⟩ := same
    unfold recheck
    rw [h1]
    exact h2
  · rw [hw]
    rfl
end
end Go.Abs

/-
Code and calls of the value interpreter are the interpreter's.
-/
namespace Go.Abs
open Go.RowKit

section
variable {P : Program} {call : FuncId → List Value → M Value}

/-- What stands behind code. -/
def AfterC (μ : Mu) (ω : Nat → Option Spot) (H : AHeap) (e : AEx) (T' : List Value) (S' : AHeap) (R : St) : Prop :=
  ∃ A' H' μ' ω', R = some (e, A', H') ∧ GI μ' S' H' ∧ Later μ H μ' H' ∧ Kept ω H ω' H' ∧ TI μ' H' ω' T' A'

theorem code_out {hp : Bool} (hc : VCall P call) (fuel : Nat) : ∀ (c : Code) (T T' A : List Value) (S S' H : AHeap) (μ : Mu) (ω : Nat → Option Spot) (e : AEx), vCode P hp call fuel c T S = some (e, T', S') → GI μ S H → TI μ H ω T A → AfterC μ ω H e T' S' (codeV P c A H) := by
  intro c
  induction c with
  | skip =>
    intro T T' A S S' H μ ω e h hG hT
    simp only [vCode, Option.some.injEq, Prod.mk.injEq] at h
    obtain ⟨rfl, rfl, rfl⟩ := h
    exact ⟨A, H, μ, ω, rfl, hG, Later.refl _ _, Kept.refl _ _, hT⟩
  | exit id =>
    intro T T' A S S' H μ ω e h hG hT
    simp only [vCode, Option.some.injEq, Prod.mk.injEq] at h
    obtain ⟨rfl, rfl, rfl⟩ := h
    exact ⟨A, H, μ, ω, rfl, hG, Later.refl _ _, Kept.refl _ _, hT⟩
  | ret =>
    intro T T' A S S' H μ ω e h hG hT
    simp only [vCode, Option.some.injEq, Prod.mk.injEq] at h
    obtain ⟨rfl, rfl, rfl⟩ := h
    exact ⟨A, H, μ, ω, rfl, hG, Later.refl _ _, Kept.refl _ _, hT⟩
  | region i ops d =>
    intro T T' A S S' H μ ω e h hG hT
    cases d with
    | false =>
      simp only [vCode] at h
      split at h <;> first | (cases h; done) | skip
      rename_i T1 S1 ho
      cases h
      obtain ⟨A', H', μ', ω', h1, h2, h3, h4, h5⟩ := ops_out hc _ _ _ _ _ _ _ _ _ ho hG hT
      exact ⟨A', H', μ', ω', by simp only [codeV, h1], h2, h3, h4, h5⟩
    | true =>
      simp only [vCode] at h
      split at h <;> first | (cases h; done) | skip
      rename_i hd
      split at h <;> first | (cases h; done) | skip
      rename_i T1 S1 ho
      cases h
      obtain ⟨A', H', μ', ω', h1, h2, h3, h4, h5⟩ := drawn_out hc hd ho hG hT
      exact ⟨A', H', μ', ω', by simp only [codeV, h1], h2, h3, h4, h5⟩
  | seq x y ihx ihy =>
    intro T T' A S S' H μ ω e h hG hT
    simp only [vCode] at h
    split at h
    · rename_i T1 S1 hx
      obtain ⟨A1, H1, μ1, ω1, h1, h2, h3, h4, h5⟩ := ihx _ _ _ _ _ _ _ _ _ hx hG hT
      obtain ⟨A2, H2, μ2, ω2, k1, k2, k3, k4, k5⟩ := ihy _ _ _ _ _ _ _ _ _ h h2 h5
      exact ⟨A2, H2, μ2, ω2, by simp only [codeV, h1]; exact k1, k2, h3.trans k3, h4.trans k4, k5⟩
    · rename_i hne
      obtain ⟨A1, H1, μ1, ω1, h1, h2, h3, h4, h5⟩ := ihx _ _ _ _ _ _ _ _ _ h hG hT
      refine ⟨A1, H1, μ1, ω1, ?_, h2, h3, h4, h5⟩
      simp only [codeV, h1]
      cases e with
      | normal => exact absurd h (hne _ _)
      | exit id => rfl
      | ret => rfl
  | cond c x y ihx ihy =>
    intro T T' A S S' H μ ω e h hG hT
    simp only [vCode] at h
    split at h <;> first | (cases h; done) | skip
    rename_i hok
    have hv := hT.eval hok
    split at h
    · rename_i hb
      have : evalT A c = .bool true := ground_of hv (by rw [hb]; rfl) |>.trans hb
      obtain ⟨A1, H1, μ1, ω1, h1, h2, h3, h4, h5⟩ := ihx _ _ _ _ _ _ _ _ _ h hG hT
      exact ⟨A1, H1, μ1, ω1, by simp only [codeV, hok, if_true, this]; exact h1, h2, h3, h4, h5⟩
    · rename_i hb
      have : evalT A c = .bool false := ground_of hv (by rw [hb]; rfl) |>.trans hb
      obtain ⟨A1, H1, μ1, ω1, h1, h2, h3, h4, h5⟩ := ihy _ _ _ _ _ _ _ _ _ h hG hT
      exact ⟨A1, H1, μ1, ω1, by simp only [codeV, hok, if_true, this]; exact h1, h2, h3, h4, h5⟩
    · cases h
  | block id c ih =>
    intro T T' A S S' H μ ω e h hG hT
    simp only [vCode] at h
    split at h
    · rename_i id' T1 S1 hx
      obtain ⟨A1, H1, μ1, ω1, h1, h2, h3, h4, h5⟩ := ih _ _ _ _ _ _ _ _ _ hx hG hT
      by_cases hid : id' = id
      · rw [if_pos hid] at h
        cases h
        exact ⟨A1, H1, μ1, ω1, by simp only [codeV, h1, if_pos hid], h2, h3, h4, h5⟩
      · rw [if_neg hid] at h
        cases h
        exact ⟨A1, H1, μ1, ω1, by simp only [codeV, h1, if_neg hid], h2, h3, h4, h5⟩
    · rename_i hne
      obtain ⟨A1, H1, μ1, ω1, h1, h2, h3, h4, h5⟩ := ih _ _ _ _ _ _ _ _ _ h hG hT
      refine ⟨A1, H1, μ1, ω1, ?_, h2, h3, h4, h5⟩
      simp only [codeV, h1]
      cases e with
      | normal => rfl
      | exit id' => exact absurd h (hne _ _ _)
      | ret => rfl
  | loop c ih =>
    have key : ∀ (n : Nat) (T T' A : List Value) (S S' H : AHeap) (μ : Mu) (ω : Nat → Option Spot) (e : AEx), aLoop n (vCode P hp call fuel c) T S = some (e, T', S') → GI μ S H → TI μ H ω T A → AfterC μ ω H e T' S' (loopV (codeV P c) A H) := by
      intro n
      induction n with
      | zero => intro T T' A S S' H μ ω e h; cases h
      | succ n ihn =>
        intro T T' A S S' H μ ω e h hG hT
        simp only [aLoop] at h
        split at h
        · rename_i T1 S1 hx
          obtain ⟨A1, H1, μ1, ω1, h1, h2, h3, h4, h5⟩ := ih _ _ _ _ _ _ _ _ _ hx hG hT
          obtain ⟨A2, H2, μ2, ω2, k1, k2, k3, k4, k5⟩ := ihn _ _ _ _ _ _ _ _ _ h h2 h5
          exact ⟨A2, H2, μ2, ω2, by rw [loopV_step h1]; exact k1, k2, h3.trans k3, h4.trans k4, k5⟩
        · rename_i hne
          obtain ⟨A1, H1, μ1, ω1, h1, h2, h3, h4, h5⟩ := ih _ _ _ _ _ _ _ _ _ h hG hT
          exact ⟨A1, H1, μ1, ω1, loopV_exit h1 (fun he => by subst he; exact hne _ _ h), h2, h3, h4, h5⟩
    intro T T' A S S' H μ ω e h hG hT
    simp only [vCode] at h
    obtain ⟨A1, H1, μ1, ω1, h1, h2⟩ := key fuel _ _ _ _ _ _ _ _ _ h hG hT
    exact ⟨A1, H1, μ1, ω1, by simp only [codeV]; exact h1, h2⟩
  | _ => intro T T' A S S' H μ ω e h; simp only [vCode] at h; cases h

/-- A value that is no result of several parts gets another spot. -/
theorem VV.relocN {μ : Mu} {H : AHeap} {ω ω' : Nat → Option Spot} {f : Spot → Option Spot} (hω : ∀ r, ω' r = (ω r).bind f) {s s' : Spot} (hs : f s = some s') {v a : Value} (h : VV μ H ω (some s) v a) (hv : notTuple v = true) : VV μ H ω' (some s') v a := by
  cases h with
  | sg h => exact .sg h
  | ptr h => exact .ptr h
  | map h => exact .map h
  | slm h => exact .slm h
  | slE => exact .slE
  | sl hr hp hg hl hl' hc => exact .sl hr hp hg hl hl' (fun i hi => (hc i hi).at0)
  | so h hr hp hg hl hl' hc => exact .so (by rw [hω, h]; exact hs) hr hp hg hl hl' (fun i hi => (hc i hi).at0)
  | ep hr hp hg hl hc => exact .ep hr hp hg hl (fun i hi => (hc i hi).at0)
  | func fn hx hc h1 h2 => exact .func fn hx hc (fun i => (h1 i).at0) (fun i => (h2 i).at0)
  | agg hx hh => exact .agg hx (fun i => (hh i).at0)
  | nores => exact .nores
  | @tuple _ x x' hx hh =>
    have h0 : x.size = 0 := by simpa [notTuple] using hv
    have e1 : x = #[] := Array.eq_empty_of_size_eq_zero h0
    have e2 : x' = #[] := Array.eq_empty_of_size_eq_zero (by rw [← hx]; exact h0)
    subst e1 e2
    exact .nores

/-- Which slot is which result. -/
def place (rs : List ResultVar) : Spot → Option Spot
  | .ext => some .ext
  | .res _ => none
  | .slot i j => match rs with
    | [.tmp t] => if i = t then some (.res j) else none
    | _ => match j with
      | none => (rs.findIdx? (isTmp i)).map fun k => .res (some k)
      | some _ => none

theorem place_slot {rs : List ResultVar} {i : Nat} (h : ∀ t, rs ≠ [.tmp t]) : place rs (.slot i none) = (rs.findIdx? (isTmp i)).map fun k => .res (some k) := by
  match rs, h with
  | [], _ => rfl
  | [.tmp t], h => exact absurd rfl (h t)
  | [.cell _ _], _ => rfl
  | .tmp _ :: _ :: _, _ => rfl
  | .cell _ _ :: _ :: _, _ => rfl
/-- The results, one by one. -/
theorem resVals_sim {μ : Mu} {ω : Nat → Option Spot} {S H : AHeap} {T A : List Value} (hG : GI μ S H) (hT : TI μ H ω T A) : ∀ (l : List ResultVar) (vs : List Value), vResVals P T S l = some vs →
    ∃ as, resVals P A H l = some as ∧ vs.length = l.length ∧ as.length = l.length ∧ ∀ i : Nat, match (l[i]? : Option ResultVar) with
      | some (.tmp t) => vs.getD i undef = T.getD t undef ∧ as.getD i undef = A.getD t undef
      | _ => V0 μ H (vs.getD i undef) (as.getD i undef) := by
  intro l
  induction l with
  | nil =>
    intro vs h
    simp only [vResVals, Option.some.injEq] at h
    subst h
    exact ⟨[], rfl, rfl, rfl, fun i => by simpa using VV.undef⟩
  | cons x l ih =>
    intro vs h
    cases x with
    | tmp t =>
      simp only [vResVals] at h
      split at h <;> first | (cases h; done) | skip
      rename_i vs' hr
      cases h
      obtain ⟨as, h1, h2, h3, h4⟩ := ih _ hr
      refine ⟨A.getD t undef :: as, by simp only [resVals, h1], by simp [h2], by simp [h3], fun i => ?_⟩
      cases i with
      | zero => exact ⟨rfl, rfl⟩
      | succ i => simpa using h4 i
    | cell a t =>
      simp only [vResVals] at h
      split at h <;> first | (cases h; done) | skip
      rename_i v S1 vs' hl hr
      cases h
      obtain ⟨as, h1, h2, h3, h4⟩ := ih _ hr
      obtain ⟨_, w, k1, k2⟩ := load_sim hl (hT.slots a).v0 (.inr hG)
      refine ⟨w :: as, by simp only [resVals, k1, h1], by simp [h2], by simp [h3], fun i => ?_⟩
      cases i with
      | zero => exact k2
      | succ i => simpa using h4 i

theorem res_out {μ : Mu} {ω : Nat → Option Spot} {S S' H : AHeap} {T A : List Value} {fn : Func} {v : Value} (hG : GI μ S H) (hT : TI μ H ω T A) (h : vRes P fn T S = some (v, S')) :
    S' = S ∧ ∃ a, aRes P fn A H = some (a, H) ∧ VV μ H (fun r => (ω r).bind (place fn.results.toList)) (some (.res none)) v a := by
  unfold vRes at h
  split at h <;> first | (cases h; done) | skip
  rename_i vs hvs
  split at h <;> first | (cases h; done) | skip
  rename_i hok
  obtain ⟨as, h1, h2, h3, h4⟩ := resVals_sim hG hT _ _ hvs
  generalize hrs : fn.results.toList = rs at *
  split at h
  · rename_i v1
    cases h
    obtain ⟨a, rfl⟩ : ∃ a, as = [a] := by
      match as, h3.trans h2.symm with
      | [a], _ => exact ⟨a, rfl⟩
    refine ⟨rfl, a, by simp only [aRes, hrs, h1], ?_⟩
    match rs, h2 with
    | [x], _ =>
      have := h4 0
      cases x with
      | tmp t =>
        simp only [List.getElem?_cons_zero, List.getD_cons_zero] at this
        obtain ⟨rfl, rfl⟩ := this
        refine (hT.slots t).reloc (fun _ => rfl) _ (fun s hs => ?_)
        cases hs
        refine ⟨_, rfl, by simp only [place, if_true], fun k t' ht => ?_⟩
        cases ht
        exact ⟨_, rfl, by simp only [place, if_true]⟩
      | cell b t => exact (show V0 μ H v a from this).at0
  · rename_i hne
    split at h <;> first | (cases h; done) | skip
    rename_i hnt
    cases h
    refine ⟨rfl, .tuple as.toArray, ?_, .tuple (by simp [h2, h3]) fun i => ?_⟩
    · simp only [aRes, hrs, h1]
      match as, vs, h3.trans h2.symm, hne with
      | [], _, _, _ => rfl
      | [a], [v], _, hne => exact absurd rfl (hne v)
      | a :: b :: c, _, _, _ => rfl
    · have e1 : vs.toArray.getD i undef = vs.getD i undef := by rw [← getD_toList, List.toList_toArray]
      have e2 : as.toArray.getD i undef = as.getD i undef := by rw [← getD_toList, List.toList_toArray]
      rw [e1, e2]
      have h5 := h4 i
      cases hx : rs[i]? with
      | none => rw [hx] at h5; exact (show V0 μ H _ _ from h5).at0
      | some x =>
        rw [hx] at h5
        cases x with
        | cell b t => exact (show V0 μ H _ _ from h5).at0
        | tmp t =>
          dsimp only at h5
          have hi : i < rs.length := (List.getElem?_eq_some_iff.1 hx).1
          have hid : rs.findIdx? (isTmp t) = some i := by
            have := List.all_eq_true.1 hok i (List.mem_range.2 hi)
            rw [hx] at this
            simpa using this
          have hnt2 : notTuple (T.getD t undef) = true := by
            rw [← h5.1, List.getD_eq_getElem?_getD, List.getElem?_eq_getElem (by omega)]
            exact List.all_eq_true.1 hnt _ (List.getElem_mem _)
          rw [h5.1, h5.2]
          refine (hT.slots t).relocN (fun _ => rfl) (s' := .res (some i)) ?_ hnt2
          have hne1 : ∀ t', rs ≠ [.tmp t'] := by
            intro t' e
            rw [e] at h2
            match vs, h2 with
            | [v], _ => exact hne v rfl
          rw [place_slot hne1, hid]; rfl

/-- An operation that is taken from elsewhere is the interpreter's call. -/
def OraOK (P : Program) (O : Ora) : Prop := ∀ f q, O.fn f = some q → VCall P (fun g args => if g = f then q args else fun _ => none)

open Classical in
/-- What is lent is held from outside. -/
noncomputable def lendω (μ μ1 : Mu) (ω : Nat → Option Spot) : Nat → Option Spot := fun r => if ∃ q, μ q = some (r, true) ∧ ¬ μ1 q = some (r, true) then some .ext else ω r
theorem callF_ok {call : FuncId → List Value → M Value} (hc : VCall P call) {hps : FuncId → Bool} {hp : Bool} : VCall P (callF hps hp call) := by
  cases hp with
  | false => exact hc
  | true =>
    intro g args aargs S v S' h μ H ω hG hA hD hE
    unfold callF at h
    dsimp only at h
    split at h
    · exact hc g args aargs S v S' h μ H ω hG hA hD hE
    · split at h <;> first | (cases h; done) | skip
      rename_i m S1 hf
      obtain ⟨μ1, h1, h2, h3⟩ := freezeL_sim _ _ _ _ _ _ hf hG hA
      split at h <;> first | (cases h; done) | skip
      rename_i r0 hr0
      obtain ⟨v0, S2⟩ := r0
      simp only [Option.some.injEq] at h
      unfold unlend at h
      dsimp only at h
      split at h
      · rename_i hb
        cases h
        simp only [Bool.and_eq_true, beq_iff_eq] at hb
        obtain ⟨⟨_, hgr⟩, hlog⟩ := hb
        have hlent : ∀ q r, μ q = some (r, true) → ¬ μ1 q = some (r, true) → r < H.next ∧ Priv μ1 r := fun q r hq hn =>
          ⟨hG.lt q r _ hq, fun q' hq' => by
            rcases h2.new q' r hq' with h5 | h5
            · have := hG.inj q q' r hq h5
              subst this
              exact hn hq'
            · have := hG.lt q r _ hq; omega, by rw [h2.hid]; exact hG.vis q r hq⟩
        have hDL : Dom μ1 H (lendω μ μ1 ω) := fun r s hs => by
          unfold lendω at hs
          split at hs
          · rename_i hx
            obtain ⟨q, hq, hn⟩ := hx
            exact hlent q r hq hn
          · exact ⟨(hD r s hs).1, h2.priv (hD r s hs).1 (hD r s hs).2⟩
        have hEL : ∀ r s, lendω μ μ1 ω r = some s → s = .ext := fun r s hs => by
          unfold lendω at hs
          split at hs
          · cases hs; rfl
          · exact hE r s hs
        obtain ⟨a, H', μ', ω', k1, k2, k3, k4, k5, k6⟩ := hc g m aargs S1 v S2 hr0 μ1 H (lendω μ μ1 ω) h1 h3 hDL hEL
        have hsame : ∀ q r, μ q = some (r, true) → H'.get r = H.get r := fun q r hq => by
          by_cases hn : μ1 q = some (r, true)
          · obtain ⟨new, e1, e2⟩ := k3.still
            have : new = [] := by
              rw [k2.log, h1.log, hlog] at e1
              exact List.append_cancel_right (bs := S1.log) (by rw [← e1]; rfl)
            subst this
            exact (e2 q r hn (by simp)).2
          · exact (k4 r (by unfold lendω; rw [if_pos ⟨q, hq, hn⟩])).2
        have hL : Later μ H μ H' := ⟨fun _ _ b h => ⟨b, h⟩, k3.next, fun _ _ h => .inl h, rfl, fun r hr hh => k3.same r hr (by rw [h2.hid]; exact hh), ⟨[], rfl, fun q r hq _ => ⟨hq, hsame q r hq⟩⟩,
          fun r l own e hr hp hg => k3.cells r l own e hr (h2.priv hr hp) hg⟩
        refine ⟨a, H', μ, ω, k1, hG.later hL rfl hsame, hL, fun r hr => ⟨hr, (k4 r ?_).2⟩, fun r s hs => ⟨Nat.lt_of_lt_of_le (hD r s hs).1 k3.next, (hD r s hs).2⟩, ?_⟩
        · unfold lendω
          split
          · rfl
          · exact hr
        · rw [VV.ground_eq hgr k6]
          exact VV.ground_refl hgr
      · cases h
        obtain ⟨a, H', μ', ω', k1, k2, k3, k4, k5, k6⟩ := hc g m aargs S1 v S' hr0 μ1 H ω h1 h3 (fun r s hs => ⟨(hD r s hs).1, h2.priv (hD r s hs).1 (hD r s hs).2⟩) hE
        exact ⟨a, H', μ', ω', k1, k2, h2.trans k3, k4, k5, k6⟩
/-- A value without places of memory stands for the same, wherever memory is. -/
theorem VV.clean {μ μ' : Mu} {H : AHeap} {ω : Nat → Option Spot} (hp : ∀ r, Priv μ r → Priv μ' r) {ℓ : Option Spot} {v a : Value} (h : VV μ H ω ℓ v a) : ∀ d, cleanN d v = true → VV μ' H ω ℓ v a := by
  induction h with
  | sg h => exact fun _ _ => .sg h
  | ptr h => intro d hc; cases d <;> simp [cleanN] at hc
  | map h => intro d hc; cases d <;> simp [cleanN] at hc
  | slm h => intro d hc; cases d <;> simp [cleanN] at hc
  | slE => exact fun _ _ => .slE
  | sl hr hpr hg hl hn hc ih =>
    intro d hcl
    obtain ⟨d, rfl⟩ : ∃ k, d = k + 4 := by
      match d, hcl with
      | 0, h => cases h
      | 1, h => simp [cleanN] at h
      | 2, h => simp [cleanN] at h
      | 3, h => simp [cleanN] at h
      | k + 4, _ => exact ⟨k, rfl⟩
    simp only [cleanN] at hcl
    refine .sl hr (hp _ hpr) hg hl hn (fun i hi => ih i hi d ?_)
    rw [List.getD_eq_getElem?_getD, List.getElem?_eq_getElem (by omega)]
    exact List.all_eq_true.1 hcl _ (List.getElem_mem _)
  | so hω hr hpr hg hl hn hc ih =>
    intro d hcl
    obtain ⟨d, rfl⟩ : ∃ k, d = k + 4 := by
      match d, hcl with
      | 0, h => cases h
      | 1, h => simp [cleanN] at h
      | 2, h => simp [cleanN] at h
      | 3, h => simp [cleanN] at h
      | k + 4, _ => exact ⟨k, rfl⟩
    simp only [cleanN] at hcl
    refine .so hω hr (hp _ hpr) hg hl hn (fun i hi => ih i hi d ?_)
    rw [List.getD_eq_getElem?_getD, List.getElem?_eq_getElem (by omega)]
    exact List.all_eq_true.1 hcl _ (List.getElem_mem _)
  | ep hr hpr hg hl hc ih =>
    intro d hcl
    obtain ⟨d, rfl⟩ : ∃ k, d = k + 2 := by
      match d, hcl with
      | 0, h => cases h
      | 1, h => simp [cleanN] at h
      | k + 2, _ => exact ⟨k, rfl⟩
    simp only [cleanN] at hcl
    refine .ep hr (hp _ hpr) hg hl (fun i hi => ih i hi d ?_)
    rw [List.getD_eq_getElem?_getD, List.getElem?_eq_getElem hi]
    exact List.all_eq_true.1 hcl _ (List.getElem_mem _)
  | func fn hx hc h1 h2 => intro d hc; cases d <;> simp [cleanN] at hc
  | @agg ℓ x x' hx hh ih =>
    intro d hcl
    obtain ⟨d, rfl⟩ : ∃ k, d = k + 1 := by
      match d, hcl with
      | 0, h => cases h
      | k + 1, _ => exact ⟨k, rfl⟩
    simp only [cleanN] at hcl
    refine .agg hx (fun i => ?_)
    by_cases hi : i < x.size
    · refine ih i d ?_
      rw [Array.getD_eq_getD_getElem?, Array.getElem?_eq_getElem hi]
      exact List.all_eq_true.1 hcl _ (by simp)
    · rw [Array.getD_eq_getD_getElem?, Array.getElem?_eq_none (Nat.le_of_not_lt hi), Array.getD_eq_getD_getElem?, Array.getElem?_eq_none (by omega)]
      exact .nores
  | nores => exact fun _ _ => .nores
  | @tuple ℓ x x' hx hh ih =>
    intro d hcl
    obtain ⟨d, rfl⟩ : ∃ k, d = k + 1 := by
      match d, hcl with
      | 0, h => cases h
      | k + 1, _ => exact ⟨k, rfl⟩
    simp only [cleanN] at hcl
    refine .tuple hx (fun i => ?_)
    by_cases hi : i < x.size
    · refine ih i d ?_
      rw [Array.getD_eq_getD_getElem?, Array.getElem?_eq_getElem hi]
      exact List.all_eq_true.1 hcl _ (by simp)
    · rw [Array.getD_eq_getD_getElem?, Array.getElem?_eq_none (Nat.le_of_not_lt hi), Array.getD_eq_getD_getElem?, Array.getElem?_eq_none (by omega)]
      exact .nores
open Classical in
/-- All that others reach is out of reach. -/
noncomputable def hideMu (μ : Mu) : Mu := ⟨fun _ => none, fun r => μ.hid r || decide (∃ q, μ q = some (r, true)), []⟩
theorem hide_priv {μ : Mu} {r : Nat} (h : Priv μ r) : Priv (hideMu μ) r := ⟨fun q hq => (by cases hq), by
  simp only [hideMu, h.2, Bool.false_or, decide_eq_false_iff_not]
  rintro ⟨q, hq⟩
  exact h.1 q hq⟩
theorem priv_hide {μ : Mu} {r : Nat} (h : (hideMu μ).hid r = false) : Priv μ r := by
  simp only [hideMu, Bool.or_eq_false_iff, decide_eq_false_iff_not] at h
  exact ⟨fun q hq => h.2 ⟨q, hq⟩, h.1⟩
/-- A run of a function with these arguments. -/
def VRun (P : Program) (g : FuncId) (args : List Value) (run : M Value) : Prop := ∀ aargs S v S', run S = some (v, S') → ∀ μ H ω, GI μ S H → L0 μ H args aargs → Dom μ H ω → (∀ r s, ω r = some s → s = .ext) →
  ∃ a H' μ' ω', lim P g aargs H = some (a, H') ∧ GI μ' S' H' ∧ Later μ H μ' H' ∧ Kept ω H ω' H' ∧ Dom μ' H' ω' ∧ VV μ' H' ω' (some (.res none)) v a
theorem vpure_ok {g : FuncId} {args : List Value} {run : M Value} (hr : VRun P g args run) : VRun P g args (vpure run args) := by
  intro aargs S v S' h μ H ω hG hA hD hE
  unfold vpure at h
  split at h <;> first | (cases h; done) | skip
  rename_i hca
  split at h <;> first | (cases h; done) | skip
  rename_i w S1 hrun
  split at h <;> first | (cases h; done) | skip
  rename_i hcw
  cases h
  have hG0 : GI (hideMu μ) AHeap.empty H := ⟨fun q o h => (by cases h), fun q q' r h => (by cases h), fun q r b h => (by cases h), fun q _ => rfl, fun q r h => (by cases h), fun r h => by
    simp only [hideMu, Bool.or_eq_true, decide_eq_true_eq] at h
    rcases h with h | ⟨q, hq⟩
    · exact hG.hlt r h
    · exact hG.lt q r _ hq, rfl, fun q cs anc e h => (by cases h)⟩
  have hA0 : L0 (hideMu μ) H args aargs := ⟨hA.1, fun i => by
    by_cases hi : i < args.length
    · refine (hA.2 i).clean (fun r h => hide_priv h) 16 ?_
      rw [List.getD_eq_getElem?_getD, List.getElem?_eq_getElem hi]
      exact List.all_eq_true.1 hca _ (List.getElem_mem _)
    · rw [List.getD_eq_getElem?_getD, List.getElem?_eq_none (Nat.le_of_not_lt hi), List.getD_eq_getElem?_getD, List.getElem?_eq_none (by rw [← hA.1]; omega)]
      exact .nores⟩
  obtain ⟨a, H1, μ1, ω1, k1, k2, k3, k4, k5, k6⟩ := hr aargs _ _ _ hrun (hideMu μ) H ω hG0 hA0 (fun r s h => ⟨(hD r s h).1, hide_priv (hD r s h).2⟩) hE
  have hp1 : ∀ r, Priv μ1 r → Priv μ r := fun r h => priv_hide (by rw [← k3.hid]; exact h.2)
  have hL : Later μ H μ H1 := ⟨fun _ _ b h => ⟨b, h⟩, k3.next, fun _ _ h => .inl h, rfl, fun r hr hh => k3.same r hr (by simp only [hideMu, hh, Bool.true_or]), ⟨[], rfl, fun q r hq _ => ⟨hq, k3.same r (hG.lt q r _ hq) (by
    simp only [hideMu, Bool.or_eq_true, decide_eq_true_eq]
    exact .inr ⟨q, hq⟩)⟩⟩, fun r l own e hr hp hg => k3.cells r l own e hr (hide_priv hp) hg⟩
  refine ⟨a, H1, μ, ω1, k1, ?_, hL, k4, fun r s h => ⟨(k5 r s h).1, hp1 r (k5 r s h).2⟩, k6.clean hp1 16 hcw⟩
  exact hG.later hL rfl fun q r hq => k3.same r (hG.lt q r _ hq) (by
    simp only [hideMu, Bool.or_eq_true, decide_eq_true_eq]
    exact .inr ⟨q, hq⟩)

/-- The value interpreter's calls are the interpreter's. -/
theorem vcall_ok {O : Ora} (hO : OraOK P O) : ∀ n, VCall P (vcall P O n) := by
  intro n
  induction n with
  | zero => intro g args aargs S v S' h; cases h
  | succ n ih =>
    intro g args aargs S v S' h μ H ω hG hA hD hE
    simp only [vcall] at h
    cases ho : O.fn g with
    | some q =>
      rw [ho] at h
      exact hO g q ho g args aargs S v S' (by simpa using h) μ H ω hG hA hD hE
    | none =>
      rw [ho] at h
      dsimp only at h
      cases hf : P.funcs[g]? with
      | none => rw [hf] at h; cases h
      | some fn =>
        rw [hf] at h
        dsimp only at h
        split at h <;> first | (cases h; done) | skip
        rename_i hn
        cases hb : fn.body with
        | none => rw [hb] at h; cases h
        | some c =>
          rw [hb] at h
          dsimp only at h
          have hrun : VRun P g args (vrun P (O.hp g) (callF O.hp (O.hp g) (vcall P O n)) n fn c args) := by
            intro aargs S v S' h μ H ω hG hA hD hE
            have hT0 : TI μ H ω (args ++ List.replicate (fn.ntmps - args.length) undef) (aargs ++ List.replicate (fn.ntmps - aargs.length) undef) := by
              have hl : L0 μ H (args ++ List.replicate (fn.ntmps - args.length) undef) (aargs ++ List.replicate (fn.ntmps - aargs.length) undef) := by
                refine hA.append (VL.ofRange (by rw [hA.1]) fun i hi => ?_)
                have hi2 : i < fn.ntmps - args.length := by simpa using hi
                rw [List.getD_eq_getElem?_getD, List.getElem?_replicate, if_pos hi2, List.getD_eq_getElem?_getD, List.getElem?_replicate, if_pos (by rw [← hA.1]; exact hi2)]
                exact .nores
              exact ⟨hl.1, fun i => (hl.2 i).at0, hD, fun r j hr => by have := hE r _ hr; cases this⟩
            have fin : ∀ (e : AEx) (T1 : List Value) (S1 : AHeap), (e = .normal ∨ e = .ret) → vCode P (O.hp g) (callF O.hp (O.hp g) (vcall P O n)) n c (args ++ List.replicate (fn.ntmps - args.length) undef) S = some (e, T1, S1) → vRes P fn T1 S1 = some (v, S') →
                ∃ a H' μ' ω', lim P g aargs H = some (a, H') ∧ GI μ' S' H' ∧ Later μ H μ' H' ∧ Kept ω H ω' H' ∧ Dom μ' H' ω' ∧ VV μ' H' ω' (some (.res none)) v a := by
              intro e T1 S1 he hcode hres
              obtain ⟨A1, H1, μ1, ω1, h1, h2, h3, h4, h5⟩ := code_out (callF_ok ih) n c _ _ _ _ _ _ _ _ _ hcode hG hT0
              obtain ⟨rfl, a, k1, k2⟩ := res_out (P := P) h2 h5 hres
              refine ⟨a, H1, μ1, fun r => (ω1 r).bind (place fn.results.toList), lim_code hf hn hb h1 he k1, h2, h3, fun r hr => ?_, fun r s hs => ?_, k2⟩
              · obtain ⟨q1, q2⟩ := h4 r hr
                exact ⟨by simp [q1, place], q2⟩
              · cases hr : ω1 r with
                | none => simp [hr] at hs
                | some s0 => exact h5.dom r s0 hr
            unfold vrun at h
            split at h
            · rename_i T1 S1 hx; exact fin .normal _ _ (.inl rfl) hx h
            · rename_i T1 S1 hx; exact fin .ret _ _ (.inr rfl) hx h
            · cases h
          split at h
          · exact vpure_ok hrun aargs S v S' h μ H ω hG hA hD hE
          · exact hrun aargs S v S' h μ H ω hG hA hD hE
end
end Go.Abs

/-
The value interpreter without rounds; what comes in; a law out of the value interpreter's run.
-/
namespace Go.Abs
open Go.RowKit
open Classical

/-- A call's answer, with rounds enough. -/
noncomputable def vlim (P : Program) (O : Ora) (g : FuncId) (args : List Value) : M Value := fun S =>
  if h : ∃ r, ∃ k0, ∀ k, k0 ≤ k → vcall P O k g args S = some r then some (Classical.choose h) else none

section
variable {P : Program} {O : Ora}

theorem vlim_some {g : FuncId} {args : List Value} {S : AHeap} {r : Value × AHeap} (h : vlim P O g args S = some r) : ∃ k0, ∀ k, k0 ≤ k → vcall P O k g args S = some r := by
  unfold vlim at h
  split at h
  · rename_i hx
    have := Classical.choose_spec hx
    cases h
    exact this
  · cases h
theorem vlim_of {g : FuncId} {args : List Value} {S : AHeap} {r : Value × AHeap} (h : ∃ k0, ∀ k, k0 ≤ k → vcall P O k g args S = some r) : vlim P O g args S = some r := by
  have hx : ∃ r, ∃ k0, ∀ k, k0 ≤ k → vcall P O k g args S = some r := ⟨r, h⟩
  unfold vlim
  rw [dif_pos hx]
  obtain ⟨k0, h0⟩ := h
  obtain ⟨k1, h1⟩ := Classical.choose_spec hx
  have e0 := h0 (max k0 k1) (Nat.le_max_left _ _)
  have e1 := h1 (max k0 k1) (Nat.le_max_right _ _)
  rw [e0] at e1
  exact e1.symm
theorem vlim_ok (hO : OraOK P O) : VCall P (vlim P O) := by
  intro g args aargs S v S' h
  obtain ⟨k, hk⟩ := vlim_some h
  exact vcall_ok hO k g args aargs S v S' (hk k (Nat.le_refl k))
theorem vlim_ora {g : FuncId} {args : List Value} {q : List Value → M Value} (h : O.fn g = some q) (S : AHeap) : vlim P O g args S = q args S := by
  cases hq : q args S with
  | some r =>
    refine vlim_of ⟨1, fun k hk => ?_⟩
    obtain ⟨k, rfl⟩ : ∃ i, k = i + 1 := ⟨k - 1, by omega⟩
    simp only [vcall, h, hq]
  | none =>
    cases hv : vlim P O g args S with
    | none => rfl
    | some r =>
      obtain ⟨k, hk⟩ := vlim_some hv
      have := hk (k + 1) (by omega)
      simp only [vcall, h, hq] at this
      cases this

/-- What a call answers, so many rounds answer. -/
def CLim (c : FuncId → List Value → M Value) (ck : Nat → FuncId → List Value → M Value) : Prop := ∀ g args S r, c g args S = some r → ∃ k0, ∀ k, k0 ≤ k → ck k g args S = some r
theorem vlim_clim : CLim (vlim P O) (fun k => vcall P O k) := fun g args S r h => vlim_some h
theorem callF_clim {c : FuncId → List Value → M Value} {ck : Nat → FuncId → List Value → M Value} (hl : CLim c ck) {hps : FuncId → Bool} {hp : Bool} : CLim (callF hps hp c) (fun k => callF hps hp (ck k)) := by
  cases hp with
  | false => exact hl
  | true =>
    intro g args S r h
    unfold callF at h
    dsimp only at h
    split at h
    · rename_i hg
      obtain ⟨k0, h0⟩ := hl _ _ _ _ h
      exact ⟨k0, fun k hk => by unfold callF; dsimp only; rw [if_pos hg]; exact h0 k hk⟩
    · rename_i hg
      split at h <;> first | (cases h; done) | skip
      rename_i m S1 hf
      split at h <;> first | (cases h; done) | skip
      rename_i r0 hr0
      obtain ⟨k0, h0⟩ := hl _ _ _ _ hr0
      exact ⟨k0, fun k hk => by unfold callF; dsimp only; rw [if_neg hg, hf]; dsimp only; rw [h0 k hk]; exact h⟩
section
variable {c : FuncId → List Value → M Value} {ck : Nat → FuncId → List Value → M Value}
theorem vStep_lim (hl : CLim c ck) {fx : Fx} {T : List Value} {o : Oper} {S : AHeap} {r : Value × AHeap} (h : vStep P fx c T o S = some r) : ∃ k0, ∀ k, k0 ≤ k → vStep P fx (ck k) T o S = some r := by
  unfold vStep at h
  split at h
  · rename_i hok
    split at h
    · rename_i q0 hop
      split at h
      · rename_i f hf
        split at h
        · rename_i g first captured hev
          obtain ⟨k0, hk⟩ := hl _ _ _ _ h
          refine ⟨k0, fun k hkk => ?_⟩
          unfold vStep
          rw [if_pos hok]
          simp only [hop, hf, hev]
          exact hk k hkk
        · cases h
      · rename_i b hb
        refine ⟨0, fun k _ => ?_⟩
        unfold vStep
        rw [if_pos hok]
        simp only [hop, hb]
        exact h
      · cases h
    · rename_i hop
      refine ⟨0, fun k _ => ?_⟩
      unfold vStep
      rw [if_pos hok]
      split
      · rename_i q0 hc; exact absurd hc (hop q0)
      · exact h
  · cases h

theorem vOps_lim (hl : CLim c ck) {fx : Fx} {ops : Array Oper} : ∀ (l : List Oper) (T : List Value) (S : AHeap) (r : List Value × AHeap), vOps P fx c ops l T S = some r → ∃ k0, ∀ k, k0 ≤ k → vOps P fx (ck k) ops l T S = some r := by
  intro l
  induction l with
  | nil => intro T S r h; exact ⟨0, fun k _ => h⟩
  | cons o l ih =>
    intro T S r h
    simp only [vOps] at h
    split at h
    · rename_i hw
      split at h
      · rename_i v S' hs
        obtain ⟨k1, h1⟩ := vStep_lim hl hs
        obtain ⟨k2, h2⟩ := ih _ _ _ h
        refine ⟨max k1 k2, fun k hk => ?_⟩
        simp only [vOps, hw, if_true, h1 k (by omega)]
        exact h2 k (by omega)
      · cases h
    · rename_i hw
      obtain ⟨k2, h2⟩ := ih _ _ _ h
      refine ⟨k2, fun k hk => ?_⟩
      simp only [vOps, hw, if_false]
      exact h2 k hk
theorem vOpsD_lim (hl : CLim c ck) {fx : Fx} {chk : List Nat} {nl : List (Nat × Nat)} {ops : Array Oper} : ∀ (l : List Oper) (i : Nat) (hist : List (Value × AHeap)) (T : List Value) (S : AHeap) (r : List Value × AHeap), vOpsD P fx chk nl c ops i hist l T S = some r → ∃ k0, ∀ k, k0 ≤ k → vOpsD P fx chk nl (ck k) ops i hist l T S = some r := by
  intro l
  induction l with
  | nil => intro i hist T S r h; exact ⟨0, fun k _ => h⟩
  | cons o l ih =>
    intro i hist T S r h
    simp only [vOpsD] at h
    split at h
    · rename_i hw
      split at h
      · rename_i v S' hs
        split at h
        · rename_i hq
          obtain ⟨k1, h1⟩ := vStep_lim hl hs
          obtain ⟨k2, h2⟩ := ih _ _ _ _ _ h
          refine ⟨max k1 k2, fun k hk => ?_⟩
          simp only [vOpsD, hw, if_true, h1 k (by omega), hq]
          exact h2 k (by omega)
        · cases h
      · cases h
    · rename_i hw
      obtain ⟨k2, h2⟩ := ih _ _ _ _ _ h
      refine ⟨k2, fun k hk => ?_⟩
      simp only [vOpsD, hw, if_false]
      exact h2 k hk
end

/-- Code, without rounds. -/
noncomputable def vcodeV (P : Program) (O : Ora) (hp : Bool) : Code → List Value → AHeap → St
  | .skip, T, H => some (.normal, T, H)
  | .region _ ops false, T, H => match vOps P ⟨hp, false, false⟩ (callF O.hp hp (vlim P O)) ops ops.toList T H with
    | some (T1, H1) => some (.normal, T1, H1)
    | none => none
  | .region _ ops true, T, H => if drawnOk P ops then match vOpsD P ⟨hp, !(checked P ops).isEmpty, fixed P ops⟩ (checked P ops) (again P ops) (callF O.hp hp (vlim P O)) ops 0 [] ops.toList T H with
    | some (T1, H1) => some (.normal, T1, H1)
    | none => none
    else none
  | .seq x y, T, H => match vcodeV P O hp x T H with
    | some (.normal, T1, H1) => vcodeV P O hp y T1 H1
    | r => r
  | .cond c x y, T, H => if okArg c then
      match evalT T c with
      | .bool true => vcodeV P O hp x T H
      | .bool false => vcodeV P O hp y T H
      | _ => none
    else none
  | .block id c, T, H => match vcodeV P O hp c T H with
    | some (.exit id', T1, H1) => if id' = id then some (.normal, T1, H1) else some (.exit id', T1, H1)
    | r => r
  | .loop c, T, H => loopV (vcodeV P O hp c) T H
  | .exit id, T, H => some (.exit id, T, H)
  | .ret, T, H => some (.ret, T, H)
  | _, _, _ => none

theorem vcodeV_lim {hp : Bool} : ∀ (c : Code) (T : List Value) (H : AHeap) (r), vcodeV P O hp c T H = some r → ∃ k0, ∀ k fuel, k0 ≤ k → k0 ≤ fuel → vCode P hp (callF O.hp hp (vcall P O k)) fuel c T H = some r := by
  intro c
  induction c with
  | skip => intro T H r h; exact ⟨0, fun k fuel _ _ => h⟩
  | region i ops d =>
    intro T H r h
    cases d with
    | false =>
      simp only [vcodeV] at h
      split at h
      · rename_i T1 H1 ho
        obtain ⟨k0, h0⟩ := vOps_lim (callF_clim vlim_clim) _ _ _ _ ho
        exact ⟨k0, fun k fuel hk _ => by simp only [vCode, h0 k hk]; exact h⟩
      · cases h
    | true =>
      simp only [vcodeV] at h
      split at h
      · rename_i hd
        split at h
        · rename_i T1 H1 ho
          obtain ⟨k0, h0⟩ := vOpsD_lim (callF_clim vlim_clim) _ _ _ _ _ _ ho
          exact ⟨k0, fun k fuel hk _ => by simp only [vCode, hd, if_true, h0 k hk]; exact h⟩
        · cases h
      · cases h
  | seq x y ihx ihy =>
    intro T H r h
    simp only [vcodeV] at h
    split at h
    · rename_i T1 H1 hx
      obtain ⟨k1, h1⟩ := ihx _ _ _ hx
      obtain ⟨k2, h2⟩ := ihy _ _ _ h
      exact ⟨max k1 k2, fun k fuel hk hf => by simp only [vCode, h1 k fuel (by omega) (by omega)]; exact h2 k fuel (by omega) (by omega)⟩
    · rename_i hne
      obtain ⟨k1, h1⟩ := ihx _ _ _ h
      refine ⟨k1, fun k fuel hk hf => ?_⟩
      simp only [vCode, h1 k fuel hk hf]
      split
      · rename_i T1 H1 he; exact absurd (h.trans he) (hne T1 H1)
      · rfl
  | cond c x y ihx ihy =>
    intro T H r h
    simp only [vcodeV] at h
    split at h
    · rename_i hok
      split at h
      · rename_i hb
        obtain ⟨k1, h1⟩ := ihx _ _ _ h
        exact ⟨k1, fun k fuel hk hf => by simp only [vCode, hok, if_true, hb]; exact h1 k fuel hk hf⟩
      · rename_i hb
        obtain ⟨k1, h1⟩ := ihy _ _ _ h
        exact ⟨k1, fun k fuel hk hf => by simp only [vCode, hok, if_true, hb]; exact h1 k fuel hk hf⟩
      · cases h
    · cases h
  | block id c ih =>
    intro T H r h
    simp only [vcodeV] at h
    split at h
    · rename_i id' T1 H1 hc
      obtain ⟨k1, h1⟩ := ih _ _ _ hc
      exact ⟨k1, fun k fuel hk hf => by simp only [vCode, h1 k fuel hk hf]; exact h⟩
    · rename_i hne
      obtain ⟨k1, h1⟩ := ih _ _ _ h
      refine ⟨k1, fun k fuel hk hf => ?_⟩
      simp only [vCode, h1 k fuel hk hf]
      split
      · rename_i id' T1 H1 he; exact absurd (h.trans he) (hne id' T1 H1)
      · rfl
  | loop c ih =>
    intro T H r h
    simp only [vcodeV] at h
    obtain ⟨n, hn⟩ := loopV_some h
    have key : ∀ (n : Nat) (T : List Value) (H : AHeap), aLoop n (vcodeV P O hp c) T H = some r → ∃ k0, ∀ k fuel, k0 ≤ k → k0 ≤ fuel → ∀ j, n ≤ j → aLoop j (vCode P hp (callF O.hp hp (vcall P O k)) fuel c) T H = some r := by
      intro n
      induction n with
      | zero => intro T H h; cases h
      | succ n ihn =>
        intro T H h
        simp only [aLoop] at h
        split at h
        · rename_i T1 H1 hf
          obtain ⟨k1, h1⟩ := ih _ _ _ hf
          obtain ⟨k2, h2⟩ := ihn _ _ h
          refine ⟨max k1 k2, fun k fuel hk hfu j hj => ?_⟩
          obtain ⟨j, rfl⟩ : ∃ i, j = i + 1 := ⟨j - 1, by omega⟩
          simp only [aLoop, h1 k fuel (by omega) (by omega)]
          exact h2 k fuel (by omega) (by omega) j (by omega)
        · rename_i hne
          obtain ⟨k1, h1⟩ := ih _ _ _ h
          refine ⟨k1, fun k fuel hk hfu j hj => ?_⟩
          obtain ⟨j, rfl⟩ : ∃ i, j = i + 1 := ⟨j - 1, by omega⟩
          simp only [aLoop, h1 k fuel hk hfu]
          split
          · rename_i T1 H1 he; exact absurd (h.trans he) (hne T1 H1)
          · rfl
    obtain ⟨k0, h0⟩ := key n T H hn
    exact ⟨max k0 n, fun k fuel hk hf => by simp only [vCode]; exact h0 k fuel (by omega) (by omega) fuel (by omega)⟩
  | exit id => intro T H r h; exact ⟨0, fun k fuel _ _ => h⟩
  | ret => intro T H r h; exact ⟨0, fun k fuel _ _ => h⟩
  | _ => intro T H r h; simp only [vcodeV] at h; cases h

/-- A call of a function is its code. -/
theorem vlim_code {f : FuncId} {fn : Func} {c : Code} {args : List Value} {H H1 H' : AHeap} {e : AEx} {T : List Value} {v : Value} (ho : O.fn f = none) (hpu : O.pu f = false) (hf : P.funcs[f]? = some fn) (hn : fn.name ≠ "runtime.NumGoroutine") (hb : fn.body = some c)
    (h : vcodeV P O (O.hp f) c (args ++ List.replicate (fn.ntmps - args.length) undef) H = some (e, T, H1)) (he : e = .normal ∨ e = .ret) (hres : vRes P fn T H1 = some (v, H')) : vlim P O f args H = some (v, H') := by
  obtain ⟨k0, h0⟩ := vcodeV_lim _ _ _ _ h
  refine vlim_of ⟨k0 + 1, fun k hk => ?_⟩
  obtain ⟨k, rfl⟩ : ∃ i, k = i + 1 := ⟨k - 1, by omega⟩
  simp only [vcall, ho, hf, if_neg hn, hb, hpu, Bool.false_eq_true, if_false, vrun, h0 k k (by omega) (by omega)]
  rcases he with rfl | rfl <;> exact hres
/-- A call of a function that needs no memory of others. -/
theorem vlim_pure {f : FuncId} {fn : Func} {c : Code} {args : List Value} {S H1 H' : AHeap} {e : AEx} {T : List Value} {v : Value} (ho : O.fn f = none) (hpu : O.pu f = true) (hf : P.funcs[f]? = some fn) (hn : fn.name ≠ "runtime.NumGoroutine") (hb : fn.body = some c)
    (h : vcodeV P O (O.hp f) c (args ++ List.replicate (fn.ntmps - args.length) undef) AHeap.empty = some (e, T, H1)) (he : e = .normal ∨ e = .ret) (hres : vRes P fn T H1 = some (v, H')) (hca : args.all (cleanN 16) = true) (hcv : cleanN 16 v = true) : vlim P O f args S = some (v, S) := by
  obtain ⟨k0, h0⟩ := vcodeV_lim _ _ _ _ h
  refine vlim_of ⟨k0 + 1, fun k hk => ?_⟩
  obtain ⟨k, rfl⟩ : ∃ i, k = i + 1 := ⟨k - 1, by omega⟩
  have hr : vrun P (O.hp f) (callF O.hp (O.hp f) (vcall P O k)) k fn c args AHeap.empty = some (v, H') := by
    simp only [vrun, h0 k k (by omega) (by omega)]
    rcases he with rfl | rfl <;> exact hres
  simp only [vcall, ho, hf, if_neg hn, hb, hpu, if_true, vpure, if_pos hca, hr, if_pos hcv]

/-! What comes in. -/
def Ty.vval : (t : Ty) → t.Val → List Value
  | .int k, n => [.int k n]
  | .bool, b => [.bool b]
  | .str, s => [.string s]
  | .slc _ e, l => match l with
    | none => [.slice none 0 0]
    | some l => [SL 1 e.sz l.length (l.flatMap e.vval)]
  | .pair a b, (x, y) => a.vval x ++ b.vval y
  | .unit, _ => []
theorem Ty.vval_length : ∀ (t : Ty) (x : t.Val), (t.vval x).length = t.sz := by
  intro t
  induction t with
  | pair a b iha ihb => rintro ⟨x, y⟩; simp [Ty.vval, Ty.sz, iha, ihb]
  | slc bytes e ih => intro x; cases x <;> rfl
  | _ => intro x; rfl
theorem vvals_length {e : Ty} (l : List e.Val) : (l.flatMap e.vval).length = l.length * e.sz := by
  induction l with
  | nil => simp
  | cons x l ih => simp [List.flatMap_cons, Ty.vval_length, ih, Nat.add_mul]; omega

def M0 : Mu := ⟨fun _ => none, fun _ => false, []⟩
theorem GI.none {H : AHeap} : GI M0 AHeap.empty H := ⟨(fun q o h => by cases h), (fun q q' r h => by cases h), (fun q r b h => by cases h), (fun q _ => rfl), (fun q r h => by cases h), (fun r h => by cases h), rfl, (fun q cs anc e h => by cases h)⟩
theorem Ty.place_vv : ∀ (t : Ty) (x : t.Val) (H : AHeap), Later M0 H M0 (t.place x H).2 ∧ L0 M0 (t.place x H).2 (t.vval x) (t.place x H).1 := by
  intro t
  induction t with
  | int k => intro x H; exact ⟨Later.refl _ _, VL.cons (.sg rfl) VL.nil⟩
  | bool => intro x H; exact ⟨Later.refl _ _, VL.cons (.sg rfl) VL.nil⟩
  | str => intro x H; exact ⟨Later.refl _ _, VL.cons (.sg rfl) VL.nil⟩
  | unit => intro x H; exact ⟨Later.refl _ _, VL.nil⟩
  | pair a b iha ihb =>
    rintro ⟨x, y⟩ H
    obtain ⟨h1, h2⟩ := iha x H
    obtain ⟨h3, h4⟩ := ihb y (a.place x H).2
    exact ⟨h1.trans h3, (h2.later h3).append h4⟩
  | slc bytes e ih =>
    intro x H
    match x with
    | none => exact ⟨Later.refl _ _, VL.cons (.sg rfl) VL.nil⟩
    | some [] => exact ⟨Later.refl _ _, VL.cons (.slE (e := e.sz)) VL.nil⟩
    | some (x :: l) =>
      have key : ∀ (l : List e.Val) (H : AHeap), Later M0 H M0 (placeAll e.place l H).2 ∧ L0 M0 (placeAll e.place l H).2 (l.flatMap e.vval) (placeAll e.place l H).1 := by
        intro l
        induction l with
        | nil => intro H; exact ⟨Later.refl _ _, VL.nil⟩
        | cons x l ihl =>
          intro H
          obtain ⟨h1, h2⟩ := ih x H
          obtain ⟨h3, h4⟩ := ihl (e.place x H).2
          exact ⟨h1.trans h3, (h2.later h3).append h4⟩
      obtain ⟨h1, h2⟩ := key (x :: l) H
      have hL : Later M0 (placeAll e.place (x :: l) H).2 M0 ((placeAll e.place (x :: l) H).2.push (.cells (placeAll e.place (x :: l) H).1 .ro e.sz)) := later_push (fun q r h => by cases h) _
      refine ⟨h1.trans hL, VL.cons ?_ VL.nil⟩
      have hlen : (placeAll e.place (x :: l) H).1.length = (l.length + 1) * e.sz := by rw [← h2.1, vvals_length]; rfl
      show V0 M0 ((placeAll e.place (x :: l) H).2.push (.cells (placeAll e.place (x :: l) H).1 .ro e.sz)) (SL 1 e.sz (l.length + 1) ((x :: l).flatMap e.vval)) (.slice (some ⟨(placeAll e.place (x :: l) H).2.next, 0, none⟩) (l.length + 1) (l.length + 1))
      refine VV.sl (o := 0) (l := (placeAll e.place (x :: l) H).1) (own := .ro) (by simp) ⟨fun q h => (by cases h), rfl⟩ (by rw [AHeap.get_push, if_pos rfl]) (by omega) (by rw [List.toList_toArray, vvals_length]; rfl) (fun i hi => ?_)
      rw [Nat.zero_add, List.toList_toArray]
      exact (h2.2 i).later0 hL

def Args.vval : (l : List (Bool × Ty)) → Args l → List Value
  | [], _ => []
  | (b, c) :: l, (x, xs) => argOf b (c.vval x) :: Args.vval l xs
theorem argOf_vv {H : AHeap} {b : Bool} {cs cs' : List Value} (h : L0 M0 H cs cs') : V0 M0 H (argOf b cs) (argOf b cs') := by
  unfold argOf
  split
  · exact agg_of h
  · rw [headD_getD, headD_getD]; exact h.2 0
theorem Args.place_vv : ∀ (l : List (Bool × Ty)) (x : Args l) (H : AHeap), Later M0 H M0 (Args.place l x H).2 ∧ L0 M0 (Args.place l x H).2 (Args.vval l x) (Args.place l x H).1 := by
  intro l
  induction l with
  | nil => intro x H; exact ⟨Later.refl _ _, VL.nil⟩
  | cons p l ih =>
    obtain ⟨b, c⟩ := p
    rintro ⟨x, xs⟩ H
    obtain ⟨h1, h2⟩ := c.place_vv x H
    obtain ⟨h3, h4⟩ := ih xs (c.place x H).2
    exact ⟨h1.trans h3, VL.cons ((argOf_vv h2).later0 h3) h4⟩

/-- A law's run out of the value interpreter's. -/
theorem law_of_vlim (hO : OraOK P O) {f : FuncId} {codes : List (Bool × Ty)} {x : Args codes} {S' : AHeap} (h : vlim P O f (Args.vval codes x) AHeap.empty = some (.bool true, S')) :
    ∃ k, (acall P k f (Args.place codes x AHeap.empty).1 (Args.place codes x AHeap.empty).2).map (·.1) = some (.bool true) := by
  obtain ⟨h1, h2⟩ := Args.place_vv codes x AHeap.empty
  obtain ⟨a, H', μ', ω', k1, k2, k3, k4, k5, k6⟩ := vlim_ok hO f _ _ _ _ _ h M0 _ W0 GI.none h2 (fun r s hs => by cases hs) (fun r s hs => by cases hs)
  have : a = .bool true := ground_of (k6.v0) rfl
  subst this
  exact law_of_lim k1
theorem ora_none {hps pus : FuncId → Bool} : OraOK P ⟨fun _ => none, hps, pus⟩ := fun f q h => by cases h
end
end Go.Abs

/-
Words for the value interpreter's walks.
-/
namespace Go.Abs
open Go.RowKit

section
variable {R : Type} {P : Program} {O : Ora} {fx : Fx} {hp nm : Bool} {chk : List Nat} {call : FuncId → List Value → M Value} {ops : Array Oper}

/-- What is to be the same at another time. -/
def okC (v : Value) (r : Option R) : Option R := if okq 3 v = true then r else none
theorem okC_of {v : Value} (h : okq 3 v = true) (r : Option R) : okC v r = r := if_pos h
@[simp] theorem okC_bool (b : Bool) (r : Option R) : okC (.bool b) r = r := Eq.trans rfl rfl
@[simp] theorem okC_int (k : IntKind) (n : Int) (r : Option R) : okC (.int k n) r = r := Eq.trans rfl rfl
@[simp] theorem okC_string (s : ByteArray) (r : Option R) : okC (.string s) r = r := Eq.trans rfl rfl
@[simp] theorem okC_slice (a : Option Addr) (n c : Nat) (r : Option R) : okC (.slice a n c) r = r := Eq.trans rfl rfl
@[simp] theorem okC_iface (k : Nat) (v : Value) (r : Option R) : okC (.iface k v) r = r := Eq.trans rfl rfl
@[simp] theorem okC_pointer (a : Option Addr) (r : Option R) : okC (.pointer a) r = r := Eq.trans rfl rfl
def gdC (v : Value) (b : Bool) (s : M Value) (S : AHeap) (K : Value → AHeap → Option R) : Option R :=
  if (vb v == some b) = true then andThen (s S) (fun v S1 => okC v (K v S1)) else K undef S
@[simp] theorem gdC_tt (s : M Value) (H : AHeap) (K : Value → AHeap → Option R) : gdC (.bool true) true s H K = andThen (s H) (fun v S1 => okC v (K v S1)) := Eq.trans rfl rfl
@[simp] theorem gdC_ff (s : M Value) (H : AHeap) (K : Value → AHeap → Option R) : gdC (.bool false) false s H K = andThen (s H) (fun v S1 => okC v (K v S1)) := Eq.trans rfl rfl
@[simp] theorem gdC_tf (s : M Value) (H : AHeap) (K : Value → AHeap → Option R) : gdC (.bool true) false s H K = K undef H := Eq.trans rfl rfl
@[simp] theorem gdC_ft (s : M Value) (H : AHeap) (K : Value → AHeap → Option R) : gdC (.bool false) true s H K = K undef H := Eq.trans rfl rfl
@[simp] theorem gdC_ut (s : M Value) (b : Bool) (H : AHeap) (K : Value → AHeap → Option R) : gdC undef b s H K = K undef H := Eq.trans rfl rfl

/-- What is left alone until it is come to. -/
abbrev Stay {α : Type} (a : α) : Type := Unit
def andK (s : Option (Value × AHeap)) (K : Value → AHeap → Option R) (p : Stay K) : Option R := andThen s K
def gdK (v : Value) (b : Bool) (s : M Value) (S : AHeap) (K : Value → AHeap → Option R) (p : Stay K) : Option R := gd v b s S K
def gdCK (v : Value) (b : Bool) (s : M Value) (S : AHeap) (K : Value → AHeap → Option R) (p : Stay K) : Option R := gdC v b s S K
def okK (v : Value) (r : Option R) (p : Stay r) : Option R := okC v r
@[simp] theorem andK_some (v : Value) (H : AHeap) (K : Value → AHeap → Option R) (p : Stay K) : andK (some (v, H)) K p = K v H := Eq.trans rfl rfl
@[simp] theorem gdK_tt (s : M Value) (H : AHeap) (K : Value → AHeap → Option R) (p : Stay K) : gdK (.bool true) true s H K p = andK (s H) K p := Eq.trans rfl rfl
@[simp] theorem gdK_ff (s : M Value) (H : AHeap) (K : Value → AHeap → Option R) (p : Stay K) : gdK (.bool false) false s H K p = andK (s H) K p := Eq.trans rfl rfl
@[simp] theorem gdK_tf (s : M Value) (H : AHeap) (K : Value → AHeap → Option R) (p : Stay K) : gdK (.bool true) false s H K p = K undef H := Eq.trans rfl rfl
@[simp] theorem gdK_ft (s : M Value) (H : AHeap) (K : Value → AHeap → Option R) (p : Stay K) : gdK (.bool false) true s H K p = K undef H := Eq.trans rfl rfl
@[simp] theorem gdK_ut (s : M Value) (b : Bool) (H : AHeap) (K : Value → AHeap → Option R) (p : Stay K) : gdK undef b s H K p = K undef H := Eq.trans rfl rfl
@[simp] theorem gdCK_tt (s : M Value) (H : AHeap) (K : Value → AHeap → Option R) (p : Stay K) : gdCK (.bool true) true s H K p = andK (s H) (fun v S1 => okK v (K v S1) ()) () := Eq.trans rfl rfl
@[simp] theorem gdCK_ff (s : M Value) (H : AHeap) (K : Value → AHeap → Option R) (p : Stay K) : gdCK (.bool false) false s H K p = andK (s H) (fun v S1 => okK v (K v S1) ()) () := Eq.trans rfl rfl
@[simp] theorem gdCK_tf (s : M Value) (H : AHeap) (K : Value → AHeap → Option R) (p : Stay K) : gdCK (.bool true) false s H K p = K undef H := Eq.trans rfl rfl
@[simp] theorem gdCK_ft (s : M Value) (H : AHeap) (K : Value → AHeap → Option R) (p : Stay K) : gdCK (.bool false) true s H K p = K undef H := Eq.trans rfl rfl
@[simp] theorem gdCK_ut (s : M Value) (b : Bool) (H : AHeap) (K : Value → AHeap → Option R) (p : Stay K) : gdCK undef b s H K p = K undef H := Eq.trans rfl rfl
@[simp] theorem okK_bool (b : Bool) (r : Option R) (p : Stay r) : okK (.bool b) r p = r := Eq.trans rfl rfl
@[simp] theorem okK_int (k : IntKind) (n : Int) (r : Option R) (p : Stay r) : okK (.int k n) r p = r := Eq.trans rfl rfl
@[simp] theorem okK_string (s : ByteArray) (r : Option R) (p : Stay r) : okK (.string s) r p = r := Eq.trans rfl rfl
@[simp] theorem okK_slice (a : Option Addr) (n c : Nat) (r : Option R) (p : Stay r) : okK (.slice a n c) r p = r := Eq.trans rfl rfl
@[simp] theorem okK_pointer (a : Option Addr) (r : Option R) (p : Stay r) : okK (.pointer a) r p = r := Eq.trans rfl rfl
theorem okK_of {v : Value} (h : okq 3 v = true) (r : Option R) (p : Stay r) : okK v r p = r := if_pos h
theorem vOps_pure {l rest : List Oper} {o : Oper} {T : List Value} {T1 : Value → List Value} {S : AHeap} {v : Value} {r : Option (List Value × AHeap)} (hl : l = o :: rest) (hg : o.guard = none) (hm : ∀ v, vPut o rest T v = T1 v)
    (hs : vStep P fx call T o S = some (v, S)) (hK : vOps P fx call ops rest (T1 v) S = r) : vOps P fx call ops l T S = r := by
  subst hl
  simp only [vOps, Region.wanted, hg, if_true, hs, hm]
  exact hK
theorem vOps_do {l rest : List Oper} {o : Oper} {T : List Value} {T1 : Value → List Value} {S : AHeap} {s : Option (Value × AHeap)} {K : Value → AHeap → Option (List Value × AHeap)} (hl : l = o :: rest) (hg : o.guard = none) (hm : ∀ v, vPut o rest T v = T1 v)
    (hs : vStep P fx call T o S = s) (hK : ∀ v S1, vOps P fx call ops rest (T1 v) S1 = K v S1) : vOps P fx call ops l T S = andK s K () := by
  show _ = andThen s K
  subst hl hs
  simp only [vOps, Region.wanted, hg, if_true, hm, hK]
  rfl
theorem vOps_doN {l rest : List Oper} {o : Oper} {T : List Value} {T1 : Value → List Value} {S : AHeap} {s : Option (Value × AHeap)} {K : Value → AHeap → Option (List Value × AHeap)} (hl : l = o :: rest) (hg : o.guard = none) (hm : ∀ v, vPut o rest T v = T1 v)
    (hs : vStep P fx call T o S = s) (hK : ∀ v S1, vOps P fx call ops rest (T1 v) S1 = K v S1) : vOps P fx call ops l T S = andK s K () := by
  show _ = andThen s K
  subst hl hs
  simp only [vOps, Region.wanted, hg, if_true, hm]
  cases vStep P fx call T o S with
  | none => rfl
  | some r => exact hK r.1 r.2
theorem vOps_gd {l rest : List Oper} {o : Oper} {T : List Value} {T1 : Value → List Value} {S : AHeap} {j : Nat} {b : Bool} {g : Value} {s : M Value} {K : Value → AHeap → Option (List Value × AHeap)} (hl : l = o :: rest) (hg : o.guard = some (j, b)) (hm : ∀ v, vPut o rest T v = T1 v)
    (hy : ynd ops T j = vb g) (hs : vStep P fx call T o S = s S) (hK : ∀ v S1, vOps P fx call ops rest (T1 v) S1 = K v S1) : vOps P fx call ops l T S = gdK g b s S K () := by
  show _ = gd g b s S K
  subst hl
  simp only [vOps, Region.wanted, hg, hy, hs, hm, hK, gd]
  rfl
theorem vOps_gdN {l rest : List Oper} {o : Oper} {T : List Value} {T1 : Value → List Value} {S : AHeap} {j : Nat} {b : Bool} {g : Value} {s : M Value} {K : Value → AHeap → Option (List Value × AHeap)} (hl : l = o :: rest) (hg : o.guard = some (j, b)) (hm : ∀ v, vPut o rest T v = T1 v)
    (hy : ynd ops T j = vb g) (hs : vStep P fx call T o S = s S) (hK : ∀ v S1, vOps P fx call ops rest (T1 v) S1 = K v S1) : vOps P fx call ops l T S = gdK g b s S K () := by
  show _ = gd g b s S K
  subst hl
  simp only [vOps, Region.wanted, hg, hy, hs, hm, gd]
  split
  · cases s S with
    | none => rfl
    | some r => exact hK r.1 r.2
  · exact hK undef S
theorem vOps_nil {T : List Value} {S : AHeap} : vOps P fx call ops [] T S = some (T, S) := rfl

theorem vOpsD_do {l rest : List Oper} {o : Oper} {T : List Value} {T1 : Value → List Value} {S : AHeap} {k : Nat} {s : Option (Value × AHeap)} {K : Value → AHeap → Option (List Value × AHeap)} (hc : chk.contains k = false) (hl : l = o :: rest) (hg : o.guard = none) (hm : ∀ v, vPut o rest T v = T1 v)
    (hs : vStep P fx call T o S = s) (hK : ∀ v S1, vOpsD P fx chk [] call ops (k + 1) [] rest (T1 v) S1 = K v S1) : vOpsD P fx chk [] call ops k [] l T S = andK s K () := by
  show _ = andThen s K
  subst hl hs
  simp only [vOpsD, histOf, List.isEmpty_nil, if_true, Region.wanted, hg, if_true, hm, hK, hc, Bool.not_false, Bool.true_or]
  rfl
theorem vOpsD_doC {l rest : List Oper} {o : Oper} {T : List Value} {T1 : Value → List Value} {S : AHeap} {k : Nat} {s : Option (Value × AHeap)} {K : Value → AHeap → Option (List Value × AHeap)} (hc : chk.contains k = true) (hl : l = o :: rest) (hg : o.guard = none) (hm : ∀ v, vPut o rest T v = T1 v)
    (hs : vStep P fx call T o S = s) (hK : ∀ v S1, vOpsD P fx chk [] call ops (k + 1) [] rest (T1 v) S1 = K v S1) : vOpsD P fx chk [] call ops k [] l T S = andK s (fun v S1 => okK v (K v S1) ()) () := by
  show _ = andThen s (fun v S1 => okC v (K v S1))
  subst hl hs
  simp only [vOpsD, histOf, List.isEmpty_nil, if_true, Region.wanted, hg, if_true, hm, hK, hc, Bool.not_true, Bool.false_or]
  rfl
theorem vOpsD_doN {l rest : List Oper} {o : Oper} {T : List Value} {T1 : Value → List Value} {S : AHeap} {k : Nat} {s : Option (Value × AHeap)} {K : Value → AHeap → Option (List Value × AHeap)} (hc : chk.contains k = false) (hl : l = o :: rest) (hg : o.guard = none) (hm : ∀ v, vPut o rest T v = T1 v)
    (hs : vStep P fx call T o S = s) (hK : ∀ v S1, vOpsD P fx chk [] call ops (k + 1) [] rest (T1 v) S1 = K v S1) : vOpsD P fx chk [] call ops k [] l T S = andK s K () := by
  show _ = andThen s K
  subst hl hs
  simp only [vOpsD, histOf, List.isEmpty_nil, if_true, Region.wanted, hg, if_true, hm, hc, Bool.not_false, Bool.true_or]
  cases vStep P fx call T o S with
  | none => rfl
  | some r => exact hK r.1 r.2
theorem vOpsD_pure {l rest : List Oper} {o : Oper} {T : List Value} {T1 : Value → List Value} {S : AHeap} {k : Nat} {v : Value} {r : Option (List Value × AHeap)} (hc : chk.contains k = false) (hl : l = o :: rest) (hg : o.guard = none) (hm : ∀ v, vPut o rest T v = T1 v)
    (hs : vStep P fx call T o S = some (v, S)) (hK : vOpsD P fx chk [] call ops (k + 1) [] rest (T1 v) S = r) : vOpsD P fx chk [] call ops k [] l T S = r := by
  subst hl
  simp only [vOpsD, histOf, List.isEmpty_nil, if_true, Region.wanted, hg, if_true, hs, hm, hc, Bool.not_false, Bool.true_or]
  exact hK
theorem vOpsD_pureC {l rest : List Oper} {o : Oper} {T : List Value} {T1 : Value → List Value} {S : AHeap} {k : Nat} {v : Value} {r : Option (List Value × AHeap)} (hc : chk.contains k = true) (hl : l = o :: rest) (hg : o.guard = none) (hm : ∀ v, vPut o rest T v = T1 v)
    (hs : vStep P fx call T o S = some (v, S)) (hK : vOpsD P fx chk [] call ops (k + 1) [] rest (T1 v) S = r) : vOpsD P fx chk [] call ops k [] l T S = okK v r () := by
  show _ = okC v r
  subst hl
  simp only [vOpsD, histOf, List.isEmpty_nil, if_true, Region.wanted, hg, if_true, hs, hm, hc, Bool.not_true, Bool.false_or]
  rw [← hK]
  rfl
theorem vOpsD_gd {l rest : List Oper} {o : Oper} {T : List Value} {T1 : Value → List Value} {S : AHeap} {j k : Nat} {b : Bool} {g : Value} {s : M Value} {K : Value → AHeap → Option (List Value × AHeap)} (hc : chk.contains k = false) (hl : l = o :: rest) (hg : o.guard = some (j, b)) (hm : ∀ v, vPut o rest T v = T1 v)
    (hy : ynd ops T j = vb g) (hs : vStep P fx call T o S = s S) (hK : ∀ v S1, vOpsD P fx chk [] call ops (k + 1) [] rest (T1 v) S1 = K v S1) : vOpsD P fx chk [] call ops k [] l T S = gdK g b s S K () := by
  show _ = gd g b s S K
  subst hl
  simp only [vOpsD, histOf, List.isEmpty_nil, if_true, Region.wanted, hg, hy, hs, hm, hK, gd, hc, Bool.not_false, Bool.true_or, if_true]
  rfl
theorem vOpsD_gdC {l rest : List Oper} {o : Oper} {T : List Value} {T1 : Value → List Value} {S : AHeap} {j k : Nat} {b : Bool} {g : Value} {s : M Value} {K : Value → AHeap → Option (List Value × AHeap)} (hc : chk.contains k = true) (hl : l = o :: rest) (hg : o.guard = some (j, b)) (hm : ∀ v, vPut o rest T v = T1 v)
    (hy : ynd ops T j = vb g) (hs : vStep P fx call T o S = s S) (hK : ∀ v S1, vOpsD P fx chk [] call ops (k + 1) [] rest (T1 v) S1 = K v S1) : vOpsD P fx chk [] call ops k [] l T S = gdCK g b s S K () := by
  show _ = gdC g b s S K
  subst hl
  simp only [vOpsD, histOf, List.isEmpty_nil, if_true, Region.wanted, hg, hy, hs, hm, hK, gdC, hc, Bool.not_true, Bool.false_or]
  rfl
theorem vOpsD_gdN {l rest : List Oper} {o : Oper} {T : List Value} {T1 : Value → List Value} {S : AHeap} {j k : Nat} {b : Bool} {g : Value} {s : M Value} {K : Value → AHeap → Option (List Value × AHeap)} (hc : chk.contains k = false) (hl : l = o :: rest) (hg : o.guard = some (j, b)) (hm : ∀ v, vPut o rest T v = T1 v)
    (hy : ynd ops T j = vb g) (hs : vStep P fx call T o S = s S) (hK : ∀ v S1, vOpsD P fx chk [] call ops (k + 1) [] rest (T1 v) S1 = K v S1) : vOpsD P fx chk [] call ops k [] l T S = gdK g b s S K () := by
  show _ = gd g b s S K
  subst hl
  simp only [vOpsD, histOf, List.isEmpty_nil, if_true, Region.wanted, hg, hy, hs, hm, gd, hc, Bool.not_false, Bool.true_or, if_true]
  split
  · cases s S with
    | none => rfl
    | some r => exact hK r.1 r.2
  · exact hK undef S

theorem vOpsE_do {l rest : List Oper} {o : Oper} {T : List Value} {T1 : Value → List Value} {S : AHeap} {k : Nat} {s : Option (Value × AHeap)} {K : Value → AHeap → Option (List Value × AHeap)} (hc : chk.contains k = false) {x : Nat × Nat} {nl : List (Nat × Nat)} {hist : List (Value × AHeap)} {pe : Value} (hpe : memOp T o = pe) (hl : l = o :: rest) (hg : o.guard = none) (hm : ∀ v, vPut o rest T v = T1 v)
    (hs : vStep P fx call T o S = s) (hK : ∀ v S1, vOpsD P fx chk (x :: nl) call ops (k + 1) (hist ++ [(pe, S)]) rest (T1 v) S1 = K v S1) : vOpsD P fx chk (x :: nl) call ops k hist l T S = andK s K () := by
  show _ = andThen s K
  subst hl hs
  simp only [vOpsD, histOf, List.isEmpty_cons, Bool.false_eq_true, if_false, hpe, Region.wanted, hg, if_true, hm, hK, hc, Bool.not_false, Bool.true_or]
  rfl
theorem vOpsE_doC {l rest : List Oper} {o : Oper} {T : List Value} {T1 : Value → List Value} {S : AHeap} {k : Nat} {s : Option (Value × AHeap)} {K : Value → AHeap → Option (List Value × AHeap)} (hc : chk.contains k = true) {x : Nat × Nat} {nl : List (Nat × Nat)} {hist : List (Value × AHeap)} {pe : Value} (hpe : memOp T o = pe) (hl : l = o :: rest) (hg : o.guard = none) (hm : ∀ v, vPut o rest T v = T1 v)
    (hs : vStep P fx call T o S = s) (hK : ∀ v S1, vOpsD P fx chk (x :: nl) call ops (k + 1) (hist ++ [(pe, S)]) rest (T1 v) S1 = K v S1) : vOpsD P fx chk (x :: nl) call ops k hist l T S = andK s (fun v S1 => okK v (K v S1) ()) () := by
  show _ = andThen s (fun v S1 => okC v (K v S1))
  subst hl hs
  simp only [vOpsD, histOf, List.isEmpty_cons, Bool.false_eq_true, if_false, hpe, Region.wanted, hg, if_true, hm, hK, hc, Bool.not_true, Bool.false_or]
  rfl
theorem vOpsE_doN {l rest : List Oper} {o : Oper} {T : List Value} {T1 : Value → List Value} {S : AHeap} {k : Nat} {s : Option (Value × AHeap)} {K : Value → AHeap → Option (List Value × AHeap)} (hc : chk.contains k = false) {x : Nat × Nat} {nl : List (Nat × Nat)} {hist : List (Value × AHeap)} {pe : Value} (hpe : memOp T o = pe) (hl : l = o :: rest) (hg : o.guard = none) (hm : ∀ v, vPut o rest T v = T1 v)
    (hs : vStep P fx call T o S = s) (hK : ∀ v S1, vOpsD P fx chk (x :: nl) call ops (k + 1) (hist ++ [(pe, S)]) rest (T1 v) S1 = K v S1) : vOpsD P fx chk (x :: nl) call ops k hist l T S = andK s K () := by
  show _ = andThen s K
  subst hl hs
  simp only [vOpsD, histOf, List.isEmpty_cons, Bool.false_eq_true, if_false, hpe, Region.wanted, hg, if_true, hm, hc, Bool.not_false, Bool.true_or]
  cases vStep P fx call T o S with
  | none => rfl
  | some r => exact hK r.1 r.2
theorem vOpsE_pure {l rest : List Oper} {o : Oper} {T : List Value} {T1 : Value → List Value} {S : AHeap} {k : Nat} {v : Value} {r : Option (List Value × AHeap)} (hc : chk.contains k = false) {x : Nat × Nat} {nl : List (Nat × Nat)} {hist : List (Value × AHeap)} {pe : Value} (hpe : memOp T o = pe) (hl : l = o :: rest) (hg : o.guard = none) (hm : ∀ v, vPut o rest T v = T1 v)
    (hs : vStep P fx call T o S = some (v, S)) (hK : vOpsD P fx chk (x :: nl) call ops (k + 1) (hist ++ [(pe, S)]) rest (T1 v) S = r) : vOpsD P fx chk (x :: nl) call ops k hist l T S = r := by
  subst hl
  simp only [vOpsD, histOf, List.isEmpty_cons, Bool.false_eq_true, if_false, hpe, Region.wanted, hg, if_true, hs, hm, hc, Bool.not_false, Bool.true_or]
  exact hK
theorem vOpsE_pureC {l rest : List Oper} {o : Oper} {T : List Value} {T1 : Value → List Value} {S : AHeap} {k : Nat} {v : Value} {r : Option (List Value × AHeap)} (hc : chk.contains k = true) {x : Nat × Nat} {nl : List (Nat × Nat)} {hist : List (Value × AHeap)} {pe : Value} (hpe : memOp T o = pe) (hl : l = o :: rest) (hg : o.guard = none) (hm : ∀ v, vPut o rest T v = T1 v)
    (hs : vStep P fx call T o S = some (v, S)) (hK : vOpsD P fx chk (x :: nl) call ops (k + 1) (hist ++ [(pe, S)]) rest (T1 v) S = r) : vOpsD P fx chk (x :: nl) call ops k hist l T S = okK v r () := by
  show _ = okC v r
  subst hl
  simp only [vOpsD, histOf, List.isEmpty_cons, Bool.false_eq_true, if_false, hpe, Region.wanted, hg, if_true, hs, hm, hc, Bool.not_true, Bool.false_or]
  rw [← hK]
  rfl
theorem vOpsE_gd {l rest : List Oper} {o : Oper} {T : List Value} {T1 : Value → List Value} {S : AHeap} {j k : Nat} {b : Bool} {g : Value} {s : M Value} {K : Value → AHeap → Option (List Value × AHeap)} (hc : chk.contains k = false) {x : Nat × Nat} {nl : List (Nat × Nat)} {hist : List (Value × AHeap)} {pe : Value} (hpe : memOp T o = pe) (hl : l = o :: rest) (hg : o.guard = some (j, b)) (hm : ∀ v, vPut o rest T v = T1 v)
    (hy : ynd ops T j = vb g) (hs : vStep P fx call T o S = s S) (hK : ∀ v S1, vOpsD P fx chk (x :: nl) call ops (k + 1) (hist ++ [(pe, S)]) rest (T1 v) S1 = K v S1) : vOpsD P fx chk (x :: nl) call ops k hist l T S = gdK g b s S K () := by
  show _ = gd g b s S K
  subst hl
  simp only [vOpsD, histOf, List.isEmpty_cons, Bool.false_eq_true, if_false, hpe, Region.wanted, hg, hy, hs, hm, hK, gd, hc, Bool.not_false, Bool.true_or, if_true]
  rfl
theorem vOpsE_gdC {l rest : List Oper} {o : Oper} {T : List Value} {T1 : Value → List Value} {S : AHeap} {j k : Nat} {b : Bool} {g : Value} {s : M Value} {K : Value → AHeap → Option (List Value × AHeap)} (hc : chk.contains k = true) {x : Nat × Nat} {nl : List (Nat × Nat)} {hist : List (Value × AHeap)} {pe : Value} (hpe : memOp T o = pe) (hl : l = o :: rest) (hg : o.guard = some (j, b)) (hm : ∀ v, vPut o rest T v = T1 v)
    (hy : ynd ops T j = vb g) (hs : vStep P fx call T o S = s S) (hK : ∀ v S1, vOpsD P fx chk (x :: nl) call ops (k + 1) (hist ++ [(pe, S)]) rest (T1 v) S1 = K v S1) : vOpsD P fx chk (x :: nl) call ops k hist l T S = gdCK g b s S K () := by
  show _ = gdC g b s S K
  subst hl
  simp only [vOpsD, histOf, List.isEmpty_cons, Bool.false_eq_true, if_false, hpe, Region.wanted, hg, hy, hs, hm, hK, gdC, hc, Bool.not_true, Bool.false_or]
  rfl
theorem vOpsE_gdN {l rest : List Oper} {o : Oper} {T : List Value} {T1 : Value → List Value} {S : AHeap} {j k : Nat} {b : Bool} {g : Value} {s : M Value} {K : Value → AHeap → Option (List Value × AHeap)} (hc : chk.contains k = false) {x : Nat × Nat} {nl : List (Nat × Nat)} {hist : List (Value × AHeap)} {pe : Value} (hpe : memOp T o = pe) (hl : l = o :: rest) (hg : o.guard = some (j, b)) (hm : ∀ v, vPut o rest T v = T1 v)
    (hy : ynd ops T j = vb g) (hs : vStep P fx call T o S = s S) (hK : ∀ v S1, vOpsD P fx chk (x :: nl) call ops (k + 1) (hist ++ [(pe, S)]) rest (T1 v) S1 = K v S1) : vOpsD P fx chk (x :: nl) call ops k hist l T S = gdK g b s S K () := by
  show _ = gd g b s S K
  subst hl
  simp only [vOpsD, histOf, List.isEmpty_cons, Bool.false_eq_true, if_false, hpe, Region.wanted, hg, hy, hs, hm, gd, hc, Bool.not_false, Bool.true_or, if_true]
  split
  · cases s S with
    | none => rfl
    | some r => exact hK r.1 r.2
  · exact hK undef S

/-- What is to be still there. -/
def ckK (c : Bool) (r : Option R) (p : Stay r) : Option R := if c then r else none
@[simp] theorem ckK_true (r : Option R) (p : Stay r) : ckK true r p = r := Eq.trans rfl rfl
/-- A condition, and the pieces that follow. -/
noncomputable def condK (P : Program) (O : Ora) (hp : Bool) (v : Value) (x y : Code) (T : List Value) (S : AHeap) : St := condV v (vcodeV P O hp x T S) (vcodeV P O hp y T S)
@[simp] theorem condK_true (x y : Code) (T : List Value) (S : AHeap) : condK P O hp (.bool true) x y T S = vcodeV P O hp x T S := Eq.trans rfl rfl
@[simp] theorem condK_false (x y : Code) (T : List Value) (S : AHeap) : condK P O hp (.bool false) x y T S = vcodeV P O hp y T S := Eq.trans rfl rfl
@[simp] theorem vcodeV_skip (T : List Value) (H : AHeap) : vcodeV P O hp .skip T H = some (.normal, T, H) := Eq.trans rfl rfl
@[simp] theorem vcodeV_ret (T : List Value) (H : AHeap) : vcodeV P O hp .ret T H = some (.ret, T, H) := Eq.trans rfl rfl
@[simp] theorem vcodeV_exit (i : Nat) (T : List Value) (H : AHeap) : vcodeV P O hp (.exit i) T H = some (.exit i, T, H) := Eq.trans rfl rfl
@[simp] theorem vcodeV_region (i : Nat) (ops : Array Oper) (T : List Value) (H : AHeap) : vcodeV P O false (.region i ops false) T H = regV (vOps P ⟨false, false, false⟩ (vlim P O) ops ops.toList T H) := Eq.trans rfl rfl
@[simp] theorem vcodeV_regionH (i : Nat) (ops : Array Oper) (T : List Value) (H : AHeap) : vcodeV P O true (.region i ops false) T H = regV (vOps P ⟨true, false, false⟩ (callF O.hp true (vlim P O)) ops ops.toList T H) := Eq.trans rfl rfl
theorem vcodeV_drawn {i : Nat} {ops : Array Oper} (hd : drawnOk P ops = true) (hf : fixed P ops = nm) (hc : checked P ops = chk) {nl : List (Nat × Nat)} (hn : again P ops = nl) (T : List Value) (H : AHeap) : vcodeV P O false (.region i ops true) T H = regV (vOpsD P ⟨false, !chk.isEmpty, nm⟩ chk nl (vlim P O) ops 0 [] ops.toList T H) := by
  subst hf hc hn
  simp only [vcodeV, hd, if_true, callF]
  rfl
theorem vcodeV_drawnH {i : Nat} {ops : Array Oper} (hd : drawnOk P ops = true) (hf : fixed P ops = nm) (hc : checked P ops = chk) {nl : List (Nat × Nat)} (hn : again P ops = nl) (T : List Value) (H : AHeap) : vcodeV P O true (.region i ops true) T H = regV (vOpsD P ⟨true, !chk.isEmpty, nm⟩ chk nl (callF O.hp true (vlim P O)) ops 0 [] ops.toList T H) := by
  subst hf hc hn
  simp only [vcodeV, hd, if_true]
  rfl
@[simp] theorem vcodeV_seq (x y : Code) (T : List Value) (H : AHeap) : vcodeV P O hp (.seq x y) T H = seqV (vcodeV P O hp x T H) (vcodeV P O hp y) := Eq.trans rfl rfl
@[simp] theorem vcodeV_block (i : Nat) (c : Code) (T : List Value) (H : AHeap) : vcodeV P O hp (.block i c) T H = blockV i (vcodeV P O hp c T H) := Eq.trans rfl rfl
@[simp] theorem vcodeV_loop (c : Code) (T : List Value) (H : AHeap) : vcodeV P O hp (.loop c) T H = loopV (vcodeV P O hp c) T H := Eq.trans rfl rfl
@[simp] theorem vcodeV_cond (t : Tmp) (x y : Code) (T : List Value) (H : AHeap) : vcodeV P O hp (.cond (.tmp t) x y) T H = condK P O hp (T.getD t undef) x y T H := by
  simp only [vcodeV, okArg, if_true, evalT]
  rfl

/-! Values. -/
@[simp] theorem dem_undef : dem undef = undef := dem_nores
@[simp] theorem dem_int (k : IntKind) (n : Int) : dem (.int k n) = .int k n := Eq.trans rfl rfl
@[simp] theorem dem_bool (b : Bool) : dem (.bool b) = .bool b := Eq.trans rfl rfl
@[simp] theorem dem_string (s : ByteArray) : dem (.string s) = .string s := Eq.trans rfl rfl
@[simp] theorem dem_nil : dem (.slice none 0 0) = .slice none 0 0 := Eq.trans rfl rfl
@[simp] theorem dem_agg (x : Array Value) : dem (.agg x) = .agg x := Eq.trans rfl rfl
@[simp] theorem dem_func (f : Fn) (x c : Array Value) : dem (.func f x c) = .func f x c := Eq.trans rfl rfl
@[simp] theorem dem_pointer (a : Option Addr) : dem (.pointer a) = .pointer a := Eq.trans rfl rfl
@[simp] theorem dem_SL1 (e n : Nat) (cs : List Value) : dem (SL 1 e n cs) = SL 1 e n cs := Eq.trans rfl rfl
@[simp] theorem dem_SL2 (e n : Nat) (cs : List Value) : dem (SL 2 e n cs) = SL 1 e n cs := Eq.trans rfl rfl
@[simp] theorem okK_SL (k e n : Nat) (cs : List Value) (r : Option R) (p : Stay r) : okK (SL k e n cs) r p = r := Eq.trans rfl rfl
@[simp] theorem okK_EP (cs : List Value) (r : Option R) (p : Stay r) : okK (EP cs) r p = r := Eq.trans rfl rfl
@[simp] theorem okC_SL (k e n : Nat) (cs : List Value) (r : Option R) : okC (SL k e n cs) r = r := Eq.trans rfl rfl
@[simp] theorem okC_EP (cs : List Value) (r : Option R) : okC (EP cs) r = r := Eq.trans rfl rfl
/-- A slice: nil (0), to be read (1), one's own (2). -/
def sv (k e n : Nat) (cs : List Value) : Value := if k = 0 then .slice none 0 0 else SL k e n cs
structure Okv (k n : Nat) (cs : List Value) : Prop where
  le : k ≤ 2
  nil : k = 0 → n = 0 ∧ cs = []
theorem sv0 {e n : Nat} {cs : List Value} : sv 0 e n cs = .slice none 0 0 := rfl
theorem sv1 {e n : Nat} {cs : List Value} : sv 1 e n cs = SL 1 e n cs := rfl
theorem sv2 {e n : Nat} {cs : List Value} : sv 2 e n cs = SL 2 e n cs := rfl
@[simp] theorem dem_sv (k e n : Nat) (cs : List Value) : dem (sv k e n cs) = sv (if k = 2 then 1 else k) e n cs := by
  unfold sv
  by_cases h0 : k = 0
  · subst h0; rfl
  · by_cases h2 : k = 2
    · subst h2; rfl
    · rw [if_neg h0, if_neg h2, if_neg h0]
      simp only [SL, dem, dem1, if_neg h2]
@[simp] theorem okC_sv (k e n : Nat) (cs : List Value) (r : Option R) : okC (sv k e n cs) r = r := by
  unfold sv; split <;> rfl
@[simp] theorem okK_sv (k e n : Nat) (cs : List Value) (r : Option R) (p : Stay r) : okK (sv k e n cs) r p = r := okC_sv k e n cs r
theorem vSl_sv {k e n : Nat} {cs : List Value} (h : Okv k n cs) : ∃ e', vSl (sv k e n cs) = some (e', n, cs) ∧ (e' = e ∨ n = 0 ∧ cs = []) := by
  unfold sv
  by_cases h0 : k = 0
  · obtain ⟨rfl, rfl⟩ := h.nil h0
    rw [if_pos h0]
    exact ⟨0, rfl, .inr ⟨rfl, rfl⟩⟩
  · rw [if_neg h0]
    have : k = 1 ∨ k = 2 := by have := h.le; omega
    exact ⟨e, by simp [SL, vSl, this], .inl rfl⟩

theorem vLen_sv {t te : TypeId} {k e n : Nat} {cs : List Value} {S : AHeap} (ht : P.underlying t = some (.slice te)) (h : Okv k n cs) : vLen P t (sv k e n cs) S = some (goInt n, S) := by
  by_cases h0 : k = 0
  · obtain ⟨rfl, rfl⟩ := h.nil h0
    subst h0
    simp only [sv0, vLen, aLen, ht]
  · obtain ⟨e', h1, _⟩ := vSl_sv (e := e) h
    simp only [sv, if_neg h0] at h1 ⊢
    simp only [SL] at h1 ⊢
    simp only [vLen, ht, h1]
theorem vIndexAddr_sv {t te : TypeId} {k e n : Nat} {cs : List Value} {S : AHeap} {ki : IntKind} {i : Int} (ht : P.underlying t = some (.slice te)) (he : szOf P te = some e) (h : Okv k n cs) (h0 : 0 ≤ i) (hi : i < n) :
    vIndexAddr P t (sv k e n cs) (.int ki i) S = some (EP ((cs.drop (i.toNat * e)).take e), S) := by
  have hk : k ≠ 0 := fun e => by have := (h.nil e).1; omega
  have hk2 : k = 1 ∨ k = 2 := by have := h.le; omega
  have h1 : vSl (SL k e n cs) = some (e, n, cs) := by simp [SL, vSl, hk2]
  simp only [sv, if_neg hk]
  simp only [SL] at h1 ⊢
  simp only [vIndexAddr, ht, h1, he, if_true]
  rw [if_pos ⟨h0, hi⟩]
@[simp] theorem vLoad_one {t : TypeId} {v : Value} {S : AHeap} (ht : isAgg? P t = some false) : vLoad P nm t (EP [v]) S = some (v, S) := by
  simp [EP, vLoad, ht]
theorem vLoad_agg {t : TypeId} {n : Nat} {cs : List Value} {S : AHeap} (ht : isAgg? P t = some true) (hn : szOf P t = some n) (hc : cs.length = n) : vLoad P nm t (EP cs) S = some (.agg cs.toArray, S) := by
  simp only [EP, vLoad, ht, hn, if_true, List.toList_toArray]
  rw [if_pos (by omega), ← hc, List.take_length]
theorem vSlice_sv {t te : TypeId} {k e n : Nat} {cs : List Value} {S : AHeap} {lo hi : Option Value} {i j : Int} (ht : P.underlying t = some (.slice te)) (he : szOf P te = some e) (h : Okv k n cs) (hlo : intOr 0 lo = some i) (hhi : intOr n hi = some j)
    (h0 : 0 ≤ i) (hij : i ≤ j) (hj : j ≤ n) : vSlice P t (sv k e n cs) lo hi S = some (sv (if k = 2 then 1 else k) e (j.toNat - i.toNat) ((cs.drop (i.toNat * e)).take ((j.toNat - i.toNat) * e)), S) := by
  by_cases hk : k = 0
  · obtain ⟨rfl, rfl⟩ := h.nil hk
    subst hk
    simp only [sv0, vSlice, ht, vSl, he, hlo, hhi, if_pos h0, if_pos hij, if_pos hj]
    rfl
  · have hk2 : k = 1 ∨ k = 2 := by have := h.le; omega
    have h1 : vSl (SL k e n cs) = some (e, n, cs) := by simp [SL, vSl, hk2]
    have h3 : (if k = 2 then 1 else k) = 1 := by rcases hk2 with rfl | rfl <;> rfl
    rw [h3]
    simp only [sv, if_neg hk]
    simp only [SL] at h1 ⊢
    simp only [vSlice, ht, h1, he, hlo, hhi, if_pos h0, if_pos hij, if_pos hj, if_true]
    rfl
theorem vBin_nil {t te : TypeId} {k e n : Nat} {cs : List Value} {S : AHeap} (ht : P.underlying t = some (.slice te)) (h : Okv k n cs) : vBin P .eql t (sv k e n cs) (.slice none 0 0) S = some (.bool (decide (k = 0)), S) := by
  by_cases hk : k = 0
  · subst hk
    simp only [sv0, vBin, aBin, nilTest, ht, nilEq]
    rfl
  · have hk2 : k = 1 ∨ k = 2 := by have := h.le; omega
    have h1 : vSl (SL k e n cs) = some (e, n, cs) := by simp [SL, vSl, hk2]
    simp only [sv, if_neg hk]
    simp only [SL] at h1 ⊢
    simp only [vBin, ht, h1]
    simp [hk]
@[simp] theorem isHs_sv (k e n : Nat) (cs : List Value) : isHs (sv k e n cs) = false := by unfold sv; split <;> rfl
@[simp] theorem vSliceF_sv (dr : Bool) (t : TypeId) (k e n : Nat) (cs : List Value) (lo hi : Option Value) (S : AHeap) : vSliceF P dr t (sv k e n cs) lo hi S = vSlice P t (sv k e n cs) lo hi S := by
  unfold vSliceF; rw [isHs_sv]; rfl
@[simp] theorem vSliceF_string (dr : Bool) (t : TypeId) (s : ByteArray) (lo hi : Option Value) (S : AHeap) : vSliceF P dr t (.string s) lo hi S = vSlice P t (.string s) lo hi S := Eq.trans rfl rfl
@[simp] theorem vConvF_sv (hp dr : Bool) (src dst : TypeId) (k e n : Nat) (cs : List Value) (S : AHeap) : vConvF P hp dr src dst (sv k e n cs) S = vConv P src dst (sv k e n cs) S := by
  unfold vConvF
  rw [isHs_sv]
  have : ∀ s, sv k e n cs ≠ .string s := by intro s; unfold sv; split <;> (intro h; cases h)
  cases hp <;> simp only [Bool.false_eq_true, if_false] <;> (split <;> first | rfl | (rename_i h; exact absurd h (this _)) | skip)
@[simp] theorem vConvF_int (hp dr : Bool) (src dst : TypeId) (k : IntKind) (n : Int) (S : AHeap) : vConvF P hp dr src dst (.int k n) S = vConv P src dst (.int k n) S := by cases hp <;> rfl
@[simp] theorem vConvF_string (dr : Bool) (src dst : TypeId) (s : ByteArray) (S : AHeap) : vConvF P false dr src dst (.string s) S = vConv P src dst (.string s) S := Eq.trans rfl rfl
@[simp] theorem vConvF_stringH (dr : Bool) (src dst : TypeId) (s : ByteArray) (S : AHeap) : vConvF P true dr src dst (.string s) S = aConv P src dst (.string s) S := Eq.trans rfl rfl
theorem vAppend_sv {t te tx tex : TypeId} {k e n j m bytes : Nat} {cs ds : List Value} {z : Value} {S : AHeap} (ht : P.underlying t = some (.slice te)) (he : szOf P te = some e) (hz : zeroOf P te = some z) (hzs : z.cells.size = e) (hb : bytesOf P te = some bytes) (hp : 0 < e)
    (htx : P.underlying tx = some (.slice tex)) (h : Okv k n cs) (hk : k ≠ 1) (hx : Okv j m ds) (hn : cs.length = n * e) (hm : ds.length = m * e) (h1 : cs.all (·.oneCell') = true) (h2 : ds.all (·.oneCell') = true) (hl : (n + m) * bytes ≤ 140737488355328) (hmax : n + m ≤ 4611686018427387903) :
    vAppend P t tx (sv k e n cs) (sv j e m ds) S = some (sv (if k = 0 ∧ m = 0 then 0 else 2) e (n + m) (cs ++ ds), S) := by
  have hel : elemOf? P t = some te := by simp only [elemOf?, ht]
  have hsrc : vSrc P tx e (sv j e m ds) = some (m, ds) := by
    obtain ⟨e', q1, q2⟩ := vSl_sv (e := e) hx
    have hns : ∀ s, sv j e m ds ≠ .string s := by intro s; unfold sv; split <;> (intro h; cases h)
    have hcond : m = 0 ∨ e' = e := q2.elim .inr fun h => .inl h.1
    unfold vSrc
    split
    · rename_i s hs; exact absurd hs (hns s)
    · simp only [htx, q1, if_pos hcond, if_pos hm, h2, if_true]
  have hsrc : vSrcS P tx e (sv j e m ds) S = some (m, ds) := by
    unfold vSrcS
    rw [isHs_sv]
    exact hsrc
  by_cases hk0 : k = 0
  · obtain ⟨rfl, rfl⟩ := h.nil hk0
    subst hk0
    simp only [sv0, vAppend, vAppendG, hel, he, hz, hb, if_pos hp, if_pos hzs, hsrc]
    by_cases hm0 : m = 0
    · subst hm0
      simp [sv0]
    · rw [Nat.zero_add] at hl hmax
      rw [if_neg hm0, if_pos hl, if_pos hmax, if_neg Bool.false_ne_true, if_neg (fun h => hm0 h.2), sv2, Nat.zero_add, List.nil_append]
  · have hk2 : k = 2 := by have := h.le; omega
    subst hk2
    rw [if_neg (fun h => hk0 h.1)]
    have h1' : cs.toArray.toList.all (·.oneCell') = true := by simpa using h1
    simp only [sv2, SL, vAppend, vAppendG, hel, he, hz, hb, if_pos hp, if_pos hzs, hsrc, if_true, if_pos hl, if_pos hmax, h1']

@[simp] theorem vBin_int (op : BinOp) (t : TypeId) (k k' : IntKind) (a b : Int) (S : AHeap) : vBin P op t (.int k a) (.int k' b) S = aBin P op t (.int k a) (.int k' b) S := Eq.trans rfl rfl
@[simp] theorem vBin_string (op : BinOp) (t : TypeId) (a b : ByteArray) (S : AHeap) : vBin P op t (.string a) (.string b) S = aBin P op t (.string a) (.string b) S := Eq.trans rfl rfl
@[simp] theorem vBin_bool (op : BinOp) (t : TypeId) (a b : Bool) (S : AHeap) : vBin P op t (.bool a) (.bool b) S = aBin P op t (.bool a) (.bool b) S := Eq.trans rfl rfl
@[simp] theorem vBin_agg (op : BinOp) (t : TypeId) (a b : Array Value) (S : AHeap) : vBin P op t (.agg a) (.agg b) S = aBin P op t (.agg a) (.agg b) S := Eq.trans rfl rfl
@[simp] theorem vPick_bool (b : Bool) (x y : Value) (S : AHeap) : vPick (.bool b) x y S = some (if b then dem x else dem y, S) := Eq.trans rfl rfl
@[simp] theorem vConv_int {src dst : TypeId} (k : IntKind) (n : Int) (S : AHeap) : vConv P src dst (.int k n) S = aConv P src dst (.int k n) S := Eq.trans rfl rfl
@[simp] theorem vExtract_tuple (vs : List Value) (i : Nat) (S : AHeap) : aExtract (.tuple vs.toArray) i S = (vs[i]?).map (·, S) := by
  simp only [aExtract, List.getElem?_toArray]
  cases vs[i]? <;> rfl
end
end Go.Abs
namespace Go.Abs
theorem vRes_many {P : Program} {fn : Func} {a b : Value} {r : List Value} {T : List Value} {S : AHeap} (h : vResVals P T S fn.results.toList = some (a :: b :: r)) (hn : resOk fn.results.toList = true) (hall : (a :: b :: r).all notTuple = true) :
    vRes P fn T S = some (.tuple (a :: b :: r).toArray, S) := by
  unfold vRes
  rw [h]
  dsimp only
  rw [if_pos hn, if_pos hall]
theorem vRes_one {P : Program} {fn : Func} {a : Value} {T : List Value} {S : AHeap} (h : vResVals P T S fn.results.toList = some [a]) (hn : resOk fn.results.toList = true) : vRes P fn T S = some (a, S) := by
  unfold vRes
  rw [h]
  dsimp only
  rw [if_pos hn]
@[simp] theorem notTuple_int (k : IntKind) (n : Int) : notTuple (.int k n) = true := rfl
@[simp] theorem notTuple_bool (b : Bool) : notTuple (.bool b) = true := rfl
@[simp] theorem notTuple_sv (k e n : Nat) (cs : List Value) : notTuple (sv k e n cs) = true := by unfold sv; split <;> rfl
@[simp] theorem notTuple_agg (x : Array Value) : notTuple (.agg x) = true := rfl
@[simp] theorem notTuple_slice (a : Option Addr) (n c : Nat) : notTuple (.slice a n c) = true := rfl
end Go.Abs

/-
Slices of elements: what operations answer on them.
-/
namespace Go.Abs
open Go.RowKit

/-- A slice of elements, each of e cells: nil (0), to be read (1), one's own (2). -/
def vs {α : Type} (f : α → List Value) (e k : Nat) (l : List α) : Value := sv k e l.length (l.flatMap f)
structure Okl {α : Type} (k : Nat) (l : List α) : Prop where
  le : k ≤ 2
  nil : k = 0 → l = []
theorem Okl.own {α : Type} {l : List α} : Okl 2 l := ⟨Nat.le_refl 2, (fun h => by cases h)⟩
theorem Okl.read {α : Type} {l : List α} : Okl 1 l := ⟨by omega, (fun h => by cases h)⟩
theorem Okl.none {α : Type} : Okl 0 ([] : List α) := ⟨by omega, fun _ => rfl⟩
theorem Okl.dem {α : Type} {k : Nat} {l : List α} (h : Okl k l) : Okl (if k = 2 then 1 else k) l := ⟨by have := h.le; split <;> omega, fun hk => h.nil (by split at hk <;> omega)⟩
/-- One byte, one number, as cells. -/
def cb (b : UInt8) : List Value := [.int .u8 b.toNat]
def ci (n : Int) : List Value := [.int .i64 n]

section
variable {R α : Type} {P : Program} {f : α → List Value} {e k j : Nat} {l m : List α} {t te tx tex : TypeId} {S : AHeap}

theorem Okl.okv (h : Okl k l) : Okv k l.length (l.flatMap f) := ⟨h.le, fun h0 => by rw [h.nil h0]; exact ⟨rfl, rfl⟩⟩
theorem flatMap_len (hf : ∀ x, (f x).length = e) (l : List α) : (l.flatMap f).length = l.length * e := by
  induction l with
  | nil => simp
  | cons x l ih => simp only [List.flatMap_cons, List.length_append, hf, ih, List.length_cons, Nat.add_mul]; omega
theorem flatMap_drop (hf : ∀ x, (f x).length = e) (l : List α) : ∀ (i : Nat), (l.flatMap f).drop (i * e) = (l.drop i).flatMap f := by
  induction l with
  | nil => intro i; simp
  | cons x l ih =>
    intro i
    cases i with
    | zero => simp
    | succ i =>
      rw [List.flatMap_cons, List.drop_succ_cons, ← ih i, List.drop_append, List.drop_eq_nil_of_le (by rw [hf, Nat.add_mul]; omega), List.nil_append, hf]
      congr 1
      rw [Nat.add_mul]; omega
theorem flatMap_take (hf : ∀ x, (f x).length = e) (l : List α) : ∀ (i : Nat), (l.flatMap f).take (i * e) = (l.take i).flatMap f := by
  induction l with
  | nil => intro i; simp
  | cons x l ih =>
    intro i
    cases i with
    | zero => simp
    | succ i =>
      rw [List.flatMap_cons, List.take_succ_cons, List.flatMap_cons, ← ih i, List.take_append, List.take_of_length_le (by rw [hf, Nat.add_mul]; omega), hf]
      congr 2
      rw [Nat.add_mul]; omega

@[simp] theorem dem_vs : dem (vs f e k l) = vs f e (if k = 2 then 1 else k) l := dem_sv _ _ _ _
@[simp] theorem okC_vs (r : Option R) : okC (vs f e k l) r = r := okC_sv _ _ _ _ _
@[simp] theorem okK_vs (r : Option R) (p : Stay r) : okK (vs f e k l) r p = r := okC_sv _ _ _ _ _
@[simp] theorem isHs_vs : isHs (vs f e k l) = false := isHs_sv _ _ _ _
@[simp] theorem vSliceF_vs (dr : Bool) (lo hi : Option Value) : vSliceF P dr t (vs f e k l) lo hi S = vSlice P t (vs f e k l) lo hi S := vSliceF_sv _ _ _ _ _ _ _ _ _
@[simp] theorem vConvF_vs (hp dr : Bool) (src dst : TypeId) : vConvF P hp dr src dst (vs f e k l) S = vConv P src dst (vs f e k l) S := vConvF_sv _ _ _ _ _ _ _ _ _
@[simp] theorem notTuple_vs : notTuple (vs f e k l) = true := notTuple_sv _ _ _ _
theorem vs_nil : vs f e 0 ([] : List α) = .slice none 0 0 := rfl
theorem vs_one {x : α} : vs f e 2 [x] = sv 2 e 1 (f x) := by simp [vs]
theorem vs_len (ht : P.underlying t = some (.slice te)) (h : Okl k l) : vLen P t (vs f e k l) S = some (goInt l.length, S) := vLen_sv ht h.okv
theorem vs_isNil (ht : P.underlying t = some (.slice te)) (h : Okl k l) : vBin P .eql t (vs f e k l) (.slice none 0 0) S = some (.bool (decide (k = 0)), S) := vBin_nil ht h.okv
theorem vs_at {ki : IntKind} {i : Int} (ht : P.underlying t = some (.slice te)) (he : szOf P te = some e) (hf : ∀ x, (f x).length = e) (h : Okl k l) (h0 : 0 ≤ i) (hi : i < l.length) :
    vIndexAddr P t (vs f e k l) (.int ki i) S = some (EP (f (l[i.toNat]'(by omega))), S) := by
  unfold vs
  rw [vIndexAddr_sv ht he h.okv h0 hi, flatMap_drop hf]
  have hlt : i.toNat < l.length := by omega
  have := flatMap_take hf (l.drop i.toNat) 1
  rw [Nat.one_mul] at this
  rw [this, List.drop_eq_getElem_cons hlt, List.take_succ_cons, List.take_zero, List.flatMap_cons, List.flatMap_nil, List.append_nil]
theorem vs_slice {lo hi : Option Value} {i j : Int} (ht : P.underlying t = some (.slice te)) (he : szOf P te = some e) (hf : ∀ x, (f x).length = e) (h : Okl k l) (hlo : intOr 0 lo = some i) (hhi : intOr l.length hi = some j) (h0 : 0 ≤ i) (hij : i ≤ j) (hj : j ≤ l.length) :
    vSlice P t (vs f e k l) lo hi S = some (vs f e (if k = 2 then 1 else k) ((l.drop i.toNat).take (j.toNat - i.toNat)), S) := by
  unfold vs
  rw [vSlice_sv ht he h.okv hlo hhi h0 hij hj, flatMap_drop hf, flatMap_take hf]
  congr 3
  simp; omega
theorem vs_append {bytes : Nat} {z : Value} (ht : P.underlying t = some (.slice te)) (he : szOf P te = some e) (hz : zeroOf P te = some z) (hzs : z.cells.size = e) (hb : bytesOf P te = some bytes) (hp : 0 < e) (htx : P.underlying tx = some (.slice tex))
    (hf : ∀ x, (f x).length = e) (h1 : ∀ x, (f x).all (·.oneCell') = true) (h : Okl k l) (hk : k ≠ 1) (hm : Okl j m) (hl : (l.length + m.length) * bytes ≤ 140737488355328) (hmax : l.length + m.length ≤ 4611686018427387903) :
    vAppend P t tx (vs f e k l) (vs f e j m) S = some (vs f e (if k = 0 ∧ m.length = 0 then 0 else 2) (l ++ m), S) := by
  have hone : ∀ l : List α, (l.flatMap f).all (·.oneCell') = true := by
    intro l
    rw [List.all_flatMap, List.all_eq_true]
    exact fun x _ => h1 x
  unfold vs
  rw [vAppend_sv ht he hz hzs hb hp htx h.okv hk hm.okv (flatMap_len hf l) (flatMap_len hf m) (hone l) (hone m) hl hmax, List.flatMap_append, List.length_append]

theorem cb_len (x : UInt8) : (cb x).length = 1 := rfl
theorem cb_one (x : UInt8) : (cb x).all (·.oneCell') = true := rfl
theorem ci_len (x : Int) : (ci x).length = 1 := rfl
theorem ci_one (x : Int) : (ci x).all (·.oneCell') = true := rfl
theorem cb_bytes (l : List UInt8) : bytesOf? (l.flatMap cb) = some l := by
  induction l with
  | nil => rfl
  | cons b l ih =>
    have : (b :: l).flatMap cb = .int .u8 b.toNat :: l.flatMap cb := rfl
    rw [this]
    simp only [bytesOf?, byteOf?, ih]
    simp
theorem aExtract_demPart {v : Value} {i j : Nat} {S : AHeap} (h : j ≠ i) : aExtract (demPart j v) i S = aExtract v i S := by
  cases v with
  | tuple vs => simp only [demPart, aExtract, Array.getElem?_modify, if_neg h]
  | _ => rfl
theorem exd_0_1 {v : Value} {S : AHeap} : aExtract (demPart 0 v) 1 S = aExtract v 1 S := aExtract_demPart (by decide)
theorem exd_0_2 {v : Value} {S : AHeap} : aExtract (demPart 0 v) 2 S = aExtract v 2 S := aExtract_demPart (by decide)
theorem exd_1_2 {v : Value} {S : AHeap} : aExtract (demPart 1 v) 2 S = aExtract v 2 S := aExtract_demPart (by decide)
theorem exd_0_3 {v : Value} {S : AHeap} : aExtract (demPart 0 v) 3 S = aExtract v 3 S := aExtract_demPart (by decide)
theorem exd_1_3 {v : Value} {S : AHeap} : aExtract (demPart 1 v) 3 S = aExtract v 3 S := aExtract_demPart (by decide)
theorem exd_2_3 {v : Value} {S : AHeap} : aExtract (demPart 2 v) 3 S = aExtract v 3 S := aExtract_demPart (by decide)
theorem exd_0_4 {v : Value} {S : AHeap} : aExtract (demPart 0 v) 4 S = aExtract v 4 S := aExtract_demPart (by decide)
theorem exd_1_4 {v : Value} {S : AHeap} : aExtract (demPart 1 v) 4 S = aExtract v 4 S := aExtract_demPart (by decide)
theorem exd_2_4 {v : Value} {S : AHeap} : aExtract (demPart 2 v) 4 S = aExtract v 4 S := aExtract_demPart (by decide)
theorem exd_3_4 {v : Value} {S : AHeap} : aExtract (demPart 3 v) 4 S = aExtract v 4 S := aExtract_demPart (by decide)
theorem exd_0_5 {v : Value} {S : AHeap} : aExtract (demPart 0 v) 5 S = aExtract v 5 S := aExtract_demPart (by decide)
theorem exd_1_5 {v : Value} {S : AHeap} : aExtract (demPart 1 v) 5 S = aExtract v 5 S := aExtract_demPart (by decide)
theorem exd_2_5 {v : Value} {S : AHeap} : aExtract (demPart 2 v) 5 S = aExtract v 5 S := aExtract_demPart (by decide)
theorem exd_3_5 {v : Value} {S : AHeap} : aExtract (demPart 3 v) 5 S = aExtract v 5 S := aExtract_demPart (by decide)
theorem exd_4_5 {v : Value} {S : AHeap} : aExtract (demPart 4 v) 5 S = aExtract v 5 S := aExtract_demPart (by decide)
abbrev by_ (k : Nat) (l : List UInt8) : Value := vs cb 1 k l
abbrev iz (k : Nat) (l : List Int) : Value := vs ci 1 k l
theorem by_string {src dst : TypeId} {k : Nat} {l : List UInt8} (hs : P.underlying src = some (.slice te)) (he : P.underlying te = some (.int .u8)) (hd : P.underlying dst = some .string) (h : Okl k l) : vConv P src dst (by_ k l) S = some (.string ⟨l.toArray⟩, S) := by
  obtain ⟨e', h1, _⟩ := vSl_sv (e := 1) (h.okv (f := cb))
  have hlen : (l.flatMap cb).length = l.length := by rw [flatMap_len cb_len]; omega
  have hns : ∀ s, by_ k l ≠ .string s := by intro s; unfold by_ vs sv; split <;> (intro h; cases h)
  unfold vConv
  split
  · rename_i s hs; exact absurd hs (hns s)
  · unfold by_ vs
    rw [h1]
    simp only [hs, hd, he, if_pos hlen, cb_bytes]
theorem text_by {src dst : TypeId} {d : TypeDesc} (hs : P.underlying src = some d) (hd : P.underlying dst = some (.slice te)) (he : P.underlying te = some (.int .u8)) (s : ByteArray) : vConv P src dst (.string s) S = some (by_ 2 s.data.toList, S) := by
  have e1 : byteCells s = s.data.toList.flatMap cb := by
    unfold byteCells
    induction s.data.toList with
    | nil => rfl
    | cons b l ih => rw [List.map_cons, ih]; rfl
  have e2 : s.size = s.data.toList.length := Array.length_toList.symm
  simp only [vConv, hs, hd, he]
  unfold by_ vs
  rw [sv2, e1, e2]
end
end Go.Abs

/-
More rounds answer the same: closed runs by the kernel.
-/
namespace Go.Abs
open Go.RowKit

def CLe (c d : FuncId → List Value → M Value) : Prop := ∀ g a S r, c g a S = some r → d g a S = some r
section
variable {P : Program} {O : Ora} {c d : FuncId → List Value → M Value}

theorem vStep_mono (h : CLe c d) {fx : Fx} {T : List Value} {o : Oper} {S : AHeap} {r : Value × AHeap} (hs : vStep P fx c T o S = some r) : vStep P fx d T o S = some r := by
  unfold vStep at hs ⊢
  split at hs
  · rename_i hok
    rw [if_pos hok]
    cases hop : o.op with
    | call q =>
      rw [hop] at hs
      dsimp only at hs ⊢
      cases hcal : q.callee with
      | value f =>
        rw [hcal] at hs
        dsimp only at hs ⊢
        split at hs
        · rename_i g first captured hev
          exact h _ _ _ _ hs
        · cases hs
      | builtin b => rw [hcal] at hs; exact hs
      | invoke a b => rw [hcal] at hs; cases hs
    | _ => rw [hop] at hs; exact hs
  · cases hs
theorem vOps_mono (h : CLe c d) {fx : Fx} {ops : Array Oper} : ∀ (l : List Oper) (T : List Value) (S : AHeap) (r : List Value × AHeap), vOps P fx c ops l T S = some r → vOps P fx d ops l T S = some r := by
  intro l
  induction l with
  | nil => intro T S r hs; exact hs
  | cons o l ih =>
    intro T S r hs
    simp only [vOps] at hs ⊢
    split at hs
    · rename_i hw
      rw [if_pos hw]
      split at hs
      · rename_i v S' he
        rw [vStep_mono h he]
        exact ih _ _ _ hs
      · cases hs
    · rename_i hw
      rw [if_neg hw]
      exact ih _ _ _ hs
theorem vOpsD_mono (h : CLe c d) {fx : Fx} {chk : List Nat} {nl : List (Nat × Nat)} {ops : Array Oper} : ∀ (l : List Oper) (i : Nat) (hist : List (Value × AHeap)) (T : List Value) (S : AHeap) (r : List Value × AHeap), vOpsD P fx chk nl c ops i hist l T S = some r → vOpsD P fx chk nl d ops i hist l T S = some r := by
  intro l
  induction l with
  | nil => intro i hist T S r hs; exact hs
  | cons o l ih =>
    intro i hist T S r hs
    simp only [vOpsD] at hs ⊢
    split at hs
    · rename_i hw
      rw [if_pos hw]
      split at hs
      · rename_i v S' he
        rw [vStep_mono h he]
        dsimp only
        split at hs
        · rename_i hq
          rw [if_pos hq]
          exact ih _ _ _ _ _ hs
        · cases hs
      · cases hs
    · rename_i hw
      rw [if_neg hw]
      exact ih _ _ _ _ _ hs
theorem vCode_mono (h : CLe c d) {hp : Bool} {n m : Nat} (hn : n ≤ m) : ∀ (q : Code) (T : List Value) (S : AHeap) (r), vCode P hp c n q T S = some r → vCode P hp d m q T S = some r := by
  intro q
  induction q with
  | skip => intro T S r hs; exact hs
  | exit id => intro T S r hs; exact hs
  | ret => intro T S r hs; exact hs
  | region i ops dr =>
    intro T S r hs
    cases dr with
    | false =>
      simp only [vCode] at hs ⊢
      split at hs
      · rename_i T1 S1 ho
        rw [vOps_mono h _ _ _ _ ho]; exact hs
      · cases hs
    | true =>
      simp only [vCode] at hs ⊢
      split at hs
      · rename_i hd
        rw [if_pos hd]
        split at hs
        · rename_i T1 S1 ho
          rw [vOpsD_mono h _ _ _ _ _ _ ho]; exact hs
        · cases hs
      · cases hs
  | seq x y ihx ihy =>
    intro T S r hs
    simp only [vCode] at hs ⊢
    split at hs
    · rename_i T1 S1 hx
      rw [ihx _ _ _ hx]
      exact ihy _ _ _ hs
    · rename_i hne
      rw [ihx _ _ _ hs]
      split
      · rename_i T1 S1 he; exact absurd (hs.trans he) (hne T1 S1)
      · rfl
  | cond x y z ihy ihz =>
    intro T S r hs
    simp only [vCode] at hs ⊢
    split at hs
    · rename_i hok
      rw [if_pos hok]
      split at hs
      · rename_i hb; exact ihy _ _ _ hs
      · rename_i hb; exact ihz _ _ _ hs
      · cases hs
    · cases hs
  | block id x ih =>
    intro T S r hs
    simp only [vCode] at hs ⊢
    split at hs
    · rename_i id' T1 S1 hx
      rw [ih _ _ _ hx]; exact hs
    · rename_i hne
      rw [ih _ _ _ hs]
      split
      · rename_i id' T1 S1 he; exact absurd (hs.trans he) (hne id' T1 S1)
      · rfl
  | loop x ih =>
    intro T S r hs
    simp only [vCode] at hs ⊢
    have key : ∀ (n : Nat) (T : List Value) (S : AHeap), ∀ k, aLoop k (vCode P hp c n x) T S = some r → (∀ T S r, vCode P hp c n x T S = some r → vCode P hp d m x T S = some r) → aLoop k (vCode P hp d m x) T S = some r := by
      intro n T S k hk hx
      induction k generalizing T S with
      | zero => cases hk
      | succ k ihk =>
        simp only [aLoop] at hk ⊢
        split at hk
        · rename_i T1 S1 h1
          rw [hx _ _ _ h1]
          exact ihk _ _ hk
        · rename_i hne
          rw [hx _ _ _ hk]
          split
          · rename_i T1 S1 he; exact absurd (hk.trans he) (hne T1 S1)
          · rfl
    exact aLoop_le hn (key n T S n hs ih)
  | _ => intro T S r hs; simp only [vCode] at hs; cases hs

theorem callF_mono {hps : FuncId → Bool} {hp : Bool} (h : CLe c d) : CLe (callF hps hp c) (callF hps hp d) := by
  cases hp with
  | false => exact h
  | true =>
    intro g a S r hs
    unfold callF at hs ⊢
    dsimp only at hs ⊢
    split at hs
    · rename_i hg; rw [if_pos hg]; exact h _ _ _ _ hs
    · rename_i hg
      rw [if_neg hg]
      split at hs <;> first | (cases hs; done) | skip
      rename_i m S1 hf
      split at hs <;> first | (cases hs; done) | skip
      rename_i r0 hr0
      (try rw [hf])
      (try dsimp only)
      rw [h _ _ _ _ hr0]
      exact hs

theorem vrun_mono (h : CLe c d) {hp : Bool} {n m : Nat} (hn : n ≤ m) {fn : Func} {q : Code} {a : List Value} {S : AHeap} {r : Value × AHeap} (hs : vrun P hp c n fn q a S = some r) : vrun P hp d m fn q a S = some r := by
  unfold vrun at hs ⊢
  split at hs
  · rename_i T1 S1 hx
    rw [vCode_mono h hn _ _ _ _ hx]; exact hs
  · rename_i T1 S1 hx
    rw [vCode_mono h hn _ _ _ _ hx]; exact hs
  · cases hs
theorem vcall_le : ∀ (n m : Nat), n ≤ m → CLe (vcall P O n) (vcall P O m) := by
  intro n
  induction n with
  | zero => intro m _ g a S r h; cases h
  | succ n ih =>
    intro m hm g a S r h
    obtain ⟨m, rfl⟩ : ∃ k, m = k + 1 := ⟨m - 1, by omega⟩
    simp only [vcall] at h ⊢
    cases ho : O.fn g with
    | some q => rw [ho] at h; exact h
    | none =>
      rw [ho] at h
      dsimp only at h ⊢
      cases hf : P.funcs[g]? with
      | none => rw [hf] at h; cases h
      | some fn =>
        rw [hf] at h
        dsimp only at h ⊢
        split at h
        · cases h
        · rename_i hn
          rw [if_neg hn]
          cases hb : fn.body with
          | none => rw [hb] at h; cases h
          | some q =>
            rw [hb] at h
            dsimp only at h ⊢
            have hc := callF_mono (hps := O.hp) (hp := O.hp g) (ih m (by omega))
            split at h
            · rename_i hpu
              rw [if_pos hpu]
              unfold vpure at h ⊢
              split at h <;> first | (cases h; done) | skip
              rename_i hca
              rw [if_pos hca]
              split at h <;> first | (cases h; done) | skip
              rename_i v1 S1 hr
              rw [vrun_mono hc (by omega) hr]
              exact h
            · rename_i hpu
              rw [if_neg hpu]
              exact vrun_mono hc (by omega) h
/-- A run with so many rounds. -/
theorem vlim_run {n : Nat} {g : FuncId} {args : List Value} {S : AHeap} {r : Value × AHeap} (h : vcall P O n g args S = some r) : vlim P O g args S = some r :=
  vlim_of ⟨n, fun k hk => vcall_le n k hk _ _ _ _ h⟩
end
end Go.Abs

/-
What comes in, in words.
-/
namespace Go.Abs
open Go.RowKit

theorem in_bytes (x : (Ty.slc 1 (.int .u8)).Val) (hg : (Ty.slc 1 (.int .u8)).Good x) : ∃ k l, Okl k l ∧ k ≠ 2 ∧ (Ty.slc 1 (.int .u8)).vval x = [by_ k l] ∧ l.length ≤ 140737488351232 := by
  match x, hg with
  | none, _ => exact ⟨0, [], Okl.none, by decide, rfl, by simp⟩
  | some xs, hg =>
    obtain ⟨h1, h2, h3⟩ := hg
    have key : ∀ xs : List Int, (∀ n ∈ xs, (Lit.int .u8 n).wf = true) → (xs.flatMap fun n => [Value.int .u8 n]) = (xs.map fun n => UInt8.ofNat n.toNat).flatMap cb := by
      intro xs
      induction xs with
      | nil => intro _; rfl
      | cons n xs ih =>
        intro h
        have hw := h n (by simp)
        simp [Lit.wf, IntKind.min, IntKind.max, IntKind.signed, IntKind.bits] at hw
        have e : (Value.int .u8 n) = .int .u8 ((UInt8.ofNat n.toNat).toNat : Int) := by
          simp only [UInt8.toNat_ofNat']
          congr 1
          omega
        rw [List.flatMap_cons, ih (fun m hm => h m (by simp [hm])), List.map_cons, List.flatMap_cons, e]
        rfl
    refine ⟨1, (show List Int from xs).map fun n => UInt8.ofNat n.toNat, Okl.read, by decide, ?_, ?_⟩
    · have e := key (show List Int from xs) h3
      show [SL 1 1 (show List Int from xs).length ((show List Int from xs).flatMap fun n => [Value.int .u8 n])] = [_]
      unfold by_ vs
      rw [sv1, List.length_map, ← e]
    · have : (show List Int from xs).length * 1 ≤ 140737488351232 := h1
      rw [List.length_map]; omega
theorem in_ints (x : (Ty.slc 8 (.int .i64)).Val) (hg : (Ty.slc 8 (.int .i64)).Good x) : ∃ k l, Okl k l ∧ k ≠ 2 ∧ (Ty.slc 8 (.int .i64)).vval x = [iz k l] ∧ l.length ≤ 17592186043904 ∧ ∀ n ∈ l, -9223372036854775808 ≤ n ∧ n < 9223372036854775808 := by
  match x, hg with
  | none, _ => exact ⟨0, [], Okl.none, by decide, rfl, by simp, fun n h => by cases h⟩
  | some xs, hg =>
    obtain ⟨h1, h2, h3⟩ := hg
    refine ⟨1, (xs : List Int), Okl.read, by decide, rfl, ?_, fun n hn => ?_⟩
    · have : List.length (α := Int) xs * 8 ≤ 140737488351232 := h1
      show List.length (α := Int) xs ≤ 17592186043904
      omega
    · have hw := h3 n hn
      simp [Ty.Good, Lit.wf, IntKind.min, IntKind.max, IntKind.signed, IntKind.bits] at hw
      omega
theorem in_u64 {n : Int} (h : (Lit.int .u64 n).wf = true) : ∃ k : Nat, n = k ∧ k < 2 ^ 64 := by
  simp [Lit.wf, IntKind.min, IntKind.max, IntKind.signed, IntKind.bits] at h
  exact ⟨n.toNat, by omega, by omega⟩
theorem in_int {n : Int} (h : (Lit.int .i64 n).wf = true) : -9223372036854775808 ≤ n ∧ n < 9223372036854775808 := by
  simp [Lit.wf, IntKind.min, IntKind.max, IntKind.signed, IntKind.bits] at h
  omega
theorem vMin {P : Program} {hp : Bool} {ts : Array TypeId} {ty : TypeId} {k : IntKind} {a b : Int} {S : AHeap} : vBuiltin P hp .min ts ty [.int k a, .int k b] S = some (.int k (if b < a then b else a), S) := by
  show aGround P [.int k a, .int k b] (Builtin.min_ ts ty #[.int k a, .int k b]) S = _
  exact aGround_pure rfl rfl rfl
theorem vMax {P : Program} {hp : Bool} {ts : Array TypeId} {ty : TypeId} {k : IntKind} {a b : Int} {S : AHeap} : vBuiltin P hp .max ts ty [.int k a, .int k b] S = some (.int k (if b > a then b else a), S) := by
  show aGround P [.int k a, .int k b] (Builtin.max_ ts ty #[.int k a, .int k b]) S = _
  exact aGround_pure rfl rfl rfl
/-- A call out of a function whose slices are made in memory. -/
def callZ (call : FuncId → List Value → M Value) (g : FuncId) (args : List Value) : M Value := fun S => match freezeL args S with
  | some (m, S1) => match call g m S1 with
    | some r => some (unlend S S1 args r)
    | none => none
  | none => none
theorem freeze1_nh {x : Value} {S : AHeap} (h : isHs x = false) : freeze1 x S = some (x, S) := by
  unfold freeze1
  split <;> first | rfl | (simp [isHs] at h)
theorem freezeL_nh : ∀ {l : List Value} {S : AHeap}, l.all (fun x => !isHs x) = true → freezeL l S = some (l, S)
  | [], S, _ => rfl
  | x :: l, S, h => by
    rw [List.all_cons, Bool.and_eq_true] at h
    have h1 : isHs x = false := by simpa using h.1
    simp only [freezeL, freeze1_nh h1, freezeL_nh h.2]
theorem callZ_nh {call : FuncId → List Value → M Value} {g : FuncId} {args : List Value} {S : AHeap} (h : args.all (fun x => !isHs x) = true) : callZ call g args S = call g args S := by
  have hn : args.any isHs = false := by
    rw [List.any_eq_false]; intro x hx
    have := List.all_eq_true.1 h x hx
    simpa using this
  unfold callZ; rw [freezeL_nh h]
  dsimp only
  cases call g args S with
  | none => rfl
  | some r => dsimp only; rw [unlend, hn]; rfl
/-- Slices that were lent are there again. -/
theorem callZ_lend {call : FuncId → List Value → M Value} {g : FuncId} {args m : List Value} {S S1 S2 : AHeap} {v : Value} (h : freezeL args S = some (m, S1)) (hc : call g m S1 = some (v, S2)) (ha : args.any isHs = true) (hv : ground v = true) (hl : S2.log = S1.log) : callZ call g args S = some (v, S) := by
  unfold callZ; rw [h]
  dsimp only
  rw [hc]
  dsimp only
  rw [unlend, ha, hv, hl, beq_self_eq_true]
  rfl
theorem freeze1_hs {q o n e : Nat} {cs : List Value} {anc : List Nat} {S : AHeap} (hg : S.get q = some (.cells cs (.own anc) e)) (hl : o + n * e ≤ cs.length) : freeze1 (.slice (some ⟨q, o, none⟩) n n) S = some (SL 1 e n ((cs.drop o).take (n * e)), S.set q .dead) := by
  unfold freeze1; dsimp only; rw [hg]; dsimp only; rw [if_pos rfl, if_pos hl]
theorem argOf_one (v : Value) : argOf false [v] = v := rfl
end Go.Abs

/-
Functions that are taken as one operation: what they leave behind in memory is forgotten.
-/
namespace Go.Abs
open Go.RowKit

section
variable {P : Program} {μ μ1 : Mu} {S S1 H H1 : AHeap} {ω ω1 : Nat → Option Spot}

/-- Only what was there. -/
def cutMu (n : Nat) (lg : List Nat) (μ : Mu) : Mu := ⟨fun q => if q < n then μ q else none, μ.hid, lg⟩
theorem cutMu_some {n q : Nat} {lg : List Nat} {μ : Mu} {x : Nat × Bool} (h : cutMu n lg μ q = some x) : μ q = some x ∧ q < n := by
  simp only [cutMu] at h
  split at h
  · exact ⟨h, by assumption⟩
  · cases h
theorem cutMu_at {n q : Nat} {lg : List Nat} {μ : Mu} (h : q < n) : cutMu n lg μ q = μ q := if_pos h
theorem Priv.cut {n r : Nat} {lg : List Nat} {μ : Mu} (h : Priv μ r) : Priv (cutMu n lg μ) r := ⟨fun q hq => h.1 q (cutMu_some hq).1, h.2⟩
/-- A value that was there stands for the same when what came later is forgotten. -/
theorem VV.cut {n : Nat} {lg : List Nat} (hf : ∀ q, n ≤ q → μ q = none) {ℓ : Option Spot} {v a : Value} (h : VV μ1 H1 ω1 ℓ v a) : ∀ {H0 : AHeap} {ω0 : Nat → Option Spot} {ℓ0 : Option Spot} {a0 : Value}, VV μ H0 ω0 ℓ0 v a0 → VV (cutMu n lg μ1) H1 ω1 ℓ v a := by
  have lt : ∀ {q : Nat} {x : Nat × Bool}, μ q = some x → q < n := fun {q x} h => Nat.lt_of_not_le fun hn => by rw [hf q hn] at h; cases h
  induction h with
  | sg h => intro _ _ _ _ _; exact .sg h
  | ptr h =>
    intro _ _ _ _ h0
    cases h0 with
    | sg hs => simp [Go.Abs.sg] at hs
    | ptr k => exact .ptr (by rw [cutMu_at (lt k)]; exact h)
  | map h =>
    intro _ _ _ _ h0
    cases h0 with
    | sg hs => simp [Go.Abs.sg] at hs
    | map k => exact .map (by rw [cutMu_at (lt k)]; exact h)
  | slm h =>
    intro _ _ _ _ h0
    cases h0 with
    | sg hs => simp [Go.Abs.sg] at hs
    | slm k => exact .slm (by rw [cutMu_at (lt k)]; exact h)
  | slE => intro _ _ _ _ _; exact .slE
  | sl hr hp hg hl hn hc ih =>
    intro _ _ _ _ h0
    cases h0 with
    | sg hs => simp [Go.Abs.sg] at hs
    | slE => exact .sl hr hp.cut hg hl hn (fun i hi => by simp at hi)
    | sl _ _ _ _ _ k => exact .sl hr hp.cut hg hl hn (fun i hi => ih i hi (k i hi))
  | so hω hr hp hg hl hn hc ih =>
    intro _ _ _ _ h0
    cases h0 with
    | sg hs => simp [Go.Abs.sg] at hs
    | so _ _ _ _ _ _ k => exact .so hω hr hp.cut hg hl hn (fun i hi => ih i hi (k i hi))
  | ep hr hp hg hl hc ih =>
    intro _ _ _ _ h0
    cases h0 with
    | sg hs => simp [Go.Abs.sg] at hs
    | ep _ _ _ _ k => exact .ep hr hp.cut hg hl (fun i hi => ih i hi (k i hi))
  | func fn hx hc h1 h2 ih1 ih2 =>
    intro _ _ _ _ h0
    cases h0 with
    | sg hs => simp [Go.Abs.sg] at hs
    | func _ _ _ k1 k2 => exact .func fn hx hc (fun i => ih1 i (k1 i)) (fun i => ih2 i (k2 i))
  | agg hx hh ih =>
    intro _ _ _ _ h0
    cases h0 with
    | sg hs => simp [Go.Abs.sg] at hs
    | agg _ k => exact .agg hx (fun i => ih i (k i))
  | nores => intro _ _ _ _ _; exact .nores
  | tuple hx hh ih =>
    intro _ _ _ _ h0
    cases h0 with
    | sg hs => simp [Go.Abs.sg] at hs
    | nores => exact .tuple hx (fun i => ih i (a0 := Go.undef) (show VV μ H1 ω1 none ((#[] : Array Value).getD i Go.undef) Go.undef from by simpa using VV.undef))
    | tuple _ k => exact .tuple hx (fun i => ih i (k i))

/-- Memory goes on as it was, but for what is new. -/
structure Ext (S S1 : AHeap) : Prop where
  next : S.next ≤ S1.next
  get : ∀ k, k < S.next → S1.get k = S.get k
  log : ∃ new, S1.log = new ++ S.log ∧ ∀ k ∈ new, S.next ≤ k
theorem Ext.refl (S : AHeap) : Ext S S := ⟨Nat.le_refl _, fun _ _ => rfl, [], rfl, fun k h => by cases h⟩
theorem Ext.trans {S2 : AHeap} (h : Ext S S1) (k : Ext S1 S2) : Ext S S2 := ⟨Nat.le_trans h.1 k.1, fun q hq => (k.2 q (Nat.lt_of_lt_of_le hq h.1)).trans (h.2 q hq), by
  obtain ⟨n1, e1, f1⟩ := h.log
  obtain ⟨n2, e2, f2⟩ := k.log
  refine ⟨n2 ++ n1, by rw [e2, e1, List.append_assoc], fun q hq => ?_⟩
  rcases List.mem_append.1 hq with hq | hq
  · exact Nat.le_trans h.1 (f2 q hq)
  · exact f1 q hq⟩
theorem Ext.push (S : AHeap) (o : AObj) : Ext S (S.push o) := ⟨by simp, fun k hk => by rw [AHeap.get_push, if_neg (by omega)], [], rfl, fun k h => by cases h⟩
theorem Ext.set {S S1 : AHeap} (h : Ext S S1) {r : Nat} (hr : S.next ≤ r) (o : AObj) : Ext S (S1.set r o) := ⟨by simpa using h.1, fun k hk => by rw [AHeap.get_set, if_neg (by omega)]; exact h.2 k hk, by
  obtain ⟨n1, e1, f1⟩ := h.log
  refine ⟨r :: n1, by rw [AHeap.log_set, e1]; rfl, fun q hq => ?_⟩
  rcases List.mem_cons.1 hq with rfl | hq
  · exact hr
  · exact f1 q hq⟩

theorem GI.cut (hG : GI μ S H) (hG1 : GI μ1 S1 H1) (hE : Ext S S1) : GI (cutMu S.next S.log μ1) S H1 := by
  have lt : ∀ {q o}, S.get q = some o → o.alive = true → q < S.next := fun {q o} h ha => by
    obtain ⟨r, o', h1, _⟩ := hG.obj q o h ha
    exact Nat.lt_of_not_le fun hn => by rw [hG.fresh q hn] at h1; cases h1
  refine ⟨fun q o ho ha => ?_, fun q q' r h1 h2 => hG1.inj q q' r (cutMu_some h1).1 (cutMu_some h2).1, fun q r b h => hG1.lt q r b (cutMu_some h).1, fun q h => if_neg (by omega), fun q r h => hG1.vis q r (cutMu_some h).1, hG1.hlt, rfl, hG.anc⟩
  have hq := lt ho ha
  obtain ⟨r1, o1, h1, h2, h3⟩ := hG1.obj q o (by rw [hE.2 q hq]; exact ho) ha
  obtain ⟨r0, o0, k1, k2, k3⟩ := hG.obj q o ho ha
  refine ⟨r1, o1, by rw [cutMu_at hq]; exact h1, h2, ?_⟩
  cases o with
  | cells cs own esz =>
    cases o1 with
    | cells cs1 own1 esz1 =>
      cases o0 with
      | cells cs0 own0 esz0 =>
        obtain ⟨e1, w1, l1⟩ := h3
        obtain ⟨e0, w0, l0⟩ := k3
        refine ⟨e1, ?_, l1.1, fun i => (l1.2 i).cut hG.fresh (l0.2 i)⟩
        cases own with
        | ro => cases own1 with
          | ro => exact True.intro
          | own a => exact w1.elim
        | own a => cases own1 with
          | ro => exact w1.elim
          | own a1 => cases own0 with
            | ro => exact w0.elim
            | own a0 =>
              refine AncR.mono w1 fun b hb r hr => ?_
              obtain ⟨r2, h2⟩ := AncR.left w0 b hb
              rw [cutMu_at (Nat.lt_of_not_le fun hn => by rw [hG.fresh b hn] at h2; cases h2)]
              exact hr
      | map es c => exact k3.elim
      | dead => exact k3.elim
    | map es c => exact h3.elim
    | dead => exact h3.elim
  | map es c =>
    cases o1 with
    | map es1 c1 =>
      cases o0 with
      | map es0 c0 =>
        obtain ⟨e1, w1, l1⟩ := h3
        obtain ⟨e0, w0, l0⟩ := k3
        refine ⟨e1, w1, fun i e he => ?_⟩
        obtain ⟨e', p1, p2, p3, p4⟩ := l1 i e he
        obtain ⟨e'', q1, q2, q3, q4⟩ := l0 i e he
        exact ⟨e', p1, p2, p3, p4.cut hG.fresh q4⟩
      | cells cs own e => exact k3.elim
      | dead => exact k3.elim
    | cells cs own e => exact h3.elim
    | dead => exact h3.elim
  | dead => cases ha

/-- What a function's run in memory comes to, taken as one operation: an answer without addresses, or a slice of its own. -/
inductive Lower (S : AHeap) (v1 : Value) (S1 : AHeap) : Value → Prop
  | same (h : ground v1 = true) : Lower S v1 S1 v1
  | own {r n e : Nat} {cs : List Value} (hv : v1 = .slice (some ⟨r, 0, none⟩) n n) (hr : S.next ≤ r) (hg : S1.get r = some (.cells cs (.own []) e)) (hn : cs.length = n * e) (hs : cs.all sg = true) : Lower S v1 S1 (SL 2 e n cs)

theorem ora_of {O0 : Ora} (hO : OraOK P O0) {f : FuncId} {q : List Value → M Value} (h : ∀ args S v S', q args S = some (v, S') → S' = S ∧ ∃ v1 S1, vlim P O0 f args S = some (v1, S1) ∧ Ext S S1 ∧ Lower S v1 S1 v) :
    VCall P (fun g args => if g = f then q args else fun _ => none) := by
  intro g args aargs S v S' hq μ H ω hG hA hD hE
  dsimp only at hq
  split at hq
  · rename_i hgf
    subst hgf
    obtain ⟨rfl, v1, S1, hv, hx, hlow⟩ := h _ _ _ _ hq
    obtain ⟨a, H1, μ1, ω1, k1, k2, k3, k4, k5, k6⟩ := vlim_ok hO g args aargs S' v1 S1 hv μ H ω hG hA hD hE
    have hL : Later μ H (cutMu S'.next S'.log μ1) H1 := by
      refine ⟨fun q r b hm => ?_, k3.next, fun q r hm => k3.new q r (cutMu_some hm).1, k3.hid, k3.same, (by
        obtain ⟨new, n1, n2⟩ := k3.still
        obtain ⟨nx, x1, x2⟩ := hx.log
        refine ⟨[], by show S'.log = _; rw [hG.log]; rfl, fun q r hq _ => ?_⟩
        have hqn : q < S'.next := Nat.lt_of_not_le fun hn => by rw [hG.fresh q hn] at hq; cases hq
        have hnew : q ∉ new := fun hm => by
          rw [k2.log, hG.log, x1] at n1
          have := List.append_cancel_right n1
          subst this
          have := x2 q hm
          omega
        obtain ⟨p1, p2⟩ := n2 q r hq hnew
        exact ⟨by rw [cutMu_at hqn]; exact p1, p2⟩), fun r l own e hr hp hg => k3.cells r l own e hr hp hg⟩
      obtain ⟨b', hb⟩ := k3.mu q r b hm
      exact ⟨b', by rw [cutMu_at (Nat.lt_of_not_le fun hn => by rw [hG.fresh q hn] at hm; cases hm)]; exact hb⟩
    have hDom : Dom (cutMu S'.next S'.log μ1) H1 ω1 := fun r s hr => ⟨(k5 r s hr).1, (k5 r s hr).2.cut⟩
    cases hlow with
    | same hgr =>
      have : a = v := ground_of k6.v0 hgr
      subst this
      exact ⟨a, H1, _, ω1, k1, hG.cut k2 hx, hL, k4, hDom, VV.ground_refl hgr⟩
    | @own r n e cs hv1 hr hg hn hs =>
      subst hv1
      cases k6 with
      | sg hs => simp [Go.Abs.sg] at hs
      | @slm _ _ _ r' b _ hm =>
        obtain ⟨r2, l, own', ho, hm', hg', hl⟩ := k2.cells hg
        rw [hm] at hm'; cases hm'
        cases own' with
        | ro => exact ho.elim
        | own anc' =>
        have hpr : Priv (cutMu S'.next S'.log μ1) r' := ⟨fun q hq => by
          obtain ⟨h1, h2⟩ := cutMu_some hq
          have := k2.inj q r r' h1 hm
          omega, k2.vis r r' hm⟩
        have hnω : ∀ x s, ω1 x = some s → x ≠ r' := fun x s hx e => (k5 x s hx).2.1 r (by rw [e]; exact hm)
        refine ⟨_, H1, _, fun x => if x = r' then some (.res none) else ω1 x, k1, hG.cut k2 hx, hL, fun x hx => ?_, fun x s hx => ?_, ?_⟩
        · obtain ⟨e1, e2⟩ := k4 x hx
          exact ⟨by dsimp only; rw [if_neg (hnω x _ e1)]; exact e1, e2⟩
        · dsimp only at hx
          split at hx
          · rename_i e1; subst e1; exact ⟨k2.lt r x _ hm, hpr⟩
          · exact hDom x s hx
        · refine .so (by simp) (k2.lt r r' _ hm) hpr hg' (by rw [← hl.1]; exact hn) (by simpa using hn) fun i hi => ?_
          have h2 := hl.2 i
          have hi' : i < cs.length := by omega
          have hsi : sg (cs.getD i undef) = true := by
            rw [List.getD_eq_getElem?_getD, List.getElem?_eq_getElem hi']
            exact List.all_eq_true.1 hs _ (List.getElem_mem hi')
          have : l.getD i undef = cs.getD i undef := by
            generalize cs.getD i undef = u at h2 hsi
            generalize l.getD i undef = u' at h2
            cases h2 <;> first | rfl | (simp [Go.Abs.sg] at hsi)
          simp only [List.toList_toArray]
          rw [this]
          exact .sg hsi
  · cases hq
end
end Go.Abs

/-
Operations on what lies in memory.
-/
namespace Go.Abs
open Go.RowKit

section
variable {P : Program} {S : AHeap} {t te tx tex : TypeId} {q o n c e i r : Nat} {cs : List Value} {own : Own} {anc : List Nat} {v x : Value} {hp : Bool}

theorem nilCheck_ptr (a : Addr) (S : AHeap) : vNilCheck (.pointer (some a)) S = some (.pointer (some a), S) := Eq.trans rfl rfl
theorem load_mem (h : S.get q = some (.cells cs own e)) (ha : isAgg? P t = some false) (hv : cs[o]? = some v) (hn : ∀ l, v ≠ .agg l) : vLoad P false t (.pointer (some ⟨q, o, none⟩)) S = some (dem v, S) := by
  unfold vLoad
  simp only [Bool.false_eq_true, if_false]
  have : aLoad P t (.pointer (some ⟨q, o, none⟩)) S = some (v, S) := by simp only [aLoad, h, ha, hv]
  rw [this]
  split
  · rename_i l S2 he; cases he; exact absurd rfl (hn _)
  · rename_i v2 S2 _ he; cases he; rfl
  · rename_i he; cases he
theorem load_int {k : IntKind} {m : Int} (h : S.get q = some (.cells cs own e)) (ha : isAgg? P t = some false) (hv : cs[o]? = some (.int k m)) : vLoad P false t (.pointer (some ⟨q, o, none⟩)) S = some (.int k m, S) :=
  load_mem h ha hv (fun l h => by cases h)
theorem load_bool {b : Bool} (h : S.get q = some (.cells cs own e)) (ha : isAgg? P t = some false) (hv : cs[o]? = some (.bool b)) : vLoad P false t (.pointer (some ⟨q, o, none⟩)) S = some (.bool b, S) :=
  load_mem h ha hv (fun l h => by cases h)
theorem load_sl {a : Option Addr} {n c : Nat} (h : S.get q = some (.cells cs own e)) (ha : isAgg? P t = some false) (hv : cs[o]? = some (.slice a n c)) : vLoad P false t (.pointer (some ⟨q, o, none⟩)) S = some (.slice a n c, S) :=
  load_mem h ha hv (fun l h => by cases h)
theorem load_ptr {a : Option Addr} (h : S.get q = some (.cells cs own e)) (ha : isAgg? P t = some false) (hv : cs[o]? = some (.pointer a)) : vLoad P false t (.pointer (some ⟨q, o, none⟩)) S = some (.pointer a, S) :=
  load_mem h ha hv (fun l h => by cases h)
theorem load_map {a : Option Nat} (h : S.get q = some (.cells cs own e)) (ha : isAgg? P t = some false) (hv : cs[o]? = some (.map a)) : vLoad P false t (.pointer (some ⟨q, o, none⟩)) S = some (.map a, S) :=
  load_mem h ha hv (fun l h => by cases h)
theorem load_agg (h : S.get q = some (.cells cs own e)) (ha : isAgg? P t = some true) (hs : szOf P t = some n) (hle : o + n ≤ cs.length) : vLoad P false t (.pointer (some ⟨q, o, none⟩)) S = some (.agg (((cs.drop o).take n).toArray.map dem1), S) := by
  unfold vLoad
  simp only [Bool.false_eq_true, if_false]
  have : aLoad P t (.pointer (some ⟨q, o, none⟩)) S = some (.agg ((cs.drop o).take n).toArray, S) := by simp only [aLoad, h, ha, hs, if_pos hle]
  rw [this]
theorem store_mem (h : S.get q = some (.cells cs (.own anc) e)) (hs : szOf P t = some n) (hx : x.cells.size = n) (h1 : x.cells.toList.all (·.oneCell') = true) (hle : o + n ≤ cs.length) :
    vStore P t (.pointer (some ⟨q, o, none⟩)) x S = some (undef, (S.kills anc).set q (.cells (splice cs o x.cells.toList) (.own []) e)) := by
  simp only [vStore, aStore, h, hs, if_pos hx, if_pos h1, if_pos hle]
theorem idx_mem {k : IntKind} {j : Int} {sz : Nat} (ht : P.underlying t = some (.slice te)) (hs : szOf P te = some sz) (h0 : 0 ≤ j) (hj : j < n) : vIndexAddr P t (.slice (some ⟨q, o, none⟩) n c) (.int k j) S = some (.pointer (some ⟨q, o + j.toNat * sz, none⟩), S) := by
  simp only [vIndexAddr, aIndexAddr, ht, hs]
  rw [if_pos ⟨h0, hj⟩]
theorem idx_arr {k : IntKind} {j : Int} {sz m : Nat} (ht : P.underlying t = some (.array m te)) (hs : szOf P te = some sz) (h0 : 0 ≤ j) (hj : j < m) : vIndexAddr P t (.pointer (some ⟨q, o, none⟩)) (.int k j) S = some (.pointer (some ⟨q, o + j.toNat * sz, none⟩), S) := by
  simp only [vIndexAddr, aIndexAddr, ht, hs]
  rw [if_pos ⟨h0, hj⟩]
theorem len_mem (ht : P.underlying t = some (.slice te)) (a : Option Addr) (n c : Nat) (S : AHeap) : vLen P t (.slice a n c) S = some (goInt n, S) := by
  simp only [vLen, aLen, ht]
theorem slice_mem {lo hi : Option Value} {l h : Int} {dr : Bool} (hd : dr = false) (hg : S.get q = some (.cells cs own e)) (ht : P.underlying t = some (.slice te)) (hs : szOf P te = some e) (hl : intOr 0 lo = some l) (hh : intOr n hi = some h) (h0 : 0 ≤ l) (h1 : l ≤ h) (h2 : h ≤ n) :
    vSliceF P dr t (.slice (some ⟨q, o, none⟩) n c) lo hi S = some (.slice (some ⟨q, o + l.toNat * e, none⟩) (h.toNat - l.toNat) (h.toNat - l.toNat), S) := by
  subst hd
  simp only [vSliceF, isHs, if_true, Bool.false_eq_true, if_false, aSlice, ht, hs, hl, hh, if_pos h0, if_pos h1, if_pos h2, hg]
theorem slice_nil {lo hi : Option Value} {l h : Int} {dr : Bool} (ht : P.underlying t = some (.slice te)) (hs : szOf P te = some e) (hl : intOr 0 lo = some l) (hh : intOr 0 hi = some h) (h0 : 0 ≤ l) (h1 : l ≤ h) (h2 : h ≤ 0) :
    vSliceF P dr t (.slice none 0 0) lo hi S = some (.slice none 0 0, S) := by
  have h2' : h ≤ ((0 : Nat) : Int) := h2
  simp only [vSliceF, isHs, Bool.false_eq_true, if_false, vSlice, ht, vSl, hs, hl, hh, if_pos h0, if_pos h1, if_pos h2']
theorem vSrc_sv {k m : Nat} {ds : List Value} (htx : P.underlying tx = some (.slice tex)) (hx : Okv k m ds) (hm : ds.length = m * e) (h2 : ds.all (·.oneCell') = true) : vSrc P tx e (sv k e m ds) = some (m, ds) := by
  obtain ⟨e', q1, q2⟩ := vSl_sv (e := e) hx
  have hns : ∀ s, sv k e m ds ≠ .string s := by intro s; unfold sv; split <;> (intro h; cases h)
  have hcond : m = 0 ∨ e' = e := q2.elim .inr fun h => .inl h.1
  unfold vSrc
  split
  · rename_i s hs; exact absurd hs (hns s)
  · simp only [htx, q1, if_pos hcond, if_pos hm, h2, if_true]
theorem vSrcS_sv {k m : Nat} {ds : List Value} (htx : P.underlying tx = some (.slice tex)) (hx : Okv k m ds) (hm : ds.length = m * e) (h2 : ds.all (·.oneCell') = true) : vSrcS P tx e (sv k e m ds) S = some (m, ds) := by
  unfold vSrcS
  rw [isHs_sv]
  exact vSrc_sv htx hx hm h2
theorem vSrcS_mem {m : Nat} (htx : P.underlying tx = some (.slice tex)) (hg : S.get q = some (.cells cs own i)) (hm : o + m * e ≤ cs.length) (h2 : ((cs.drop o).take (m * e)).all (·.oneCell') = true) : vSrcS P tx e (.slice (some ⟨q, o, none⟩) m c) S = some (m, (cs.drop o).take (m * e)) := by
  simp only [vSrcS, isHs, if_true, srcCells, htx, aCells, hg]
  rw [if_pos hm]
  dsimp only
  rw [if_pos h2]
/-- An append of new elements to a slice in memory: all of it, or a part of it. -/
theorem append_mem {bytes k : Nat} {z : Value} {news : List Value} (hel : P.underlying t = some (.slice te)) (he : szOf P te = some e) (hz : zeroOf P te = some z) (hzs : z.cells.size = e) (hb : bytesOf P te = some bytes) (hpos : 0 < e) (hsrc : vSrcS P tx e x S = some (k, news))
    (hg : S.get q = some (.cells cs (.own anc) e)) (hle : o + n * e ≤ cs.length) (hmax : (n + k) * bytes ≤ 140737488355328) (hmax2 : n + k ≤ 4611686018427387903) (h1 : ((cs.drop o).take (n * e)).all (·.oneCell') = true) :
    vAppendG P hp t tx (.slice (some ⟨q, o, none⟩) n c) x S = some (.slice (some ⟨S.next, 0, none⟩) (n + k) (n + k),
      if o + n * e = cs.length then (S.set q (.cells cs .ro e)).push (.cells ((cs.drop o).take (n * e) ++ news) (.own (if n * e = 0 then [] else q :: anc)) e)
      else ((S.kills anc).set q .dead).push (.cells ((cs.drop o).take (n * e) ++ news) (.own []) e)) := by
  have hel2 : elemOf? P t = some te := by simp only [elemOf?, hel]
  simp only [vAppendG, hel2, he, hz, hb, if_pos hpos, if_pos hzs, hsrc, hg, if_true, if_pos hle, if_pos hmax, if_pos hmax2, if_pos h1, appendTo]
  by_cases h : o + n * e = cs.length
  · rw [if_pos h, if_pos h]
  · rw [if_neg h, if_neg h]
theorem append_new {bytes k : Nat} {z : Value} {news : List Value} (hel : P.underlying t = some (.slice te)) (he : szOf P te = some e) (hz : zeroOf P te = some z) (hzs : z.cells.size = e) (hb : bytesOf P te = some bytes) (hpos : 0 < e) (hsrc : vSrcS P tx e x S = some (k, news))
    (hmax : k * bytes ≤ 140737488355328) (hmax2 : k ≤ 4611686018427387903) :
    vAppendG P true t tx (.slice none 0 0) x S = some (if k = 0 then .slice none 0 0 else .slice (some ⟨S.next, 0, none⟩) k k, if k = 0 then S else S.push (.cells news (.own []) e)) := by
  have hel2 : elemOf? P t = some te := by simp only [elemOf?, hel]
  simp only [vAppendG, hel2, he, hz, hb, if_pos hpos, if_pos hzs, hsrc, if_pos hmax, if_pos hmax2, if_true]
  by_cases h : k = 0
  · rw [if_pos h, if_pos h, if_pos h]
  · rw [if_neg h, if_neg h, if_neg h]
theorem bytesOf_cb : ∀ (l : List UInt8), bytesOf? (l.flatMap cb) = some l
  | [] => rfl
  | b :: l => by
    simp only [List.flatMap_cons, cb, List.singleton_append, bytesOf?, byteOf?, bytesOf_cb l]
    congr 2
    simp
theorem str_mem {src dst : TypeId} {l : List UInt8} {dr : Bool} (hd : dr = false) (hs : P.underlying src = some (.slice te)) (hu : P.underlying te = some (.int .u8)) (ht : P.underlying dst = some .string) (hg : S.get q = some (.cells cs own e)) (hle : o + n ≤ cs.length) (hl : (cs.drop o).take n = l.flatMap cb) :
    vConvF P hp dr src dst (.slice (some ⟨q, o, none⟩) n c) S = some (.string ⟨l.toArray⟩, S) := by
  subst hd
  simp only [vConvF, isHs, if_true, Bool.false_eq_true, if_false, aConv, hs, ht, hu, aCells, hg, if_pos hle, hl, bytesOf_cb]
theorem copy_mem {k : Nat} {ds : List Value} (ht : P.underlying t = some (.slice te)) (hs : szOf P te = some e) (hx : Okv k n ds) (hds : ds.length = n * e) (hg : S.get q = some (.cells cs (.own anc) i)) (hn : n ≠ 0) (hle : o + n * e ≤ cs.length) (h1 : ds.all (·.oneCell') = true) :
    vCopy P t tx (.slice (some ⟨q, o, none⟩) n c) (sv k e n ds) S = some (goInt n, (S.kills anc).set q (.cells (splice cs o ds) (.own []) i)) := by
  have hel2 : elemOf? P t = some te := by simp only [elemOf?, ht]
  obtain ⟨e', q1, q2⟩ := vSl_sv (e := e) hx
  have hc : vCellsN (sv k e n ds) S = some (n, fun m => if m ≤ ds.length then some (ds.take m) else none) := by
    unfold vCellsN
    split
    · rename_i a b d he
      have := isHs_sv k e n ds
      rw [he] at this; cases this
    · rw [q1]
  have hmin : Nat.min n n = n := Nat.min_self n
  simp only [vCopy, hel2, hs, hc, hmin, if_neg hn, hg, ← hds, Nat.le_refl, if_true, List.take_length]
  rw [hds]
  simp only [if_pos hle, h1, if_true]
theorem copy_mm {r2 o2 c2 : Nat} {cs2 : List Value} {own2 : Own} {e2 : Nat} (ht : P.underlying t = some (.slice te)) (hs : szOf P te = some e) (hg2 : S.get r2 = some (.cells cs2 own2 e2)) (hle2 : o2 + n * e ≤ cs2.length) (hg : S.get q = some (.cells cs (.own anc) i)) (hn : n ≠ 0) (hle : o + n * e ≤ cs.length) (h1 : ((cs2.drop o2).take (n * e)).all (·.oneCell') = true) :
    vCopy P t tx (.slice (some ⟨q, o, none⟩) n c) (.slice (some ⟨r2, o2, none⟩) n c2) S = some (goInt n, (S.kills anc).set q (.cells (splice cs o ((cs2.drop o2).take (n * e))) (.own []) i)) := by
  have hel2 : elemOf? P t = some te := by simp only [elemOf?, ht]
  have hmin : Nat.min n n = n := Nat.min_self n
  simp only [vCopy, hel2, hs, vCellsN, hmin, if_neg hn, hg, aCells, hg2, if_pos hle2, if_pos hle, h1, if_true]
theorem copy_none (ht : P.underlying t = some (.slice te)) (hs : szOf P te = some e) (c2 : Nat) (s : Value) (hsn : ∃ f, vCellsN s S = some (0, f)) (a : Option Addr) (ha : a = none ∨ ∃ q o, a = some ⟨q, o, none⟩) : vCopy P t tx (.slice a 0 0) s S = some (goInt 0, S) := by
  have hel2 : elemOf? P t = some te := by simp only [elemOf?, ht]
  obtain ⟨f, hf⟩ := hsn
  have hmin : Nat.min 0 0 = 0 := Nat.min_self 0
  rcases ha with rfl | ⟨q, o, rfl⟩
  · simp only [vCopy, hel2, hs, hf]
  · simp only [vCopy, hel2, hs, hf, hmin, if_true]
theorem make_mem {l : Nat} {k k2 : IntKind} {z : Value} {bytes : Nat} (ht : P.underlying t = some (.slice te)) (he : szOf P te = some e) (hz : zeroOf P te = some z) (hb : bytesOf P te = some bytes) (hgz : ground z = true) (hzs : z.cells.size = e) (hpos : 0 < e) (hmax : l * bytes ≤ 140737488355328) (hmax2 : l ≤ 9223372036854775807) :
    aMakeSlice P t (.int k l) (.int k2 l) S = some (.slice (some ⟨S.next, 0, none⟩) l l, S.push (.cells (zl z.cells.toList l) (.own []) e)) := by
  have hel2 : elemOf? P t = some te := by simp only [elemOf?, ht]
  have h0 : (0 : Int) ≤ (l : Int) := by omega
  have h1 : (l : Int) * bytes ≤ 140737488355328 := by
    have h : ((l * bytes : Nat) : Int) ≤ 140737488355328 := by omega
    rwa [Int.natCast_mul] at h
  have h2 : (l : Int) ≤ 9223372036854775807 := by omega
  simp only [aMakeSlice, hel2, he, hz, hb, if_pos hgz, if_pos hzs, if_pos hpos, if_pos h0, Int.le_refl, if_true, if_pos h1, if_pos h2, Int.toNat_natCast]
end
/-! Values without places of memory. -/
theorem clean_vs {α : Type} {f : α → List Value} {e k d : Nat} {l : List α} (hk : k ≤ 2) (h : ∀ x ∈ l, (f x).all (cleanN d) = true) : cleanN (d + 4) (vs f e k l) = true := by
  unfold vs sv
  split
  · rfl
  · show ((l.flatMap f).toArray.toList.all (cleanN d)) = true
    rw [List.toList_toArray, List.all_flatMap, List.all_eq_true]
    exact h
theorem clean_by {k d : Nat} {l : List UInt8} (hk : k ≤ 2) : cleanN (d + 5) (by_ k l) = true := clean_vs hk (fun _ _ => rfl)
theorem clean_iz {k d : Nat} {l : List Int} (hk : k ≤ 2) : cleanN (d + 5) (iz k l) = true := clean_vs hk (fun _ _ => rfl)
theorem clean_int {k : IntKind} {n : Int} {d : Nat} : cleanN (d + 1) (.int k n) = true := rfl
theorem clean_bool {b : Bool} {d : Nat} : cleanN (d + 1) (.bool b) = true := rfl
theorem clean_string {s : ByteArray} {d : Nat} : cleanN (d + 1) (.string s) = true := rfl
theorem clean_agg {l : List Value} {d : Nat} (h : l.all (cleanN d) = true) : cleanN (d + 1) (.agg l.toArray) = true := by
  show l.toArray.toList.all (cleanN d) = true
  simpa using h
theorem clean_tuple {l : List Value} {d : Nat} (h : l.all (cleanN d) = true) : cleanN (d + 1) (.tuple l.toArray) = true := by
  show l.toArray.toList.all (cleanN d) = true
  simpa using h
theorem all1 {p : Value → Bool} {a : Value} (h : p a = true) : [a].all p = true := by simp [h]
theorem all2 {p : Value → Bool} {a b : Value} (h : p a = true) (k : p b = true) : [a, b].all p = true := by simp [h, k]
theorem all3 {p : Value → Bool} {a b c : Value} (h : p a = true) (k : p b = true) (j : p c = true) : [a, b, c].all p = true := by simp [h, k, j]
theorem all4 {p : Value → Bool} {a b c d : Value} (h : p a = true) (k : p b = true) (j : p c = true) (i : p d = true) : [a, b, c, d].all p = true := by simp [h, k, j, i]
theorem cells_sv {k e n : Nat} {cs : List Value} : (sv k e n cs).cells = #[sv k e n cs] := by unfold sv; split <;> rfl
theorem cells_vs {α : Type} {f : α → List Value} {e k : Nat} {l : List α} : (vs f e k l).cells = #[vs f e k l] := cells_sv
theorem dem1_sv {k e n : Nat} {cs : List Value} : dem1 (sv k e n cs) = sv (if k = 2 then 1 else k) e n cs := by rw [← dem_sv]; unfold sv; split <;> rfl
theorem dem1_vs {α : Type} {f : α → List Value} {e k : Nat} {l : List α} : dem1 (vs f e k l) = vs f e (if k = 2 then 1 else k) l := dem1_sv
theorem dem1_int {k : IntKind} {n : Int} : dem1 (.int k n) = .int k n := rfl
theorem dem1_bool {b : Bool} : dem1 (.bool b) = .bool b := rfl
theorem dem1_string {s : ByteArray} : dem1 (.string s) = .string s := rfl
theorem cells_agg {x : Array Value} : (Value.agg x).cells = x := rfl
theorem cells_int {k : IntKind} {n : Int} : (Value.int k n).cells = #[.int k n] := rfl
theorem cells_bool {b : Bool} : (Value.bool b).cells = #[.bool b] := rfl
theorem cells_string {s : ByteArray} : (Value.string s).cells = #[.string s] := rfl
theorem cells_slice {a : Option Addr} {n c : Nat} : (Value.slice a n c).cells = #[.slice a n c] := rfl
@[simp] theorem dem_slice (a : Option Addr) (n c : Nat) : dem (.slice a n c) = .slice a n c := Eq.trans rfl rfl
@[simp] theorem dem_map (a : Option Nat) : dem (.map a) = .map a := Eq.trans rfl rfl
theorem dem1_slice {a : Option Addr} {n c : Nat} : dem1 (.slice a n c) = .slice a n c := rfl
theorem dem1_pointer {a : Option Addr} : dem1 (.pointer a) = .pointer a := rfl
theorem wrap_i64 {n : Int} (h0 : -9223372036854775808 ≤ n) (h : n < 9223372036854775808) : IntKind.i64.wrap n = n := by
  simp [IntKind.wrap, IntKind.bits, IntKind.signed]
  split <;> omega
theorem iz_at_pre {l pre suf : List Int} {n : Int} (hl : l = pre ++ n :: suf) (h : Int.toNat (pre.length : Int) < l.length) : l[Int.toNat (pre.length : Int)] = n := by
  subst hl; simp
theorem at_pre {α : Type} {l pre suf : List α} {n : α} (hl : l = pre ++ n :: suf) (h : Int.toNat (pre.length : Int) < l.length) : l[Int.toNat (pre.length : Int)] = n := by
  subst hl; simp
theorem dem2 (k : Nat) : (if (if k = 2 then 1 else k) = 2 then 1 else if k = 2 then 1 else k) = if k = 2 then 1 else k := by split <;> simp_all
theorem dem_ne2 (k : Nat) : (if k = 2 then 1 else k) ≠ 2 := by split <;> omega
/-! What is still there. -/
theorem stillQ_undef (Sa Sb : AHeap) : stillQ undef Sa Sb = true := rfl
theorem stillQ_EP (cs : List Value) (Sa Sb : AHeap) : stillQ (EP cs) Sa Sb = true := rfl
theorem stillQ_same {q o e : Nat} {cs : List Value} {own : Own} {S : AHeap} (h : S.get q = some (.cells cs own e)) : stillQ (.pointer (some ⟨q, o, none⟩)) S S = true := by
  simp only [stillQ, h, Nat.sub_self, List.take_zero, List.contains_nil, Bool.not_false, Bool.and_self]
theorem stillQ_ext {q o e : Nat} {cs : List Value} {own : Own} {S S1 : AHeap} (h : S.get q = some (.cells cs own e)) (hq : q < S.next) (hE : Ext S S1) : stillQ (.pointer (some ⟨q, o, none⟩)) S S1 = true := by
  obtain ⟨new, h1, h2⟩ := hE.log
  simp only [stillQ, h, h1, List.length_append, Nat.add_sub_cancel, List.take_left, Bool.true_and, Bool.not_eq_true', List.contains_eq_mem, decide_eq_false_iff_not]
  intro hm
  have := h2 q hm
  omega
end Go.Abs

/-
A walk's steps, said short: what the kernel finds by itself is left out.
-/
namespace Go.Abs
open Go.RowKit

section
variable {P : Program} {fx : Fx} {chk : List Nat} {call : FuncId → List Value → M Value} {ops : Array Oper}

theorem sP (f : Func) (i n : Nat) {l : List Oper} {T : List Value} {T1 : Value → List Value} {S : AHeap} {v : Value} {r : Option (List Value × AHeap)} (hK : vOps P fx call ops ((reg f i).toList.drop (n + 1)) (T1 v) S = r) (hl : l = (opAt f i n) :: ((reg f i).toList.drop (n + 1)) := by kernel_rfl) (hg : (opAt f i n).guard = none := by kernel_rfl) (hm : ∀ v, vPut (opAt f i n) ((reg f i).toList.drop (n + 1)) T v = T1 v := by exact fun _ => rfl) (hs : vStep P fx call T (opAt f i n) S = some (v, S) := by kernel_rfl) : vOps P fx call ops l T S = r :=
  vOps_pure hl hg hm hs hK
theorem sD (f : Func) (i n : Nat) {l : List Oper} {T : List Value} {T1 : Value → List Value} {S : AHeap} {s : Option (Value × AHeap)} {K : Value → AHeap → Option (List Value × AHeap)} (hK : ∀ v S1, vOps P fx call ops ((reg f i).toList.drop (n + 1)) (T1 v) S1 = K v S1) (hl : l = (opAt f i n) :: ((reg f i).toList.drop (n + 1)) := by kernel_rfl) (hg : (opAt f i n).guard = none := by kernel_rfl) (hm : ∀ v, vPut (opAt f i n) ((reg f i).toList.drop (n + 1)) T v = T1 v := by exact fun _ => rfl) (hs : vStep P fx call T (opAt f i n) S = s := by kernel_rfl) : vOps P fx call ops l T S = andK s K () :=
  vOps_do hl hg hm hs hK
theorem sDN (f : Func) (i n : Nat) {l : List Oper} {T : List Value} {T1 : Value → List Value} {S : AHeap} {s : Option (Value × AHeap)} {K : Value → AHeap → Option (List Value × AHeap)} (hK : ∀ v S1, vOps P fx call ops ((reg f i).toList.drop (n + 1)) (T1 v) S1 = K v S1) (hl : l = (opAt f i n) :: ((reg f i).toList.drop (n + 1)) := by kernel_rfl) (hg : (opAt f i n).guard = none := by kernel_rfl) (hm : ∀ v, vPut (opAt f i n) ((reg f i).toList.drop (n + 1)) T v = T1 v := by exact fun _ => rfl) (hs : vStep P fx call T (opAt f i n) S = s := by kernel_rfl) : vOps P fx call ops l T S = andK s K () :=
  vOps_doN hl hg hm hs hK
theorem sG (f : Func) (i n : Nat) {l : List Oper} {T : List Value} {T1 : Value → List Value} {S : AHeap} {j : Nat} {b : Bool} {g : Value} {s : M Value} {K : Value → AHeap → Option (List Value × AHeap)} (hK : ∀ v S1, vOps P fx call ops ((reg f i).toList.drop (n + 1)) (T1 v) S1 = K v S1) (hl : l = (opAt f i n) :: ((reg f i).toList.drop (n + 1)) := by kernel_rfl) (hg : (opAt f i n).guard = some (j, b) := by kernel_rfl) (hm : ∀ v, vPut (opAt f i n) ((reg f i).toList.drop (n + 1)) T v = T1 v := by exact fun _ => rfl) (hy : ynd ops T j = vb g := by kernel_rfl) (hs : vStep P fx call T (opAt f i n) S = s S := by kernel_rfl) : vOps P fx call ops l T S = gdK g b s S K () :=
  vOps_gd hl hg hm hy hs hK
theorem sGN (f : Func) (i n : Nat) {l : List Oper} {T : List Value} {T1 : Value → List Value} {S : AHeap} {j : Nat} {b : Bool} {g : Value} {s : M Value} {K : Value → AHeap → Option (List Value × AHeap)} (hK : ∀ v S1, vOps P fx call ops ((reg f i).toList.drop (n + 1)) (T1 v) S1 = K v S1) (hl : l = (opAt f i n) :: ((reg f i).toList.drop (n + 1)) := by kernel_rfl) (hg : (opAt f i n).guard = some (j, b) := by kernel_rfl) (hm : ∀ v, vPut (opAt f i n) ((reg f i).toList.drop (n + 1)) T v = T1 v := by exact fun _ => rfl) (hy : ynd ops T j = vb g := by kernel_rfl) (hs : vStep P fx call T (opAt f i n) S = s S := by kernel_rfl) : vOps P fx call ops l T S = gdK g b s S K () :=
  vOps_gdN hl hg hm hy hs hK
theorem tD (f : Func) (i n : Nat) {l : List Oper} {T : List Value} {T1 : Value → List Value} {S : AHeap} {k : Nat} {s : Option (Value × AHeap)} {K : Value → AHeap → Option (List Value × AHeap)} (hK : ∀ v S1, vOpsD P fx chk [] call ops (k + 1) [] ((reg f i).toList.drop (n + 1)) (T1 v) S1 = K v S1) (hc : chk.contains k = false := by kernel_rfl) (hl : l = (opAt f i n) :: ((reg f i).toList.drop (n + 1)) := by kernel_rfl) (hg : (opAt f i n).guard = none := by kernel_rfl) (hm : ∀ v, vPut (opAt f i n) ((reg f i).toList.drop (n + 1)) T v = T1 v := by exact fun _ => rfl) (hs : vStep P fx call T (opAt f i n) S = s := by kernel_rfl) : vOpsD P fx chk [] call ops k [] l T S = andK s K () :=
  vOpsD_do hc hl hg hm hs hK
theorem tDC (f : Func) (i n : Nat) {l : List Oper} {T : List Value} {T1 : Value → List Value} {S : AHeap} {k : Nat} {s : Option (Value × AHeap)} {K : Value → AHeap → Option (List Value × AHeap)} (hK : ∀ v S1, vOpsD P fx chk [] call ops (k + 1) [] ((reg f i).toList.drop (n + 1)) (T1 v) S1 = K v S1) (hc : chk.contains k = true := by kernel_rfl) (hl : l = (opAt f i n) :: ((reg f i).toList.drop (n + 1)) := by kernel_rfl) (hg : (opAt f i n).guard = none := by kernel_rfl) (hm : ∀ v, vPut (opAt f i n) ((reg f i).toList.drop (n + 1)) T v = T1 v := by exact fun _ => rfl) (hs : vStep P fx call T (opAt f i n) S = s := by kernel_rfl) : vOpsD P fx chk [] call ops k [] l T S = andK s (fun v S1 => okK v (K v S1) ()) () :=
  vOpsD_doC hc hl hg hm hs hK
theorem tDN (f : Func) (i n : Nat) {l : List Oper} {T : List Value} {T1 : Value → List Value} {S : AHeap} {k : Nat} {s : Option (Value × AHeap)} {K : Value → AHeap → Option (List Value × AHeap)} (hK : ∀ v S1, vOpsD P fx chk [] call ops (k + 1) [] ((reg f i).toList.drop (n + 1)) (T1 v) S1 = K v S1) (hc : chk.contains k = false := by kernel_rfl) (hl : l = (opAt f i n) :: ((reg f i).toList.drop (n + 1)) := by kernel_rfl) (hg : (opAt f i n).guard = none := by kernel_rfl) (hm : ∀ v, vPut (opAt f i n) ((reg f i).toList.drop (n + 1)) T v = T1 v := by exact fun _ => rfl) (hs : vStep P fx call T (opAt f i n) S = s := by kernel_rfl) : vOpsD P fx chk [] call ops k [] l T S = andK s K () :=
  vOpsD_doN hc hl hg hm hs hK
theorem tP (f : Func) (i n : Nat) {l : List Oper} {T : List Value} {T1 : Value → List Value} {S : AHeap} {k : Nat} {v : Value} {r : Option (List Value × AHeap)} (hK : vOpsD P fx chk [] call ops (k + 1) [] ((reg f i).toList.drop (n + 1)) (T1 v) S = r) (hc : chk.contains k = false := by kernel_rfl) (hl : l = (opAt f i n) :: ((reg f i).toList.drop (n + 1)) := by kernel_rfl) (hg : (opAt f i n).guard = none := by kernel_rfl) (hm : ∀ v, vPut (opAt f i n) ((reg f i).toList.drop (n + 1)) T v = T1 v := by exact fun _ => rfl) (hs : vStep P fx call T (opAt f i n) S = some (v, S) := by kernel_rfl) : vOpsD P fx chk [] call ops k [] l T S = r :=
  vOpsD_pure hc hl hg hm hs hK
theorem tPC (f : Func) (i n : Nat) {l : List Oper} {T : List Value} {T1 : Value → List Value} {S : AHeap} {k : Nat} {v : Value} {r : Option (List Value × AHeap)} (hK : vOpsD P fx chk [] call ops (k + 1) [] ((reg f i).toList.drop (n + 1)) (T1 v) S = r) (hc : chk.contains k = true := by kernel_rfl) (hl : l = (opAt f i n) :: ((reg f i).toList.drop (n + 1)) := by kernel_rfl) (hg : (opAt f i n).guard = none := by kernel_rfl) (hm : ∀ v, vPut (opAt f i n) ((reg f i).toList.drop (n + 1)) T v = T1 v := by exact fun _ => rfl) (hs : vStep P fx call T (opAt f i n) S = some (v, S) := by kernel_rfl) : vOpsD P fx chk [] call ops k [] l T S = okK v r () :=
  vOpsD_pureC hc hl hg hm hs hK
theorem tG (f : Func) (i n : Nat) {l : List Oper} {T : List Value} {T1 : Value → List Value} {S : AHeap} {j k : Nat} {b : Bool} {g : Value} {s : M Value} {K : Value → AHeap → Option (List Value × AHeap)} (hK : ∀ v S1, vOpsD P fx chk [] call ops (k + 1) [] ((reg f i).toList.drop (n + 1)) (T1 v) S1 = K v S1) (hc : chk.contains k = false := by kernel_rfl) (hl : l = (opAt f i n) :: ((reg f i).toList.drop (n + 1)) := by kernel_rfl) (hg : (opAt f i n).guard = some (j, b) := by kernel_rfl) (hm : ∀ v, vPut (opAt f i n) ((reg f i).toList.drop (n + 1)) T v = T1 v := by exact fun _ => rfl) (hy : ynd ops T j = vb g := by kernel_rfl) (hs : vStep P fx call T (opAt f i n) S = s S := by kernel_rfl) : vOpsD P fx chk [] call ops k [] l T S = gdK g b s S K () :=
  vOpsD_gd hc hl hg hm hy hs hK
theorem tGC (f : Func) (i n : Nat) {l : List Oper} {T : List Value} {T1 : Value → List Value} {S : AHeap} {j k : Nat} {b : Bool} {g : Value} {s : M Value} {K : Value → AHeap → Option (List Value × AHeap)} (hK : ∀ v S1, vOpsD P fx chk [] call ops (k + 1) [] ((reg f i).toList.drop (n + 1)) (T1 v) S1 = K v S1) (hc : chk.contains k = true := by kernel_rfl) (hl : l = (opAt f i n) :: ((reg f i).toList.drop (n + 1)) := by kernel_rfl) (hg : (opAt f i n).guard = some (j, b) := by kernel_rfl) (hm : ∀ v, vPut (opAt f i n) ((reg f i).toList.drop (n + 1)) T v = T1 v := by exact fun _ => rfl) (hy : ynd ops T j = vb g := by kernel_rfl) (hs : vStep P fx call T (opAt f i n) S = s S := by kernel_rfl) : vOpsD P fx chk [] call ops k [] l T S = gdCK g b s S K () :=
  vOpsD_gdC hc hl hg hm hy hs hK
theorem tGN (f : Func) (i n : Nat) {l : List Oper} {T : List Value} {T1 : Value → List Value} {S : AHeap} {j k : Nat} {b : Bool} {g : Value} {s : M Value} {K : Value → AHeap → Option (List Value × AHeap)} (hK : ∀ v S1, vOpsD P fx chk [] call ops (k + 1) [] ((reg f i).toList.drop (n + 1)) (T1 v) S1 = K v S1) (hc : chk.contains k = false := by kernel_rfl) (hl : l = (opAt f i n) :: ((reg f i).toList.drop (n + 1)) := by kernel_rfl) (hg : (opAt f i n).guard = some (j, b) := by kernel_rfl) (hm : ∀ v, vPut (opAt f i n) ((reg f i).toList.drop (n + 1)) T v = T1 v := by exact fun _ => rfl) (hy : ynd ops T j = vb g := by kernel_rfl) (hs : vStep P fx call T (opAt f i n) S = s S := by kernel_rfl) : vOpsD P fx chk [] call ops k [] l T S = gdK g b s S K () :=
  vOpsD_gdN hc hl hg hm hy hs hK
theorem uD (f : Func) (i n : Nat) {l : List Oper} {T : List Value} {T1 : Value → List Value} {S : AHeap} {k : Nat} {s : Option (Value × AHeap)} {K : Value → AHeap → Option (List Value × AHeap)} {x : Nat × Nat} {nl : List (Nat × Nat)} {hist : List (Value × AHeap)} {pe : Value} (hK : ∀ v S1, vOpsD P fx chk (x :: nl) call ops (k + 1) (hist ++ [(pe, S)]) ((reg f i).toList.drop (n + 1)) (T1 v) S1 = K v S1) (hc : chk.contains k = false := by kernel_rfl) (hpe : memOp T (opAt f i n) = pe := by kernel_rfl) (hl : l = (opAt f i n) :: ((reg f i).toList.drop (n + 1)) := by kernel_rfl) (hg : (opAt f i n).guard = none := by kernel_rfl) (hm : ∀ v, vPut (opAt f i n) ((reg f i).toList.drop (n + 1)) T v = T1 v := by exact fun _ => rfl) (hs : vStep P fx call T (opAt f i n) S = s := by kernel_rfl) : vOpsD P fx chk (x :: nl) call ops k hist l T S = andK s K () :=
  vOpsE_do hc hpe hl hg hm hs hK
theorem uDC (f : Func) (i n : Nat) {l : List Oper} {T : List Value} {T1 : Value → List Value} {S : AHeap} {k : Nat} {s : Option (Value × AHeap)} {K : Value → AHeap → Option (List Value × AHeap)} {x : Nat × Nat} {nl : List (Nat × Nat)} {hist : List (Value × AHeap)} {pe : Value} (hK : ∀ v S1, vOpsD P fx chk (x :: nl) call ops (k + 1) (hist ++ [(pe, S)]) ((reg f i).toList.drop (n + 1)) (T1 v) S1 = K v S1) (hc : chk.contains k = true := by kernel_rfl) (hpe : memOp T (opAt f i n) = pe := by kernel_rfl) (hl : l = (opAt f i n) :: ((reg f i).toList.drop (n + 1)) := by kernel_rfl) (hg : (opAt f i n).guard = none := by kernel_rfl) (hm : ∀ v, vPut (opAt f i n) ((reg f i).toList.drop (n + 1)) T v = T1 v := by exact fun _ => rfl) (hs : vStep P fx call T (opAt f i n) S = s := by kernel_rfl) : vOpsD P fx chk (x :: nl) call ops k hist l T S = andK s (fun v S1 => okK v (K v S1) ()) () :=
  vOpsE_doC hc hpe hl hg hm hs hK
theorem uDN (f : Func) (i n : Nat) {l : List Oper} {T : List Value} {T1 : Value → List Value} {S : AHeap} {k : Nat} {s : Option (Value × AHeap)} {K : Value → AHeap → Option (List Value × AHeap)} {x : Nat × Nat} {nl : List (Nat × Nat)} {hist : List (Value × AHeap)} {pe : Value} (hK : ∀ v S1, vOpsD P fx chk (x :: nl) call ops (k + 1) (hist ++ [(pe, S)]) ((reg f i).toList.drop (n + 1)) (T1 v) S1 = K v S1) (hc : chk.contains k = false := by kernel_rfl) (hpe : memOp T (opAt f i n) = pe := by kernel_rfl) (hl : l = (opAt f i n) :: ((reg f i).toList.drop (n + 1)) := by kernel_rfl) (hg : (opAt f i n).guard = none := by kernel_rfl) (hm : ∀ v, vPut (opAt f i n) ((reg f i).toList.drop (n + 1)) T v = T1 v := by exact fun _ => rfl) (hs : vStep P fx call T (opAt f i n) S = s := by kernel_rfl) : vOpsD P fx chk (x :: nl) call ops k hist l T S = andK s K () :=
  vOpsE_doN hc hpe hl hg hm hs hK
theorem uP (f : Func) (i n : Nat) {l : List Oper} {T : List Value} {T1 : Value → List Value} {S : AHeap} {k : Nat} {v : Value} {r : Option (List Value × AHeap)} {x : Nat × Nat} {nl : List (Nat × Nat)} {hist : List (Value × AHeap)} {pe : Value} (hK : vOpsD P fx chk (x :: nl) call ops (k + 1) (hist ++ [(pe, S)]) ((reg f i).toList.drop (n + 1)) (T1 v) S = r) (hc : chk.contains k = false := by kernel_rfl) (hpe : memOp T (opAt f i n) = pe := by kernel_rfl) (hl : l = (opAt f i n) :: ((reg f i).toList.drop (n + 1)) := by kernel_rfl) (hg : (opAt f i n).guard = none := by kernel_rfl) (hm : ∀ v, vPut (opAt f i n) ((reg f i).toList.drop (n + 1)) T v = T1 v := by exact fun _ => rfl) (hs : vStep P fx call T (opAt f i n) S = some (v, S) := by kernel_rfl) : vOpsD P fx chk (x :: nl) call ops k hist l T S = r :=
  vOpsE_pure hc hpe hl hg hm hs hK
theorem uPC (f : Func) (i n : Nat) {l : List Oper} {T : List Value} {T1 : Value → List Value} {S : AHeap} {k : Nat} {v : Value} {r : Option (List Value × AHeap)} {x : Nat × Nat} {nl : List (Nat × Nat)} {hist : List (Value × AHeap)} {pe : Value} (hK : vOpsD P fx chk (x :: nl) call ops (k + 1) (hist ++ [(pe, S)]) ((reg f i).toList.drop (n + 1)) (T1 v) S = r) (hc : chk.contains k = true := by kernel_rfl) (hpe : memOp T (opAt f i n) = pe := by kernel_rfl) (hl : l = (opAt f i n) :: ((reg f i).toList.drop (n + 1)) := by kernel_rfl) (hg : (opAt f i n).guard = none := by kernel_rfl) (hm : ∀ v, vPut (opAt f i n) ((reg f i).toList.drop (n + 1)) T v = T1 v := by exact fun _ => rfl) (hs : vStep P fx call T (opAt f i n) S = some (v, S) := by kernel_rfl) : vOpsD P fx chk (x :: nl) call ops k hist l T S = okK v r () :=
  vOpsE_pureC hc hpe hl hg hm hs hK
theorem uG (f : Func) (i n : Nat) {l : List Oper} {T : List Value} {T1 : Value → List Value} {S : AHeap} {j k : Nat} {b : Bool} {g : Value} {s : M Value} {K : Value → AHeap → Option (List Value × AHeap)} {x : Nat × Nat} {nl : List (Nat × Nat)} {hist : List (Value × AHeap)} {pe : Value} (hK : ∀ v S1, vOpsD P fx chk (x :: nl) call ops (k + 1) (hist ++ [(pe, S)]) ((reg f i).toList.drop (n + 1)) (T1 v) S1 = K v S1) (hc : chk.contains k = false := by kernel_rfl) (hpe : memOp T (opAt f i n) = pe := by kernel_rfl) (hl : l = (opAt f i n) :: ((reg f i).toList.drop (n + 1)) := by kernel_rfl) (hg : (opAt f i n).guard = some (j, b) := by kernel_rfl) (hm : ∀ v, vPut (opAt f i n) ((reg f i).toList.drop (n + 1)) T v = T1 v := by exact fun _ => rfl) (hy : ynd ops T j = vb g := by kernel_rfl) (hs : vStep P fx call T (opAt f i n) S = s S := by kernel_rfl) : vOpsD P fx chk (x :: nl) call ops k hist l T S = gdK g b s S K () :=
  vOpsE_gd hc hpe hl hg hm hy hs hK
theorem uGC (f : Func) (i n : Nat) {l : List Oper} {T : List Value} {T1 : Value → List Value} {S : AHeap} {j k : Nat} {b : Bool} {g : Value} {s : M Value} {K : Value → AHeap → Option (List Value × AHeap)} {x : Nat × Nat} {nl : List (Nat × Nat)} {hist : List (Value × AHeap)} {pe : Value} (hK : ∀ v S1, vOpsD P fx chk (x :: nl) call ops (k + 1) (hist ++ [(pe, S)]) ((reg f i).toList.drop (n + 1)) (T1 v) S1 = K v S1) (hc : chk.contains k = true := by kernel_rfl) (hpe : memOp T (opAt f i n) = pe := by kernel_rfl) (hl : l = (opAt f i n) :: ((reg f i).toList.drop (n + 1)) := by kernel_rfl) (hg : (opAt f i n).guard = some (j, b) := by kernel_rfl) (hm : ∀ v, vPut (opAt f i n) ((reg f i).toList.drop (n + 1)) T v = T1 v := by exact fun _ => rfl) (hy : ynd ops T j = vb g := by kernel_rfl) (hs : vStep P fx call T (opAt f i n) S = s S := by kernel_rfl) : vOpsD P fx chk (x :: nl) call ops k hist l T S = gdCK g b s S K () :=
  vOpsE_gdC hc hpe hl hg hm hy hs hK
theorem uGN (f : Func) (i n : Nat) {l : List Oper} {T : List Value} {T1 : Value → List Value} {S : AHeap} {j k : Nat} {b : Bool} {g : Value} {s : M Value} {K : Value → AHeap → Option (List Value × AHeap)} {x : Nat × Nat} {nl : List (Nat × Nat)} {hist : List (Value × AHeap)} {pe : Value} (hK : ∀ v S1, vOpsD P fx chk (x :: nl) call ops (k + 1) (hist ++ [(pe, S)]) ((reg f i).toList.drop (n + 1)) (T1 v) S1 = K v S1) (hc : chk.contains k = false := by kernel_rfl) (hpe : memOp T (opAt f i n) = pe := by kernel_rfl) (hl : l = (opAt f i n) :: ((reg f i).toList.drop (n + 1)) := by kernel_rfl) (hg : (opAt f i n).guard = some (j, b) := by kernel_rfl) (hm : ∀ v, vPut (opAt f i n) ((reg f i).toList.drop (n + 1)) T v = T1 v := by exact fun _ => rfl) (hy : ynd ops T j = vb g := by kernel_rfl) (hs : vStep P fx call T (opAt f i n) S = s S := by kernel_rfl) : vOpsD P fx chk (x :: nl) call ops k hist l T S = gdK g b s S K () :=
  vOpsE_gdN hc hpe hl hg hm hy hs hK
end
end Go.Abs
