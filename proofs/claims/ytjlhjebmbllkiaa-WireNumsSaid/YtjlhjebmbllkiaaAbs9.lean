/-
Every operation of the interpreter, and calls.
-/
import Derived.Test.YtjlhjebmbllkiaaAbs8
set_option linter.unusedVariables false
set_option linter.unusedSimpArgs false
namespace Go.Abs
open Go.RowKit

def evalT (T : List Value) : Operand → Value
  | .tmp t => T.getD t undef
  | .const v => v
  | .global _ => undef
  | .func f => .func (.func f) #[] #[]
def okArg : Operand → Bool
  | .tmp _ => true
  | .const v => ground v
  | .global _ => false
  | .func _ => true
def opOk (o : Oper) : Bool := o.op.operands.toList.all okArg

def aStep (P : Program) (call : FuncId → List Value → M Value) (T : List Value) (o : Oper) : M Value := fun H =>
  if opOk o then
    match o.op with
    | .call c => match c.callee with
      | .value f => match evalT T f with
        | .func (.func g) first captured => call g (first.toList ++ c.args.toList.map (evalT T) ++ captured.toList) H
        | _ => none
      | .builtin b => aBuiltin P b c.argTypes o.type (c.args.toList.map (evalT T)) H
      | _ => none
    | _ => aOp P (evalT T) o H
  else none

section
variable {P : Program} {B : Nat} {w0 : World} {m : Mp} {H H' : AHeap} {w : World}

theorem eval_rel {T : List Value} {a : Act} (hT : LR m T a.tmps.toList) {x : Operand} (hx : okArg x = true) : VR m (evalT T x) (a.eval x) := by
  cases x with
  | tmp t =>
    have := hT.2 t
    simpa [evalT, Act.eval, List.getD_eq_getElem?_getD, Array.getD_eq_getD_getElem?] using this
  | const v => exact ground_refl hx
  | global g => cases hx
  | func f =>
    have := @AR.empty m
    exact .func _ rfl rfl this.2 this.2

/-- What the interpreter's step and the model's operation come to. -/
def OpSim (P : Program) (B : Nat) (w0 : World) (m : Mp) (H' : AHeap) (w : World) (s : Sem Next) (v : Value) : Prop :=
  ∃ r w' m', s.run P w = .ok r w' ∧ ((∃ v', r = .value v' ∧ VR m' v v') ∨ (r = .skip ∧ v = undef)) ∧ m.le m' ∧ Rel B w0 m' H' w'

theorem OpSim.value {s : Sem Value} {v : Value} (h : Sim P B w0 m H' w s v) : OpSim P B w0 m H' w (do pure (.value (← s))) v := by
  obtain ⟨v', w', m', h1, h2, h3, h4⟩ := h
  exact ⟨.value v', w', m', by simp [h1], .inl ⟨v', rfl, h2⟩, h3, h4⟩
theorem OpSim.now {v v' : Value} (hr : Rel B w0 m H w) (h : VR m v v') : OpSim P B w0 m H w (pure (.value v')) v :=
  ⟨.value v', w, m, rfl, .inl ⟨v', rfl, h⟩, Mp.le_refl m, hr⟩
theorem OpSim.unit {s : Sem Unit} {v : Value} (h : v = undef ∧ ∃ w', s.run P w = .ok () w' ∧ Rel B w0 m H' w') : OpSim P B w0 m H' w (do s; pure .skip) v := by
  obtain ⟨h0, w', h1, h2⟩ := h
  exact ⟨.skip, w', m, by simp [h1], .inr ⟨rfl, h0⟩, Mp.le_refl m, h2⟩

theorem LR.map {T : List Value} {a : Act} (hT : LR m T a.tmps.toList) : ∀ {l : List Operand}, l.all okArg = true → LR m (l.map (evalT T)) (l.map a.eval) := by
  intro l
  induction l with
  | nil => intro _; exact .nil
  | cons x l ih =>
    intro h
    simp only [List.all_cons, Bool.and_eq_true] at h
    exact .cons (eval_rel hT h.1) (ih h.2)
theorem PR.map {T : List Value} {a : Act} (hT : LR m T a.tmps.toList) {l : List (Nat × Operand)} (h : (l.map (·.2)).all okArg = true) :
    PR m (l.map fun p => (p.1, evalT T p.2)) (l.map fun p => (p.1, a.eval p.2)) := by
  refine ⟨by simp [List.map_map, Function.comp_def], ?_⟩
  have := LR.map hT h
  simpa [List.map_map, Function.comp_def] using this
theorem opt_rel {T : List Value} {a : Act} (hT : LR m T a.tmps.toList) {x : Option Operand} (h : x.toList.all okArg = true) :
    x.map (evalT T) = none ∧ x.map a.eval = none ∨ ∃ v v', x.map (evalT T) = some v ∧ x.map a.eval = some v' ∧ VR m v v' := by
  cases x with
  | none => exact .inl ⟨rfl, rfl⟩
  | some x => exact .inr ⟨_, _, rfl, rfl, eval_rel hT (by simpa using h)⟩

theorem sim_builtin {b : Builtin} {ts : Array TypeId} {ty : TypeId} {consts : Array Bool} {args : List Value} {args' : Array Value} {v : Value} (hr : Rel B w0 m H w)
    (h : aBuiltin P b ts ty args H = some (v, H')) (ha : LR m args args'.toList) : OpSim P B w0 m H' w (builtin b ts ty consts args') v := by
  unfold aBuiltin at h
  split at h
  · split at h
    · rename_i t x hts
      obtain ⟨x', hx', hvr⟩ := ha.one
      rw [toList1 hts, toList1 hx']
      exact OpSim.value (sim_len hr h hvr)
    · cases h
  · split at h
    · rename_i t tx s x hts
      obtain ⟨s', x', hx', h1, h2⟩ := ha.two
      rw [toList2 hts, toList2 hx']
      exact OpSim.value (sim_append hr h h1 h2)
    · cases h
  · split at h
    · rename_i t tx s x hts
      obtain ⟨s', x', hx', h1, h2⟩ := ha.two
      rw [toList2 hts, toList2 hx']
      exact OpSim.value (sim_copy hr h h1 h2)
    · cases h
  · split at h
    · rename_i t x hts
      obtain ⟨x', hx', hvr⟩ := ha.one
      rw [toList1 hts, toList1 hx']
      exact OpSim.value (sim_clear hr h hvr)
    · cases h
  · exact OpSim.value (sim_ground hr h ha (fun e => by rw [← Array.toArray_toList (xs := args'), e]))
  · exact OpSim.value (sim_ground hr h ha (fun e => by rw [← Array.toArray_toList (xs := args'), e]))
  · cases h

theorem sim_op {o : Oper} {T : List Value} {a : Act} {v : Value} (hr : Rel B w0 m H w) (hT : LR m T a.tmps.toList) (hok : opOk o = true) (h : aOp P (evalT T) o H = some (v, H')) :
    OpSim P B w0 m H' w (execOp a.eval o) v := by
  obtain ⟨dst, op, type, pos, after, guard⟩ := o
  unfold opOk at hok
  unfold aOp at h
  cases op <;> simp only [Op.operands, List.all_cons, List.all_nil, Bool.and_true, Bool.and_eq_true, List.all_append, Array.toList_append, List.toList_toArray] at hok h <;> (try (cases h; done))
  case move x => cases h; exact .now hr (eval_rel hT hok)
  case assign x => cases h; exact .now hr (eval_rel hT hok)
  case pick c x y =>
    obtain ⟨h1, h2, h3⟩ := hok
    have hc := eval_rel hT h1
    unfold aPick at h
    split at h
    · rename_i t ht
      cases h
      rw [ht] at hc
      have hc' : a.eval c = .bool t := by
        generalize a.eval c = u at hc
        cases hc; rfl
      refine ⟨.value (if t then a.eval x else a.eval y), w, m, ?_, .inl ⟨_, rfl, ?_⟩, Mp.le_refl m, hr⟩
      · simp [execOp, asBool, hc']
      · cases t
        · exact eval_rel hT h3
        · exact eval_rel hT h2
    · cases h
  case alloc e => exact .value (sim_alloc hr h)
  case box e x => exact .value (sim_box e hr h (eval_rel hT hok))
  case build t parts =>
    refine .value (sim_build hr h ?_)
    have := PR.map hT (l := parts.toList) (by simpa using hok)
    simpa using this
  case buildSlice t len parts =>
    refine .value (sim_buildSlice hr h ?_)
    have := PR.map hT (l := parts.toList) (by simpa using hok)
    simpa using this
  case load t x => exact .value (sim_load hr h (eval_rel hT hok))
  case store t p x => exact .unit (sim_store hr h (eval_rel hT hok.1) (eval_rel hT hok.2))
  case nilCheck x =>
    obtain ⟨h1, h2, ad, h3⟩ := sim_nilCheck h (eval_rel hT hok)
    subst h1; subst h2
    have := eval_rel hT hok
    refine ⟨.value (a.eval x), w, m, ?_, .inl ⟨_, rfl, this⟩, Mp.le_refl m, hr⟩
    simp [execOp, h3]
  case binOp op t x y yt => exact .value (sim_bin x y hr h (eval_rel hT hok.1) (eval_rel hT hok.2))
  case unOp op t x => exact .value (sim_un hr h (eval_rel hT hok))
  case convert s d x => exact .value (sim_conv hr h (eval_rel hT hok))
  case makeFunc fn first captured =>
    cases h
    refine .value (.same hr (v' := .func fn (first.map a.eval) (captured.map a.eval)) rfl ?_)
    have h1 := (LR.map hT hok.1).toArray
    have h2 := (LR.map hT hok.2).toArray
    have e1 : (first.toList.map a.eval).toArray = first.map a.eval := by apply Array.ext'; simp
    have e2 : (captured.toList.map a.eval).toArray = captured.map a.eval := by apply Array.ext'; simp
    rw [e1] at h1; rw [e2] at h2
    exact .func fn h1.1 h2.1 h1.2 h2.2
  case makeMap t r => exact .value (sim_makeMap hr h (fun e => by cases r <;> simp_all))
  case makeSlice t l c => exact .value (sim_makeSlice hr h (eval_rel hT hok.1) (eval_rel hT hok.2))
  case slice t x lo hi mx =>
    cases mx with
    | some y => cases h
    | none =>
      simp only [Option.toArray_none, List.all_nil, Array.toList_append, List.all_append, Bool.and_eq_true, Option.toList_toArray, List.all_cons, Bool.and_true] at hok
      exact .value (sim_slice hr h (eval_rel hT (by simpa using hok.1.1.1)) (opt_rel hT (by simpa using hok.1.1.2)) (opt_rel hT (by simpa using hok.1.2)))
  case fieldAddr s x f => exact .value (sim_fieldAddr hr h (eval_rel hT hok))
  case field t x f => exact .value (sim_field hr h (eval_rel hT hok))
  case indexAddr t x i => exact .value (sim_indexAddr hr h (eval_rel hT hok.1) (eval_rel hT hok.2))
  case index t x i => exact .value (sim_index hr h (eval_rel hT hok.1) (eval_rel hT hok.2))
  case lookup t x i ok => exact .value (sim_lookup hr h (eval_rel hT hok.1) (eval_rel hT hok.2))
  case mapUpdate t x k y => exact .unit (sim_mapUpdate hr h (eval_rel hT hok.1) (eval_rel hT hok.2.1) (eval_rel hT hok.2.2))
  case extract t i => exact .value (sim_extract hr h (eval_rel hT hok))
  case call c =>
    cases hb : c.callee with
    | builtin b =>
      simp only [hb] at h
      have hargs : c.args.toList.all okArg = true := by
        have : c.operands.toList.all okArg = true := hok
        simp only [Call.operands, hb, Array.toList_append, List.all_append, Bool.and_eq_true] at this
        exact this.2
      have := sim_builtin (consts := c.args.map fun | .const _ => true | _ => false) hr h (args' := c.args.map a.eval) (by simpa using LR.map hT hargs)
      simp only [execOp, resolve, hb, invoke, pure_bind]
      exact this
    | value f => simp only [hb] at h; cases h
    | invoke r n => simp only [hb] at h; cases h

/-- What a call in the interpreter must be. -/
def CallOK (P : Program) (B : Nat) (w0 : World) (call : FuncId → List Value → M Value) : Prop :=
  ∀ (g : FuncId) (args : List Value) (H : AHeap) (v : Value) (H' : AHeap), call g args H = some (v, H') → ∀ (m : Mp) (w : World) (args' : List Value), LR m args args' → Rel B w0 m H w →
    (callFunc g args'.toArray).run P w = .ok (.enter g args'.toArray) w ∧
    Calls P g args'.toArray w fun e w' => ∃ v' m', e = .returned v' ∧ VR m' v v' ∧ m.le m' ∧ Rel B w0 m' H' w'

/-- An operation, walked. -/
theorem step_wp {call : FuncId → List Value → M Value} (hc : CallOK P B w0 call) {o : Oper} {T : List Value} {a : Act} {v : Value} (hr : Rel B w0 m H w) (hT : LR m T a.tmps.toList)
    (h : aStep P call T o H = some (v, H')) {K : Act → World → Prop} {Q : Exit → Act → World → Prop}
    (hK : ∀ v' w' m', VR m' v v' → m.le m' → Rel B w0 m' H' w' → K (a.put o.dst v') w') : o.wp P a w K Q := by
  unfold aStep at h
  split at h
  · rename_i hok
    have plain : OpSim P B w0 m H' w (execOp a.eval o) v → o.wp P a w K Q := by
      rintro ⟨r, w', m', h1, h2, h3, h4⟩
      unfold Oper.wp
      rw [h1]
      rcases h2 with ⟨v', rfl, h2⟩ | ⟨rfl, rfl⟩
      · exact hK v' w' m' h2 h3 h4
      · exact hK undef w' m' VR.undef h3 h4
    split at h
    · rename_i c hop
      have hoc : c.operands.toList.all okArg = true := by
        have := hok; unfold opOk at this; rw [hop] at this; exact this
      split at h
      · rename_i f hf
        have hoa : okArg f = true ∧ c.args.toList.all okArg = true := by
          simp only [Call.operands, hf, Array.toList_append, List.all_append, Bool.and_eq_true, List.all_cons, List.all_nil, Bool.and_true, List.toList_toArray] at hoc
          exact hoc
        split at h
        · rename_i g first captured hev
          have hfv := eval_rel hT hoa.1
          rw [hev] at hfv
          have hargs := LR.map hT hoa.2
          generalize hfe : a.eval f = fv at hfv
          cases hfv with
          | func fn hx hcc hx' hc' =>
            rename_i first' captured'
            have hall : LR m (first.toList ++ c.args.toList.map (evalT T) ++ captured.toList) (first'.toList ++ c.args.toList.map a.eval ++ captured'.toList) :=
              ((AR.toList ⟨hx, hx'⟩).append hargs).append (AR.toList ⟨hcc, hc'⟩)
            obtain ⟨h1, h2⟩ := hc g _ H v H' h m w _ hall hr
            have earr : (first'.toList ++ c.args.toList.map a.eval ++ captured'.toList).toArray = first' ++ c.args.map a.eval ++ captured' := by
              apply Array.ext'; simp
            rw [earr] at h1 h2
            unfold Oper.wp
            have : (execOp a.eval o).run P w = .ok (.enter g (first' ++ c.args.map a.eval ++ captured')) w := by
              unfold execOp
              rw [hop]
              simp only [resolve, hf, hfe, Deferred.ofValue, pure_bind, invoke]
              exact h1
            rw [this]
            refine h2.mono ?_
            rintro e w' ⟨v', m', rfl, hv, hm, hrel⟩
            exact hK v' w' m' hv hm hrel
        · cases h
      · rename_i b hb
        refine plain (sim_op (T := T) hr hT hok ?_)
        unfold aOp
        rw [hop]
        simp only [hb]
        exact h
      · cases h
    · exact plain (sim_op hr hT hok h)
  · cases h

end
end Go.Abs
