/-
The law JournalBytes returns true for every input that holds together at most 1048576 values and letters (each counted as often as it is reached), and leaves it as it was. Condition: that bound, the second form's (UptoSaid); nothing else. Part 2 of 6 of the texts (put together by a program: own names are short, what isn't needed is left out).
-/
import Derived.Test.YtblpnklfimkfoaaZJournalBytes1
import Derived.ProofKit
import Derived.OpenShut
import Derived.ChangeOld
import Derived.SizedLaws
import Derived.Carry
import Derived.ChangeShapes
set_option linter.unusedVariables false
set_option linter.unusedSimpArgs false
set_option maxRecDepth 100000
namespace Go.Abs
open Go.RowKit
def je (T : List Value) : Operand → Value
 | .tmp t => T.getD t undef
 | .const v => v
 | .global _ => undef
 | .func f => .func (.func f) #[] #[]
def yO : Operand → Bool
 | .tmp _ => true
 | .const v => ground v
 | .global _ => false
 | .func _ => true
def adg (o : Oper) : Bool := o.op.operands.toList.all yO
def wC (P : Program) (call : FuncId → List Value → M Value) (T : List Value) (o : Oper) : M Value := fun H =>
 if adg o then
  match o.op with
  | .call c => match c.callee with
   | .value f => match je T f with
    | .func (.func g) first captured => call g (first.toList ++ c.args.toList.map (je T) ++ captured.toList) H
    | _ => none
   | .builtin b => qo P b c.argTypes o.type (c.args.toList.map (je T)) H
   | _ => none
  | _ => aOp P (je T) o H
 else none
section
variable {P : Program} {B : Nat} {w0 : World} {m : Mp} {H H' : zi} {w : World}
theorem jA {T : List Value} {a : Act} (hT : LR m T a.tmps.toList) {x : Operand} (hx : yO x = true) : VR m (je T x) (a.eval x) := by
 cases x with
 | tmp t =>
  have := hT.2 t
  simpa [je, Act.eval, List.getD_eq_getElem?_getD, Array.getD_eq_getD_getElem?] using this
 | const v => exact wo hx
 | global g => cases hx
 | func f =>
  have := @AR.empty m
  exact .func _ rfl rfl this.2 this.2
def Zk (P : Program) (B : Nat) (w0 : World) (m : Mp) (H' : zi) (w : World) (s : Sem Next) (v : Value) : Prop :=
 ∃ r w' m', s.run P w = .ok r w' ∧ ((∃ v', r = .value v' ∧ VR m' v v') ∨ (r = .skip ∧ v = undef)) ∧ m.le m' ∧ Rel B w0 m' H' w'
theorem Zk.value {s : Sem Value} {v : Value} (h : Sim P B w0 m H' w s v) : Zk P B w0 m H' w (do pure (.value (← s))) v := by
 obtain ⟨v', w', m', h1, h2, h3, h4⟩ := h
 exact ⟨.value v', w', m', by simp [h1], .inl ⟨v', rfl, h2⟩, h3, h4⟩
theorem Zk.now {v v' : Value} (hr : Rel B w0 m H w) (h : VR m v v') : Zk P B w0 m H w (pure (.value v')) v :=
 ⟨.value v', w, m, rfl, .inl ⟨v', rfl, h⟩, Mp.le_refl m, hr⟩
theorem Zk.unit {s : Sem Unit} {v : Value} (h : v = undef ∧ ∃ w', s.run P w = .ok () w' ∧ Rel B w0 m H' w') : Zk P B w0 m H' w (do s; pure .skip) v := by
 obtain ⟨h0, w', h1, h2⟩ := h
 exact ⟨.skip, w', m, by simp [h1], .inr ⟨rfl, h0⟩, Mp.le_refl m, h2⟩
theorem LR.map {T : List Value} {a : Act} (hT : LR m T a.tmps.toList) : ∀ {l : List Operand}, l.all yO = true → LR m (l.map (je T)) (l.map a.eval) := by
 intro l
 induction l with
 | nil => intro _; exact .nil
 | cons x l ih =>
  intro h
  simp only [List.all_cons, Bool.and_eq_true] at h
  exact .cons (jA hT h.1) (ih h.2)
theorem PR.map {T : List Value} {a : Act} (hT : LR m T a.tmps.toList) {l : List (Nat × Operand)} (h : (l.map (·.2)).all yO = true) :
  PR m (l.map fun p => (p.1, je T p.2)) (l.map fun p => (p.1, a.eval p.2)) := by
 refine ⟨by simp [List.map_map, Function.comp_def], ?_⟩
 have := LR.map hT h
 simpa [List.map_map, Function.comp_def] using this
theorem abr {T : List Value} {a : Act} (hT : LR m T a.tmps.toList) {x : Option Operand} (h : x.toList.all yO = true) :
  x.map (je T) = none ∧ x.map a.eval = none ∨ ∃ v v', x.map (je T) = some v ∧ x.map a.eval = some v' ∧ VR m v v' := by
 cases x with
 | none => exact .inl ⟨rfl, rfl⟩
 | some x => exact .inr ⟨_, _, rfl, rfl, jA hT (by simpa using h)⟩
theorem Xa {b : Builtin} {ts : Array TypeId} {ty : TypeId} {consts : Array Bool} {args : List Value} {args' : Array Value} {v : Value} (hr : Rel B w0 m H w)
  (h : qo P b ts ty args H = some (v, H')) (ha : LR m args args'.toList) : Zk P B w0 m H' w (builtin b ts ty consts args') v := by
 unfold qo at h
 split at h
 ·
  split at h
  ·
   rename_i t x hts
   obtain ⟨x', hx', hvr⟩ := ha.one
   rw [YA hts, YA hx']
   exact Zk.value (aeU hr h hvr)
  ·
   cases h
 ·
  split at h
  ·
   rename_i t tx s x hts
   obtain ⟨s', x', hx', h1, h2⟩ := ha.two
   rw [YJ hts, YJ hx']
   exact Zk.value (VU hr h h1 h2)
  ·
   cases h
 ·
  split at h
  ·
   rename_i t tx s x hts
   obtain ⟨s', x', hx', h1, h2⟩ := ha.two
   rw [YJ hts, YJ hx']
   exact Zk.value (ade hr h h1 h2)
  ·
   cases h
 ·
  split at h
  ·
   rename_i t x hts
   obtain ⟨x', hx', hvr⟩ := ha.one
   rw [YA hts, YA hx']
   exact Zk.value (abW hr h hvr)
  ·
   cases h
 ·
  exact Zk.value (yF hr h ha (fun e => by rw [← Array.toArray_toList (xs := args'), e]))
 ·
  exact Zk.value (yF hr h ha (fun e => by rw [← Array.toArray_toList (xs := args'), e]))
 ·
  cases h
theorem ad6 {o : Oper} {T : List Value} {a : Act} {v : Value} (hr : Rel B w0 m H w) (hT : LR m T a.tmps.toList) (hok : adg o = true) (h : aOp P (je T) o H = some (v, H')) :
  Zk P B w0 m H' w (execOp a.eval o) v := by
 obtain ⟨dst, op, type, pos, after, guard⟩ := o
 unfold adg at hok
 unfold aOp at h
 cases op <;> simp only [Op.operands, List.all_cons, List.all_nil, Bool.and_true, Bool.and_eq_true, List.all_append, Array.toList_append, List.toList_toArray] at hok h <;> (try (cases h; done))
 case move x => cases h; exact .now hr (jA hT hok)
 case assign x => cases h; exact .now hr (jA hT hok)
 case pick c x y =>
  obtain ⟨h1, h2, h3⟩ := hok
  have hc := jA hT h1
  unfold Q9 at h
  split at h
  ·
   rename_i t ht
   cases h
   rw [ht] at hc
   have hc' : a.eval c = .bool t := by
    generalize a.eval c = u at hc
    cases hc; rfl
   refine ⟨.value (if t then a.eval x else a.eval y), w, m, ?_, .inl ⟨_, rfl, ?_⟩, Mp.le_refl m, hr⟩
   ·
    simp [execOp, asBool, hc']
   ·
    cases t
    ·
     exact jA hT h3
    ·
     exact jA hT h2
  ·
   cases h
 case alloc e => exact .value (aaD hr h)
 case box e x => exact .value (aeB e hr h (jA hT hok))
 case build t parts =>
  refine .value (aau hr h ?_)
  have := PR.map hT (l := parts.toList) (by simpa using hok)
  simpa using this
 case buildSlice t len parts =>
  refine .value (Wy hr h ?_)
  have := PR.map hT (l := parts.toList) (by simpa using hok)
  simpa using this
 case load t x => exact .value (X7 hr h (jA hT hok))
 case store t p x => exact .unit (abD hr h (jA hT hok.1) (jA hT hok.2))
 case nilCheck x =>
  obtain ⟨h1, h2, ad, h3⟩ := Q5 h (jA hT hok)
  subst h1; subst h2
  have := jA hT hok
  refine ⟨.value (a.eval x), w, m, ?_, .inl ⟨_, rfl, this⟩, Mp.le_refl m, hr⟩
  simp [execOp, h3]
 case binOp op t x y yt => exact .value (aeF x y hr h (jA hT hok.1) (jA hT hok.2))
 case unOp op t x => exact .value (afS hr h (jA hT hok))
 case convert s d x => exact .value (adf hr h (jA hT hok))
 case makeFunc fn first captured =>
  cases h
  refine .value (.same hr (v' := .func fn (first.map a.eval) (captured.map a.eval)) rfl ?_)
  have h1 := (LR.map hT hok.1).toArray
  have h2 := (LR.map hT hok.2).toArray
  have e1 : (first.toList.map a.eval).toArray = first.map a.eval := by apply Array.ext'; simp
  have e2 : (captured.toList.map a.eval).toArray = captured.map a.eval := by apply Array.ext'; simp
  rw [e1] at h1; rw [e2] at h2
  exact .func fn h1.1 h2.1 h1.2 h2.2
 case makeMap t r => exact .value (KY hr h (fun e => by cases r <;> simp_all))
 case makeSlice t l c => exact .value (Qa hr h (jA hT hok.1) (jA hT hok.2))
 case slice t x lo hi mx =>
  cases mx with
  | some y => cases h
  | none =>
   simp only [Option.toArray_none, List.all_nil, Array.toList_append, List.all_append, Bool.and_eq_true, Option.toList_toArray, List.all_cons, Bool.and_true] at hok
   exact .value (abb hr h (jA hT (by simpa using hok.1.1.1)) (abr hT (by simpa using hok.1.1.2)) (abr hT (by simpa using hok.1.2)))
 case fieldAddr s x f => exact .value (Y7 hr h (jA hT hok))
 case field t x f => exact .value (aaV hr h (jA hT hok))
 case indexAddr t x i => exact .value (YG hr h (jA hT hok.1) (jA hT hok.2))
 case index t x i => exact .value (aaM hr h (jA hT hok.1) (jA hT hok.2))
 case lookup t x i ok => exact .value (V7 hr h (jA hT hok.1) (jA hT hok.2))
 case mapUpdate t x k y => exact .unit (Y0 hr h (jA hT hok.1) (jA hT hok.2.1) (jA hT hok.2.2))
 case extract t i => exact .value (KE hr h (jA hT hok))
 case call c =>
  cases hb : c.callee with
  | builtin b =>
   simp only [hb] at h
   have hargs : c.args.toList.all yO = true := by
    have : c.operands.toList.all yO = true := hok
    simp only [Call.operands, hb, Array.toList_append, List.all_append, Bool.and_eq_true] at this
    exact this.2
   have := Xa (consts := c.args.map fun | .const _ => true | _ => false) hr h (args' := c.args.map a.eval) (by simpa using LR.map hT hargs)
   simp only [execOp, resolve, hb, invoke, pure_bind]
   exact this
  | value f => simp only [hb] at h; cases h
  | invoke r n => simp only [hb] at h; cases h
def Jy (P : Program) (B : Nat) (w0 : World) (call : FuncId → List Value → M Value) : Prop :=
 ∀ (g : FuncId) (args : List Value) (H : zi) (v : Value) (H' : zi), call g args H = some (v, H') → ∀ (m : Mp) (w : World) (args' : List Value), LR m args args' → Rel B w0 m H w →
  (callFunc g args'.toArray).run P w = .ok (.enter g args'.toArray) w ∧
  Calls P g args'.toArray w fun e w' => ∃ v' m', e = .returned v' ∧ VR m' v v' ∧ m.le m' ∧ Rel B w0 m' H' w'
theorem abX {call : FuncId → List Value → M Value} (hc : Jy P B w0 call) {o : Oper} {T : List Value} {a : Act} {v : Value} (hr : Rel B w0 m H w) (hT : LR m T a.tmps.toList)
  (h : wC P call T o H = some (v, H')) {K : Act → World → Prop} {Q : Exit → Act → World → Prop}
  (hK : ∀ v' w' m', VR m' v v' → m.le m' → Rel B w0 m' H' w' → K (a.put o.dst v') w') : o.wp P a w K Q := by
 unfold wC at h
 split at h
 ·
  rename_i hok
  have plain : Zk P B w0 m H' w (execOp a.eval o) v → o.wp P a w K Q := by
   rintro ⟨r, w', m', h1, h2, h3, h4⟩
   unfold Oper.wp
   rw [h1]
   rcases h2 with ⟨v', rfl, h2⟩ | ⟨rfl, rfl⟩
   ·
    exact hK v' w' m' h2 h3 h4
   ·
    exact hK undef w' m' VR.undef h3 h4
  split at h
  ·
   rename_i c hop
   have hoc : c.operands.toList.all yO = true := by
    have := hok; unfold adg at this; rw [hop] at this; exact this
   split at h
   ·
    rename_i f hf
    have hoa : yO f = true ∧ c.args.toList.all yO = true := by
     simp only [Call.operands, hf, Array.toList_append, List.all_append, Bool.and_eq_true, List.all_cons, List.all_nil, Bool.and_true, List.toList_toArray] at hoc
     exact hoc
    split at h
    ·
     rename_i g first captured hev
     have hfv := jA hT hoa.1
     rw [hev] at hfv
     have hargs := LR.map hT hoa.2
     generalize hfe : a.eval f = fv at hfv
     cases hfv with
     | func fn hx hcc hx' hc' =>
      rename_i first' captured'
      have hall : LR m (first.toList ++ c.args.toList.map (je T) ++ captured.toList) (first'.toList ++ c.args.toList.map a.eval ++ captured'.toList) :=
       ((AR.toList ⟨hx, hx'⟩).append hargs).append (AR.toList ⟨hcc, hc'⟩)
      obtain ⟨h1, h2⟩ := hc g _ H v H' h m w _ hall hr
      have earr : (first'.toList ++ c.args.toList.map a.eval ++ captured'.toList).toArray = first' ++ c.args.map a.eval ++ captured' := by
       apply Array.ext'; simp
      rw [earr] at h1 h2
      unfold Oper.wp
      have : (execOp a.eval o).run P w = .ok (.enter g (first' ++ c.args.map a.eval ++ captured')) w := by
       unfold execOp
       rw [hop]
       simp only [resolve, hf, hfe, Deferred.ofValue, pure_bind, invoke]
       exact h1
      rw [this]
      refine h2.mono ?_
      rintro e w' ⟨v', m', rfl, hv, hm, hrel⟩
      exact hK v' w' m' hv hm hrel
    ·
     cases h
   ·
    rename_i b hb
    refine plain (ad6 (T := T) hr hT hok ?_)
    unfold aOp
    rw [hop]
    simp only [hb]
    exact h
   ·
    cases h
  ·
   exact plain (ad6 hr hT hok h)
 ·
  cases h
end
end Go.Abs
namespace Go.Abs
open Go.RowKit
def Zw (T : List Value) (d : Option Tmp) (v : Value) : List Value :=
 match d with
 | some d => T.set d v
 | none => T
def ynd (ops : Array Oper) (T : List Value) (j : Nat) : Option Bool :=
 match ((ops[j]?).bind (·.dst)).bind (T[·]?) with
 | some (.bool b) => some b
 | _ => none
def KA (P : Program) (call : FuncId → List Value → M Value) (ops : Array Oper) : List Oper → List Value → zi → Option (List Value × zi)
 | [], T, H => some (T, H)
 | o :: rest, T, H =>
  if Region.wanted o (ynd ops T) then
   match wC P call T o H with
   | some (v, H') => KA P call ops rest (Zw T o.dst v) H'
   | none => none
  else KA P call ops rest (Zw T o.dst undef) H
section
variable {P : Program} {B : Nat} {w0 : World} {m : Mp} {H H' : zi} {w : World}
theorem LR.put {T : List Value} {a : Act} (hT : LR m T a.tmps.toList) (d : Option Tmp) {v v' : Value} (hv : VR m v v') : LR m (Zw T d v) (a.put d v').tmps.toList := by
 cases d with
 | none => exact hT
 | some d => simpa [Zw, Act.put] using hT.set d hv
theorem aeo {ops : Array Oper} {T : List Value} {a : Act} (hT : LR m T a.tmps.toList) (j : Nat) : yielded ops a.tmps j = ynd ops T j := by
 unfold yielded ynd
 cases hd : (ops[j]?).bind (·.dst) with
 | none => rfl
 | some d =>
  simp only [Option.bind_some]
  have := hT.2 d
  have e : T.length = a.tmps.size := by simpa using hT.1
  by_cases hlt : d < T.length
  ·
   have hlt' : d < a.tmps.size := by rw [← e]; exact hlt
   simp only [List.getD_eq_getElem?_getD, Array.getElem?_toList, List.getElem?_eq_getElem hlt, Array.getElem?_eq_getElem hlt', Option.getD_some] at this
   rw [List.getElem?_eq_getElem hlt, Array.getElem?_eq_getElem hlt']
   generalize T[d] = u at *
   generalize a.tmps[d] = u' at *
   cases this <;> rfl
  ·
   have hlt' : ¬ d < a.tmps.size := by rw [← e]; exact hlt
   rw [List.getElem?_eq_none (Nat.le_of_not_lt hlt), Array.getElem?_eq_none (Nat.le_of_not_lt hlt')]
def Post (B : Nat) (w0 : World) (m : Mp) (T' : List Value) (H' : zi) (a' : Act) (w' : World) : Prop :=
 ∃ m', m.le m' ∧ LR m' T' a'.tmps.toList ∧ a'.defers = [] ∧ Rel B w0 m' H' w'
theorem ae5 {call : FuncId → List Value → M Value} (hc : Jy P B w0 call) {ops : Array Oper} {Q : Exit → Act → World → Prop} : ∀ (l : List Oper) (T T' : List Value) (H H' : zi),
  KA P call ops l T H = some (T', H') → ∀ (m : Mp) (a : Act) (w : World), LR m T a.tmps.toList → a.defers = [] → Rel B w0 m H w →
  (∀ a' w', Post B w0 m T' H' a' w' → Q .normal a' w') → wpList P ops Q l a w := by
 intro l
 induction l with
 | nil =>
  intro T T' H H' h m a w hT hd hr hQ
  simp only [KA, Option.some.injEq, Prod.mk.injEq] at h
  obtain ⟨rfl, rfl⟩ := h
  exact wpList_nil (hQ a w ⟨m, Mp.le_refl m, hT, hd, hr⟩)
 | cons o rest ih =>
  intro T T' H H' h m a w hT hd hr hQ
  simp only [KA] at h
  unfold wpList
  have hy : Region.wanted o (yielded ops a.tmps) = Region.wanted o (ynd ops T) := by
   unfold Region.wanted
   cases o.guard with
   | none => rfl
   | some g => simp only [aeo hT]
  rw [hy]
  split at h
  ·
   rename_i hw
   rw [if_pos hw]
   split at h
   ·
    rename_i v H1 hs
    refine .inl (abX hc hr hT hs ?_)
    intro v' w' m' hv hm hr'
    refine ih _ _ _ _ h m' _ w' ((hT.mono hm).put o.dst hv) ?_ hr' ?_
    ·
     cases o.dst <;> exact hd
    ·
     rintro a' w'' ⟨m2, h1, h2, h3, h4⟩
     exact hQ a' w'' ⟨m2, Mp.le_trans hm h1, h2, h3, h4⟩
   ·
    cases h
  ·
   rename_i hw
   rw [if_neg hw]
   refine ih _ _ _ _ h m _ w (hT.put o.dst VR.undef) ?_ hr hQ
   cases o.dst <;> exact hd
theorem Vm {call : FuncId → List Value → M Value} (hc : Jy P B w0 call) {id : Nat} {ops : Array Oper} {T T' : List Value} {Q : Exit → Act → World → Prop} {a : Act}
  (h : KA P call ops ops.toList T H = some (T', H')) (hT : LR m T a.tmps.toList) (hd : a.defers = []) (hr : Rel B w0 m H w) (hQ : ∀ a' w', Post B w0 m T' H' a' w' → Q .normal a' w') :
  (Code.region id ops false).wp P Q a w := wp_region_list (ae5 hc _ _ _ _ _ h m a w hT hd hr hQ)
end
end Go.Abs
namespace Go.Abs
open Go.RowKit
def xM (P : Program) (o : Oper) : Bool :=
 match o.op with
 | .move _ | .assign _ | .pick .. | .build .. | .load .. | .nilCheck _ | .binOp .. | .unOp .. | .makeFunc .. | .slice .. | .fieldAddr .. | .field .. | .indexAddr .. | .index .. | .lookup .. | .extract .. => false
 | .convert _ d _ => match P.underlying d with
  | some (.slice _) => true
  | _ => false
 | .call c => match c.callee with
  | .builtin .len | .builtin .min | .builtin .max => false
  | _ => true
 | _ => true
def Yg (acc : List Nat) (l : List Edge) : Nat := l.foldl (fun s e => if Region.binds .any e then s ||| 2 ^ e.on ||| acc.getD e.on 0 else s) 0
def masks : List Oper → List Nat → List Nat
 | [], acc => acc
 | o :: os, acc => masks os (acc ++ [Yg acc o.after.toList])
def pre (M : List Nat) (i j : Nat) : Bool := (M.getD i 0).testBit j
def Xi (l : List Oper) : Bool := (List.range l.length).all fun i => match l[i]? with
 | some o => o.after.toList.all fun e => !Region.binds .any e || decide (e.on < i)
 | none => true
def aeP (P : Program) (ops : Array Oper) (M : List Nat) (l : List Oper) : Bool := (List.range l.length).all fun i => (List.range i).all fun j =>
 pre M i j || (match l[i]?, l[j]? with
  | some oi, some oj => Oper.apart ops oj oi && !(xM P oj && xM P oi)
  | _, _ => true)
def QF (P : Program) (ops : Array Oper) : Bool := Xi ops.toList && aeP P ops (masks ops.toList []) ops.toList
def aai : Nat → Value → Value → Bool
 | _, .bool a, .bool b => a == b
 | _, .int j a, .int k b => decide (j = k) && decide (a = b)
 | _, .string a, .string b => decide (a.data.toList = b.data.toList)
 | _, .pointer a, .pointer b => decide (a = b)
 | _, .slice a n c, .slice b k d => decide (a = b) && decide (n = k) && decide (c = d)
 | _, .map a, .map b => decide (a = b)
 | _, .nilFunc, .nilFunc => true
 | d + 1, .agg a, .agg b => decide (a.toList.length = b.toList.length) && (a.toList.zip b.toList).all fun p => aai d p.1 p.2
 | _, _, _ => false
theorem aeJ : ∀ (d : Nat) (a b : Value), aai d a b = true → a = b := by
 intro d
 induction d with
 | zero =>
  intro a b h
  cases a <;> cases b <;> simp only [aai, Bool.and_eq_true, decide_eq_true_eq, beq_iff_eq, Bool.false_eq_true] at h <;> first | (rw [h]; done) | (rw [h.1, h.2]; done) | (rw [h.1.1, h.1.2, h.2]; done) | rfl | skip
  rw [ByteArray.ext (Array.toList_inj.mp h)]
 | succ d ih =>
  intro a b h
  cases a <;> cases b <;> simp only [aai, Bool.and_eq_true, decide_eq_true_eq, beq_iff_eq, Bool.false_eq_true] at h <;> first | (rw [h]; done) | (rw [h.1, h.2]; done) | (rw [h.1.1, h.1.2, h.2]; done) | rfl | skip
  ·
   rw [ByteArray.ext (Array.toList_inj.mp h)]
  ·
   rename_i a b
   obtain ⟨h1, h2⟩ := h
   have : a.toList = b.toList := by
    apply List.ext_getElem h1
    intro i hi hi'
    refine ih _ _ (List.all_eq_true.1 h2 (a.toList[i], b.toList[i]) ?_)
    exact List.mem_iff_getElem.2 ⟨i, by simp only [List.length_zip]; omega, by simp⟩
   rw [Array.toList_inj.mp this]
def yL (P : Program) (call : FuncId → List Value → M Value) (ops : Array Oper) : List Oper → List Value → zi → Option (List (List Value × zi × Value) × List Value × zi)
 | [], T, H => some ([], T, H)
 | o :: rest, T, H =>
  if Region.wanted o (ynd ops T) then
   match wC P call T o H with
   | some (v, H') => match yL P call ops rest (Zw T o.dst v) H' with
    | some (tr, T2, H2) => some ((T, H, v) :: tr, T2, H2)
    | none => none
   | none => none
  else match yL P call ops rest (Zw T o.dst undef) H with
   | some (tr, T2, H2) => some ((T, H, undef) :: tr, T2, H2)
   | none => none
def recheck (P : Program) (T : List Value) (o : Oper) (v : Value) (G : zi) : Bool :=
 match aOp P (je T) o G with
 | some (v', _) => aai 3 v' v
 | none => false
def aa3 (P : Program) (ops : Array Oper) (M : List Nat) (l : List Oper) (tr : List (List Value × zi × Value)) (Hs : List zi) (i : Nat) : Bool :=
 match l[i]?, tr[i]? with
 | some o, some (T, _, v) =>
  if xM P o || !Region.wanted o (ynd ops T) then true
  else (List.range l.length).all fun j => match l[j]? with
   | some oj => if xM P oj && !(pre M i j || pre M j i) then (match Hs[if j < i then j else j + 1]? with
     | some G => recheck P T o v G
     | none => false) else true
   | none => true
 | _, _ => false
def xB (P : Program) (call : FuncId → List Value → M Value) (ops : Array Oper) (T : List Value) (H : zi) : Option (List Value × zi) :=
 if QF P ops then
  match yL P call ops ops.toList T H with
  | some (tr, T', H') =>
   if (List.range ops.toList.length).all (aa3 P ops (masks ops.toList []) ops.toList tr (tr.map (·.2.1) ++ [H'])) then some (T', H') else none
  | none => none
 else none
section
variable {P : Program} {B : Nat} {w0 : World} {m : Mp} {H H' : zi} {w : World}
theorem yA {args : List Value} {s : Sem Value} {v : Value} (h : jS P args s H = some (v, H')) : H' = H := by
 unfold jS at h
 (repeat' split at h) <;> first | (cases h; done) | (cases h; rfl)
theorem Vu {t : TypeId} {x v : Value} {lo hi : Option Value} (h : y9 P t x lo hi H = some (v, H')) : H' = H := by
 unfold y9 at h
 split at h
 ·
  exact yA h
 ·
  (repeat' split at h) <;> first | (cases h; done) | (cases h; rfl)
 ·
  cases h
theorem Jw {o : Oper} {ρ : Operand → Value} {v : Value} (hn : xM P o = false) (h : aOp P ρ o H = some (v, H')) : H' = H := by
 obtain ⟨dst, op, type, pos, after, guard⟩ := o
 unfold aOp at h
 unfold xM at hn
 cases op <;> simp only at hn h <;> first | (cases hn; done) | (cases h; done) | skip
 case move => cases h; rfl
 case assign => cases h; rfl
 case pick => unfold Q9 at h; split at h <;> first | (cases h; done) | (cases h; rfl)
 case build => unfold yh at h; (repeat' split at h) <;> first | (cases h; done) | (cases h; rfl)
 case load => unfold wY at h; (repeat' split at h) <;> first | (cases h; done) | (cases h; rfl)
 case nilCheck => unfold qA at h; (repeat' split at h) <;> first | (cases h; done) | (cases h; rfl)
 case binOp => unfold xI at h; (repeat' split at h) <;> first | exact yA h | (cases h; done) | (cases h; rfl)
 case unOp => exact yA h
 case convert s d x =>
  unfold wB at h
  split at h
  ·
   (repeat' split at h) <;> first | (cases h; done) | (cases h; rfl)
  ·
   split at h
   ·
    rename_i e hs hd; simp [hd] at hn
   ·
    exact yA h
  ·
   exact yA h
 case makeFunc => cases h; rfl
 case slice t x lo hi mx =>
  cases mx with
  | some y => cases h
  | none =>
   exact Vu h
 case fieldAddr => unfold wF at h; (repeat' split at h) <;> first | (cases h; done) | (cases h; rfl)
 case field => unfold xE at h; (repeat' split at h) <;> first | (cases h; done) | (cases h; rfl)
 case indexAddr => unfold jM at h; (repeat' split at h) <;> first | (cases h; done) | (cases h; rfl)
 case index =>
  unfold kH at h
  split at h
  ·
   (repeat' split at h) <;> first | (cases h; done) | (cases h; rfl)
  ·
   exact yA h
  ·
   cases h
 case lookup t x k ok =>
  unfold jT at h
  (repeat' split at h) <;> first | (cases h; done) | (cases h; rfl)
 case extract => unfold zL at h; (repeat' split at h) <;> first | (cases h; done) | (cases h; rfl)
 case call c =>
  cases hb : c.callee with
  | builtin b =>
   simp only [hb] at h hn
   unfold qo at h
   split at h <;> first | (cases h; done) | (cases hn; done) | skip
   ·
    split at h
    ·
     unfold QI at h; (repeat' split at h) <;> first | (cases h; done) | (cases h; rfl)
    ·
     cases h
   ·
    exact yA h
   ·
    exact yA h
  | value f => simp only [hb] at h; cases h
  | invoke r n => simp only [hb] at h; cases h
theorem Zt {call : FuncId → List Value → M Value} {o : Oper} {T : List Value} (hn : xM P o = false) (G : zi) : wC P call T o G = if adg o then aOp P (je T) o G else none := by
 unfold wC
 split
 ·
  cases hop : o.op <;> simp only
  rename_i c
  unfold xM at hn
  rw [hop] at hn
  simp only at hn
  cases hb : c.callee with
  | builtin b => simp only [aOp, hop, hb]
  | value f => simp only [hb] at hn; cases hn
  | invoke r n => simp only [hb] at hn; cases hn
 ·
  rfl
theorem V9 (acc : List Nat) (l : List Edge) (s j : Nat) :
  (l.foldl (fun s e => if Region.binds .any e then s ||| 2 ^ e.on ||| acc.getD e.on 0 else s) s).testBit j = true ↔
   s.testBit j = true ∨ ∃ e ∈ l, Region.binds .any e = true ∧ (e.on = j ∨ (acc.getD e.on 0).testBit j = true) := by
 induction l generalizing s with
 | nil => simp
 | cons e l ih =>
  rw [List.foldl_cons, ih]
  by_cases hb : Region.binds .any e = true
  ·
   rw [if_pos hb]
   simp only [Nat.testBit_or, Nat.testBit_two_pow, Bool.or_eq_true, decide_eq_true_eq, List.mem_cons]
   constructor
   ·
    rintro (((h | h) | h) | ⟨e', he', h⟩)
    ·
     exact .inl h
    ·
     exact .inr ⟨e, .inl rfl, hb, .inl h⟩
    ·
     exact .inr ⟨e, .inl rfl, hb, .inr h⟩
    ·
     exact .inr ⟨e', .inr he', h⟩
   ·
    rintro (h | ⟨e', rfl | he', h1, h2⟩)
    ·
     exact .inl (.inl (.inl h))
    ·
     rcases h2 with h2 | h2
     ·
      exact .inl (.inl (.inr h2))
     ·
      exact .inl (.inr h2)
    ·
     exact .inr ⟨e', he', h1, h2⟩
  ·
   rw [if_neg hb]
   simp only [List.mem_cons]
   constructor
   ·
    rintro (h | ⟨e', he', h⟩)
    ·
     exact .inl h
    ·
     exact .inr ⟨e', .inr he', h⟩
   ·
    rintro (h | ⟨e', rfl | he', h1, h2⟩)
    ·
     exact .inl h
    ·
     exact absurd h1 hb
    ·
     exact .inr ⟨e', he', h1, h2⟩
theorem WL : ∀ (l : List Oper) (acc : List Nat), (masks l acc).length = acc.length + l.length ∧ (∀ i, i < acc.length → (masks l acc).getD i 0 = acc.getD i 0) ∧
  ∀ i o, l[i]? = some o → (masks l acc).getD (acc.length + i) 0 = Yg ((masks l acc).take (acc.length + i)) o.after.toList := by
 intro l
 induction l with
 | nil => intro acc; exact ⟨rfl, fun _ _ => rfl, fun i o h => by simp at h⟩
 | cons o os ih =>
  intro acc
  obtain ⟨h1, h2, h3⟩ := ih (acc ++ [Yg acc o.after.toList])
  simp only [masks]
  refine ⟨by rw [h1]; simp; omega, fun i hi => ?_, fun i o' ho => ?_⟩
  ·
   rw [h2 i (by simp; omega)]
   simp [List.getD_eq_getElem?_getD, List.getElem?_append_left hi]
  ·
   cases i with
   | zero =>
    simp at ho
    subst ho
    rw [Nat.add_zero, h2 acc.length (by simp)]
    have htake : (masks os (acc ++ [Yg acc o.after.toList])).take acc.length = acc := by
     apply List.ext_getElem?
     intro k
     rw [List.getElem?_take]
     split
     ·
      rename_i hk
      have := h2 k (by simp; omega)
      have hk2 : k < (masks os (acc ++ [Yg acc o.after.toList])).length := by rw [h1]; simp; omega
      simp only [List.getD_eq_getElem?_getD, List.getElem?_eq_getElem hk2, Option.getD_some, List.getElem?_append_left hk, List.getElem?_eq_getElem hk] at this
      rw [List.getElem?_eq_getElem hk2, List.getElem?_eq_getElem hk, this]
     ·
      rename_i hk
      rw [List.getElem?_eq_none (by omega)]
    rw [htake]
    simp [List.getD_eq_getElem?_getD]
   | succ i =>
    have := h3 i o' (by simpa using ho)
    simp only [List.length_append, List.length_singleton] at this
    rw [show acc.length + (i + 1) = acc.length + 1 + i by omega]
    exact this
theorem KG {l : List Oper} (he : Xi l = true) {i j : Nat} {o : Oper} (ho : l[i]? = some o) :
  pre (masks l []) i j = true ↔ ∃ e ∈ o.after, Region.binds .any e = true ∧ (e.on = j ∨ pre (masks l []) e.on j = true) := by
 obtain ⟨h1, h2, h3⟩ := WL l []
 have hi : i < l.length := (List.getElem?_eq_some_iff.1 ho).1
 have := h3 i o ho
 simp only [List.length_nil, Nat.zero_add] at this
 unfold pre
 rw [this]
 unfold Yg
 rw [V9]
 simp only [Nat.zero_testBit, Bool.false_eq_true, false_or]
 have hlt : ∀ e ∈ o.after, Region.binds .any e = true → e.on < i := by
  intro e hm hb
  have hh := List.all_eq_true.1 he i (List.mem_range.2 hi)
  rw [ho] at hh
  have := List.all_eq_true.1 hh e (by simpa using hm)
  simpa [hb] using this
 have htk : ∀ k, k < i → ((masks l []).take i).getD k 0 = (masks l []).getD k 0 := by
  intro k hk
  simp [List.getD_eq_getElem?_getD, List.getElem?_take, hk]
 constructor
 ·
  rintro ⟨e, hm, hb, h⟩
  have hm' : e ∈ o.after := by simpa using hm
  refine ⟨e, hm', hb, ?_⟩
  rw [htk _ (hlt e hm' hb)] at h
  exact h
 ·
  rintro ⟨e, hm, hb, h⟩
  refine ⟨e, by simpa using hm, hb, ?_⟩
  rw [htk _ (hlt e hm hb)]
  exact h
theorem Z4 {l : List Oper} (he : Xi l = true) : ∀ (i j : Nat), pre (masks l []) i j = true → j < i := by
 intro i
 induction i using Nat.strongRecOn with
 | _ i ih =>
  intro j h
  cases ho : l[i]? with
  | none =>
   obtain ⟨h1, _, _⟩ := WL l []
   have : (masks l []).getD i 0 = 0 := by
    rw [List.getD_eq_getElem?_getD, List.getElem?_eq_none]
    ·
     rfl
    ·
     rw [h1]; simp; exact List.getElem?_eq_none_iff.1 ho
   unfold pre at h
   rw [this] at h
   simp at h
  | some o =>
   obtain ⟨e, hm, hb, h⟩ := (KG he ho).1 h
   have hi : i < l.length := (List.getElem?_eq_some_iff.1 ho).1
   have hlt : e.on < i := by
    have hh := List.all_eq_true.1 he i (List.mem_range.2 hi)
    rw [ho] at hh
    have := List.all_eq_true.1 hh e (by simpa using hm)
    simpa [hb] using this
   rcases h with rfl | h
   ·
    exact hlt
   ·
    have := ih e.on hlt j h; omega
end
end Go.Abs
namespace Go.Abs
open Go.RowKit
def cur (L : Nat → Bool) (dst : Nat → Option Tmp) (vs : Nat → Value) (T : List Value) : Nat → Nat → Value
 | 0, t => T.getD t undef
 | k + 1, t => if L k = true ∧ dst k = some t ∧ t < T.length then vs k else cur L dst vs T k t
def hcur (L ch : Nat → Bool) (Hs : Nat → zi) : Nat → zi
 | 0 => Hs 0
 | k + 1 => if L k = true ∧ ch k = true then Hs (k + 1) else hcur L ch Hs k
def Zg (l : List Oper) (k : Nat) : Option Tmp := (l[k]?).bind (·.dst)
def vY (P : Program) (l : List Oper) (k : Nat) : Bool := match l[k]? with
 | some o => xM P o
 | none => false
structure Tr (P : Program) (call : FuncId → List Value → M Value) (ops : Array Oper) (l : List Oper) (T : List Value) (H : zi) (Ts : Nat → List Value) (Hs : Nat → zi) (vs : Nat → Value) : Prop where
 t0 : Ts 0 = T
 h0 : Hs 0 = H
 stepT : ∀ i o, l[i]? = some o → Ts (i + 1) = Zw (Ts i) o.dst (vs i)
 stepH : ∀ i o, l[i]? = some o → if Region.wanted o (ynd ops (Ts i)) = true then wC P call (Ts i) o (Hs i) = some (vs i, Hs (i + 1)) else vs i = undef ∧ Hs (i + 1) = Hs i
section
variable {P : Program} {B : Nat} {w0 : World} {m : Mp} {H H' : zi} {w : World}
def acC (tr : List (List Value × zi × Value)) (T' : List Value) (i : Nat) : List Value := match tr[i]? with
 | some e => e.1
 | none => T'
def aah (tr : List (List Value × zi × Value)) (H' : zi) (i : Nat) : zi := match tr[i]? with
 | some e => e.2.1
 | none => H'
def aeR (tr : List (List Value × zi × Value)) (i : Nat) : Value := match tr[i]? with
 | some e => e.2.2
 | none => undef
theorem adz {call : FuncId → List Value → M Value} {ops : Array Oper} : ∀ (l : List Oper) (T : List Value) (H : zi) (tr) (T' : List Value) (H' : zi), yL P call ops l T H = some (tr, T', H') →
  tr.length = l.length ∧ Tr P call ops l T H (acC tr T') (aah tr H') (aeR tr) := by
 intro l
 induction l with
 | nil =>
  intro T H tr T' H' h
  simp only [yL, Option.some.injEq, Prod.mk.injEq] at h
  obtain ⟨rfl, rfl, rfl⟩ := h
  exact ⟨rfl, rfl, rfl, fun i o h => by simp at h, fun i o h => by simp at h⟩
 | cons o rest ih =>
  intro T H tr T' H' h
  simp only [yL] at h
  have fin : ∀ (v : Value) (H1 : zi) (tr' : List (List Value × zi × Value)), yL P call ops rest (Zw T o.dst v) H1 = some (tr', T', H') →
    (if Region.wanted o (ynd ops T) = true then wC P call T o H = some (v, H1) else v = undef ∧ H1 = H) → tr = (T, H, v) :: tr' →
    tr.length = (o :: rest).length ∧ Tr P call ops (o :: rest) T H (acC tr T') (aah tr H') (aeR tr) := by
   intro v H1 tr' htr hst he
   obtain ⟨h1, h2⟩ := ih _ _ _ _ _ htr
   subst he
   have e1 : acC tr' T' 0 = Zw T o.dst v := h2.t0
   have e2 : aah tr' H' 0 = H1 := h2.h0
   have s1 : ∀ i, acC ((T, H, v) :: tr') T' (i + 1) = acC tr' T' i := fun i => by simp [acC]
   have s2 : ∀ i, aah ((T, H, v) :: tr') H' (i + 1) = aah tr' H' i := fun i => by simp [aah]
   have s3 : ∀ i, aeR ((T, H, v) :: tr') (i + 1) = aeR tr' i := fun i => by simp [aeR]
   refine ⟨by simp [h1], rfl, rfl, ?_, ?_⟩
   ·
    intro i o' ho
    cases i with
    | zero => simp at ho; subst ho; rw [s1, e1]; rfl
    | succ i => rw [s1, s1, s3]; exact h2.stepT i o' (by simpa using ho)
   ·
    intro i o' ho
    cases i with
    | zero => simp at ho; subst ho; rw [s2, e2]; exact hst
    | succ i => rw [s1, s2, s2, s3]; exact h2.stepH i o' (by simpa using ho)
  split at h
  ·
   rename_i hw
   split at h
   ·
    rename_i v H1 hs
    split at h
    ·
     rename_i tr' T2 H2 htr
     simp only [Option.some.injEq, Prod.mk.injEq] at h
     obtain ⟨h1, rfl, rfl⟩ := h
     exact fin v H1 tr' htr (by rw [if_pos hw]; exact hs) h1.symm
    ·
     cases h
   ·
    cases h
  ·
   rename_i hw
   split at h
   ·
    rename_i tr' T2 H2 htr
    simp only [Option.some.injEq, Prod.mk.injEq] at h
    obtain ⟨h1, rfl, rfl⟩ := h
    exact fin undef H tr' htr (by rw [if_neg hw]; exact ⟨rfl, rfl⟩) h1.symm
   ·
    cases h
theorem KH (T : List Value) (d : Option Tmp) (v : Value) : (Zw T d v).length = T.length := by cases d <;> simp [Zw]
section tr
variable {call : FuncId → List Value → M Value} {ops : Array Oper} {l : List Oper} {T : List Value} {Ts : Nat → List Value} {Hs : Nat → zi} {vs : Nat → Value}
theorem Tr.len (h : Tr P call ops l T H Ts Hs vs) : ∀ k, k ≤ l.length → (Ts k).length = T.length := by
 intro k
 induction k with
 | zero => intro _; rw [h.t0]
 | succ k ih =>
  intro hk
  have ho : l[k]? = some l[k] := List.getElem?_eq_getElem (by omega)
  rw [h.stepT k _ ho, KH, ih (by omega)]
theorem Tr.afw (h : Tr P call ops l T H Ts Hs vs) : ∀ k, k ≤ l.length → ∀ t, cur (fun _ => true) (Zg l) vs T k t = (Ts k).getD t undef := by
 intro k
 induction k with
 | zero => intro _ t; rw [h.t0]; rfl
 | succ k ih =>
  intro hk t
  have ho : l[k]? = some l[k] := List.getElem?_eq_getElem (by omega)
  have hd : Zg l k = l[k].dst := by simp [Zg, ho]
  have hl := h.len k (by omega)
  rw [cur, h.stepT k _ ho, ih (by omega), hd]
  cases hdd : l[k].dst with
  | none => simp [Zw]
  | some d =>
   simp only [Zw, Option.some.injEq, true_and]
   by_cases hdt : d = t ∧ t < T.length
   ·
    rw [if_pos hdt]
    obtain ⟨rfl, hlt⟩ := hdt
    have hlt2 : d < (Ts k).length := by rw [hl]; exact hlt
    rw [List.getD_eq_getElem?_getD, List.getElem?_set]
    simp only [if_true]
    rw [if_pos hlt2]; rfl
   ·
    rw [if_neg hdt]
    rw [List.getD_eq_getElem?_getD, List.getD_eq_getElem?_getD, List.getElem?_set]
    by_cases e : d = t
    ·
     subst e
     have hge : ¬ d < T.length := fun hh => hdt ⟨rfl, hh⟩
     have hge2 : ¬ d < (Ts k).length := by rw [hl]; exact hge
     rw [if_pos rfl, if_neg hge2, List.getElem?_eq_none (Nat.le_of_not_lt hge2)]
    ·
     rw [if_neg e]
theorem Tr.same (h : Tr P call ops l T H Ts Hs vs) {k : Nat} (hk : k < l.length) (hc : vY P l k = false) : Hs (k + 1) = Hs k := by
 have ho : l[k]? = some l[k] := List.getElem?_eq_getElem hk
 have hn : xM P l[k] = false := by simpa [vY, ho] using hc
 have := h.stepH k _ ho
 split at this
 ·
  rw [Zt hn] at this
  split at this
  ·
   exact Jw hn this
  ·
   cases this
 ·
  exact this.2
theorem Tr.V3 (h : Tr P call ops l T H Ts Hs vs) : ∀ k, k ≤ l.length → hcur (fun _ => true) (vY P l) Hs k = Hs k := by
 intro k
 induction k with
 | zero => intro _; rfl
 | succ k ih =>
  intro hk
  rw [hcur, ih (by omega)]
  by_cases hc : vY P l k = true
  ·
   rw [if_pos ⟨rfl, hc⟩]
  ·
   rw [if_neg (fun hh => hc hh.2), h.same (by omega) (by simpa using hc)]
end tr
theorem Ws {L : Nat → Bool} {dst : Nat → Option Tmp} {vs : Nat → Value} {T : List Value} {n j t : Nat} (hj : j ≤ n) (h1 : ∀ k, k < j → dst k = some t → L k = true)
  (h2 : ∀ k, j ≤ k → k < n → dst k = some t → L k = false) : cur L dst vs T n t = cur (fun _ => true) dst vs T j t := by
 have a1 : ∀ k, k ≤ j → cur L dst vs T k t = cur (fun _ => true) dst vs T k t := by
  intro k
  induction k with
  | zero => intro _; rfl
  | succ k ih =>
   intro hk
   rw [cur, cur, ih (by omega)]
   by_cases hc : dst k = some t ∧ t < T.length
   ·
    rw [if_pos ⟨h1 k (by omega) hc.1, hc⟩, if_pos ⟨rfl, hc⟩]
   ·
    rw [if_neg (fun hh => hc hh.2), if_neg (fun hh => hc hh.2)]
 have a2 : ∀ d, j + d ≤ n → cur L dst vs T (j + d) t = cur L dst vs T j t := by
  intro d
  induction d with
  | zero => intro _; rfl
  | succ d ih =>
   intro hd
   rw [← Nat.add_assoc, cur, ih (by omega), if_neg]
   rintro ⟨hL, hdst, _⟩
   rw [h2 (j + d) (by omega) (by omega) hdst] at hL
   cases hL
 have := a2 (n - j) (by omega)
 rw [show j + (n - j) = n by omega] at this
 rw [this, a1 j (Nat.le_refl _)]
theorem qZ {L ch : Nat → Bool} {Hs : Nat → zi} {n j : Nat} (hj : j ≤ n) (h1 : ∀ k, k < j → ch k = true → L k = true)
  (h2 : ∀ k, j ≤ k → k < n → ch k = true → L k = false) : hcur L ch Hs n = hcur (fun _ => true) ch Hs j := by
 have a1 : ∀ k, k ≤ j → hcur L ch Hs k = hcur (fun _ => true) ch Hs k := by
  intro k
  induction k with
  | zero => intro _; rfl
  | succ k ih =>
   intro hk
   rw [hcur, hcur, ih (by omega)]
   by_cases hc : ch k = true
   ·
    rw [if_pos ⟨h1 k (by omega) hc, hc⟩, if_pos ⟨rfl, hc⟩]
   ·
    rw [if_neg (fun hh => hc hh.2), if_neg (fun hh => hc hh.2)]
 have a2 : ∀ d, j + d ≤ n → hcur L ch Hs (j + d) = hcur L ch Hs j := by
  intro d
  induction d with
  | zero => intro _; rfl
  | succ d ih =>
   intro hd
   rw [← Nat.add_assoc, hcur, ih (by omega), if_neg]
   rintro ⟨hL, hc⟩
   rw [h2 (j + d) (by omega) (by omega) hc] at hL
   cases hL
 have := a2 (n - j) (by omega)
 rw [show j + (n - j) = n by omega] at this
 rw [this, a1 j (Nat.le_refl _)]
theorem abt {L L' : Nat → Bool} {dst : Nat → Option Tmp} {vs : Nat → Value} {T : List Value} {j t : Nat} (hL : ∀ k, k ≠ j → L' k = L k) (hd : dst j ≠ some t) : ∀ n, cur L' dst vs T n t = cur L dst vs T n t := by
 intro n
 induction n with
 | zero => rfl
 | succ k ih =>
  rw [cur, cur, ih]
  by_cases hk : k = j
  ·
   subst hk; rw [if_neg (fun hh => hd hh.2.1), if_neg (fun hh => hd hh.2.1)]
  ·
   rw [hL k hk]
theorem aac {L L' ch : Nat → Bool} {Hs : Nat → zi} {j : Nat} (hL : ∀ k, k ≠ j → L' k = L k) (hd : ch j = false) : ∀ n, hcur L' ch Hs n = hcur L ch Hs n := by
 intro n
 induction n with
 | zero => rfl
 | succ k ih =>
  rw [hcur, hcur, ih]
  by_cases hk : k = j
  ·
   subst hk; rw [hd]; simp
  ·
   rw [hL k hk]
theorem Z5 {p : Nat → Prop} (n : Nat) (h : ∃ k, k < n ∧ p k) : ∃ k, k < n ∧ p k ∧ ∀ k', k' < k → ¬ p k' := by
 obtain ⟨k, hk, hp⟩ := h
 induction k using Nat.strongRecOn with
 | _ k ih =>
  by_cases hx : ∃ k', k' < k ∧ p k'
  ·
   obtain ⟨k', h1, h2⟩ := hx
   exact ih k' h1 (by omega) h2
  ·
   exact ⟨k, hk, hp, fun k' h1 h2 => hx ⟨k', h1, h2⟩⟩
theorem Xt {p : Nat → Prop} (n : Nat) (h : ∃ k, k < n ∧ p k) : ∃ k, k < n ∧ p k ∧ ∀ k', k < k' → k' < n → ¬ p k' := by
 induction n with
 | zero => obtain ⟨k, hk, _⟩ := h; omega
 | succ n ih =>
  by_cases hp : p n
  ·
   exact ⟨n, by omega, hp, fun k' h1 h2 => by omega⟩
  ·
   obtain ⟨k, hk, hpk⟩ := h
   have hkn : k ≠ n := fun e => hp (e ▸ hpk)
   obtain ⟨k2, h1, h2, h3⟩ := ih ⟨k, by omega, hpk⟩
   exact ⟨k2, by omega, h2, fun k' a b => by
    by_cases e : k' = n
    ·
     subst e; exact hp
    ·
     exact h3 k' a (by omega)⟩
theorem VI {call : FuncId → List Value → M Value} {o : Oper} {T T2 : List Value} (h : ∀ x ∈ o.op.operands.toList, je T x = je T2 x) : wC P call T o = wC P call T2 o := by
 have hmap : ∀ l : List Operand, (∀ x ∈ l, x ∈ o.op.operands.toList) → l.map (je T) = l.map (je T2) := fun l hl => List.map_congr_left fun x hx => h x (hl x hx)
 have hop : aOp P (je T) o = aOp P (je T2) o := by
  obtain ⟨dst, op, type, pos, after, guard⟩ := o
  unfold aOp
  cases op <;> simp only [Op.operands] at h hmap ⊢
  case move x => rw [h x (by simp)]
  case assign x => rw [h x (by simp)]
  case pick c a b => rw [h c (by simp), h a (by simp), h b (by simp)]
  case box e x => rw [h x (by simp)]
  case build t parts =>
   have : parts.toList.map (fun p => (p.1, je T p.2)) = parts.toList.map (fun p => (p.1, je T2 p.2)) := List.map_congr_left fun p hp => by
    rw [h p.2 (by simp; exact ⟨p.1, by simpa using hp⟩)]
   rw [this]
  case buildSlice t len parts =>
   have : parts.toList.map (fun p => (p.1, je T p.2)) = parts.toList.map (fun p => (p.1, je T2 p.2)) := List.map_congr_left fun p hp => by
    rw [h p.2 (by simp; exact ⟨p.1, by simpa using hp⟩)]
   rw [this]
  case load t x => rw [h x (by simp)]
  case store t p x => rw [h p (by simp), h x (by simp)]
  case nilCheck x => rw [h x (by simp)]
  case binOp op t x y yt => rw [h x (by simp), h y (by simp)]
  case unOp op t x => rw [h x (by simp)]
  case convert s d x => rw [h x (by simp)]
  case makeFunc fn first captured =>
   rw [hmap first.toList (fun x hx => by simp at hx ⊢; exact .inl hx), hmap captured.toList (fun x hx => by simp at hx ⊢; exact .inr hx)]
  case makeMap t r =>
   cases r with
   | none => rfl
   | some x => simp only [Option.map_some]; rw [h x (by simp)]
  case makeSlice t l c => rw [h l (by simp), h c (by simp)]
  case slice t x lo hi mx =>
   cases mx with
   | some y => rfl
   | none =>
    simp only
    have e1 : lo.map (je T) = lo.map (je T2) := by
     cases lo with
     | none => rfl
     | some y => simp only [Option.map_some]; rw [h y (by simp)]
    have e2 : hi.map (je T) = hi.map (je T2) := by
     cases hi with
     | none => rfl
     | some y => simp only [Option.map_some]; rw [h y (by simp)]
    rw [h x (by simp), e1, e2]
  case fieldAddr s x f => rw [h x (by simp)]
  case field t x f => rw [h x (by simp)]
  case indexAddr t x i => rw [h x (by simp), h i (by simp)]
  case index t x i => rw [h x (by simp), h i (by simp)]
  case lookup t x i ok => rw [h x (by simp), h i (by simp)]
  case mapUpdate t x k v => rw [h x (by simp), h k (by simp), h v (by simp)]
  case extract t i => rw [h t (by simp)]
  case call c =>
   cases hb : c.callee with
   | builtin b => simp only; rw [hmap c.args.toList (fun x hx => by simp [Call.operands] at hx ⊢; exact .inr hx)]
   | value f => rfl
   | invoke r n => rfl
 funext G
 unfold wC
 rw [hop]
 split
 ·
  cases hopp : o.op <;> simp only
  rename_i c
  rw [hopp] at h hmap
  simp only [Op.operands] at h hmap
  have hargs := hmap c.args.toList (fun x hx => by simp [Call.operands] at hx ⊢; exact .inr hx)
  cases hb : c.callee with
  | builtin b => simp only [hargs]
  | value f =>
   simp only [hargs]
   rw [h f (by simp [Call.operands, hb])]
  | invoke r n => rfl
 ·
  rfl
end
end Go.Abs
namespace Go.Abs
open Go.RowKit
section
variable {P : Program} {B : Nat} {w0 : World} {m : Mp} {H H' : zi} {w : World}
theorem count_set {l : List Bool} {i : Nat} (h : l[i]? = some false) : (l.set i true).count false + 1 = l.count false := by
 induction l generalizing i with
 | nil => simp at h
 | cons b l ih =>
  cases i with
  | zero => simp at h; subst h; simp
  | succ i =>
   simp at h
   have := ih (i := i) (by simpa using h)
   simp only [List.set_cons_succ, List.count_cons]
   omega
theorem Vf {l : List Bool} (h : l.count false = 0) {i : Nat} (hi : i < l.length) : l[i]? = some true := by
 have : false ∉ l := List.count_eq_zero.1 h
 rw [List.getElem?_eq_getElem hi]
 cases hb : l[i] with
 | true => rfl
 | false => exact absurd (hb ▸ List.getElem_mem hi) this
structure agA (P : Program) (B : Nat) (w0 : World) (m : Mp) (l : List Oper) (T : List Value) (Hs : Nat → zi) (vs : Nat → Value) (listed : Array Bool) (a : Act) (w : World) : Prop where
 size : listed.size = l.length
 down : ∀ i j, listed.getD i false = true → pre (masks l []) i j = true → listed.getD j false = true
 state : ∃ m', m.le m' ∧ a.tmps.size = T.length ∧ (∀ t, VR m' (cur (fun k => listed.getD k false) (Zg l) vs T l.length t) (a.tmps.getD t undef)) ∧ a.defers = [] ∧
  Rel B w0 m' (hcur (fun k => listed.getD k false) (vY P l) Hs l.length) w
theorem Yj {listed : Array Bool} {i : Nat} (h : listed.getD i true = false) : i < listed.size ∧ listed.getD i false = false := by
 by_cases hi : i < listed.size
 ·
  refine ⟨hi, ?_⟩
  simp [Array.getD_eq_getD_getElem?, hi] at h ⊢
  exact h
 ·
  simp [Array.getD_eq_getD_getElem?, Array.getElem?_eq_none (Nat.le_of_not_lt hi)] at h
theorem aby {call : FuncId → List Value → M Value} (hc : Jy P B w0 call) {ops : Array Oper} {T : List Value} {Ts : Nat → List Value} {Hs : Nat → zi} {vs : Nat → Value}
  (htr : Tr P call ops ops.toList T H Ts Hs vs) (hdraw : QF P ops = true)
  (hchk : ∀ i o, ops.toList[i]? = some o → xM P o = false → Region.wanted o (ynd ops (Ts i)) = true → ∀ k, k < ops.toList.length → vY P ops.toList k = true → pre (masks ops.toList []) i k = false → pre (masks ops.toList []) k i = false →
   ∃ v' G', aOp P (je (Ts i)) o (Hs (if k < i then k else k + 1)) = some (v', G') ∧ v' = vs i)
  {Q : Exit → Act → World → Prop} (hQ : ∀ a' w', Post B w0 m (Ts ops.toList.length) (Hs ops.toList.length) a' w' → Q .normal a' w') :
  ∀ (fuel : Nat) (listed : Array Bool) (a : Act) (w : World), agA P B w0 m ops.toList T Hs vs listed a w → listed.toList.count false = fuel → wpAny P .any ops Q fuel listed a w := by
 simp only [QF, Bool.and_eq_true] at hdraw
 obtain ⟨hedge, hpairs⟩ := hdraw
 have hn : ops.toList.length = ops.size := Array.length_toList
 generalize hl : ops.toList = l at *
 have hget : ∀ i : Nat, ops[i]? = l[i]? := fun i => by rw [← hl]; simp
 have fin : ∀ (listed : Array Bool) (a : Act) (w : World), agA P B w0 m l T Hs vs listed a w → (∀ i, i < l.length → listed.getD i false = true) → Q .normal a w := by
  intro listed a w hI hall
  obtain ⟨m', hm, hsz, hvr, hd, hrel⟩ := hI.state
  refine hQ a w ⟨m', hm, ⟨by rw [htr.len _ (Nat.le_refl _)]; simp [hsz], fun t => ?_⟩, hd, ?_⟩
  ·
   have := hvr t
   rw [Ws (Nat.le_refl _) (fun k hk _ => hall k hk) (fun k h1 h2 => by omega), htr.afw _ (Nat.le_refl _)] at this
   simpa [List.getD_eq_getElem?_getD, Array.getD_eq_getD_getElem?] using this
  ·
   rw [qZ (Nat.le_refl _) (fun k hk _ => hall k hk) (fun k h1 h2 => by omega), htr.V3 _ (Nat.le_refl _)] at hrel
   exact hrel
 have pairs : ∀ x y ox oy, l[x]? = some ox → l[y]? = some oy → x ≠ y → pre (masks l []) x y = false → pre (masks l []) y x = false →
   (∀ d, ox.dst = some d → d ∉ oy.looksAt ops) ∧ (∀ d, ox.dst = some d → oy.dst ≠ some d) ∧ ¬ (xM P ox = true ∧ xM P oy = true) := by
  have half : ∀ i j oi oj, l[i]? = some oi → l[j]? = some oj → j < i → pre (masks l []) i j = false → Oper.apart ops oj oi = true ∧ ¬ (xM P oj = true ∧ xM P oi = true) := by
   intro i j oi oj hi hj hji hp
   have hil : i < l.length := (List.getElem?_eq_some_iff.1 hi).1
   have := List.all_eq_true.1 (List.all_eq_true.1 hpairs i (List.mem_range.2 hil)) j (List.mem_range.2 hji)
   rw [hp, hi, hj] at this
   simp only [Bool.false_or, Bool.and_eq_true, Bool.not_eq_true', Bool.and_eq_false_iff] at this
   refine ⟨this.1, fun ⟨h1, h2⟩ => ?_⟩
   rcases this.2 with h | h
   ·
    rw [h1] at h; cases h
   ·
    rw [h2] at h; cases h
  intro x y ox oy hx hy hne h1 h2
  rcases Nat.lt_or_gt_of_ne hne with hlt | hgt
  ·
   obtain ⟨ha, hb⟩ := half y x oy ox hy hx hlt h2
   obtain ⟨a1, a2, a3⟩ := Oper.apart_spec ha
   exact ⟨a1, a2, hb⟩
  ·
   obtain ⟨ha, hb⟩ := half x y ox oy hx hy hgt h1
   obtain ⟨a1, a2, a3⟩ := Oper.apart_spec ha
   exact ⟨a3, fun d hd e => a2 d e hd, fun ⟨p, q⟩ => hb ⟨q, p⟩⟩
 intro fuel
 induction fuel with
 | zero =>
  intro listed a w hI hcnt
  have hall : ∀ i, i < l.length → listed.getD i false = true := by
   intro i hi
   have := Vf hcnt (i := i) (by simpa [hI.size] using hi)
   simp at this
   simp [Array.getD_eq_getD_getElem?, this]
  refine ⟨?_, fin listed a w hI hall⟩
  rw [List.eq_nil_iff_forall_not_mem]
  intro j hj
  obtain ⟨h1, _⟩ := mem_ready.1 hj
  obtain ⟨h2, h3⟩ := Yj h1
  rw [hall j (by rw [← hI.size]; exact h2)] at h3
  cases h3
 | succ fuel ih =>
  intro listed a w hI hcnt
  refine ⟨fun hnil => ?_, fun j hj => ?_⟩
  ·
   exfalso
   have hex : ∃ i, i < l.length ∧ listed.getD i false = false := by
    have : false ∈ listed.toList := List.count_pos_iff.1 (by omega)
    obtain ⟨i, hi, hb⟩ := List.mem_iff_getElem.1 this
    refine ⟨i, by rw [← hI.size]; simpa using hi, ?_⟩
    simp at hb hi
    simp [Array.getD_eq_getD_getElem?, hi, hb]
   obtain ⟨i, hi, hp, hmin⟩ := Z5 _ hex
   have ho : l[i]? = some l[i] := List.getElem?_eq_getElem hi
   have hmem : i ∈ Region.ready .any ops listed := by
    refine mem_ready.2 ⟨?_, l[i], by rw [hget]; exact ho, fun e he hb => ?_⟩
    ·
     have : i < listed.size := by rw [hI.size]; exact hi
     simp [Array.getD_eq_getD_getElem?, this] at hp ⊢
     exact hp
    ·
     have hlt : e.on < i := Z4 hedge i e.on ((KG hedge ho).2 ⟨e, he, hb, .inl rfl⟩)
     have := hmin e.on hlt
     simpa using this
   rw [hnil] at hmem
   cases hmem
  ·
   obtain ⟨h1, o, ho, hpre⟩ := mem_ready.1 hj
   obtain ⟨hjs, hjf⟩ := Yj h1
   rw [hget] at ho
   have hjl : j < l.length := (List.getElem?_eq_some_iff.1 ho).1
   obtain ⟨m', hm, hsz, hvr, hd, hrel⟩ := hI.state
   have predsL : ∀ i, pre (masks l []) j i = true → listed.getD i false = true := by
    intro i hp
    obtain ⟨e, he, hb, h⟩ := (KG hedge ho).1 hp
    rcases h with rfl | h
    ·
     exact hpre e he hb
    ·
     exact hI.down e.on i (hpre e he hb) h
   have succsN : ∀ i, pre (masks l []) i j = true → listed.getD i false = false := by
    intro i hp
    cases hh : listed.getD i false with
    | false => rfl
    | true => rw [hI.down i j hh hp] at hjf; cases hjf
   have hdj : Zg l j = o.dst := by simp [Zg, ho]
   have hcj : vY P l j = xM P o := by simp [vY, ho]
   have writers : ∀ k t, k < l.length → k ≠ j → Zg l k = some t → (t ∈ o.looksAt ops ∨ o.dst = some t) → (k < j → listed.getD k false = true) ∧ (j < k → listed.getD k false = false) := by
    intro k t hk hkj hdk hor
    have hok : l[k]? = some l[k] := List.getElem?_eq_getElem hk
    have hdk' : l[k].dst = some t := by simpa [Zg, hok] using hdk
    have comp : pre (masks l []) j k = true ∨ pre (masks l []) k j = true := by
     cases e1 : pre (masks l []) j k with
     | true => exact .inl rfl
     | false =>
      cases e2 : pre (masks l []) k j with
      | true => exact .inr rfl
      | false =>
       obtain ⟨p1, p2, _⟩ := pairs k j _ _ hok ho hkj e2 e1
       rcases hor with h | h
       ·
        exact absurd h (p1 t hdk')
       ·
        exact absurd h (p2 t hdk')
    constructor
    ·
     intro hlt
     rcases comp with c | c
     ·
      exact predsL k c
     ·
      have := Z4 hedge k j c; omega
    ·
     intro hlt
     rcases comp with c | c
     ·
      have := Z4 hedge j k c; omega
     ·
      exact succsN k c
   have hTl : ∀ t, ((List.range T.length).map (cur (fun k => listed.getD k false) (Zg l) vs T l.length)).getD t undef = cur (fun k => listed.getD k false) (Zg l) vs T l.length t := by
    intro t
    by_cases ht : t < T.length
    ·
     simp [List.getD_eq_getElem?_getD, ht]
    ·
     have hz : ∀ n, cur (fun k => listed.getD k false) (Zg l) vs T n t = undef := by
      intro n
      induction n with
      | zero => simp [cur, List.getD_eq_getElem?_getD, List.getElem?_eq_none (Nat.le_of_not_lt ht)]
      | succ n ihn => rw [cur, if_neg (fun hh => ht hh.2.2), ihn]
     rw [hz, List.getD_eq_getElem?_getD, List.getElem?_eq_none (by simp; omega)]
     rfl
   generalize hTc : (List.range T.length).map (cur (fun k => listed.getD k false) (Zg l) vs T l.length) = Tc at hTl
   have hTclen : Tc.length = T.length := by rw [← hTc]; simp
   have hLR : LR m' Tc a.tmps.toList := by
    refine ⟨by rw [hTclen]; simp [hsz], fun t => ?_⟩
    rw [hTl]
    simpa [List.getD_eq_getElem?_getD, Array.getD_eq_getD_getElem?] using hvr t
   have hlook : ∀ t, t ∈ o.looksAt ops → Tc.getD t undef = (Ts j).getD t undef := by
    intro t ht
    rw [hTl, ← htr.afw j (by omega)]
    refine Ws (by omega) (fun k hk hdk => (writers k t (by omega) (by omega) hdk (.inl ht)).1 hk) (fun k hk1 hk2 hdk => ?_)
    by_cases e : k = j
    ·
     subst e; exact hjf
    ·
     exact (writers k t hk2 e hdk (.inl ht)).2 (by omega)
   have hTslen : (Ts j).length = T.length := htr.len j (by omega)
   have hevs : ∀ x ∈ o.op.operands.toList, je Tc x = je (Ts j) x := by
    intro x hx
    cases x with
    | tmp t => exact hlook t (List.mem_append_left _ (List.mem_filterMap.2 ⟨.tmp t, hx, rfl⟩))
    | const v => rfl
    | global g => rfl
    | func f => rfl
   have hstep : wC P call Tc o = wC P call (Ts j) o := VI hevs
   have hwant : Region.wanted o (yielded ops a.tmps) = Region.wanted o (ynd ops (Ts j)) := by
    unfold Region.wanted
    cases hg : o.guard with
    | none => rfl
    | some gw =>
     obtain ⟨g, wv⟩ := gw
     simp only [aeo hLR]
     have : ynd ops Tc g = ynd ops (Ts j) g := by
      unfold ynd
      cases hdg : (ops[g]?).bind (·.dst) with
      | none => rfl
      | some d =>
       have hmem : d ∈ o.looksAt ops := List.mem_append_right _ (by rw [hg]; simp [hdg])
       have := hlook d hmem
       simp only [Option.bind_some]
       by_cases hdl : d < T.length
       ·
        have a1 : d < Tc.length := by rw [hTclen]; exact hdl
        have a2 : d < (Ts j).length := by rw [hTslen]; exact hdl
        simp only [List.getD_eq_getElem?_getD, List.getElem?_eq_getElem a1, List.getElem?_eq_getElem a2, Option.getD_some] at this ⊢
        rw [this]
       ·
        rw [List.getElem?_eq_none (by rw [hTclen]; exact Nat.le_of_not_lt hdl), List.getElem?_eq_none (by rw [hTslen]; exact Nat.le_of_not_lt hdl)]
     rw [this]
   have hL' : ∀ k, k ≠ j → (listed.setIfInBounds j true).getD k false = listed.getD k false := fun k hk => getD_set_ne false (fun e => hk e.symm)
   have hLj : (listed.setIfInBounds j true).getD j false = true := by simp [Array.getD_eq_getD_getElem?, hjs]
   have hcnt' : (listed.setIfInBounds j true).toList.count false = fuel := by
    have hb : listed.toList[j]? = some false := by
     simp only [Array.getElem?_toList, Array.getElem?_eq_getElem hjs]
     simp [Array.getD_eq_getD_getElem?, hjs] at hjf
     rw [hjf]
    have := count_set hb
    rw [Array.toList_setIfInBounds]
    omega
   have next : ∀ (v' : Value) (m2 : Mp) (w2 : World), VR m2 (vs j) v' → m'.le m2 → Rel B w0 m2 (hcur (fun k => (listed.setIfInBounds j true).getD k false) (vY P l) Hs l.length) w2 →
     wpAny P .any ops Q fuel (listed.setIfInBounds j true) (a.put o.dst v') w2 := by
    intro v' m2 w2 hv hm2 hrel2
    refine ih _ _ _ ⟨by simpa using hI.size, ?_, m2, Mp.le_trans hm hm2, ?_, ?_, ?_, hrel2⟩ hcnt'
    ·
     intro i k hi hp
     by_cases hij : i = j
     ·
      subst hij
      have hk := predsL k hp
      by_cases hki : k = i
      ·
       subst hki; exact hLj
      ·
       rw [hL' k hki]; exact hk
     ·
      rw [hL' i hij] at hi
      have hk := hI.down i k hi hp
      by_cases hkj : k = j
      ·
       subst hkj; exact hLj
      ·
       rw [hL' k hkj]; exact hk
    ·
     cases hdo : o.dst with
     | none => exact hsz
     | some d => simpa [Act.put] using hsz
    ·
     intro t
     by_cases hdt : o.dst = some t
     ·
      by_cases ht : t < T.length
      ·
       have e1 : cur (fun k => (listed.setIfInBounds j true).getD k false) (Zg l) vs T l.length t = vs j := by
        rw [Ws (j := j + 1) (by omega)]
        ·
         rw [cur, if_pos ⟨rfl, by rw [hdj]; exact hdt, ht⟩]
        ·
         intro k hk hdk
         by_cases e : k = j
         ·
          subst e; exact hLj
         ·
          rw [hL' k e]; exact (writers k t (by omega) e hdk (.inr hdt)).1 (by omega)
        ·
         intro k hk1 hk2 hdk
         rw [hL' k (by omega)]; exact (writers k t hk2 (by omega) hdk (.inr hdt)).2 (by omega)
       rw [e1, hdt]
       have hts : t < a.tmps.size := by rw [hsz]; exact ht
       have : (a.put (some t) v').tmps.getD t undef = v' := by simp [Act.put, Array.getD_eq_getD_getElem?, hts]
       rw [this]; exact hv
      ·
       have hz : ∀ n, cur (fun k => (listed.setIfInBounds j true).getD k false) (Zg l) vs T n t = undef := by
        intro n
        induction n with
        | zero => simp [cur, List.getD_eq_getElem?_getD, List.getElem?_eq_none (Nat.le_of_not_lt ht)]
        | succ n ihn => rw [cur, if_neg (fun hh => ht hh.2.2), ihn]
       rw [hz]
       have hsize : (a.put o.dst v').tmps.size = a.tmps.size := by cases o.dst <;> simp [Act.put]
       have : (a.put o.dst v').tmps.getD t undef = undef := by
        rw [Array.getD_eq_getD_getElem?, Array.getElem?_eq_none (by rw [hsize, hsz]; exact Nat.le_of_not_lt ht)]; rfl
       rw [this]; exact VR.undef
     ·
      rw [abt hL' (by rw [hdj]; exact hdt)]
      have : (a.put o.dst v').tmps.getD t undef = a.tmps.getD t undef := by
       cases hdo : o.dst with
       | none => rfl
       | some d =>
        have hne : d ≠ t := fun e => hdt (by rw [hdo, e])
        simp [Act.put, Array.getD_eq_getD_getElem?, Array.getElem?_setIfInBounds_ne hne]
      rw [this]
      exact (hvr t).mono hm2
    ·
     cases o.dst <;> exact hd
   have chOrd : xM P o = true → ∀ k, k < l.length → k ≠ j → vY P l k = true → (k < j → listed.getD k false = true) ∧ (j < k → listed.getD k false = false) := by
    intro hco k hk hkj hck
    have hok : l[k]? = some l[k] := List.getElem?_eq_getElem hk
    have hck' : xM P l[k] = true := by simpa [vY, hok] using hck
    have comp : pre (masks l []) j k = true ∨ pre (masks l []) k j = true := by
     cases e1 : pre (masks l []) j k with
     | true => exact .inl rfl
     | false =>
      cases e2 : pre (masks l []) k j with
      | true => exact .inr rfl
      | false => exact absurd ⟨hck', hco⟩ (pairs k j _ _ hok ho hkj e2 e1).2.2
    constructor
    ·
     intro hlt
     rcases comp with c | c
     ·
      exact predsL k c
     ·
      have := Z4 hedge k j c; omega
    ·
     intro hlt
     rcases comp with c | c
     ·
      have := Z4 hedge j k c; omega
     ·
      exact succsN k c
   have hNow : xM P o = true → hcur (fun k => listed.getD k false) (vY P l) Hs l.length = Hs j := by
    intro hco
    rw [← htr.V3 j (by omega)]
    refine qZ (by omega) (fun k hk hck => (chOrd hco k (by omega) (by omega) hck).1 hk) (fun k h1 h2 hck => ?_)
    by_cases e : k = j
    ·
     subst e; exact hjf
    ·
     exact (chOrd hco k h2 e hck).2 (by omega)
   have hThen : xM P o = true → hcur (fun k => (listed.setIfInBounds j true).getD k false) (vY P l) Hs l.length = Hs (j + 1) := by
    intro hco
    rw [← htr.V3 (j + 1) (by omega)]
    refine qZ (by omega) (fun k hk hck => ?_) (fun k h1 h2 hck => ?_)
    ·
     by_cases e : k = j
     ·
      subst e; exact hLj
     ·
      rw [hL' k e]; exact (chOrd hco k (by omega) e hck).1 (by omega)
    ·
     rw [hL' k (by omega)]; exact (chOrd hco k h2 (by omega) hck).2 (by omega)
   have hStill : xM P o = false → hcur (fun k => (listed.setIfInBounds j true).getD k false) (vY P l) Hs l.length = hcur (fun k => listed.getD k false) (vY P l) Hs l.length :=
    fun hco => aac hL' (by rw [hcj]; exact hco) _
   have hH := htr.stepH j o ho
   unfold wpOp
   rw [hget, ho]
   simp only []
   rw [hwant]
   split
   ·
    rename_i hw
    rw [if_pos hw] at hH
    have hst : ∃ G', wC P call Tc o (hcur (fun k => listed.getD k false) (vY P l) Hs l.length) = some (vs j, G') ∧ G' = hcur (fun k => (listed.setIfInBounds j true).getD k false) (vY P l) Hs l.length := by
     rw [hstep]
     cases hco : xM P o with
     | true => rw [hNow hco, hThen hco]; exact ⟨_, hH, rfl⟩
     | false =>
      rw [hStill hco]
      have hok : adg o = true := by
       rw [Zt hco] at hH
       split at hH
       ·
        rename_i h; exact h
       ·
        cases hH
      rw [Zt hco, if_pos hok] at hH
      rw [Zt hco, if_pos hok]
      have viaChk : ∀ k, k < l.length → vY P l k = true → pre (masks l []) j k = false → pre (masks l []) k j = false → hcur (fun k => listed.getD k false) (vY P l) Hs l.length = Hs (if k < j then k else k + 1) →
        ∃ G', aOp P (je (Ts j)) o (hcur (fun k => listed.getD k false) (vY P l) Hs l.length) = some (vs j, G') ∧ G' = hcur (fun k => listed.getD k false) (vY P l) Hs l.length := by
       intro k hk hck p1 p2 he
       obtain ⟨v', G', hv, rfl⟩ := hchk j o ho hco hw k hk hck p1 p2
       rw [← he] at hv
       exact ⟨G', hv, Jw hco hv⟩
      have down2 : ∀ k k', k < l.length → k' < k → vY P l k = true → vY P l k' = true → listed.getD k false = true → listed.getD k' false = true := by
       intro k k' hk hlt hck hck' hLk
       have hok1 : l[k]? = some l[k] := List.getElem?_eq_getElem hk
       have hok2 : l[k']? = some l[k'] := List.getElem?_eq_getElem (by omega)
       cases e1 : pre (masks l []) k k' with
       | true => exact hI.down k k' hLk e1
       | false =>
        have e2 : pre (masks l []) k' k = false := by
         cases e2 : pre (masks l []) k' k with
         | false => rfl
         | true => have := Z4 hedge k' k e2; omega
        exact absurd ⟨by simpa [vY, hok1] using hck, by simpa [vY, hok2] using hck'⟩ (pairs k k' _ _ hok1 hok2 (by omega) e1 e2).2.2
      by_cases hA : ∃ k, k < j ∧ (vY P l k = true ∧ listed.getD k false = false)
      ·
       obtain ⟨k, hkj, ⟨hck, hLk⟩, hmin⟩ := Z5 j hA
       have he : hcur (fun k => listed.getD k false) (vY P l) Hs l.length = Hs k := by
        rw [← htr.V3 k (by omega)]
        refine qZ (by omega) (fun k' hk' hck' => ?_) (fun k' h1 h2 hck' => ?_)
        ·
         cases hh : listed.getD k' false with
         | true => rfl
         | false => exact absurd ⟨hck', hh⟩ (hmin k' hk')
        ·
         by_cases e : k' = k
         ·
          subst e; exact hLk
         ·
          cases hh : listed.getD k' false with
          | false => rfl
          | true => rw [down2 k' k h2 (by omega) hck' hck hh] at hLk; cases hLk
       refine viaChk k (by omega) hck ?_ ?_ (by rw [if_pos hkj]; exact he)
       ·
        cases e : pre (masks l []) j k with
        | false => rfl
        | true => rw [predsL k e] at hLk; cases hLk
       ·
        cases e : pre (masks l []) k j with
        | false => rfl
        | true => have := Z4 hedge k j e; omega
      ·
       by_cases hB : ∃ k, k < l.length ∧ (j < k ∧ vY P l k = true ∧ listed.getD k false = true)
       ·
        obtain ⟨k, hk, ⟨hjk, hck, hLk⟩, hmax⟩ := Xt _ hB
        have he : hcur (fun k => listed.getD k false) (vY P l) Hs l.length = Hs (k + 1) := by
         rw [← htr.V3 (k + 1) (by omega)]
         refine qZ (by omega) (fun k' hk' hck' => ?_) (fun k' h1 h2 hck' => ?_)
         ·
          by_cases e : k' = k
          ·
           subst e; exact hLk
          ·
           exact down2 k k' hk (by omega) hck hck' hLk
         ·
          cases hh : listed.getD k' false with
          | false => rfl
          | true => exact absurd ⟨by omega, hck', hh⟩ (hmax k' (by omega) h2)
        refine viaChk k hk hck ?_ ?_ (by rw [if_neg (by omega)]; exact he)
        ·
         cases e : pre (masks l []) j k with
         | false => rfl
         | true => have := Z4 hedge j k e; omega
        ·
         cases e : pre (masks l []) k j with
         | false => rfl
         | true => rw [succsN k e] at hLk; cases hLk
       ·
        have he : hcur (fun k => listed.getD k false) (vY P l) Hs l.length = Hs j := by
         rw [← htr.V3 j (by omega)]
         refine qZ (by omega) (fun k hk hck => ?_) (fun k h1 h2 hck => ?_)
         ·
          cases hh : listed.getD k false with
          | true => rfl
          | false => exact absurd ⟨k, hk, hck, hh⟩ hA
         ·
          by_cases e : k = j
          ·
           subst e; exact hjf
          ·
           cases hh : listed.getD k false with
           | false => rfl
           | true => exact absurd ⟨k, h2, by omega, hck, hh⟩ hB
        rw [he]
        exact ⟨_, hH, Jw hco hH⟩
    obtain ⟨G', hst, hG'⟩ := hst
    refine .inl (abX hc hrel hLR hst ?_)
    intro v' w2 m2 hv hm2 hrel2
    exact next v' m2 w2 hv hm2 (by rw [← hG']; exact hrel2)
   ·
    rename_i hw
    rw [if_neg hw] at hH
    refine next undef m' w (by rw [hH.1]; exact VR.undef) (Mp.le_refl m') ?_
    cases hco : xM P o with
    | true => rw [hThen hco, hH.2, ← hNow hco]; exact hrel
    | false => rw [hStill hco]; exact hrel
theorem aco {call : FuncId → List Value → M Value} (hc : Jy P B w0 call) (hmix : P.follows .mixedOrders = true) {id : Nat} {ops : Array Oper} {T T' : List Value} {Q : Exit → Act → World → Prop} {a : Act}
  (h : xB P call ops T H = some (T', H')) (hT : LR m T a.tmps.toList) (hd : a.defers = []) (hr : Rel B w0 m H w) (hQ : ∀ a' w', Post B w0 m T' H' a' w' → Q .normal a' w') :
  (Code.region id ops true).wp P Q a w := by
 unfold xB at h
 split at h
 ·
  rename_i hdraw
  split at h
  ·
   rename_i tr T2 H2 htr
   split at h
   ·
    rename_i hall
    simp only [Option.some.injEq, Prod.mk.injEq] at h
    obtain ⟨rfl, rfl⟩ := h
    obtain ⟨hlen, hTr⟩ := adz _ _ _ _ _ _ htr
    have e1 : acC tr T2 ops.toList.length = T2 := by unfold acC; rw [List.getElem?_eq_none (by omega)]
    have e2 : aah tr H2 ops.toList.length = H2 := by unfold aah; rw [List.getElem?_eq_none (by omega)]
    refine wp_region_any hmix (aby (m := m) hc hTr hdraw ?_ (fun a' w' hp => hQ a' w' (by rw [e1, e2] at hp; exact hp)) ops.size _ a _ ?_ ?_)
    ·
     intro i o ho hco hw k hk hck p1 p2
     have hil : i < ops.toList.length := (List.getElem?_eq_some_iff.1 ho).1
     have hone := List.all_eq_true.1 hall i (List.mem_range.2 hil)
     unfold aa3 at hone
     have hti : tr[i]? = some tr[i] := List.getElem?_eq_getElem (by omega)
     rw [ho, hti] at hone
     have hTi : acC tr T2 i = tr[i].1 := by simp [acC, hti]
     rw [hTi] at hw ⊢
     simp only [hco, hw, Bool.not_true, Bool.or_self, Bool.false_eq_true, if_false] at hone
     have hk2 := List.all_eq_true.1 hone k (List.mem_range.2 hk)
     have hok : ops.toList[k]? = some ops.toList[k] := List.getElem?_eq_getElem hk
     have hck' : xM P ops.toList[k] = true := by simpa [vY, hok] using hck
     rw [hok] at hk2
     simp only [hck', p1, p2, Bool.or_self, Bool.not_false, Bool.and_self, if_true] at hk2
     have hHs : (tr.map (·.2.1) ++ [H2])[if k < i then k else k + 1]? = some (aah tr H2 (if k < i then k else k + 1)) := by
      generalize hq : (if k < i then k else k + 1) = q
      have hq2 : q ≤ tr.length := by rw [← hq]; split <;> omega
      by_cases hqt : q < tr.length
      ·
       rw [List.getElem?_append_left (by simpa using hqt)]
       simp [aah, List.getElem?_eq_getElem hqt]
      ·
       have : q = tr.length := by omega
       subst this
       rw [List.getElem?_append_right (by simp)]
       simp [aah]
     rw [hHs] at hk2
     simp only at hk2
     unfold recheck at hk2
     split at hk2
     ·
      rename_i v' G' hv
      refine ⟨v', G', hv, ?_⟩
      rw [aeJ _ _ _ hk2]
      simp [aeR, hti]
     ·
      cases hk2
    ·
     have hf : ∀ k, (Array.replicate ops.size false).getD k false = false := fun k => by
      simp only [Array.getD_eq_getD_getElem?, Array.getElem?_replicate]
      split <;> rfl
     refine ⟨by simp, (fun i j hi => by rw [hf] at hi; cases hi), m, Mp.le_refl m, by have := hT.1; simp at this; omega, fun t => ?_, hd, ?_⟩
     ·
      have hz : ∀ n, cur (fun k => (Array.replicate ops.size false).getD k false) (Zg ops.toList) (aeR tr) T n t = T.getD t undef := by
       intro n
       induction n with
       | zero => rfl
       | succ n ihn => rw [cur, if_neg (fun hh => by rw [hf] at hh; cases hh.1), ihn]
      rw [hz]
      have := hT.2 t
      simpa [List.getD_eq_getElem?_getD, Array.getD_eq_getD_getElem?] using this
     ·
      have hz : ∀ n, hcur (fun k => (Array.replicate ops.size false).getD k false) (vY P ops.toList) (aah tr H2) n = H := by
       intro n
       induction n with
       | zero => exact hTr.h0
       | succ n ihn => rw [hcur, if_neg (fun hh => by rw [hf] at hh; cases hh.1), ihn]
      rw [hz]
      exact hr.draw _
    ·
     simp [List.count_replicate]
   ·
    cases h
  ·
   cases h
 ·
  cases h
end
end Go.Abs
namespace Go.Abs
open Go.RowKit
inductive AEx where
 | normal
 | exit (id : Nat)
 | ret
def AEx.out : AEx → Exit
 | .normal => .normal
 | .exit id => .exit id
 | .ret => .ret
abbrev St := Option (AEx × List Value × zi)
def yC : Nat → (List Value → zi → St) → List Value → zi → St
 | 0, _, _, _ => none
 | n + 1, f, T, H => match f T H with
  | some (.normal, T1, H1) => yC n f T1 H1
  | r => r
def yR (P : Program) (call : FuncId → List Value → M Value) (fuel : Nat) : Code → List Value → zi → St
 | .skip, T, H => some (.normal, T, H)
 | .region _ ops false, T, H => match KA P call ops ops.toList T H with
  | some (T1, H1) => some (.normal, T1, H1)
  | none => none
 | .region _ ops true, T, H => match xB P call ops T H with
  | some (T1, H1) => some (.normal, T1, H1)
  | none => none
 | .seq x y, T, H => match yR P call fuel x T H with
  | some (.normal, T1, H1) => yR P call fuel y T1 H1
  | r => r
 | .cond c x y, T, H => if yO c then
   match je T c with
   | .bool true => yR P call fuel x T H
   | .bool false => yR P call fuel y T H
   | _ => none
  else none
 | .block id c, T, H => match yR P call fuel c T H with
  | some (.exit id', T1, H1) => if id' = id then some (.normal, T1, H1) else some (.exit id', T1, H1)
  | r => r
 | .loop c, T, H => yC fuel (yR P call fuel c) T H
 | .exit id, T, H => some (.exit id, T, H)
 | .ret, T, H => some (.ret, T, H)
 | _, _, _ => none
def kP (P : Program) (T : List Value) (H : zi) : List ResultVar → Option (List Value)
 | [] => some []
 | .tmp t :: r => match kP P T H r with
  | some l => some (T.getD t undef :: l)
  | none => none
 | .cell a t :: r => match wY P t (T.getD a undef) H, kP P T H r with
  | some (v, _), some l => some (v :: l)
  | _, _ => none
def adH (P : Program) (fn : Func) (T : List Value) : M Value := fun H =>
 match kP P T H fn.results.toList with
 | some [v] => some (v, H)
 | some l => some (.tuple l.toArray, H)
 | none => none
def kV (P : Program) : Nat → FuncId → List Value → M Value
 | 0, _, _ => fun _ => none
 | n + 1, f, args => fun H =>
  match P.funcs[f]? with
  | some fn =>
   if fn.name = "runtime.NumGoroutine" then none else
   match fn.body with
   | some c => match yR P (kV P n) n c (args ++ List.replicate (fn.ntmps - args.length) undef) H with
    | some (.normal, T, H') => adH P fn T H'
    | some (.ret, T, H') => adH P fn T H'
    | _ => none
   | none => none
  | none => none
section
variable {P : Program} {B : Nat} {w0 : World} {m : Mp} {H H' : zi} {w : World}
theorem acI {call : FuncId → List Value → M Value} (hc : Jy P B w0 call) (hmix : P.follows .mixedOrders = true) (fuel : Nat) : ∀ (c : Code) (T : List Value) (H : zi) (e : AEx) (T' : List Value) (H' : zi),
  yR P call fuel c T H = some (e, T', H') → ∀ (m : Mp) (a : Act) (w : World), LR m T a.tmps.toList → a.defers = [] → Rel B w0 m H w →
  ∀ Q : Exit → Act → World → Prop, (∀ a' w', Post B w0 m T' H' a' w' → Q e.out a' w') → c.wp P Q a w := by
 intro c
 induction c with
 | skip =>
  intro T H e T' H' h m a w hT hd hr Q hQ
  simp only [yR, Option.some.injEq, Prod.mk.injEq] at h
  obtain ⟨rfl, rfl, rfl⟩ := h
  exact wp_skip (hQ a w ⟨m, Mp.le_refl m, hT, hd, hr⟩)
 | region id ops draw =>
  intro T H e T' H' h m a w hT hd hr Q hQ
  cases draw with
  | false =>
   simp only [yR] at h
   split at h
   ·
    rename_i T1 H1 h1
    simp only [Option.some.injEq, Prod.mk.injEq] at h
    obtain ⟨rfl, rfl, rfl⟩ := h
    exact Vm hc h1 hT hd hr hQ
   ·
    cases h
  | true =>
   simp only [yR] at h
   split at h
   ·
    rename_i T1 H1 h1
    simp only [Option.some.injEq, Prod.mk.injEq] at h
    obtain ⟨rfl, rfl, rfl⟩ := h
    exact aco hc hmix h1 hT hd hr hQ
   ·
    cases h
 | seq x y ihx ihy =>
  intro T H e T' H' h m a w hT hd hr Q hQ
  simp only [yR] at h
  split at h
  ·
   rename_i T1 H1 h1
   refine wp_seq (ihx _ _ _ _ _ h1 m a w hT hd hr _ ?_)
   rintro a' w' ⟨m1, hm1, hT1, hd1, hr1⟩
   refine ihy _ _ _ _ _ h m1 a' w' hT1 hd1 hr1 Q ?_
   rintro a2 w2 ⟨m2, hm2, hT2, hd2, hr2⟩
   exact hQ a2 w2 ⟨m2, Mp.le_trans hm1 hm2, hT2, hd2, hr2⟩
  ·
   rename_i hne
   refine wp_seq (ihx _ _ _ _ _ h m a w hT hd hr _ ?_)
   intro a' w' hp
   cases e with
   | normal => exact absurd h (hne _ _)
   | exit id => exact hQ a' w' hp
   | ret => exact hQ a' w' hp
 | cond c x y ihx ihy =>
  intro T H e T' H' h m a w hT hd hr Q hQ
  simp only [yR] at h
  split at h
  ·
   rename_i hok
   have hv := jA hT hok
   split at h
   ·
    rename_i hb
    rw [hb] at hv
    exact wp_cond_true (by generalize a.eval c = u at hv; cases hv; rfl) (ihx _ _ _ _ _ h m a w hT hd hr Q hQ)
   ·
    rename_i hb
    rw [hb] at hv
    exact wp_cond_false (by generalize a.eval c = u at hv; cases hv; rfl) (ihy _ _ _ _ _ h m a w hT hd hr Q hQ)
   ·
    cases h
  ·
   cases h
 | block id c ih =>
  intro T H e T' H' h m a w hT hd hr Q hQ
  simp only [yR] at h
  split at h
  ·
   rename_i id' T1 H1 h1
   refine wp_block (ih _ _ _ _ _ h1 m a w hT hd hr _ ?_)
   intro a' w' hp
   split at h
   ·
    rename_i hid
    simp only [Option.some.injEq, Prod.mk.injEq] at h
    obtain ⟨rfl, rfl, rfl⟩ := h
    subst hid
    simp only [AEx.out, Exit.inBlock, if_true]
    exact hQ a' w' hp
   ·
    rename_i hid
    simp only [Option.some.injEq, Prod.mk.injEq] at h
    obtain ⟨rfl, rfl, rfl⟩ := h
    simp only [AEx.out, Exit.inBlock, hid, if_false]
    exact hQ a' w' hp
  ·
   rename_i hne
   refine wp_block (ih _ _ _ _ _ h m a w hT hd hr _ ?_)
   intro a' w' hp
   cases e with
   | exit id' => exact absurd h (hne _ _ _)
   | normal => exact hQ a' w' hp
   | ret => exact hQ a' w' hp
 | loop c ih =>
  intro T H e T' H' h m a w hT hd hr Q hQ
  simp only [yR] at h
  refine wp_loop_ghost (fun n a w => ∃ T1 H1 m1, m.le m1 ∧ yC n (yR P call fuel c) T1 H1 = some (e, T', H') ∧ LR m1 T1 a.tmps.toList ∧ a.defers = [] ∧ Rel B w0 m1 H1 w) fuel
   ⟨T, H, m, Mp.le_refl m, h, hT, hd, hr⟩ ?_
  rintro n a1 w1 ⟨T1, H1, m1, hm1, h1, hT1, hd1, hr1⟩
  cases n with
  | zero => simp only [yC] at h1; cases h1
  | succ n =>
   simp only [yC] at h1
   split at h1
   ·
    rename_i T2 H2 h2
    refine ih _ _ _ _ _ h2 m1 a1 w1 hT1 hd1 hr1 _ ?_
    rintro a2 w2 ⟨m2, hm2, hT2, hd2, hr2⟩
    exact ⟨n, by omega, T2, H2, m2, Mp.le_trans hm1 hm2, h1, hT2, hd2, hr2⟩
   ·
    rename_i hne
    refine ih _ _ _ _ _ h1 m1 a1 w1 hT1 hd1 hr1 _ ?_
    rintro a2 w2 ⟨m2, hm2, hT2, hd2, hr2⟩
    cases e with
    | normal => exact absurd h1 (hne _ _)
    | exit id => exact hQ a2 w2 ⟨m2, Mp.le_trans hm1 hm2, hT2, hd2, hr2⟩
    | ret => exact hQ a2 w2 ⟨m2, Mp.le_trans hm1 hm2, hT2, hd2, hr2⟩
 | exit id =>
  intro T H e T' H' h m a w hT hd hr Q hQ
  simp only [yR, Option.some.injEq, Prod.mk.injEq] at h
  obtain ⟨rfl, rfl, rfl⟩ := h
  exact wp_exit (hQ a w ⟨m, Mp.le_refl m, hT, hd, hr⟩)
 | ret =>
  intro T H e T' H' h m a w hT hd hr Q hQ
  simp only [yR, Option.some.injEq, Prod.mk.injEq] at h
  obtain ⟨rfl, rfl, rfl⟩ := h
  exact wp_ret (hQ a w ⟨m, Mp.le_refl m, hT, hd, hr⟩)
 | _ =>
  intro T H e T' H' h
  simp only [yR] at h
  cases h
theorem ab5 {t : TypeId} {p p' v : Value} (hr : Rel B w0 m H w) (h : wY P t p H = some (v, H')) (hp : VR m p p') : ∃ v', (Instr.loadAt t p').run P w = .ok v' w ∧ VR m v v' := by
 unfold wY at h
 split at h
 ·
  rename_i r o
  cases hp with
  | @ptr _ _ L hm =>
   split at h
   ·
    rename_i cs own esz hg
    split at h
    ·
     rename_i ha
     split at h
     ·
      rename_i n hsz
      split at h
      ·
       rename_i hn
       cases h
       obtain ⟨cs', hl, hra⟩ := hr.range hm hg hn
       obtain ⟨d, hd, hd2⟩ := ZO ha
       have hlen : cs'.length = n := by rw [← hl.1]; simp; omega
       have := hl.toArray
       exact ⟨_, run_loadAt_mid w L.blk (L.shift + o) t cs' d hra hd hd2 (by rw [hlen]; exact hsz), .agg this.1 this.2⟩
      ·
       cases h
     ·
      cases h
    ·
     rename_i ha
     split at h
     ·
      rename_i u hu
      cases h
      obtain ⟨v', hc, hv⟩ := hr.cell hm hg hu
      refine ⟨v', ?_, hv⟩
      simp only [Instr.loadAt, Instr.sureAddr, Sem.run_bind, Sem.run_pure, Result.andThen_ok, loadVar, Zl ha w, Bool.false_eq_true, if_false, Sem.run_ite, run_load, hc]
     ·
      cases h
    ·
     cases h
   ·
    cases h
 ·
  cases h
theorem abB {T : List Value} {tmps : Array Value} (hT : LR m T tmps.toList) (hr : Rel B w0 m H w) : ∀ (l : List ResultVar) (vs : List Value), kP P T H l = some vs →
  ∃ vs', (l.mapM fun | .tmp t => pure (tmps.getD t undef) | .cell a t => do loadVar t (← asAddr (tmps.getD a undef)) : Sem (List Value)).run P w = .ok vs' w ∧ LR m vs vs' := by
 have hg : ∀ t, VR m (T.getD t undef) (tmps.getD t undef) := fun t => by simpa [List.getD_eq_getElem?_getD, Array.getD_eq_getD_getElem?] using hT.2 t
 intro l
 induction l with
 | nil => intro vs h; simp only [kP, Option.some.injEq] at h; subst h; exact ⟨[], rfl, .nil⟩
 | cons r l ih =>
  intro vs h
  cases r with
  | tmp t =>
   simp only [kP] at h
   split at h
   ·
    rename_i l2 h2
    cases h
    obtain ⟨vs', h3, h4⟩ := ih _ h2
    refine ⟨tmps.getD t undef :: vs', ?_, .cons (hg t) h4⟩
    simp only [List.mapM_cons, Sem.run_bind, Sem.run_pure, Result.andThen_ok, h3]
   ·
    cases h
  | cell a t =>
   simp only [kP] at h
   split at h
   ·
    rename_i v H2 l2 hl h2
    cases h
    obtain ⟨vs', h3, h4⟩ := ih _ h2
    have hp := hg a
    have hs : H2 = H := by
     unfold wY at hl
     (repeat' split at hl) <;> first | (cases hl; done) | (cases hl; rfl)
    obtain ⟨v', w', m', h5, h6, h7, h8⟩ := X7 hr hl hp
    unfold wY at hl
    split at hl
    ·
     rename_i r o hto
     rw [hto] at hp
     generalize hpe : tmps.getD a undef = pv at hp h5
     cases hp with
     | @ptr _ _ L hm =>
      have hw : ∃ v', (loadVar t ⟨L.blk, L.shift + o, none⟩).run P w = .ok v' w ∧ VR m v v' := by
       obtain ⟨v2, hv2, hvr2⟩ : ∃ v2, (Instr.loadAt t (.pointer (some ⟨L.blk, L.shift + o, none⟩))).run P w = .ok v2 w ∧ VR m v v2 := by
        have hl2 : wY P t (.pointer (some ⟨r, o, none⟩)) H = some (v, H2) := by unfold wY; exact hl
        exact ab5 hr hl2 (.ptr hm)
       refine ⟨v2, ?_, hvr2⟩
       simpa [Instr.loadAt, Instr.sureAddr] using hv2
      obtain ⟨v2, hv2, hvr2⟩ := hw
      refine ⟨v2 :: vs', ?_, .cons hvr2 h4⟩
      have has : (asAddr (tmps.getD a undef)).run P w = .ok ⟨L.blk, L.shift + o, none⟩ w := by rw [hpe]; rfl
      simp only [List.mapM_cons, Sem.run_bind, has, Sem.run_pure, Result.andThen_ok, hv2, h3]
    ·
     cases hl
   ·
    cases h
theorem acW {fn : Func} {T : List Value} {tmps : Array Value} {v : Value} (hT : LR m T tmps.toList) (hr : Rel B w0 m H w) (h : adH P fn T H = some (v, H')) :
  H' = H ∧ ∃ v', (results fn tmps).run P w = .ok v' w ∧ VR m v v' := by
 have hmap : ∀ vs' : List Value, (fn.results.toList.mapM fun | .tmp t => pure (tmps.getD t undef) | .cell a t => do loadVar t (← asAddr (tmps.getD a undef)) : Sem (List Value)).run P w = .ok vs' w →
   (results fn tmps).run P w = .ok (if h : vs'.toArray.size = 1 then vs'.toArray[0] else .tuple vs'.toArray) w := by
  intro vs' hv
  unfold results
  rw [← Array.toArray_toList (xs := fn.results)]
  simp only [Sem.run_bind, List.mapM_toArray, Sem.run_map]
  refine (congrArg (fun r => (Result.andThen r fun a w' => Result.ok a.toArray w').andThen fun (a : Array Value) w' => Sem.run P (pure (if h : a.size = 1 then a[0] else Value.tuple a)) w') hv).trans ?_
  rfl
 unfold adH at h
 split at h
 ·
  rename_i v1 hv
  cases h
  obtain ⟨vs', h1, h2⟩ := abB hT hr _ _ hv
  obtain ⟨v', rfl, hvr⟩ := h2.one
  exact ⟨rfl, v', by rw [hmap _ h1]; rfl, hvr⟩
 ·
  rename_i l hne hv
  cases h
  obtain ⟨vs', h1, h2⟩ := abB hT hr _ _ hv
  refine ⟨rfl, .tuple vs'.toArray, ?_, ?_⟩
  ·
   rw [hmap _ h1, dif_neg]
   intro hs
   have hl : l.length = 1 := by rw [h2.1]; simpa using hs
   match l, hl with
   | [x], _ => exact hne x rfl
  ·
   have := h2.toArray
   exact .tuple this.1 this.2
 ·
  cases h
theorem afi (hmix : P.follows .mixedOrders = true) : ∀ n, Jy P B w0 (kV P n) := by
  intro n
  induction n with
  | zero => intro g args H v H' h; simp only [kV] at h; cases h
  | succ n ih =>
    intro g args H v H' h m w args' ha hr
    simp only [kV] at h
    split at h
    · rename_i fn hfn
      split at h
      · cases h
      · rename_i hname
        split at h
        · rename_i c hbody
          refine ⟨?_, ?_⟩
          · have hne : (fn.name == "runtime.NumGoroutine") = false := by simpa using hname
            have hnn : fn.body.isNone = false := by rw [hbody]; rfl
            simp only [callFunc, Sem.run_bind, run_program, Result.andThen_ok, hfn, hne, hnn, Bool.false_eq_true, if_false, Sem.run_pure]
          · have main : ∀ (e : AEx) (T : List Value) (H1 : zi), yR P (kV P n) n c (args ++ List.replicate (fn.ntmps - args.length) undef) H = some (e, T, H1) → (e = .normal ∨ e = .ret) → adH P fn T H1 = some (v, H') →
                Calls P g args'.toArray w fun e w' => ∃ v' m', e = .returned v' ∧ VR m' v v' ∧ m.le m' ∧ Rel B w0 m' H' w' := by
              intro e T H1 hcode he hres
              refine calls_of_wp hfn hbody ?_
              refine acI ih hmix n c _ _ _ _ _ hcode m _ w ?_ rfl hr _ ?_
              · have hl : args'.toArray.size = args.length := by simp [ha.1]
                rw [hl]
                simp only [Array.toList_append, List.toList_toArray, Array.toList_replicate]
                exact ha.append ⟨rfl, fun i => by
                  by_cases hi : i < fn.ntmps - args.length
                  · simp [List.getD_eq_getElem?_getD, hi]; exact VR.undef
                  · simp [List.getD_eq_getElem?_getD, List.getElem?_replicate, hi]; exact VR.undef⟩
              · rintro a' w' ⟨m1, hm1, hT1, hd1, hr1⟩
                obtain ⟨rfl, v', hrun, hvr⟩ := acW hT1 hr1 hres
                rcases he with rfl | rfl
                · exact ⟨hd1, v', hrun, v', m1, rfl, hvr, hm1, hr1⟩
                · exact ⟨hd1, v', hrun, v', m1, rfl, hvr, hm1, hr1⟩
            split at h
            · rename_i T H1 hcode; exact main _ _ _ hcode (.inl rfl) h
            · rename_i T H1 hcode; exact main _ _ _ hcode (.inr rfl) h
            · cases h
        · cases h
    · cases h
end
end Go.Abs
namespace Go.Abs
open Go.RowKit
inductive Ty where
 | int (k : IntKind)
 | bool
 | str
 | slc (bytes : Nat) (e : Ty)
 | pair (a b : Ty)
 | unit
def Ty.Val : Ty → Type
 | .int _ => Int
 | .bool => Bool
 | .str => ByteArray
 | .slc _ e => Option (List e.Val)
 | .pair a b => a.Val × b.Val
 | .unit => Unit
def Ty.sz : Ty → Nat
 | .int _ => 1
 | .bool => 1
 | .str => 1
 | .slc _ _ => 1
 | .pair a b => a.sz + b.sz
 | .unit => 0
def Ty.Good : (t : Ty) → t.Val → Prop
 | .int k, n => (Lit.int k n).wf = true
 | .bool, _ => True
 | .str, s => s.size ≤ 140737488351232
 | .slc bytes e, l => match l with
  | none => True
  | some l => l.length * bytes ≤ 140737488351232 ∧ l.length ≤ 9223372036854775807 ∧ ∀ x ∈ l, e.Good x
 | .pair a b, (x, y) => a.Good x ∧ b.Good y
 | .unit, _ => True
def jQ {α : Type} (f : α → zi → List Value × zi) : List α → zi → List Value × zi
 | [], H => ([], H)
 | x :: l, H => ((f x H).1 ++ (jQ f l (f x H).2).1, (jQ f l (f x H).2).2)
def Ty.place : (t : Ty) → t.Val → zi → List Value × zi
 | .int k, n, H => ([.int k n], H)
 | .bool, b, H => ([.bool b], H)
 | .str, s, H => ([.string s], H)
 | .slc _ e, l, H => match l with
  | none => ([.slice none 0 0], H)
  | some [] => ([.slice (some ⟨0, 0, some 0⟩) 0 0], H)
  | some (x :: l) => ([.slice (some ⟨(jQ e.place (x :: l) H).2.next, 0, none⟩) (l.length + 1) (l.length + 1)],
    (jQ e.place (x :: l) H).2.push (.cells (jQ e.place (x :: l) H).1 .ro e.sz))
 | .pair a b, (x, y), H => ((a.place x H).1 ++ (b.place y (a.place x H).2).1, (b.place y (a.place x H).2).2)
 | .unit, _, H => ([], H)
def afL (P : Program) (g : TypeId → Option Ty) : List Field → Nat → Option Ty
 | [], _ => some .unit
 | f :: fs, off => match g f.type, afL P g fs (off + P.cellsOf f.type) with
  | some c, some r => if f.offset = off ∧ P.cellsOf f.type = c.sz then some (.pair c r) else none
  | _, _ => none
def chain : Nat → Ty → Ty
 | 0, _ => .unit
 | n + 1, c => .pair c (chain n c)
def aeu (P : Program) : Nat → TypeId → Option Ty
 | 0, _ => none
 | n + 1, t => match P.underlying t with
  | some (.int k) => some (.int k)
  | some .bool => some .bool
  | some .string => some .str
  | some (.slice e) => match aeu P n e with
   | some c => if P.cellsOf e = c.sz ∧ 0 < c.sz then some (.slc (P.bytesOf e) c) else none
   | none => none
  | some (.struct fs) => match afL P (aeu P n) fs.toList 0 with
   | some c => if P.cellsOf t = c.sz then some c else none
   | none => none
  | some (.array k e) => match aeu P n e with
   | some c => if P.cellsOf e = c.sz ∧ P.cellsOf t = k * c.sz then some (chain k c) else none
   | none => none
  | _ => none
section
variable {P : Program} {B : Nat} {w0 : World} {m : Mp} {H H' : zi} {w : World}
theorem Rel.afC {cs : List Value} {esz : Nat} {L : Loc} (hr : Rel B w0 m H w) (hL : L.esz = esz) (hlt : L.blk < B) (ho : aad m w L (.cells cs .ro esz)) :
  Rel B w0 (m.add H.next L) (H.push (.cells cs .ro esz)) w := by
 have hle : m.le (m.add H.next L) := Mp.kD (hr.fresh _ (Nat.le_refl _))
 refine ⟨hr.below, hr.base, ?_, ?_, ?_, ?_, ?_⟩
 ·
  intro r L' o' hm hg
  rw [zi.jm] at hg
  by_cases e : r = H.next
  ·
   subst e; rw [Mp.add_same] at hm; rw [if_pos rfl] at hg; cases hm; cases hg; exact ho.mono hle
  ·
   rw [Mp.jI e] at hm; rw [if_neg e] at hg; exact (hr.obj r L' o' hm hg).mono hle
 ·
  intro r L' hm
  by_cases e : r = H.next
  ·
   subst e; rw [Mp.add_same] at hm; cases hm; have := hr.base; omega
  ·
   rw [Mp.jI e] at hm; exact hr.lt r L' hm
 ·
  intro r L' o' hm hg hw
  rw [zi.jm] at hg
  by_cases e : r = H.next
  ·
   subst e; rw [if_pos rfl] at hg; cases hg; cases hw
  ·
   rw [Mp.jI e] at hm; rw [if_neg e] at hg; exact hr.own r L' o' hm hg hw
 ·
  intro r r' L1 L2 o1 o2 hne h1 h2 g1 g2 hw ha hbk
  rw [zi.jm] at g1 g2
  by_cases e1 : r = H.next
  ·
   rw [if_pos e1] at g1; cases g1; cases hw
  ·
   rw [Mp.jI e1] at h1; rw [if_neg e1] at g1
   by_cases e2 : r' = H.next
   ·
    subst e2; rw [Mp.add_same] at h2; cases h2
    have := hr.own r L1 o1 h1 g1 hw
    omega
   ·
    rw [Mp.jI e2] at h2; rw [if_neg e2] at g2
    exact hr.apart r r' L1 L2 o1 o2 hne h1 h2 g1 g2 hw ha hbk
 ·
  intro r hr'
  simp only [zi.ZF] at hr'
  rw [Mp.jI (by omega)]
  exact hr.fresh r (by omega)
def Opens (P : Program) (w : World) (c : Ty) (x : c.Val) (cs : List Value) : Prop :=
 ∀ (B : Nat) (w0 : World) (m : Mp) (H : zi), w.heap.size ≤ B → Rel B w0 m H w → ∃ m', m.le m' ∧ Rel B w0 m' (c.place x H).2 w ∧ LR m' (c.place x H).1 cs
theorem mapM_some {α β : Type} {f : α → Option β} : ∀ (l : List α) (r : List β), l.mapM f = some r → r.length = l.length ∧ ∀ (i : Nat) (a : α), l[i]? = some a → ∃ b, r[i]? = some b ∧ f a = some b := by
 intro l
 induction l with
 | nil => intro r h; simp at h; subst h; exact ⟨rfl, fun i a h => by simp at h⟩
 | cons x l ih =>
  intro r h
  simp only [List.mapM_cons] at h
  cases hx : f x with
  | none => simp [hx] at h
  | some y =>
   cases hl : l.mapM f with
   | none => simp [hx, hl] at h
   | some r' =>
    simp [hx, hl] at h
    subst h
    obtain ⟨h1, h2⟩ := ih r' hl
    refine ⟨by simp [h1], fun i a hi => ?_⟩
    cases i with
    | zero => simp at hi; subst hi; exact ⟨y, rfl, hx⟩
    | succ i => simpa using h2 i a (by simpa using hi)
theorem vJ {β : Type} {f : Nat → Option β} {n : Nat} {r : List β} (h : (List.range n).mapM f = some r) : r.length = n ∧ ∀ i, i < n → ∃ b, r[i]? = some b ∧ f i = some b := by
 obtain ⟨h1, h2⟩ := mapM_some _ _ h
 exact ⟨by simpa using h1, fun i hi => h2 i i (by simp [hi])⟩
theorem vT {a : Addr} {n : Nat} {cs : List Value} (h : w.cells? 0 a n = some cs) : cs.length = n ∧ ∀ (j : Nat) (v : Value), cs[j]? = some v → w.cell? (a.add j) = some v := by
 unfold World.cells? at h
 rw [if_pos (Nat.zero_le _)] at h
 obtain ⟨h1, h2⟩ := vJ h
 refine ⟨h1, fun j v hj => ?_⟩
 have hlt : j < n := by rw [← h1]; exact (List.getElem?_eq_some_iff.1 hj).1
 obtain ⟨b, hb, hc⟩ := h2 j hlt
 rw [hj] at hb; cases hb; exact hc
theorem aeW {c : Ty} : ∀ (css : List (List Value)) , (∀ cs ∈ css, ∃ x : c.Val, c.Good x ∧ Opens P w c x cs) →
  ∃ xs : List c.Val, xs.length = css.length ∧ (∀ x ∈ xs, c.Good x) ∧ ∀ (B : Nat) (w0 : World) (m : Mp) (H : zi), w.heap.size ≤ B → Rel B w0 m H w →
   ∃ m', m.le m' ∧ Rel B w0 m' (jQ c.place xs H).2 w ∧ LR m' (jQ c.place xs H).1 css.flatten := by
 intro css
 induction css with
 | nil => intro _; exact ⟨[], rfl, (fun _ h => by cases h), fun B w0 m H _ hr => ⟨m, Mp.le_refl m, hr, LR.nil⟩⟩
 | cons cs css ih =>
  intro h
  obtain ⟨x, hg, hx⟩ := h cs (by simp)
  obtain ⟨xs, h1, h2, h3⟩ := ih (fun cs' hcs => h cs' (by simp [hcs]))
  refine ⟨x :: xs, by simp [h1], fun y hy => ?_, fun B w0 m H hB hr => ?_⟩
  ·
   rcases List.mem_cons.1 hy with rfl | hy
   ·
    exact hg
   ·
    exact h2 y hy
  ·
   obtain ⟨m1, hm1, hr1, hl1⟩ := hx B w0 m H hB hr
   obtain ⟨m2, hm2, hr2, hl2⟩ := h3 B w0 m1 _ hB hr1
   exact ⟨m2, Mp.le_trans hm1 hm2, hr2, (hl1.mono hm2).append hl2⟩
theorem flat_get {css : List (List Value)} {n : Nat} (h : ∀ cs ∈ css, cs.length = n) (hn : 0 < n) (j : Nat) : css.flatten[j]? = (css[j / n]?).bind (·[j % n]?) := by
 induction css generalizing j with
 | nil => simp
 | cons cs css ih =>
  have hl := h cs (by simp)
  rw [List.flatten_cons]
  by_cases hj : j < n
  ·
   rw [List.getElem?_append_left (by omega), Nat.div_eq_of_lt hj, Nat.mod_eq_of_lt hj]
   rfl
  ·
   rw [List.getElem?_append_right (by omega), hl, ih (fun cs' hcs => h cs' (by simp [hcs]))]
   have e1 : j / n = (j - n) / n + 1 := by rw [Nat.div_eq_sub_div hn (by omega)]
   have e2 : j % n = (j - n) % n := by rw [Nat.mod_eq_sub_mod (by omega)]
   rw [e1, e2, List.getElem?_cons_succ]
theorem flat_length {css : List (List Value)} {n : Nat} (h : ∀ cs ∈ css, cs.length = n) : css.flatten.length = css.length * n := by
 induction css with
 | nil => simp
 | cons cs css ih =>
  rw [List.flatten_cons, List.length_append, h cs (by simp), ih (fun cs' hcs => h cs' (by simp [hcs])), List.length_cons, Nat.add_mul]; omega
section
variable {X : Type} {enc : TypeId × Value → X}
theorem open_slice {t e : TypeId} {c : Ty} {fuel : Nat} {a : Addr} {len cap : Nat} {d : DataW X} {ps : List MemPlace} (hu : P.underlying t = some (.slice e)) (hs : P.cellsOf e = c.sz) (hp : 0 < c.sz)
  (ih : ∀ (cs : List Value) (d : DataW X) (ps : List MemPlace), DataW.trod enc P w 0 (fun _ => true) true fuel e cs = some (d, ps) → (∀ y ∈ d.weights P e, y ≤ reachBytes) → ∃ x : c.Val, c.Good x ∧ Opens P w c x cs)
  (h : DataW.trod enc P w 0 (fun _ => true) true (fuel + 1) t [.slice (some a) len cap] = some (d, ps)) (hw : ∀ y ∈ d.weights P t, y ≤ reachBytes) :
  ∃ x : (Ty.slc (P.bytesOf e) c).Val, (Ty.slc (P.bytesOf e) c).Good x ∧ Opens P w (Ty.slc (P.bytesOf e) c) x [.slice (some a) len cap] := by
 simp only [DataW.trod, hu] at h
 split at h
 ·
  rename_i hc
  obtain ⟨_, hlc, hcm⟩ := hc
  cases he : (List.range len).mapM (fun i => (w.cells? 0 (a.add (i * P.cellsOf e)) (P.cellsOf e)).bind (DataW.trod enc P w 0 (fun _ => true) true fuel e)) with
  | none => simp [he] at h
  | some elems =>
   simp only [he, Option.bind_some, if_true] at h
   cases hrest : (List.range (cap - len)).mapM (fun j => (w.cells? 0 (a.add ((len + j) * P.cellsOf e)) (P.cellsOf e)).bind (DataW.trod enc P w 0 (fun _ => true) true fuel e)) with
   | none => simp [hrest] at h
   | some rest =>
    simp only [hrest, Option.map_some, Option.some.injEq, Prod.mk.injEq] at h
    obtain ⟨hd, _⟩ := h
    obtain ⟨he1, he2⟩ := vJ he
    obtain ⟨hr1, hr2⟩ := vJ hrest
    rw [hs] at he2 hr2
    subst hd
    simp only [DataW.weights, hu, List.mem_cons, List.mem_append] at hw
    have hwl := hw _ (.inl rfl)
    simp only [List.length_map] at hwl
    have hbyt : len * P.bytesOf e ≤ 140737488351232 := by
     have e1 : len * P.bytesOf e ≤ (elems.length + rest.length) * P.bytesOf e := Nat.mul_le_mul_right _ (by omega)
     have e2 : reachBytes = 140737488351232 := rfl
     omega
    have hmax : len ≤ 9223372036854775807 := by have := hcm; simp only [maxLen] at this; omega
    have hcell : ∀ i, i < len → ∃ ci di pi, w.cells? 0 (a.add (i * c.sz)) c.sz = some ci ∧ DataW.trod enc P w 0 (fun _ => true) true fuel e ci = some (di, pi) ∧ di ∈ elems.map (·.1) := by
     intro i hi
     obtain ⟨b, hb, hf⟩ := he2 i hi
     cases hcs : w.cells? 0 (a.add (i * c.sz)) c.sz with
     | none => simp [hcs] at hf
     | some ci =>
      simp only [hcs, Option.bind_some] at hf
      exact ⟨ci, b.1, b.2, rfl, hf, List.mem_map.2 ⟨b, List.mem_of_getElem? hb, rfl⟩⟩
    have hcap : ∀ i, i < cap → ∃ ci, w.cells? 0 (a.add (i * c.sz)) c.sz = some ci := by
     intro i hi
     by_cases hil : i < len
     ·
      obtain ⟨ci, _, _, h1, _⟩ := hcell i hil; exact ⟨ci, h1⟩
     ·
      obtain ⟨b, hb, hf⟩ := hr2 (i - len) (by omega)
      rw [show len + (i - len) = i by omega] at hf
      cases hcs : w.cells? 0 (a.add (i * c.sz)) c.sz with
      | none => simp [hcs] at hf
      | some ci => exact ⟨ci, rfl⟩
    have wAll : ∀ (l : List (DataW X)) (d : DataW X), d ∈ l → ∀ y ∈ d.weights P e, y ∈ DataW.weightsAll P e l := by
     intro l
     induction l with
     | nil => intro d hd; cases hd
     | cons d0 l ihl =>
      intro d hd y hy
      simp only [DataW.weightsAll, List.mem_append]
      rcases List.mem_cons.1 hd with rfl | hd
      ·
       exact .inl hy
      ·
       exact .inr (ihl d hd y hy)
    have hopen : ∀ i, i < len → ∃ ci, w.cells? 0 (a.add (i * c.sz)) c.sz = some ci ∧ ∃ x : c.Val, c.Good x ∧ Opens P w c x ci := by
     intro i hi
     obtain ⟨ci, di, pi, h1, h2, h3⟩ := hcell i hi
     exact ⟨ci, h1, ih ci di pi h2 (fun y hy => hw y (.inr (.inl (wAll _ _ h3 y hy))))⟩
    cases len with
    | zero =>
     refine ⟨some [], ⟨by simp, by simp, (fun _ h => by cases h)⟩, fun B w0 m H hB hr => ⟨m, Mp.le_refl m, hr, LR.cons (.sliceE a cap) LR.nil⟩⟩
    | succ n =>
     obtain ⟨css, hcl, hcss⟩ : ∃ css : List (List Value), css.length = n + 1 ∧ ∀ (i : Nat) (ci : List Value), css[i]? = some ci → w.cells? 0 (a.add (i * c.sz)) c.sz = some ci ∧ ∃ x : c.Val, c.Good x ∧ Opens P w c x ci := by
      have hb : ∀ k, k ≤ n + 1 → ∃ css : List (List Value), css.length = k ∧ ∀ (i : Nat) (ci : List Value), css[i]? = some ci → w.cells? 0 (a.add (i * c.sz)) c.sz = some ci ∧ ∃ x : c.Val, c.Good x ∧ Opens P w c x ci := by
       intro k
       induction k with
       | zero => intro _; exact ⟨[], rfl, fun i ci h => by simp at h⟩
       | succ k ihk =>
        intro hk
        obtain ⟨css, h1, h2⟩ := ihk (by omega)
        obtain ⟨ci, h3, h4⟩ := hopen k (by omega)
        refine ⟨css ++ [ci], by simp [h1], fun i ci' hi => ?_⟩
        by_cases hik : i < k
        ·
         rw [List.getElem?_append_left (by omega)] at hi; exact h2 i ci' hi
        ·
         rw [List.getElem?_append_right (by omega)] at hi
         have : i = k := by
          cases hh : i - css.length with
          | zero => omega
          | succ q => rw [hh] at hi; simp at hi
         subst this
         rw [h1, Nat.sub_self] at hi
         simp at hi
         subst hi
         exact ⟨h3, h4⟩
      exact hb (n + 1) (Nat.le_refl _)
     obtain ⟨xs, hx1, hx2, hx3⟩ := aeW css (fun cs hcs => by
      obtain ⟨i, hi, rfl⟩ := List.mem_iff_getElem.1 hcs
      exact (hcss i _ (List.getElem?_eq_getElem hi)).2)
     have hlens : ∀ cs ∈ css, cs.length = c.sz := fun cs hcs => by
      obtain ⟨i, hi, rfl⟩ := List.mem_iff_getElem.1 hcs
      exact (vT (hcss i _ (List.getElem?_eq_getElem hi)).1).1
     have hspot : a.spot = none := by
      obtain ⟨ci, h1⟩ := hcap 0 (by omega)
      obtain ⟨h2, h3⟩ := vT h1
      have := h3 0 ci[0] (List.getElem?_eq_getElem (by omega))
      simp only [Nat.zero_mul, Addr.add, if_true] at this
      unfold World.cell? at this
      cases hsp : a.spot with
      | none => rfl
      | some q => rw [hsp] at this; split at this <;> simp at this
     obtain ⟨ab, ao, asp⟩ := a
     simp only at hspot
     subst hspot
     have hcl2 : ∀ k, k < cap * c.sz → ∃ v, w.cell? ⟨ab, ao + k, none⟩ = some v := by
      intro k hk
      have hdm := Nat.div_add_mod k c.sz
      have hkd : k / c.sz < cap := by rw [Nat.div_lt_iff_lt_mul hp]; exact hk
      obtain ⟨ci, h1⟩ := hcap (k / c.sz) hkd
      obtain ⟨h2, h3⟩ := vT h1
      have hmod : k % c.sz < c.sz := Nat.mod_lt _ hp
      have := h3 (k % c.sz) ci[k % c.sz] (List.getElem?_eq_getElem (by omega))
      rw [Addr.add_mid, Addr.add_mid, Nat.add_assoc, Nat.mul_comm (k / c.sz), hdm] at this
      exact ⟨_, this⟩
     have hval : ∀ (k : Nat) (v : Value), css.flatten[k]? = some v → w.cell? ⟨ab, ao + k, none⟩ = some v := by
      intro k v hk
      rw [flat_get hlens hp] at hk
      cases hq : css[k / c.sz]? with
      | none => simp [hq] at hk
      | some ci =>
       simp only [hq, Option.bind_some] at hk
       obtain ⟨h2, h3⟩ := vT (hcss _ _ hq).1
       have := h3 _ _ hk
       rw [Addr.add_mid, Addr.add_mid, Nat.add_assoc, Nat.mul_comm (k / c.sz), Nat.div_add_mod] at this
       exact this
     have hcapos : 0 < cap * c.sz := Nat.mul_pos (by omega) hp
     obtain ⟨cc, et, fr, hblk⟩ : ∃ cc et fr, w.heap[ab]? = some (.cells cc et fr) := by
      obtain ⟨v, hv⟩ := hcl2 0 hcapos
      unfold World.cell? at hv
      split at hv
      ·
       rename_i c1 e1 f1 hh; exact ⟨c1, e1, f1, hh⟩
      ·
       cases hv
     have hsize : ao + cap * c.sz ≤ cc.size := by
      obtain ⟨v, hv⟩ := hcl2 (cap * c.sz - 1) (by omega)
      rw [ZT hblk] at hv
      have := (Array.getElem?_eq_some_iff.1 hv).1
      omega
     have hab : ab < w.heap.size := (Array.getElem?_eq_some_iff.1 hblk).1
     have hxl : xs.length = n + 1 := by rw [hx1, hcl]
     obtain ⟨x0, xs', rfl⟩ : ∃ x0 xs', xs = x0 :: xs' := by cases xs with
      | nil => simp at hxl
      | cons x0 xs' => exact ⟨x0, xs', rfl⟩
     have hxl' : xs'.length = n := by simpa using hxl
     refine ⟨some (x0 :: xs'), ⟨by rw [hxl]; exact hbyt, by rw [hxl]; exact hmax, hx2⟩, fun B w0 m H hB hr => ?_⟩
     obtain ⟨m1, hm1, hr1, hl1⟩ := hx3 B w0 m H hB hr
     have hplen : (jQ c.place (x0 :: xs') H).1.length = (n + 1) * c.sz := by rw [hl1.1, flat_length hlens, hcl]
     have hmul : (n + 1) * c.sz ≤ cap * c.sz := Nat.mul_le_mul_right _ hlc
     have hO : aad m1 w ⟨ab, ao, ao + cap * c.sz, c.sz⟩ (.cells (jQ c.place (x0 :: xs') H).1 .ro c.sz) := by
      refine ⟨rfl, cc, et, fr, hblk, ?_, hsize, fun j v hj => ?_, fun h => by cases h⟩
      ·
       dsimp only; rw [hplen]; omega
      ·
       obtain ⟨v', hv', hvr⟩ := hl1.get hj
       refine ⟨v', ?_, hvr⟩
       rw [← ZT hblk]
       exact hval j v' hv'
     have hr2 := hr1.afC rfl (show ab < B by omega) hO
     refine ⟨_, Mp.le_trans hm1 (Mp.kD (hr1.fresh _ (Nat.le_refl _))), hr2, LR.cons ?_ LR.nil⟩
     have := VR.slice (o := 0) (n := n + 1) (c := cap) (Mp.add_same m1 (jQ c.place (x0 :: xs') H).2.next ⟨ab, ao, ao + cap * c.sz, c.sz⟩) hlc (by dsimp only; omega)
     rw [hxl']
     exact this
 ·
  cases h
end
end
end Go.Abs
namespace Go.Abs
open Go.RowKit
section
variable {P : Program} {B : Nat} {w0 : World} {m : Mp} {H H' : zi} {w : World}
variable {X : Type} {enc : TypeId × Value → X}
def YZ (P : Program) (w : World) (enc : TypeId × Value → X) (e : TypeId) (c : Ty) : Prop :=
 ∀ (fuel : Nat) (cs : List Value) (d : DataW X) (ps : List MemPlace), DataW.trod enc P w 0 (fun _ => true) true fuel e cs = some (d, ps) → (∀ y ∈ d.weights P e, y ≤ reachBytes) → ∃ x : c.Val, c.Good x ∧ Opens P w c x cs
theorem Opens.length {c : Ty} {x : c.Val} {cs : List Value} (h : Opens P w c x cs) : ∀ (H : zi), (c.place x H).1.length = cs.length ∨ True := fun _ => .inr True.intro
theorem Xp {g : TypeId → Option Ty} {fuel : Nat} (hg : ∀ t c, g t = some c → YZ P w enc t c) : ∀ (fs : List Field) (off : Nat) (c : Ty) (cs : List Value) (xs : List (DataW X × List MemPlace)),
  afL P g fs off = some c → (fs.mapM fun f => DataW.trod enc P w 0 (fun _ => true) true fuel f.type ((cs.drop f.offset).take (P.cellsOf f.type))) = some xs →
  (∀ y ∈ DataW.weightsEach P (fs.map (·.type)) (xs.map (·.1)), y ≤ reachBytes) → cs.length = off + c.sz → ∃ x : c.Val, c.Good x ∧ Opens P w c x (cs.drop off) := by
 intro fs
 induction fs with
 | nil =>
  intro off c cs xs h hm hw hl
  simp only [afL, Option.some.injEq] at h
  subst h
  have : cs.drop off = [] := List.drop_eq_nil_of_le (by simp only [Ty.sz] at hl; omega)
  rw [this]
  exact ⟨(), True.intro, fun B w0 m H _ hr => ⟨m, Mp.le_refl m, hr, LR.nil⟩⟩
 | cons f fs ih =>
  intro off c cs xs h hm hw hl
  simp only [afL] at h
  split at h
  ·
   rename_i c1 r hc1 hr
   split at h
   ·
    rename_i hcond
    obtain ⟨hoff, hsz⟩ := hcond
    cases h
    simp only [List.mapM_cons] at hm
    cases h1 : DataW.trod enc P w 0 (fun _ => true) true fuel f.type ((cs.drop f.offset).take (P.cellsOf f.type)) with
    | none => simp [h1] at hm
    | some dp =>
     obtain ⟨d, p⟩ := dp
     cases h2 : (fs.mapM fun f => DataW.trod enc P w 0 (fun _ => true) true fuel f.type ((cs.drop f.offset).take (P.cellsOf f.type))) with
     | none => simp [h1, h2] at hm
     | some xs' =>
      simp [h1, h2] at hm
      subst hm
      simp only [List.map_cons, DataW.weightsEach, List.mem_append] at hw
      simp only [Ty.sz] at hl
      obtain ⟨x, hx1, hx2⟩ := hg _ _ hc1 fuel _ d p h1 (fun y hy => hw y (.inl hy))
      obtain ⟨y, hy1, hy2⟩ := ih (off + P.cellsOf f.type) r cs xs' hr h2 (fun y hy => hw y (.inr hy)) (by omega)
      refine ⟨(x, y), ⟨hx1, hy1⟩, fun B w0 m H hB hr => ?_⟩
      obtain ⟨m1, hm1, hr1, hl1⟩ := hx2 B w0 m H hB hr
      obtain ⟨m2, hm2, hr2, hl2⟩ := hy2 B w0 m1 _ hB hr1
      refine ⟨m2, Mp.le_trans hm1 hm2, hr2, ?_⟩
      have := (hl1.mono hm2).append hl2
      rw [hoff, ← List.drop_drop, List.take_append_drop] at this
      exact this
   ·
    cases h
  ·
   cases h
theorem V6 {c : Ty} {e : TypeId} {fuel : Nat} (hg : YZ P w enc e c) (hsz : P.cellsOf e = c.sz) : ∀ (n k : Nat) (cs : List Value) (ds : List (DataW X)),
  (∀ i, i < n → ∃ d p, ds[i]? = some d ∧ DataW.trod enc P w 0 (fun _ => true) true fuel e ((cs.drop ((k + i) * P.cellsOf e)).take (P.cellsOf e)) = some (d, p)) →
  (∀ d ∈ ds, ∀ y ∈ d.weights P e, y ≤ reachBytes) → cs.length = (k + n) * P.cellsOf e → ∃ x : (chain n c).Val, (chain n c).Good x ∧ Opens P w (chain n c) x (cs.drop (k * P.cellsOf e)) := by
 intro n
 induction n with
 | zero =>
  intro k cs ds h hw hl
  have : cs.drop (k * P.cellsOf e) = [] := List.drop_eq_nil_of_le (by rw [hl]; exact Nat.le_refl _)
  rw [this]
  exact ⟨(), True.intro, fun B w0 m H _ hr => ⟨m, Mp.le_refl m, hr, LR.nil⟩⟩
 | succ n ih =>
  intro k cs ds h hw hl
  obtain ⟨d, p, hd, ht⟩ := h 0 (by omega)
  rw [Nat.add_zero] at ht
  obtain ⟨x, hx1, hx2⟩ := hg fuel _ d p ht (hw d (List.mem_of_getElem? hd))
  obtain ⟨y, hy1, hy2⟩ := ih (k + 1) cs (ds.drop 1) (fun i hi => by
   obtain ⟨d', p', h1, h2⟩ := h (i + 1) (by omega)
   refine ⟨d', p', by rw [List.getElem?_drop, Nat.add_comm 1 i]; exact h1, ?_⟩
   rw [show k + 1 + i = k + (i + 1) by omega]; exact h2) (fun d hd => hw d (List.mem_of_mem_drop hd)) (by rw [hl]; congr 1; omega)
  refine ⟨(x, y), ⟨hx1, hy1⟩, fun B w0 m H hB hr => ?_⟩
  obtain ⟨m1, hm1, hr1, hl1⟩ := hx2 B w0 m H hB hr
  obtain ⟨m2, hm2, hr2, hl2⟩ := hy2 B w0 m1 _ hB hr1
  refine ⟨m2, Mp.le_trans hm1 hm2, hr2, ?_⟩
  have := (hl1.mono hm2).append hl2
  rw [show (k + 1) * P.cellsOf e = k * P.cellsOf e + P.cellsOf e by rw [Nat.add_mul, Nat.one_mul], ← List.drop_drop, List.take_append_drop] at this
  exact this
theorem trod_int {t : TypeId} {k : IntKind} {fuel : Nat} {cs : List Value} {d : DataW X} {ps : List MemPlace} (hu : P.underlying t = some (.int k)) (h : DataW.trod enc P w 0 (fun _ => true) true (fuel + 1) t cs = some (d, ps)) :
  ∃ n, cs = [.int k n] ∧ (Lit.int k n).wf = true := by
 simp only [DataW.trod, hu] at h
 split at h
 all_goals first
  | (cases h; done)
  | (rename_i hh; cases hh; done)
  | skip
 rename_i hh
 cases hh
 split at h
 ·
  rename_i hc; exact ⟨_, by rw [hc.1], hc.2⟩
 ·
  cases h
theorem trod_bool {t : TypeId} {fuel : Nat} {cs : List Value} {d : DataW X} {ps : List MemPlace} (hu : P.underlying t = some .bool) (h : DataW.trod enc P w 0 (fun _ => true) true (fuel + 1) t cs = some (d, ps)) :
  ∃ b, cs = [.bool b] := by
 simp only [DataW.trod, hu] at h
 split at h
 all_goals first
  | (cases h; done)
  | (rename_i hh; cases hh; done)
  | skip
 exact ⟨_, rfl⟩
theorem adh {t : TypeId} {fuel : Nat} {cs : List Value} {d : DataW X} {ps : List MemPlace} (hu : P.underlying t = some .string) (h : DataW.trod enc P w 0 (fun _ => true) true (fuel + 1) t cs = some (d, ps)) :
  ∃ s, cs = [.string s] ∧ d = .lit (.string s.data.toList) := by
 simp only [DataW.trod, hu] at h
 split at h
 all_goals first
  | (cases h; done)
  | (rename_i hh; cases hh; done)
  | skip
 split at h
 ·
  cases h; exact ⟨_, rfl, rfl⟩
 ·
  cases h
theorem trod_slice {t e : TypeId} {fuel : Nat} {cs : List Value} {d : DataW X} {ps : List MemPlace} (hu : P.underlying t = some (.slice e)) (h : DataW.trod enc P w 0 (fun _ => true) true (fuel + 1) t cs = some (d, ps)) :
  cs = [.slice none 0 0] ∨ ∃ a len cap, cs = [.slice (some a) len cap] := by
 simp only [DataW.trod, hu] at h
 split at h
 all_goals first
  | (cases h; done)
  | (rename_i hh; cases hh; done)
  | skip
 ·
  exact .inl rfl
 ·
  exact .inr ⟨_, _, _, rfl⟩
theorem trod_struct {t : TypeId} {fs : Array Field} {fuel : Nat} {cs : List Value} {d : DataW X} {ps : List MemPlace} (hu : P.underlying t = some (.struct fs)) (h : DataW.trod enc P w 0 (fun _ => true) true (fuel + 1) t cs = some (d, ps)) :
  cs.length = P.cellsOf t ∧ ∃ xs, (fs.toList.mapM fun f => DataW.trod enc P w 0 (fun _ => true) true fuel f.type ((cs.drop f.offset).take (P.cellsOf f.type))) = some xs ∧ d = .agg (xs.map (·.1)) := by
 simp only [DataW.trod, hu] at h
 split at h
 ·
  rename_i hl
  refine ⟨hl, ?_⟩
  rw [Option.map_eq_some_iff] at h
  obtain ⟨xs, hxs, he⟩ := h
  cases he
  exact ⟨xs, hxs, rfl⟩
 ·
  cases h
theorem trod_array {t e : TypeId} {k : Nat} {fuel : Nat} {cs : List Value} {d : DataW X} {ps : List MemPlace} (hu : P.underlying t = some (.array k e)) (h : DataW.trod enc P w 0 (fun _ => true) true (fuel + 1) t cs = some (d, ps)) :
  cs.length = P.cellsOf t ∧ ∃ xs, ((List.range k).mapM fun i => DataW.trod enc P w 0 (fun _ => true) true fuel e ((cs.drop (i * P.cellsOf e)).take (P.cellsOf e))) = some xs ∧ d = .agg (xs.map (·.1)) := by
 simp only [DataW.trod, hu] at h
 split at h
 ·
  rename_i hl
  refine ⟨hl, ?_⟩
  rw [Option.map_eq_some_iff] at h
  obtain ⟨xs, hxs, he⟩ := h
  cases he
  exact ⟨xs, hxs, rfl⟩
 ·
  cases h
theorem weightsAll_mem {e : TypeId} : ∀ (l : List (DataW X)) (d : DataW X), d ∈ l → ∀ y ∈ d.weights P e, y ∈ DataW.weightsAll P e l := by
 intro l
 induction l with
 | nil => intro d hd; cases hd
 | cons d0 l ihl =>
  intro d hd y hy
  simp only [DataW.weightsAll, List.mem_append]
  rcases List.mem_cons.1 hd with rfl | hd
  ·
   exact .inl hy
  ·
   exact .inr (ihl d hd y hy)
theorem ae9 : ∀ (n : Nat) (t : TypeId) (c : Ty), aeu P n t = some c → YZ P w enc t c := by
 intro n
 induction n with
 | zero => intro t c h; cases h
 | succ n ih =>
  intro t c h fuel cs d ps htr hw
  cases fuel with
  | zero => simp [DataW.trod] at htr
  | succ fuel =>
   simp only [aeu] at h
   split at h
   ·
    rename_i k hu
    cases h
    obtain ⟨n1, rfl, h1⟩ := trod_int hu htr
    exact ⟨n1, h1, fun B w0 m H _ hr => ⟨m, Mp.le_refl m, hr, LR.cons (.int _ _) LR.nil⟩⟩
   ·
    rename_i hu
    cases h
    obtain ⟨b1, rfl⟩ := trod_bool hu htr
    exact ⟨b1, True.intro, fun B w0 m H _ hr => ⟨m, Mp.le_refl m, hr, LR.cons (.bool _) LR.nil⟩⟩
   ·
    rename_i hu
    cases h
    obtain ⟨s1, rfl, rfl⟩ := adh hu htr
    refine ⟨s1, ?_, fun B w0 m H _ hr => ⟨m, Mp.le_refl m, hr, LR.cons (.string _) LR.nil⟩⟩
    have := hw s1.data.toList.length (by simp [DataW.weights])
    rw [Array.length_toList] at this
    exact this
   ·
    rename_i e hu
    split at h
    ·
     rename_i ce hce
     split at h
     ·
      rename_i hcond
      cases h
      rcases trod_slice hu htr with rfl | ⟨a, len, cap, rfl⟩
      ·
       exact ⟨none, True.intro, fun B w0 m H _ hr => ⟨m, Mp.le_refl m, hr, LR.cons .sliceNil LR.nil⟩⟩
      ·
       exact open_slice hu hcond.1 hcond.2 (fun cs d ps h hw => ih e ce hce fuel cs d ps h hw) htr hw
     ·
      cases h
    ·
     cases h
   ·
    rename_i fs hu
    split at h
    ·
     rename_i c1 hc1
     split at h
     ·
      rename_i hsz
      cases h
      obtain ⟨hl, xs, hxs, rfl⟩ := trod_struct hu htr
      have := Xp (fun t c h => ih t c h) fs.toList 0 c cs xs hc1 hxs (fun y hy => hw y (by simp only [DataW.weights, hu]; exact hy)) (by rw [hl, hsz]; omega)
      simpa using this
     ·
      cases h
    ·
     cases h
   ·
    rename_i k e hu
    split at h
    ·
     rename_i ce hce
     split at h
     ·
      rename_i hcond
      cases h
      obtain ⟨hl, xs, hxs, rfl⟩ := trod_array hu htr
      obtain ⟨hx1, hx2⟩ := vJ hxs
      have := V6 (ih e ce hce) hcond.1 k 0 cs (xs.map (·.1)) (fun i hi => by
       obtain ⟨b, hb, hf⟩ := hx2 i hi
       refine ⟨b.1, b.2, by simp [hb], ?_⟩
       rw [Nat.zero_add]; exact hf) (fun d hd y hy => hw y (by simp only [DataW.weights, hu]; exact weightsAll_mem _ d hd y hy)) (by rw [hl, hcond.2, hcond.1, Nat.zero_add])
      simpa using this
     ·
      cases h
    ·
     cases h
   ·
    cases h
end
end Go.Abs
namespace Go.Abs
open Go.RowKit
def WS (P : Program) (n : Nat) : List TypeId → Option (List (Bool × Ty))
 | [] => some []
 | t :: ts => match aeu P n t, WS P n ts with
  | some c, some cs => some ((match P.underlying t with | some (.struct _) => true | some (.array _ _) => true | _ => false, c) :: cs)
  | _, _ => none
def Args : List (Bool × Ty) → Type
 | [] => Unit
 | (_, c) :: l => c.Val × Args l
def Args.Good : (l : List (Bool × Ty)) → Args l → Prop
 | [], _ => True
 | (_, c) :: l, (x, xs) => c.Good x ∧ Args.Good l xs
def xK (b : Bool) (cs : List Value) : Value := if b then .agg cs.toArray else cs.headD undef
def Args.place : (l : List (Bool × Ty)) → Args l → zi → List Value × zi
 | [], _, H => ([], H)
 | (b, c) :: l, (x, xs), H => (xK b (c.place x H).1 :: (Args.place l xs (c.place x H).2).1, (Args.place l xs (c.place x H).2).2)
section
variable {P : Program} {b0 : Nat} {W : World} {X : Type} {enc : TypeId × Value → X}
theorem vS (l : List Value) : l.headD undef = l.getD 0 undef := by cases l <;> rfl
theorem ace {m : Mp} {b : Bool} {cs cs' : List Value} (h : LR m cs cs') : VR m (xK b cs) (xK b cs') := by
 unfold xK
 split
 ·
  exact .agg (by simp [h.1]) (fun i => by have := h.2 i; simpa [List.getD_eq_getElem?_getD, Array.getD_eq_getD_getElem?] using this)
 ·
  rw [vS, vS]; exact h.2 0
theorem KL {n : Nat} {t : TypeId} {c : Ty} {v : Value} (hc : aeu P n t = some c) (hv : Value.okWide P W .any b0 t v) {d : DataW X} {ps : List MemPlace} {fuel : Nat}
  (h : DataW.trod enc P W 0 (fun _ => true) true fuel t v.cells.toList = some (d, ps)) :
  v = xK (match P.underlying t with | some (.struct _) => true | some (.array _ _) => true | _ => false) v.cells.toList := by
 cases n with
 | zero => cases hc
 | succ n =>
  cases fuel with
  | zero => simp [DataW.trod] at h
  | succ fuel =>
  simp only [aeu] at hc
  split at hc
  ·
   rename_i k hu
   obtain ⟨n1, rfl⟩ := WideShapes.okWide_int hu hv
   simp [hu, xK, Value.cells]
  ·
   rename_i hu
   obtain ⟨b, rfl⟩ := WideShapes.okWide_bool hu hv
   simp [hu, xK, Value.cells]
  ·
   rename_i hu
   obtain ⟨s, rfl⟩ := WideShapes.okWide_string hu hv
   simp [hu, xK, Value.cells]
  ·
   rename_i e hu
   obtain ⟨a, len, cap, rfl⟩ := WideShapes.okWide_slice hu hv
   simp [hu, xK, Value.cells]
  ·
   rename_i fs hu
   simp only [Value.okWide, hu] at hv
   obtain ⟨cs, rfl, _⟩ := hv
   simp [hu, xK, Value.cells]
  ·
   rename_i k e hu
   simp only [Value.okWide, hu] at hv
   obtain ⟨cs, rfl, _⟩ := hv
   simp [hu, xK, Value.cells]
  ·
   cases hc
theorem aaj {n : Nat} : ∀ (ts : List TypeId) (cs : List (Bool × Ty)) (vs : List Value) (ds : List (DataW X)) (ps : List MemPlace), WS P n ts = some cs →
  DataW.TrodAll enc P W 0 (fun _ => true) true ts vs ds ps → (∀ (j : Nat) t v, ts[j]? = some t → vs[j]? = some v → Value.okWide P W .any b0 t v) →
  (∀ y ∈ DataW.weightsEach P ts ds, y ≤ reachBytes) →
  ∃ x : Args cs, Args.Good cs x ∧ ∀ (B : Nat) (w0 : World) (m : Mp) (H : zi), W.heap.size ≤ B → Rel B w0 m H W → ∃ m', m.le m' ∧ Rel B w0 m' (Args.place cs x H).2 W ∧ LR m' (Args.place cs x H).1 vs := by
 intro ts
 induction ts with
 | nil =>
  intro cs vs ds ps h hA hv hw
  simp only [WS, Option.some.injEq] at h
  subst h
  obtain ⟨rfl, rfl, rfl⟩ := ChangeShapes.trodAll_nil hA
  exact ⟨(), True.intro, fun B w0 m H _ hr => ⟨m, Mp.le_refl m, hr, LR.nil⟩⟩
 | cons t ts ih =>
  intro cs vs ds ps h hA hv hw
  simp only [WS] at h
  split at h
  ·
   rename_i c cs' hc hcs
   cases h
   obtain ⟨v, vs', d, ds', p, q, rfl, rfl, rfl, h1, h2⟩ := ChangeShapes.trodAll_cons hA
   simp only [DataW.weightsEach, List.mem_append] at hw
   obtain ⟨fuel, hf⟩ := h1
   have hv0 := hv 0 t v rfl rfl
   obtain ⟨x, hx1, hx2⟩ := ae9 n t c hc fuel _ d p hf (fun y hy => hw y (.inl hy))
   obtain ⟨xs, hy1, hy2⟩ := ih cs' vs' ds' q hcs h2 (fun j t' v' ht hv' => hv (j + 1) t' v' ht hv') (fun y hy => hw y (.inr hy))
   refine ⟨(x, xs), ⟨hx1, hy1⟩, fun B w0 m H hB hr => ?_⟩
   obtain ⟨m1, hm1, hr1, hl1⟩ := hx2 B w0 m H hB hr
   obtain ⟨m2, hm2, hr2, hl2⟩ := hy2 B w0 m1 _ hB hr1
   refine ⟨m2, Mp.le_trans hm1 hm2, hr2, LR.cons ?_ hl2⟩
   have := ace (b := (match P.underlying t with | some (.struct _) => true | some (.array _ _) => true | _ => false)) (hl1.mono hm2)
   rw [← KL hc hv0 hf] at this
   exact this
  ·
   cases h
theorem aav (W : World) : Rel W.heap.size W (fun _ => none) zi.empty W :=
 ⟨Below.refl _ _, Nat.le_refl _, fun r L o h => (by cases h), fun r L h => (by cases h), fun r L o h => (by cases h), fun r r' L L' o o' _ h => (by cases h), fun r _ => rfl⟩
theorem acT (hl : laidOutB P = true) {W' : World} (hb : Below W.heap.size W W') : ∀ (ts : List TypeId) (vs : List Value) (ds : List (DataW X)) (ps : List MemPlace),
  (ts.all fun t => P.readableRec t && decide (t < P.types.size)) = true →
  DataW.TrodAll enc P W 0 (fun _ => true) true ts vs ds ps → DataW.TrodAll enc P W' 0 (fun b => decide (b < W.heap.size)) true ts vs ds ps := by
 intro ts
 induction ts with
 | nil => intro vs ds ps _ h; obtain ⟨rfl, rfl, rfl⟩ := ChangeShapes.trodAll_nil h; exact rfl
 | cons t ts ih =>
  intro vs ds ps ht h
  obtain ⟨v, vs', d, ds', p, q, rfl, rfl, rfl, h1, h2⟩ := ChangeShapes.trodAll_cons h
  simp only [List.all_cons, Bool.and_eq_true, decide_eq_true_eq] at ht
  refine trodAll_cons_mk (Below.trod hl ht.1.1 ht.1.2 h1 hb ?_) (ih vs' ds' q (by simpa using ht.2) h2)
  obtain ⟨m, hm⟩ := h1
  exact DataW.trod_lt m _ _ _ hm
end
end Go.Abs
namespace Go.Abs
open Go.RowKit
open Classical
noncomputable def lim (P : Program) (g : FuncId) (args : List Value) : M Value := fun H =>
 if h : ∃ r, ∃ k0, ∀ k, k0 ≤ k → kV P k g args H = some r then some (Classical.choose h) else none
section
variable {P : Program}
theorem X9 {g : FuncId} {args : List Value} {H : zi} {r : Value × zi} (h : lim P g args H = some r) : ∃ k0, ∀ k, k0 ≤ k → kV P k g args H = some r := by
 unfold lim at h
 split at h
 ·
  rename_i hx
  have := Classical.choose_spec hx
  cases h
  exact this
 ·
  cases h
theorem afO {g : FuncId} {args : List Value} {H : zi} {r : Value × zi} (h : ∃ k0, ∀ k, k0 ≤ k → kV P k g args H = some r) : lim P g args H = some r := by
 have hx : ∃ r, ∃ k0, ∀ k, k0 ≤ k → kV P k g args H = some r := ⟨r, h⟩
 unfold lim
 rw [dif_pos hx]
 obtain ⟨k0, h0⟩ := h
 obtain ⟨k1, h1⟩ := Classical.choose_spec hx
 have e0 := h0 (max k0 k1) (Nat.le_max_left _ _)
 have e1 := h1 (max k0 k1) (Nat.le_max_right _ _)
 rw [e0] at e1
 exact e1.symm
theorem QL {T : List Value} {o : Oper} {H : zi} {r : Value × zi} (h : wC P (lim P) T o H = some r) : ∃ k0, ∀ k, k0 ≤ k → wC P (kV P k) T o H = some r := by
 unfold wC at h
 split at h
 ·
  rename_i hok
  split at h
  ·
   rename_i c hop
   split at h
   ·
    rename_i f hf
    split at h
    ·
     rename_i g first captured hev
     obtain ⟨k0, hk⟩ := X9 h
     refine ⟨k0, fun k hkk => ?_⟩
     unfold wC
     rw [if_pos hok]
     simp only [hop, hf, hev]
     exact hk k hkk
    ·
     cases h
   ·
    rename_i b hb
    refine ⟨0, fun k _ => ?_⟩
    unfold wC
    rw [if_pos hok]
    simp only [hop, hb]
    exact h
   ·
    cases h
  ·
   rename_i hop
   refine ⟨0, fun k _ => ?_⟩
   unfold wC
   rw [if_pos hok]
   split
   ·
    rename_i c hc; exact absurd hc (hop c)
   ·
    exact h
 ·
  cases h
theorem acQ {ops : Array Oper} : ∀ (l : List Oper) (T : List Value) (H : zi) (r : List Value × zi), KA P (lim P) ops l T H = some r → ∃ k0, ∀ k, k0 ≤ k → KA P (kV P k) ops l T H = some r := by
 intro l
 induction l with
 | nil => intro T H r h; exact ⟨0, fun k _ => h⟩
 | cons o l ih =>
  intro T H r h
  simp only [KA] at h
  split at h
  ·
   rename_i hw
   split at h
   ·
    rename_i v H' hs
    obtain ⟨k1, h1⟩ := QL hs
    obtain ⟨k2, h2⟩ := ih _ _ _ h
    refine ⟨max k1 k2, fun k hk => ?_⟩
    simp only [KA, hw, if_true, h1 k (by omega)]
    exact h2 k (by omega)
   ·
    cases h
  ·
   rename_i hw
   obtain ⟨k2, h2⟩ := ih _ _ _ h
   refine ⟨k2, fun k hk => ?_⟩
   simp only [KA, hw, if_false]
   exact h2 k hk
theorem VO {ops : Array Oper} : ∀ (l : List Oper) (T : List Value) (H : zi) (r), yL P (lim P) ops l T H = some r → ∃ k0, ∀ k, k0 ≤ k → yL P (kV P k) ops l T H = some r := by
 intro l
 induction l with
 | nil => intro T H r h; exact ⟨0, fun k _ => h⟩
 | cons o l ih =>
  intro T H r h
  simp only [yL] at h
  split at h
  ·
   rename_i hw
   split at h
   ·
    rename_i v H' hs
    split at h
    ·
     rename_i tr T2 H2 ht
     obtain ⟨k1, h1⟩ := QL hs
     obtain ⟨k2, h2⟩ := ih _ _ _ ht
     refine ⟨max k1 k2, fun k hk => ?_⟩
     simp only [yL, hw, if_true, h1 k (by omega), h2 k (by omega)]
     exact h
    ·
     cases h
   ·
    cases h
  ·
   rename_i hw
   split at h
   ·
    rename_i tr T2 H2 ht
    obtain ⟨k2, h2⟩ := ih _ _ _ ht
    refine ⟨k2, fun k hk => ?_⟩
    simp only [yL, hw, if_false, h2 k hk]
    exact h
   ·
    cases h
theorem VQ {ops : Array Oper} {T : List Value} {H : zi} {r : List Value × zi} (h : xB P (lim P) ops T H = some r) : ∃ k0, ∀ k, k0 ≤ k → xB P (kV P k) ops T H = some r := by
 unfold xB at h
 split at h
 ·
  rename_i hd
  split at h
  ·
   rename_i tr T' H' ht
   obtain ⟨k0, h0⟩ := VO _ _ _ _ ht
   refine ⟨k0, fun k hk => ?_⟩
   unfold xB
   rw [if_pos hd]
   simp only [h0 k hk]
   exact h
  ·
   cases h
 ·
  cases h
theorem VH {f : List Value → zi → St} : ∀ (n : Nat) (T : List Value) (H : zi) (r), yC n f T H = some r → yC (n + 1) f T H = some r := by
 intro n
 induction n with
 | zero => intro T H r h; cases h
 | succ n ih =>
  intro T H r h
  simp only [yC] at h
  split at h
  ·
   rename_i T1 H1 hf
   have := ih _ _ _ h
   rw [yC]
   simp only [hf]
   exact this
  ·
   rename_i hne
   rw [yC]
   split
   ·
    rename_i T1 H1 hf; exact absurd hf (hne T1 H1)
   ·
    exact h
theorem Qh {f : List Value → zi → St} {n k : Nat} (hk : n ≤ k) {T : List Value} {H : zi} {r} (h : yC n f T H = some r) : yC k f T H = some r := by
 induction hk with
 | refl => exact h
 | step _ ih => exact VH _ _ _ _ ih
noncomputable def wQ (f : List Value → zi → St) (T : List Value) (H : zi) : St :=
 if h : ∃ r, ∃ n, yC n f T H = some r then some (Classical.choose h) else none
theorem vV {f : List Value → zi → St} {T : List Value} {H : zi} {r} (h : wQ f T H = some r) : ∃ n, yC n f T H = some r := by
 unfold wQ at h
 split at h
 ·
  rename_i hx
  have := Classical.choose_spec hx
  cases h
  exact this
 ·
  cases h
theorem Yz {f : List Value → zi → St} {T : List Value} {H : zi} {r} {n : Nat} (h : yC n f T H = some r) : wQ f T H = some r := by
 have hx : ∃ r, ∃ n, yC n f T H = some r := ⟨r, n, h⟩
 unfold wQ
 rw [dif_pos hx]
 obtain ⟨k, hk⟩ := Classical.choose_spec hx
 have e0 := Qh (Nat.le_max_left n k) h
 have e1 := Qh (Nat.le_max_right n k) hk
 rw [e0] at e1
 exact e1.symm
theorem jY {f : List Value → zi → St} {T : List Value} {H : zi} {T1 : List Value} {H1 : zi} (h : f T H = some (.normal, T1, H1)) : wQ f T H = wQ f T1 H1 := by
 cases h1 : wQ f T1 H1 with
 | some r =>
  obtain ⟨n, hn⟩ := vV h1
  exact Yz (n := n + 1) (by simp only [yC, h]; exact hn)
 | none =>
  cases h0 : wQ f T H with
  | none => rfl
  | some r =>
   obtain ⟨n, hn⟩ := vV h0
   cases n with
   | zero => cases hn
   | succ n =>
    simp only [yC, h] at hn
    rw [Yz hn] at h1
    cases h1
theorem jq {f : List Value → zi → St} {T : List Value} {H : zi} {e : AEx} {T1 : List Value} {H1 : zi} (h : f T H = some (e, T1, H1)) (he : e ≠ .normal) : wQ f T H = some (e, T1, H1) := by
 refine Yz (n := 1) ?_
 simp only [yC, h]
 cases e <;> first | rfl | exact absurd rfl he
noncomputable def wJ (P : Program) : Code → List Value → zi → St
 | .skip, T, H => some (.normal, T, H)
 | .region _ ops false, T, H => match KA P (lim P) ops ops.toList T H with
  | some (T1, H1) => some (.normal, T1, H1)
  | none => none
 | .region _ ops true, T, H => match xB P (lim P) ops T H with
  | some (T1, H1) => some (.normal, T1, H1)
  | none => none
 | .seq x y, T, H => match wJ P x T H with
  | some (.normal, T1, H1) => wJ P y T1 H1
  | r => r
 | .cond c x y, T, H => if yO c then
   match je T c with
   | .bool true => wJ P x T H
   | .bool false => wJ P y T H
   | _ => none
  else none
 | .block id c, T, H => match wJ P c T H with
  | some (.exit id', T1, H1) => if id' = id then some (.normal, T1, H1) else some (.exit id', T1, H1)
  | r => r
 | .loop c, T, H => wQ (wJ P c) T H
 | .exit id, T, H => some (.exit id, T, H)
 | .ret, T, H => some (.ret, T, H)
 | _, _, _ => none
theorem aaY : ∀ (c : Code) (T : List Value) (H : zi) (r), wJ P c T H = some r → ∃ k0, ∀ k fuel, k0 ≤ k → k0 ≤ fuel → yR P (kV P k) fuel c T H = some r := by
 intro c
 induction c with
 | skip => intro T H r h; exact ⟨0, fun k fuel _ _ => h⟩
 | region i ops d =>
  intro T H r h
  cases d with
  | false =>
   simp only [wJ] at h
   split at h
   ·
    rename_i T1 H1 ho
    obtain ⟨k0, h0⟩ := acQ _ _ _ _ ho
    exact ⟨k0, fun k fuel hk _ => by simp only [yR, h0 k hk]; exact h⟩
   ·
    cases h
  | true =>
   simp only [wJ] at h
   split at h
   ·
    rename_i T1 H1 ho
    obtain ⟨k0, h0⟩ := VQ ho
    exact ⟨k0, fun k fuel hk _ => by simp only [yR, h0 k hk]; exact h⟩
   ·
    cases h
 | seq x y ihx ihy =>
  intro T H r h
  simp only [wJ] at h
  split at h
  ·
   rename_i T1 H1 hx
   obtain ⟨k1, h1⟩ := ihx _ _ _ hx
   obtain ⟨k2, h2⟩ := ihy _ _ _ h
   exact ⟨max k1 k2, fun k fuel hk hf => by simp only [yR, h1 k fuel (by omega) (by omega)]; exact h2 k fuel (by omega) (by omega)⟩
  ·
   rename_i hne
   obtain ⟨k1, h1⟩ := ihx _ _ _ h
   refine ⟨k1, fun k fuel hk hf => ?_⟩
   simp only [yR, h1 k fuel hk hf]
   split
   ·
    rename_i T1 H1 he; exact absurd (h.trans he) (hne T1 H1)
   ·
    rfl
 | cond c x y ihx ihy =>
  intro T H r h
  simp only [wJ] at h
  split at h
  ·
   rename_i hok
   split at h
   ·
    rename_i hb
    obtain ⟨k1, h1⟩ := ihx _ _ _ h
    exact ⟨k1, fun k fuel hk hf => by simp only [yR, hok, if_true, hb]; exact h1 k fuel hk hf⟩
   ·
    rename_i hb
    obtain ⟨k1, h1⟩ := ihy _ _ _ h
    exact ⟨k1, fun k fuel hk hf => by simp only [yR, hok, if_true, hb]; exact h1 k fuel hk hf⟩
   ·
    cases h
  ·
   cases h
 | block id c ih =>
  intro T H r h
  simp only [wJ] at h
  split at h
  ·
   rename_i id' T1 H1 hc
   obtain ⟨k1, h1⟩ := ih _ _ _ hc
   exact ⟨k1, fun k fuel hk hf => by simp only [yR, h1 k fuel hk hf]; exact h⟩
  ·
   rename_i hne
   obtain ⟨k1, h1⟩ := ih _ _ _ h
   refine ⟨k1, fun k fuel hk hf => ?_⟩
   simp only [yR, h1 k fuel hk hf]
   split
   ·
    rename_i id' T1 H1 he; exact absurd (h.trans he) (hne id' T1 H1)
   ·
    rfl
 | loop c ih =>
  intro T H r h
  simp only [wJ] at h
  obtain ⟨n, hn⟩ := vV h
  have key : ∀ (n : Nat) (T : List Value) (H : zi), yC n (wJ P c) T H = some r → ∃ k0, ∀ k fuel, k0 ≤ k → k0 ≤ fuel → ∀ j, n ≤ j → yC j (yR P (kV P k) fuel c) T H = some r := by
   intro n
   induction n with
   | zero => intro T H h; cases h
   | succ n ihn =>
    intro T H h
    simp only [yC] at h
    split at h
    ·
     rename_i T1 H1 hf
     obtain ⟨k1, h1⟩ := ih _ _ _ hf
     obtain ⟨k2, h2⟩ := ihn _ _ h
     refine ⟨max k1 k2, fun k fuel hk hfu j hj => ?_⟩
     obtain ⟨j, rfl⟩ : ∃ i, j = i + 1 := ⟨j - 1, by omega⟩
     simp only [yC, h1 k fuel (by omega) (by omega)]
     exact h2 k fuel (by omega) (by omega) j (by omega)
    ·
     rename_i hne
     obtain ⟨k1, h1⟩ := ih _ _ _ h
     refine ⟨k1, fun k fuel hk hfu j hj => ?_⟩
     obtain ⟨j, rfl⟩ : ∃ i, j = i + 1 := ⟨j - 1, by omega⟩
     simp only [yC, h1 k fuel hk hfu]
     split
     ·
      rename_i T1 H1 he; exact absurd (h.trans he) (hne T1 H1)
     ·
      rfl
  obtain ⟨k0, h0⟩ := key n T H hn
  exact ⟨max k0 n, fun k fuel hk hf => by simp only [yR]; exact h0 k fuel (by omega) (by omega) fuel (by omega)⟩
 | exit id => intro T H r h; exact ⟨0, fun k fuel _ _ => h⟩
 | ret => intro T H r h; exact ⟨0, fun k fuel _ _ => h⟩
 | _ => intro T H r h; simp only [wJ] at h; cases h
theorem ac8 {f : FuncId} {fn : Func} {c : Code} {args : List Value} {H H1 H' : zi} {e : AEx} {T : List Value} {v : Value} (hf : P.funcs[f]? = some fn) (hn : fn.name ≠ "runtime.NumGoroutine") (hb : fn.body = some c)
  (h : wJ P c (args ++ List.replicate (fn.ntmps - args.length) undef) H = some (e, T, H1)) (he : e = .normal ∨ e = .ret) (hres : adH P fn T H1 = some (v, H')) : lim P f args H = some (v, H') := by
 obtain ⟨k0, h0⟩ := aaY _ _ _ _ h
 refine afO ⟨k0 + 1, fun k hk => ?_⟩
 obtain ⟨k, rfl⟩ : ∃ i, k = i + 1 := ⟨k - 1, by omega⟩
 simp only [kV, hf, if_neg hn, hb, h0 k k (by omega) (by omega)]
 rcases he with rfl | rfl <;> exact hres
theorem VG {f : FuncId} {args : List Value} {H H' : zi} (h : lim P f args H = some (.bool true, H')) : ∃ k, (kV P k f args H).map (·.1) = some (.bool true) := by
 obtain ⟨k, hk⟩ := X9 h
 exact ⟨k, by rw [hk k (Nat.le_refl k)]; rfl⟩
end
end Go.Abs
namespace Go.Abs
open Go.RowKit
def regs : Code → List (Nat × Array Oper)
 | .region i ops _ => [(i, ops)]
 | .seq x y => regs x ++ regs y
 | .cond _ x y => regs x ++ regs y
 | .block _ c => regs c
 | .loop c => regs c
 | _ => []
def reg (f : Func) (i : Nat) : Array Oper :=
 match f.body with
 | some c => match (regs c).find? (fun p => Nat.beq p.1 i) with
  | some p => p.2
  | none => #[]
 | none => #[]
section
variable {R : Type} {P : Program}
def andThen (s : Option (Value × zi)) (K : Value → zi → Option R) : Option R :=
 match s with
 | some (v, H) => K v H
 | none => none
@[simp] theorem Jb (v : Value) (H : zi) (K : Value → zi → Option R) : andThen (some (v, H)) K = K v H := Eq.trans rfl rfl
def vb (v : Value) : Option Bool :=
 match v with
 | .bool b => some b
 | _ => none
def gd (v : Value) (b : Bool) (s : M Value) (H : zi) (K : Value → zi → Option R) : Option R :=
 if (vb v == some b) = true then andThen (s H) K else K undef H
@[simp] theorem afy (s : M Value) (H : zi) (K : Value → zi → Option R) : gd (.bool true) true s H K = andThen (s H) K := Eq.trans rfl rfl
@[simp] theorem afV (s : M Value) (H : zi) (K : Value → zi → Option R) : gd (.bool false) false s H K = andThen (s H) K := Eq.trans rfl rfl
@[simp] theorem afR (s : M Value) (H : zi) (K : Value → zi → Option R) : gd (.bool true) false s H K = K undef H := Eq.trans rfl rfl
@[simp] theorem af0 (s : M Value) (H : zi) (K : Value → zi → Option R) : gd (.bool false) true s H K = K undef H := Eq.trans rfl rfl
@[simp] theorem afE (s : M Value) (b : Bool) (H : zi) (K : Value → zi → Option R) : gd undef b s H K = K undef H := Eq.trans rfl rfl
@[simp] theorem abP {α : Type} (a : α) (H : zi) : ret a H = some (a, H) := Eq.trans rfl rfl
theorem wV (T : List Value) (n : Nat) (h : T.length = n) : T = (List.range n).map (T.getD · undef) := by
 apply List.ext_getElem
 ·
  simp [h]
 ·
  intro i h1 h2
  simp [List.getElem?_eq_getElem h1]
def opAt (f : Func) (i k : Nat) : Oper := (reg f i).toList.getD k default
def WW (s : Option (List Value × zi)) : St :=
 match s with
 | some (T, H) => some (.normal, T, H)
 | none => none
def agd (s : St) (f : List Value → zi → St) : St :=
 match s with
 | some (.normal, T, H) => f T H
 | r => r
def QU (id : Nat) (s : St) : St :=
 match s with
 | some (.exit id', T, H) => if id' = id then some (.normal, T, H) else some (.exit id', T, H)
 | r => r
def acJ (v : Value) (s1 s2 : St) : St :=
 match v with
 | .bool true => s1
 | .bool false => s2
 | _ => none
@[simp] theorem Qo (T : List Value) (H : zi) : WW (some (T, H)) = some (.normal, T, H) := Eq.trans rfl rfl
@[simp] theorem Wl (T : List Value) (H : zi) (f : List Value → zi → St) : agd (some (.normal, T, H)) f = f T H := Eq.trans rfl rfl
@[simp] theorem Ko (i : Nat) (T : List Value) (H : zi) (f : List Value → zi → St) : agd (some (.exit i, T, H)) f = some (.exit i, T, H) := Eq.trans rfl rfl
@[simp] theorem Vb (T : List Value) (H : zi) (f : List Value → zi → St) : agd (some (.ret, T, H)) f = some (.ret, T, H) := Eq.trans rfl rfl
@[simp] theorem Zn (i : Nat) (T : List Value) (H : zi) : QU i (some (.normal, T, H)) = some (.normal, T, H) := Eq.trans rfl rfl
@[simp] theorem Ye (i : Nat) (T : List Value) (H : zi) : QU i (some (.ret, T, H)) = some (.ret, T, H) := Eq.trans rfl rfl
@[simp] theorem JX (i j : Nat) (T : List Value) (H : zi) : QU i (some (.exit j, T, H)) = if j = i then some (.normal, T, H) else some (.exit j, T, H) := Eq.trans rfl rfl
@[simp] theorem afs (s1 s2 : St) : acJ (.bool true) s1 s2 = s1 := Eq.trans rfl rfl
@[simp] theorem aeA (s1 s2 : St) : acJ (.bool false) s1 s2 = s2 := Eq.trans rfl rfl
@[simp] theorem afu (T : List Value) (H : zi) : wJ P .skip T H = some (.normal, T, H) := Eq.trans rfl rfl
@[simp] theorem afU (T : List Value) (H : zi) : wJ P .ret T H = some (.ret, T, H) := Eq.trans rfl rfl
@[simp] theorem afm (i : Nat) (T : List Value) (H : zi) : wJ P (.exit i) T H = some (.exit i, T, H) := Eq.trans rfl rfl
@[simp] theorem aee (i : Nat) (ops : Array Oper) (T : List Value) (H : zi) : wJ P (.region i ops false) T H = WW (KA P (lim P) ops ops.toList T H) := Eq.trans rfl rfl
@[simp] theorem aeT (i : Nat) (ops : Array Oper) (T : List Value) (H : zi) : wJ P (.region i ops true) T H = WW (xB P (lim P) ops T H) := Eq.trans rfl rfl
@[simp] theorem afK (x y : Code) (T : List Value) (H : zi) : wJ P (.seq x y) T H = agd (wJ P x T H) (wJ P y) := Eq.trans rfl rfl
@[simp] theorem ae2 (i : Nat) (c : Code) (T : List Value) (H : zi) : wJ P (.block i c) T H = QU i (wJ P c T H) := Eq.trans rfl rfl
@[simp] theorem afq (c : Code) (T : List Value) (H : zi) : wJ P (.loop c) T H = wQ (wJ P c) T H := Eq.trans rfl rfl
@[simp] theorem afr (t : Tmp) (x y : Code) (T : List Value) (H : zi) : wJ P (.cond (.tmp t) x y) T H = acJ (T.getD t undef) (wJ P x T H) (wJ P y T H) := by
 simp only [wJ, yO, if_true, je]
 rfl
end
end Go.Abs
namespace Go.Abs
open Go.RowKit
section
variable {P : Program} {t : TypeId} {H : zi}
theorem jC {args : List Value} {s : Sem Value} {v : Value} (ha : args.all ground = true) (hs : yc P s = some v) (hv : ground v = true) : jS P args s H = some (v, H) := by
 unfold jS
 rw [if_pos ha, hs]
 simp only [hv, if_true]
@[simp] theorem YW (k : IntKind) (a b : Int) : xI P .add t (.int k a) (.int k b) H = some (.int k (k.wrap (a + b)), H) :=
 jC rfl (by simp [binOp, Op.intArith, jD]) rfl
@[simp] theorem Yt (k : IntKind) (a b : Int) : xI P .sub t (.int k a) (.int k b) H = some (.int k (k.wrap (a - b)), H) :=
 jC rfl (by simp [binOp, Op.intArith, jD]) rfl
@[simp] theorem XQ (k : IntKind) (a b : Int) : xI P .mul t (.int k a) (.int k b) H = some (.int k (k.wrap (a * b)), H) :=
 jC rfl (by simp [binOp, Op.intArith, jD]) rfl
theorem acD (k : IntKind) (a b : Int) (h : b ≠ 0) : xI P .quo t (.int k a) (.int k b) H = some (.int k (k.wrap (a.tdiv b)), H) :=
 jC rfl (by simp [binOp, Op.intDiv, h, jD]) rfl
theorem XW (k : IntKind) (a b : Int) (h : b ≠ 0) : xI P .rem t (.int k a) (.int k b) H = some (.int k (a.tmod b), H) :=
 jC rfl (by simp [binOp, Op.intDiv, h, jD]) rfl
def agh (k : IntKind) (a b : Int) : Int := k.wrap (BitVec.ofInt k.bits a &&& BitVec.ofInt k.bits b).toNat
def orI (k : IntKind) (a b : Int) : Int := k.wrap (BitVec.ofInt k.bits a ||| BitVec.ofInt k.bits b).toNat
def agx (k : IntKind) (a b : Int) : Int := k.wrap (BitVec.ofInt k.bits a ^^^ BitVec.ofInt k.bits b).toNat
@[simp] theorem adL (k : IntKind) (a b : Int) : xI P .and t (.int k a) (.int k b) H = some (.int k (agh k a b), H) :=
 jC rfl (by simp [binOp, Op.intBits, jD, agh]) rfl
@[simp] theorem aa1 (k : IntKind) (a b : Int) : xI P .or t (.int k a) (.int k b) H = some (.int k (orI k a b), H) :=
 jC rfl (by simp [binOp, Op.intBits, jD, orI]) rfl
@[simp] theorem agf (k : IntKind) (a b : Int) : xI P .xor t (.int k a) (.int k b) H = some (.int k (agx k a b), H) :=
 jC rfl (by simp [binOp, Op.intBits, jD, agx]) rfl
@[simp] theorem Qd (k : IntKind) (a b : Int) : xI P .eql t (.int k a) (.int k b) H = some (.bool (decide (a = b)), H) :=
 jC rfl (by simp [binOp, Op.intCmp, jD]; exact Bool.eq_iff_iff.2 (by simp)) rfl
@[simp] theorem YB (k : IntKind) (a b : Int) : xI P .neq t (.int k a) (.int k b) H = some (.bool (!decide (a = b)), H) :=
 jC rfl (by simp [binOp, Op.intCmp, jD, bne]; exact Bool.eq_iff_iff.2 (by simp)) rfl
@[simp] theorem YL (k : IntKind) (a b : Int) : xI P .lss t (.int k a) (.int k b) H = some (.bool (decide (a < b)), H) :=
 jC rfl (by simp [binOp, Op.intCmp, jD]) rfl
@[simp] theorem Qc (k : IntKind) (a b : Int) : xI P .leq t (.int k a) (.int k b) H = some (.bool (decide (a ≤ b)), H) :=
 jC rfl (by simp [binOp, Op.intCmp, jD]) rfl
@[simp] theorem Y3 (k : IntKind) (a b : Int) : xI P .gtr t (.int k a) (.int k b) H = some (.bool (decide (b < a)), H) :=
 jC rfl (by simp [binOp, Op.intCmp, jD]) rfl
@[simp] theorem Qe (k : IntKind) (a b : Int) : xI P .geq t (.int k a) (.int k b) H = some (.bool (decide (b ≤ a)), H) :=
 jC rfl (by simp [binOp, Op.intCmp, jD]) rfl
theorem acH (k k' : IntKind) (a b : Int) (h : 0 ≤ b) : xI P .shl t (.int k a) (.int k' b) H = some (.int k (k.wrap (a * 2 ^ (min b.toNat k.bits))), H) :=
 jC rfl (by simp [binOp, Op.shift, Int.not_lt.2 h, jD]) rfl
theorem acR (k k' : IntKind) (a b : Int) (h : 0 ≤ b) : xI P .shr t (.int k a) (.int k' b) H = some (.int k (a.fdiv (2 ^ (min b.toNat k.bits))), H) :=
 jC rfl (by simp [binOp, Op.shift, Int.not_lt.2 h, jD]) rfl
@[simp] theorem Vt (a b : ByteArray) : xI P .eql t (.string a) (.string b) H = some (.bool (decide (a.data.toList = b.data.toList)), H) := Eq.trans rfl rfl
@[simp] theorem V8 (a b : ByteArray) : xI P .neq t (.string a) (.string b) H = some (.bool (!decide (a.data.toList = b.data.toList)), H) := Eq.trans rfl rfl
@[simp] theorem afp (b : Bool) (x y : Value) : Q9 (.bool b) x y H = some (if b then x else y, H) := Eq.trans rfl rfl
@[simp] theorem acn (b : Bool) : aUn P .not (.bool b) H = some (.bool (!b), H) :=
 jC rfl (by simp [Op.unary, jD]) rfl
theorem kL {t : TypeId} {d : TypeDesc} (h : P.underlying t = some d) : yc P (underlying t) = some d := by
 unfold underlying
 rw [xO, show yc P program = some P from rfl, Option.bind_some, h]
 rfl
theorem ZA {src dst : TypeId} {d : TypeDesc} {k : IntKind} (hs : P.underlying src = some d) (hd : P.underlying dst = some (.int k)) (k' : IntKind) (n : Int) : wB P src dst (.int k' n) H = some (.int k (k.wrap n), H) := by
 refine jC rfl ?_ rfl
 rw [convert, xO, kL hs, Option.bind_some, xO, kL hd, Option.bind_some]
 rfl
def Keeps (b : Nat) (H H' : zi) : Prop := H.next ≤ H'.next ∧ ∀ r, r < b → H'.get r = H.get r
theorem Keeps.refl (b : Nat) (H : zi) : Keeps b H H := ⟨Nat.le_refl _, fun _ _ => rfl⟩
theorem Keeps.trans {b : Nat} {H1 H2 H3 : zi} (h : Keeps b H1 H2) (k : Keeps b H2 H3) : Keeps b H1 H3 := ⟨Nat.le_trans h.1 k.1, fun r hr => (k.2 r hr).trans (h.2 r hr)⟩
theorem Keeps.mono {b c : Nat} {H H' : zi} (h : Keeps b H H') (hc : c ≤ b) : Keeps c H H' := ⟨h.1, fun r hr => h.2 r (Nat.lt_of_lt_of_le hr hc)⟩
theorem Keeps.push {b : Nat} {H : zi} (o : yG) (hb : b ≤ H.next) : Keeps b H (H.push o) :=
 ⟨by simp, fun r hr => by rw [zi.jm, if_neg (by omega)]⟩
theorem Keeps.set {b : Nat} {H : zi} {r : Nat} (o : yG) (hr : b ≤ r) : Keeps b H (H.set r o) :=
 ⟨by simp, fun k hk => by rw [zi.jF, if_neg (by omega)]⟩
def Sl (H : zi) (esz n : Nat) (l : List Value) (v : Value) : Prop :=
 l.length = n * esz ∧ ((v = .slice none 0 0 ∧ n = 0) ∨ (v = .slice (some ⟨0, 0, some 0⟩) 0 0 ∧ n = 0) ∨
  ∃ r o cs own, v = .slice (some ⟨r, o, none⟩) n n ∧ r < H.next ∧ H.get r = some (.cells cs own esz) ∧ o + n * esz ≤ cs.length ∧ (cs.drop o).take (n * esz) = l)
def So (b : Nat) (H : zi) (esz n : Nat) (l : List Value) (v : Value) : Prop :=
 l.length = n * esz ∧ ((v = .slice none 0 0 ∧ n = 0) ∨
  ∃ r anc, v = .slice (some ⟨r, 0, none⟩) n n ∧ b ≤ r ∧ r < H.next ∧ H.get r = some (.cells l (.own anc) esz))
theorem So.sl {b : Nat} {H : zi} {esz n : Nat} {l : List Value} {v : Value} (h : So b H esz n l v) : Sl H esz n l v := by
 obtain ⟨hl, h⟩ := h
 refine ⟨hl, ?_⟩
 rcases h with h | ⟨r, anc, hv, _, hr, hg⟩
 ·
  exact .inl h
 ·
  exact .inr (.inr ⟨r, 0, l, .own anc, hv, hr, hg, by omega, by rw [List.drop_zero, ← hl, List.take_length]⟩)
theorem So.nil (b : Nat) (H : zi) (esz : Nat) : So b H esz 0 [] (.slice none 0 0) := ⟨by simp, .inl ⟨rfl, rfl⟩⟩
end
end Go.Abs
namespace Go.Abs
open Go.RowKit
def bc (l : List UInt8) : List Value := l.map fun b => .int .u8 b.toNat
@[simp] theorem afN (l : List UInt8) : (bc l).length = l.length := by simp [bc]
@[simp] theorem agz : bc [] = [] := rfl
@[simp] theorem af2 (a b : List UInt8) : bc (a ++ b) = bc a ++ bc b := by simp [bc]
def Sb (H : zi) (l : List UInt8) (v : Value) : Prop := Sl H 1 l.length (bc l) v
def Sob (b : Nat) (H : zi) (l : List UInt8) (v : Value) : Prop := So b H 1 l.length (bc l) v
theorem Sob.sb {b : Nat} {H : zi} {l : List UInt8} {v : Value} (h : Sob b H l v) : Sb H l v := So.sl h
theorem Sob.nil (b : Nat) (H : zi) : Sob b H [] (.slice none 0 0) := So.nil b H 1
section
variable {P : Program} {t : TypeId} {H : zi}
theorem Sob.push (l : List UInt8) {n : Nat} (hn : l.length = n) : Sob H.next (H.push (.cells (bc l) (.own []) 1)) l (.slice (some ⟨H.next, 0, none⟩) n n) := by
 subst hn
 exact ⟨by simp, .inr ⟨H.next, [], rfl, Nat.le_refl _, by simp, by rw [zi.jm, if_pos rfl]⟩⟩
end
end Go.Abs
namespace Go.Abs
open Go.RowKit
abbrev Y5 := List Value × zi × Value
def need (P : Program) (ops : Array Oper) : List (Nat × Nat) :=
 (List.range ops.toList.length).flatMap fun i => (List.range ops.toList.length).filterMap fun j => match ops.toList[i]?, ops.toList[j]? with
  | some oi, some oj => if !xM P oi && xM P oj && !(pre (masks ops.toList []) i j || pre (masks ops.toList []) j i) then some (i, j) else none
  | _, _ => none
def Jz (P : Program) (ops : Array Oper) (tr : List Y5) (Hs : List zi) (i j : Nat) : Bool :=
 match ops.toList[i]?, tr[i]?, Hs[if j < i then j else j + 1]? with
 | some o, some (T, _, v), some G => !Region.wanted o (ynd ops T) || recheck P T o v G
 | _, _, _ => false
section
variable {P : Program} {call : FuncId → List Value → M Value} {ops : Array Oper}
theorem YP : ∀ (l : List Oper) (T : List Value) (H : zi) (tr : List Y5) (T' : List Value) (H' : zi), yL P call ops l T H = some (tr, T', H') → tr.length = l.length := by
 intro l
 induction l with
 | nil => intro T H tr T' H' h; simp only [yL, Option.some.injEq, Prod.mk.injEq] at h; rw [← h.1]; rfl
 | cons o l ih =>
  intro T H tr T' H' h
  simp only [yL] at h
  split at h
  ·
   split at h
   ·
    split at h
    ·
     rename_i ht
     simp only [Option.some.injEq, Prod.mk.injEq] at h
     rw [← h.1, List.length_cons, List.length_cons, ih _ _ _ _ _ ht]
    ·
     cases h
   ·
    cases h
  ·
   split at h
   ·
    rename_i ht
    simp only [Option.some.injEq, Prod.mk.injEq] at h
    rw [← h.1, List.length_cons, List.length_cons, ih _ _ _ _ _ ht]
   ·
    cases h
theorem acL {T T' : List Value} {H H' : zi} {tr : List Y5} (hd : QF P ops = true) (ht : yL P call ops ops.toList T H = some (tr, T', H'))
  (hn : ∀ p ∈ need P ops, Jz P ops tr (tr.map (·.2.1) ++ [H']) p.1 p.2 = true) : xB P call ops T H = some (T', H') := by
 unfold xB
 rw [if_pos hd, ht]
 dsimp only
 rw [if_pos]
 rw [List.all_eq_true]
 intro i hi
 have hi' : i < ops.toList.length := List.mem_range.1 hi
 have hlen := YP _ _ _ _ _ _ ht
 have ho : ops.toList[i]? = some ops.toList[i] := List.getElem?_eq_getElem hi'
 have htr : tr[i]? = some tr[i] := List.getElem?_eq_getElem (by omega)
 unfold aa3
 rw [ho, htr]
 dsimp only
 split
 ·
  rfl
 ·
  rename_i hc
  rw [List.all_eq_true]
  intro j hj
  have hj' : j < ops.toList.length := List.mem_range.1 hj
  have hoj : ops.toList[j]? = some ops.toList[j] := List.getElem?_eq_getElem hj'
  rw [hoj]
  dsimp only
  split
  ·
   rename_i hcond
   simp only [Bool.or_eq_true, Bool.not_eq_true', not_or, Bool.not_eq_true, Bool.not_eq_false] at hc
   have hmem : (i, j) ∈ need P ops := by
    unfold need
    rw [List.mem_flatMap]
    refine ⟨i, hi, List.mem_filterMap.2 ⟨j, hj, ?_⟩⟩
    rw [ho, hoj]
    dsimp only
    rw [if_pos]
    simp only [hc.1, Bool.not_false, Bool.true_and]
    exact hcond
   have := hn _ hmem
   unfold Jz at this
   rw [ho, htr] at this
   dsimp only at this
   cases hG : (tr.map (·.2.1) ++ [H'])[if j < i then j else j + 1]? with
   | none => rw [hG] at this; cases this
   | some G =>
    rw [hG] at this
    dsimp only at this ⊢
    rw [hc.2] at this
    simpa using this
  ·
   rfl
def gst (g : Value) (b : Bool) (s : M Value) (H : zi) : Option (Value × zi) := if (vb g == some b) = true then s H else some (undef, H)
@[simp] theorem agB (s : M Value) (H : zi) : gst (.bool true) true s H = s H := rfl
@[simp] theorem agw (s : M Value) (H : zi) : gst (.bool false) false s H = s H := rfl
@[simp] theorem agv (s : M Value) (H : zi) : gst (.bool true) false s H = some (undef, H) := rfl
@[simp] theorem agE (s : M Value) (H : zi) : gst (.bool false) true s H = some (undef, H) := rfl
def xJ (s : M Value) : Prop := ∃ o : Option Value, ∀ H, s H = o.map fun v => (v, H)
theorem xJ.at {s : M Value} (hs : xJ s) {H H1 G : zi} {v : Value} (h : s H = some (v, H1)) : ∃ G', s G = some (v, G') := by
 obtain ⟨o, ho⟩ := hs
 rw [ho] at h
 cases o with
 | none => cases h
 | some w =>
  simp only [Option.map_some, Option.some.injEq, Prod.mk.injEq] at h
  exact ⟨G, by rw [ho, h.1]; rfl⟩
theorem JW (x : Value) : xJ (ret x) := ⟨some x, fun H => rfl⟩
theorem wI (args : List Value) (s : Sem Value) : xJ (jS P args s) := by
 refine ⟨(jS P args s zi.empty).map (·.1), fun H => ?_⟩
 unfold jS
 split
 ·
  split
  ·
   split <;> rfl
  ·
   rfl
 ·
  rfl
theorem Vl (c a b : Value) : xJ (Q9 c a b) := by
 refine ⟨(Q9 c a b zi.empty).map (·.1), fun H => ?_⟩
 unfold Q9
 split <;> rfl
theorem ady (op : UnOp) (x : Value) : xJ (aUn P op x) := wI _ _
theorem QY (op : BinOp) (t : TypeId) (x y : Value) : xJ (xI P op t x y) := by
 unfold xI
 split
 ·
  exact wI _ _
 ·
  rename_i a b
  refine ⟨aft op a b, fun H => ?_⟩
  dsimp only
  cases aft op a b <;> rfl
 ·
  cases hn : yV P op t x y with
  | some b => exact ⟨some (.bool b), fun H => rfl⟩
  | none => exact wI _ _
theorem YR (t : Value) (i : Nat) : xJ (zL t i) := by
 refine ⟨(zL t i zi.empty).map (·.1), fun H => ?_⟩
 unfold zL
 split
 ·
  split <;> rfl
 ·
  rfl
theorem Xc (t : TypeId) (x : Value) (f : Nat) : xJ (xE P t x f) := by
 refine ⟨(xE P t x f zi.empty).map (·.1), fun H => ?_⟩
 unfold xE
 split
 ·
  split
  ·
   split <;> rfl
  ·
   rfl
 ·
  rfl
theorem JA (t : TypeId) (x : Value) (f : Nat) : xJ (wF P t x f) := by
 refine ⟨(wF P t x f zi.empty).map (·.1), fun H => ?_⟩
 unfold wF
 split
 ·
  split
  ·
   split
   ·
    split <;> rfl
   ·
    rfl
  ·
   rfl
 ·
  rfl
theorem J3 (t : TypeId) (x i : Value) : xJ (jM P t x i) := by
 refine ⟨(jM P t x i zi.empty).map (·.1), fun H => ?_⟩
 unfold jM
 split
 ·
  split
  ·
   split <;> rfl
  ·
   rfl
 ·
  split
  ·
   split <;> rfl
  ·
   rfl
 ·
  rfl
end
end Go.Abs
