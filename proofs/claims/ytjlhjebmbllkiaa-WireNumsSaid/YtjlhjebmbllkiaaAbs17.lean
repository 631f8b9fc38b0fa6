/-
A law's row out of the interpreter's run: what its arguments are, and how they read behind the call.
-/
import Derived.Test.YtjlhjebmbllkiaaAbs16
set_option linter.unusedVariables false
set_option linter.unusedSimpArgs false
namespace Go.Abs
open Go.RowKit

/-- Codes of the parameters; those marked are structs or arrays, one value of many cells. -/
def argsOf (P : Program) (n : Nat) : List TypeId → Option (List (Bool × Ty))
  | [] => some []
  | t :: ts => match tyOf P n t, argsOf P n ts with
    | some c, some cs => some ((match P.underlying t with | some (.struct _) => true | some (.array _ _) => true | _ => false, c) :: cs)
    | _, _ => none
def Args : List (Bool × Ty) → Type
  | [] => Unit
  | (_, c) :: l => c.Val × Args l
def Args.Good : (l : List (Bool × Ty)) → Args l → Prop
  | [], _ => True
  | (_, c) :: l, (x, xs) => c.Good x ∧ Args.Good l xs
def argOf (b : Bool) (cs : List Value) : Value := if b then .agg cs.toArray else cs.headD undef
def Args.place : (l : List (Bool × Ty)) → Args l → AHeap → List Value × AHeap
  | [], _, H => ([], H)
  | (b, c) :: l, (x, xs), H => (argOf b (c.place x H).1 :: (Args.place l xs (c.place x H).2).1, (Args.place l xs (c.place x H).2).2)

section
variable {P : Program} {b0 : Nat} {W : World} {X : Type} {enc : TypeId × Value → X}

theorem headD_getD (l : List Value) : l.headD undef = l.getD 0 undef := by cases l <;> rfl
theorem argOf_rel {m : Mp} {b : Bool} {cs cs' : List Value} (h : LR m cs cs') : VR m (argOf b cs) (argOf b cs') := by
  unfold argOf
  split
  · exact .agg (by simp [h.1]) (fun i => by have := h.2 i; simpa [List.getD_eq_getElem?_getD, Array.getD_eq_getD_getElem?] using this)
  · rw [headD_getD, headD_getD]; exact h.2 0

theorem argOf_cells {n : Nat} {t : TypeId} {c : Ty} {v : Value} (hc : tyOf P n t = some c) (hv : Value.okWide P W .any b0 t v) {d : DataW X} {ps : List MemPlace} {fuel : Nat}
    (h : DataW.trod enc P W 0 (fun _ => true) true fuel t v.cells.toList = some (d, ps)) :
    v = argOf (match P.underlying t with | some (.struct _) => true | some (.array _ _) => true | _ => false) v.cells.toList := by
  cases n with
  | zero => cases hc
  | succ n =>
    cases fuel with
    | zero => simp [DataW.trod] at h
    | succ fuel =>
    simp only [tyOf] at hc
    split at hc
    · rename_i k hu
      obtain ⟨n1, rfl⟩ := WideShapes.okWide_int hu hv
      simp [hu, argOf, Value.cells]
    · rename_i hu
      obtain ⟨b, rfl⟩ := WideShapes.okWide_bool hu hv
      simp [hu, argOf, Value.cells]
    · rename_i hu
      obtain ⟨s, rfl⟩ := WideShapes.okWide_string hu hv
      simp [hu, argOf, Value.cells]
    · rename_i e hu
      obtain ⟨a, len, cap, rfl⟩ := WideShapes.okWide_slice hu hv
      simp [hu, argOf, Value.cells]
    · rename_i fs hu
      simp only [Value.okWide, hu] at hv
      obtain ⟨cs, rfl, _⟩ := hv
      simp [hu, argOf, Value.cells]
    · rename_i k e hu
      simp only [Value.okWide, hu] at hv
      obtain ⟨cs, rfl, _⟩ := hv
      simp [hu, argOf, Value.cells]
    · cases hc

theorem open_args {n : Nat} : ∀ (ts : List TypeId) (cs : List (Bool × Ty)) (vs : List Value) (ds : List (DataW X)) (ps : List MemPlace), argsOf P n ts = some cs →
    DataW.TrodAll enc P W 0 (fun _ => true) true ts vs ds ps → (∀ (j : Nat) t v, ts[j]? = some t → vs[j]? = some v → Value.okWide P W .any b0 t v) →
    (∀ y ∈ DataW.weightsEach P ts ds, y ≤ reachBytes) →
    ∃ x : Args cs, Args.Good cs x ∧ ∀ (B : Nat) (w0 : World) (m : Mp) (H : AHeap), W.heap.size ≤ B → Rel B w0 m H W → ∃ m', m.le m' ∧ Rel B w0 m' (Args.place cs x H).2 W ∧ LR m' (Args.place cs x H).1 vs := by
  intro ts
  induction ts with
  | nil =>
    intro cs vs ds ps h hA hv hw
    simp only [argsOf, Option.some.injEq] at h
    subst h
    obtain ⟨rfl, rfl, rfl⟩ := ChangeShapes.trodAll_nil hA
    exact ⟨(), True.intro, fun B w0 m H _ hr => ⟨m, Mp.le_refl m, hr, LR.nil⟩⟩
  | cons t ts ih =>
    intro cs vs ds ps h hA hv hw
    simp only [argsOf] at h
    split at h
    · rename_i c cs' hc hcs
      cases h
      obtain ⟨v, vs', d, ds', p, q, rfl, rfl, rfl, h1, h2⟩ := ChangeShapes.trodAll_cons hA
      simp only [DataW.weightsEach, List.mem_append] at hw
      obtain ⟨fuel, hf⟩ := h1
      have hv0 := hv 0 t v rfl rfl
      obtain ⟨x, hx1, hx2⟩ := open_ty n t c hc fuel _ d p hf (fun y hy => hw y (.inl hy))
      obtain ⟨xs, hy1, hy2⟩ := ih cs' vs' ds' q hcs h2 (fun j t' v' ht hv' => hv (j + 1) t' v' ht hv') (fun y hy => hw y (.inr hy))
      refine ⟨(x, xs), ⟨hx1, hy1⟩, fun B w0 m H hB hr => ?_⟩
      obtain ⟨m1, hm1, hr1, hl1⟩ := hx2 B w0 m H hB hr
      obtain ⟨m2, hm2, hr2, hl2⟩ := hy2 B w0 m1 _ hB hr1
      refine ⟨m2, Mp.le_trans hm1 hm2, hr2, LR.cons ?_ hl2⟩
      have := argOf_rel (b := (match P.underlying t with | some (.struct _) => true | some (.array _ _) => true | _ => false)) (hl1.mono hm2)
      rw [← argOf_cells hc hv0 hf] at this
      exact this
    · cases h

theorem rel_start (W : World) : Rel W.heap.size W (fun _ => none) AHeap.empty W :=
  ⟨Below.refl _ _, Nat.le_refl _, fun r L o h => (by cases h), fun r L h => (by cases h), fun r L o h => (by cases h), fun r r' L L' o o' _ h => (by cases h), fun r _ => rfl⟩

/-- The run of a law. -/
theorem law_calls (hmix : P.follows .mixedOrders = true) {n : Nat} {ts : List TypeId} {cs : List (Bool × Ty)} (hts : argsOf P n ts = some cs) {f : FuncId}
    (hlaw : ∀ x : Args cs, Args.Good cs x → ∃ k, (acall P k f (Args.place cs x AHeap.empty).1 (Args.place cs x AHeap.empty).2).map (·.1) = some (.bool true))
    {args : Array Value} {ds : List (DataW X)} {ps : List MemPlace} (hA : DataW.TrodAll enc P W 0 (fun _ => true) true ts args.toList ds ps)
    (hv : ∀ (j : Nat) t v, ts[j]? = some t → args[j]? = some v → Value.okWide P W .any b0 t v) (hsz : (DataW.weightsEach P ts ds).all (· ≤ reachBytes) = true) :
    Calls P f args W fun e W' => e = .returned (.bool true) ∧ Below W.heap.size W W' := by
  obtain ⟨x, hx1, hx2⟩ := open_args ts cs args.toList ds ps hts hA (fun j t v h1 h2 => hv j t v h1 (by simpa using h2)) (fun y hy => by simpa using List.all_eq_true.1 hsz y hy)
  obtain ⟨m, hm, hr, hl⟩ := hx2 W.heap.size W (fun _ => none) AHeap.empty (Nat.le_refl _) (rel_start W)
  obtain ⟨k, hk⟩ := hlaw x hx1
  obtain ⟨⟨v, H'⟩, hc, hv⟩ := Option.map_eq_some_iff.1 hk
  have hv' : v = .bool true := hv
  subst hv'
  have := (call_ok (P := P) (B := W.heap.size) (w0 := W) hmix k f _ _ _ _ hc m W args.toList hl hr).2
  rw [show args.toList.toArray = args by simp] at this
  refine this.mono fun e w' ⟨v', m', he, hvr, _, hr'⟩ => ⟨?_, hr'.below⟩
  cases hvr
  exact he

theorem back_all (hl : laidOutB P = true) {W' : World} (hb : Below W.heap.size W W') : ∀ (ts : List TypeId) (vs : List Value) (ds : List (DataW X)) (ps : List MemPlace),
    (ts.all fun t => P.readableRec t && decide (t < P.types.size)) = true →
    DataW.TrodAll enc P W 0 (fun _ => true) true ts vs ds ps → DataW.TrodAll enc P W' 0 (fun b => decide (b < W.heap.size)) true ts vs ds ps := by
  intro ts
  induction ts with
  | nil => intro vs ds ps _ h; obtain ⟨rfl, rfl, rfl⟩ := ChangeShapes.trodAll_nil h; exact rfl
  | cons t ts ih =>
    intro vs ds ps ht h
    obtain ⟨v, vs', d, ds', p, q, rfl, rfl, rfl, h1, h2⟩ := ChangeShapes.trodAll_cons h
    simp only [List.all_cons, Bool.and_eq_true, decide_eq_true_eq] at ht
    refine trodAll_cons_mk (Below.trod hl ht.1.1 ht.1.2 h1 hb ?_) (ih vs' ds' q (by simpa using ht.2) h2)
    obtain ⟨m, hm⟩ := h1
    exact DataW.trod_lt m _ _ _ hm

end
end Go.Abs
