/-
Code and calls: the interpreter's run of a function is what every run of the model's program comes to.
-/
import Derived.Test.YtjlhjebmbllkiaaAbs13
set_option linter.unusedVariables false
set_option linter.unusedSimpArgs false
namespace Go.Abs
open Go.RowKit

inductive AEx where
  | normal
  | exit (id : Nat)
  | ret
def AEx.out : AEx → Exit
  | .normal => .normal
  | .exit id => .exit id
  | .ret => .ret

abbrev St := Option (AEx × List Value × AHeap)
def aLoop : Nat → (List Value → AHeap → St) → List Value → AHeap → St
  | 0, _, _, _ => none
  | n + 1, f, T, H => match f T H with
    | some (.normal, T1, H1) => aLoop n f T1 H1
    | r => r
def aCode (P : Program) (call : FuncId → List Value → M Value) (fuel : Nat) : Code → List Value → AHeap → St
  | .skip, T, H => some (.normal, T, H)
  | .region _ ops false, T, H => match aOps P call ops ops.toList T H with
    | some (T1, H1) => some (.normal, T1, H1)
    | none => none
  | .region _ ops true, T, H => match aDrawn P call ops T H with
    | some (T1, H1) => some (.normal, T1, H1)
    | none => none
  | .seq x y, T, H => match aCode P call fuel x T H with
    | some (.normal, T1, H1) => aCode P call fuel y T1 H1
    | r => r
  | .cond c x y, T, H => if okArg c then
      match evalT T c with
      | .bool true => aCode P call fuel x T H
      | .bool false => aCode P call fuel y T H
      | _ => none
    else none
  | .block id c, T, H => match aCode P call fuel c T H with
    | some (.exit id', T1, H1) => if id' = id then some (.normal, T1, H1) else some (.exit id', T1, H1)
    | r => r
  | .loop c, T, H => aLoop fuel (aCode P call fuel c) T H
  | .exit id, T, H => some (.exit id, T, H)
  | .ret, T, H => some (.ret, T, H)
  | _, _, _ => none

def resVals (P : Program) (T : List Value) (H : AHeap) : List ResultVar → Option (List Value)
  | [] => some []
  | .tmp t :: r => match resVals P T H r with
    | some l => some (T.getD t undef :: l)
    | none => none
  | .cell a t :: r => match aLoad P t (T.getD a undef) H, resVals P T H r with
    | some (v, _), some l => some (v :: l)
    | _, _ => none
def aRes (P : Program) (fn : Func) (T : List Value) : M Value := fun H =>
  match resVals P T H fn.results.toList with
  | some [v] => some (v, H)
  | some l => some (.tuple l.toArray, H)
  | none => none

def acall (P : Program) : Nat → FuncId → List Value → M Value
  | 0, _, _ => fun _ => none
  | n + 1, f, args => fun H =>
    match P.funcs[f]? with
    | some fn =>
      if fn.name = "runtime.NumGoroutine" then none else
      match fn.body with
      | some c => match aCode P (acall P n) n c (args ++ List.replicate (fn.ntmps - args.length) undef) H with
        | some (.normal, T, H') => aRes P fn T H'
        | some (.ret, T, H') => aRes P fn T H'
        | _ => none
      | none => none
    | none => none

section
variable {P : Program} {B : Nat} {w0 : World} {m : Mp} {H H' : AHeap} {w : World}

theorem sim_code {call : FuncId → List Value → M Value} (hc : CallOK P B w0 call) (hmix : P.follows .mixedOrders = true) (fuel : Nat) : ∀ (c : Code) (T : List Value) (H : AHeap) (e : AEx) (T' : List Value) (H' : AHeap),
    aCode P call fuel c T H = some (e, T', H') → ∀ (m : Mp) (a : Act) (w : World), LR m T a.tmps.toList → a.defers = [] → Rel B w0 m H w →
    ∀ Q : Exit → Act → World → Prop, (∀ a' w', Post B w0 m T' H' a' w' → Q e.out a' w') → c.wp P Q a w := by
  intro c
  induction c with
  | skip =>
    intro T H e T' H' h m a w hT hd hr Q hQ
    simp only [aCode, Option.some.injEq, Prod.mk.injEq] at h
    obtain ⟨rfl, rfl, rfl⟩ := h
    exact wp_skip (hQ a w ⟨m, Mp.le_refl m, hT, hd, hr⟩)
  | region id ops draw =>
    intro T H e T' H' h m a w hT hd hr Q hQ
    cases draw with
    | false =>
      simp only [aCode] at h
      split at h
      · rename_i T1 H1 h1
        simp only [Option.some.injEq, Prod.mk.injEq] at h
        obtain ⟨rfl, rfl, rfl⟩ := h
        exact sim_region hc h1 hT hd hr hQ
      · cases h
    | true =>
      simp only [aCode] at h
      split at h
      · rename_i T1 H1 h1
        simp only [Option.some.injEq, Prod.mk.injEq] at h
        obtain ⟨rfl, rfl, rfl⟩ := h
        exact sim_drawn hc hmix h1 hT hd hr hQ
      · cases h
  | seq x y ihx ihy =>
    intro T H e T' H' h m a w hT hd hr Q hQ
    simp only [aCode] at h
    split at h
    · rename_i T1 H1 h1
      refine wp_seq (ihx _ _ _ _ _ h1 m a w hT hd hr _ ?_)
      rintro a' w' ⟨m1, hm1, hT1, hd1, hr1⟩
      refine ihy _ _ _ _ _ h m1 a' w' hT1 hd1 hr1 Q ?_
      rintro a2 w2 ⟨m2, hm2, hT2, hd2, hr2⟩
      exact hQ a2 w2 ⟨m2, Mp.le_trans hm1 hm2, hT2, hd2, hr2⟩
    · rename_i hne
      refine wp_seq (ihx _ _ _ _ _ h m a w hT hd hr _ ?_)
      intro a' w' hp
      cases e with
      | normal => exact absurd h (hne _ _)
      | exit id => exact hQ a' w' hp
      | ret => exact hQ a' w' hp
  | cond c x y ihx ihy =>
    intro T H e T' H' h m a w hT hd hr Q hQ
    simp only [aCode] at h
    split at h
    · rename_i hok
      have hv := eval_rel hT hok
      split at h
      · rename_i hb
        rw [hb] at hv
        exact wp_cond_true (by generalize a.eval c = u at hv; cases hv; rfl) (ihx _ _ _ _ _ h m a w hT hd hr Q hQ)
      · rename_i hb
        rw [hb] at hv
        exact wp_cond_false (by generalize a.eval c = u at hv; cases hv; rfl) (ihy _ _ _ _ _ h m a w hT hd hr Q hQ)
      · cases h
    · cases h
  | block id c ih =>
    intro T H e T' H' h m a w hT hd hr Q hQ
    simp only [aCode] at h
    split at h
    · rename_i id' T1 H1 h1
      refine wp_block (ih _ _ _ _ _ h1 m a w hT hd hr _ ?_)
      intro a' w' hp
      split at h
      · rename_i hid
        simp only [Option.some.injEq, Prod.mk.injEq] at h
        obtain ⟨rfl, rfl, rfl⟩ := h
        subst hid
        simp only [AEx.out, Exit.inBlock, if_true]
        exact hQ a' w' hp
      · rename_i hid
        simp only [Option.some.injEq, Prod.mk.injEq] at h
        obtain ⟨rfl, rfl, rfl⟩ := h
        simp only [AEx.out, Exit.inBlock, hid, if_false]
        exact hQ a' w' hp
    · rename_i hne
      refine wp_block (ih _ _ _ _ _ h m a w hT hd hr _ ?_)
      intro a' w' hp
      cases e with
      | exit id' => exact absurd h (hne _ _ _)
      | normal => exact hQ a' w' hp
      | ret => exact hQ a' w' hp
  | loop c ih =>
    intro T H e T' H' h m a w hT hd hr Q hQ
    simp only [aCode] at h
    refine wp_loop_ghost (fun n a w => ∃ T1 H1 m1, m.le m1 ∧ aLoop n (aCode P call fuel c) T1 H1 = some (e, T', H') ∧ LR m1 T1 a.tmps.toList ∧ a.defers = [] ∧ Rel B w0 m1 H1 w) fuel
      ⟨T, H, m, Mp.le_refl m, h, hT, hd, hr⟩ ?_
    rintro n a1 w1 ⟨T1, H1, m1, hm1, h1, hT1, hd1, hr1⟩
    cases n with
    | zero => simp only [aLoop] at h1; cases h1
    | succ n =>
      simp only [aLoop] at h1
      split at h1
      · rename_i T2 H2 h2
        refine ih _ _ _ _ _ h2 m1 a1 w1 hT1 hd1 hr1 _ ?_
        rintro a2 w2 ⟨m2, hm2, hT2, hd2, hr2⟩
        exact ⟨n, by omega, T2, H2, m2, Mp.le_trans hm1 hm2, h1, hT2, hd2, hr2⟩
      · rename_i hne
        refine ih _ _ _ _ _ h1 m1 a1 w1 hT1 hd1 hr1 _ ?_
        rintro a2 w2 ⟨m2, hm2, hT2, hd2, hr2⟩
        cases e with
        | normal => exact absurd h1 (hne _ _)
        | exit id => exact hQ a2 w2 ⟨m2, Mp.le_trans hm1 hm2, hT2, hd2, hr2⟩
        | ret => exact hQ a2 w2 ⟨m2, Mp.le_trans hm1 hm2, hT2, hd2, hr2⟩
  | exit id =>
    intro T H e T' H' h m a w hT hd hr Q hQ
    simp only [aCode, Option.some.injEq, Prod.mk.injEq] at h
    obtain ⟨rfl, rfl, rfl⟩ := h
    exact wp_exit (hQ a w ⟨m, Mp.le_refl m, hT, hd, hr⟩)
  | ret =>
    intro T H e T' H' h m a w hT hd hr Q hQ
    simp only [aCode, Option.some.injEq, Prod.mk.injEq] at h
    obtain ⟨rfl, rfl, rfl⟩ := h
    exact wp_ret (hQ a w ⟨m, Mp.le_refl m, hT, hd, hr⟩)
  | _ =>
    intro T H e T' H' h
    simp only [aCode] at h
    cases h

theorem load_same {t : TypeId} {p p' v : Value} (hr : Rel B w0 m H w) (h : aLoad P t p H = some (v, H')) (hp : VR m p p') : ∃ v', (Instr.loadAt t p').run P w = .ok v' w ∧ VR m v v' := by
  unfold aLoad at h
  split at h
  · rename_i r o
    cases hp with
    | @ptr _ _ L hm =>
      split at h
      · rename_i cs own esz hg
        split at h
        · rename_i ha
          split at h
          · rename_i n hsz
            split at h
            · rename_i hn
              cases h
              obtain ⟨cs', hl, hra⟩ := hr.range hm hg hn
              obtain ⟨d, hd, hd2⟩ := isAgg_true ha
              have hlen : cs'.length = n := by rw [← hl.1]; simp; omega
              have := hl.toArray
              exact ⟨_, run_loadAt_mid w L.blk (L.shift + o) t cs' d hra hd hd2 (by rw [hlen]; exact hsz), .agg this.1 this.2⟩
            · cases h
          · cases h
        · rename_i ha
          split at h
          · rename_i u hu
            cases h
            obtain ⟨v', hc, hv⟩ := hr.cell hm hg hu
            refine ⟨v', ?_, hv⟩
            simp only [Instr.loadAt, Instr.sureAddr, Sem.run_bind, Sem.run_pure, Result.andThen_ok, loadVar, isAgg_false ha w, Bool.false_eq_true, if_false, Sem.run_ite, run_load, hc]
          · cases h
        · cases h
      · cases h
  · cases h
theorem res_rel {T : List Value} {tmps : Array Value} (hT : LR m T tmps.toList) (hr : Rel B w0 m H w) : ∀ (l : List ResultVar) (vs : List Value), resVals P T H l = some vs →
    ∃ vs', (l.mapM fun | .tmp t => pure (tmps.getD t undef) | .cell a t => do loadVar t (← asAddr (tmps.getD a undef)) : Sem (List Value)).run P w = .ok vs' w ∧ LR m vs vs' := by
  have hg : ∀ t, VR m (T.getD t undef) (tmps.getD t undef) := fun t => by simpa [List.getD_eq_getElem?_getD, Array.getD_eq_getD_getElem?] using hT.2 t
  intro l
  induction l with
  | nil => intro vs h; simp only [resVals, Option.some.injEq] at h; subst h; exact ⟨[], rfl, .nil⟩
  | cons r l ih =>
    intro vs h
    cases r with
    | tmp t =>
      simp only [resVals] at h
      split at h
      · rename_i l2 h2
        cases h
        obtain ⟨vs', h3, h4⟩ := ih _ h2
        refine ⟨tmps.getD t undef :: vs', ?_, .cons (hg t) h4⟩
        simp only [List.mapM_cons, Sem.run_bind, Sem.run_pure, Result.andThen_ok, h3]
      · cases h
    | cell a t =>
      simp only [resVals] at h
      split at h
      · rename_i v H2 l2 hl h2
        cases h
        obtain ⟨vs', h3, h4⟩ := ih _ h2
        have hp := hg a
        have hs : H2 = H := by
          unfold aLoad at hl
          (repeat' split at hl) <;> first | (cases hl; done) | (cases hl; rfl)
        obtain ⟨v', w', m', h5, h6, h7, h8⟩ := sim_load hr hl hp
        unfold aLoad at hl
        split at hl
        · rename_i r o hto
          rw [hto] at hp
          generalize hpe : tmps.getD a undef = pv at hp h5
          cases hp with
          | @ptr _ _ L hm =>
            -- the load leaves the world alone
            have hw : ∃ v', (loadVar t ⟨L.blk, L.shift + o, none⟩).run P w = .ok v' w ∧ VR m v v' := by
              obtain ⟨v2, hv2, hvr2⟩ : ∃ v2, (Instr.loadAt t (.pointer (some ⟨L.blk, L.shift + o, none⟩))).run P w = .ok v2 w ∧ VR m v v2 := by
                have hl2 : aLoad P t (.pointer (some ⟨r, o, none⟩)) H = some (v, H2) := by unfold aLoad; exact hl
                exact load_same hr hl2 (.ptr hm)
              refine ⟨v2, ?_, hvr2⟩
              simpa [Instr.loadAt, Instr.sureAddr] using hv2
            obtain ⟨v2, hv2, hvr2⟩ := hw
            refine ⟨v2 :: vs', ?_, .cons hvr2 h4⟩
            have has : (asAddr (tmps.getD a undef)).run P w = .ok ⟨L.blk, L.shift + o, none⟩ w := by rw [hpe]; rfl
            simp only [List.mapM_cons, Sem.run_bind, has, Sem.run_pure, Result.andThen_ok, hv2, h3]
        · cases hl
      · cases h

theorem run_aRes {fn : Func} {T : List Value} {tmps : Array Value} {v : Value} (hT : LR m T tmps.toList) (hr : Rel B w0 m H w) (h : aRes P fn T H = some (v, H')) :
    H' = H ∧ ∃ v', (results fn tmps).run P w = .ok v' w ∧ VR m v v' := by
  have hmap : ∀ vs' : List Value, (fn.results.toList.mapM fun | .tmp t => pure (tmps.getD t undef) | .cell a t => do loadVar t (← asAddr (tmps.getD a undef)) : Sem (List Value)).run P w = .ok vs' w →
      (results fn tmps).run P w = .ok (if h : vs'.toArray.size = 1 then vs'.toArray[0] else .tuple vs'.toArray) w := by
    intro vs' hv
    unfold results
    rw [← Array.toArray_toList (xs := fn.results)]
    simp only [Sem.run_bind, List.mapM_toArray, Sem.run_map]
    refine (congrArg (fun r => (Result.andThen r fun a w' => Result.ok a.toArray w').andThen fun (a : Array Value) w' => Sem.run P (pure (if h : a.size = 1 then a[0] else Value.tuple a)) w') hv).trans ?_
    rfl
  unfold aRes at h
  split at h
  · rename_i v1 hv
    cases h
    obtain ⟨vs', h1, h2⟩ := res_rel hT hr _ _ hv
    obtain ⟨v', rfl, hvr⟩ := h2.one
    exact ⟨rfl, v', by rw [hmap _ h1]; rfl, hvr⟩
  · rename_i l hne hv
    cases h
    obtain ⟨vs', h1, h2⟩ := res_rel hT hr _ _ hv
    refine ⟨rfl, .tuple vs'.toArray, ?_, ?_⟩
    · rw [hmap _ h1, dif_neg]
      intro hs
      have hl : l.length = 1 := by rw [h2.1]; simpa using hs
      match l, hl with
      | [x], _ => exact hne x rfl
    · have := h2.toArray
      exact .tuple this.1 this.2
  · cases h

theorem call_ok (hmix : P.follows .mixedOrders = true) : ∀ n, CallOK P B w0 (acall P n) := by
  intro n
  induction n with
  | zero => intro g args H v H' h; simp only [acall] at h; cases h
  | succ n ih =>
    intro g args H v H' h m w args' ha hr
    simp only [acall] at h
    split at h
    · rename_i fn hfn
      split at h
      · cases h
      · rename_i hname
        split at h
        · rename_i c hbody
          refine ⟨?_, ?_⟩
          · have hne : (fn.name == "runtime.NumGoroutine") = false := by simpa using hname
            have hnn : fn.body.isNone = false := by rw [hbody]; rfl
            simp only [callFunc, Sem.run_bind, run_program, Result.andThen_ok, hfn, hne, hnn, Bool.false_eq_true, if_false, Sem.run_pure]
          · have main : ∀ (e : AEx) (T : List Value) (H1 : AHeap), aCode P (acall P n) n c (args ++ List.replicate (fn.ntmps - args.length) undef) H = some (e, T, H1) → (e = .normal ∨ e = .ret) → aRes P fn T H1 = some (v, H') →
                Calls P g args'.toArray w fun e w' => ∃ v' m', e = .returned v' ∧ VR m' v v' ∧ m.le m' ∧ Rel B w0 m' H' w' := by
              intro e T H1 hcode he hres
              refine calls_of_wp hfn hbody ?_
              refine sim_code ih hmix n c _ _ _ _ _ hcode m _ w ?_ rfl hr _ ?_
              · have hl : args'.toArray.size = args.length := by simp [ha.1]
                rw [hl]
                simp only [Array.toList_append, List.toList_toArray, Array.toList_replicate]
                exact ha.append ⟨rfl, fun i => by
                  by_cases hi : i < fn.ntmps - args.length
                  · simp [List.getD_eq_getElem?_getD, hi]; exact VR.undef
                  · simp [List.getD_eq_getElem?_getD, List.getElem?_replicate, hi]; exact VR.undef⟩
              · rintro a' w' ⟨m1, hm1, hT1, hd1, hr1⟩
                obtain ⟨rfl, v', hrun, hvr⟩ := run_aRes hT1 hr1 hres
                rcases he with rfl | rfl
                · exact ⟨hd1, v', hrun, v', m1, rfl, hvr, hm1, hr1⟩
                · exact ⟨hd1, v', hrun, v', m1, rfl, hvr, hm1, hr1⟩
            split at h
            · rename_i T H1 hcode; exact main _ _ _ hcode (.inl rfl) h
            · rename_i T H1 hcode; exact main _ _ _ hcode (.inr rfl) h
            · cases h
        · cases h
    · cases h

end
end Go.Abs
