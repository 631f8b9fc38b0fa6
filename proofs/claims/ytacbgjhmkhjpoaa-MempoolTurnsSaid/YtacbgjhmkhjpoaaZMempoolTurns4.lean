/-
The law MempoolTurns returns true for every input, and leaves it as it was; no condition. Part 4 of 5 of the texts (put together by a program: own names are short, what isn't needed is left out).
-/
import Derived.Test.YtacbgjhmkhjpoaaZMempoolTurns3
import Derived.KernelRfl
import Derived.Test.YtacbgjhmkhjpoaaChecked
import Derived.Shelf.Spec.SlicesInsert
import Derived.Shelf.Spec.SlicesInsertGrow
import Derived.Lib.AppendZerosOnto
set_option linter.unusedVariables false
set_option linter.unusedSimpArgs false
set_option maxRecDepth 100000
open Go renaming undef → zh
open Go.Proofs.Try renaming prog → zi
namespace Go.Abs
open Go.RowKit
def vS (P:Program) (call:FuncId→List Value→M Value):Prop:=∀ g args aargs S v S',call g args S=some (v,S')→∀ μ H ω,GI μ S H→L0 μ H args aargs→Dom μ H ω→(∀ r s,ω r=some s→s=.ext) →
 ∃ a H' μ' ω',lim P g aargs H=some (a,H')∧GI μ' S' H'∧Later μ H μ' H'∧Kept ω H ω' H'∧Dom μ' H' ω'∧VV μ' H' ω' (some (.res none)) v a
section
variable {P:Program} {call:FuncId→List Value→M Value} {μ:Mu} {ω:Nat→Option jX} {S S' H:zx} {T A:List Value}
theorem abL (hc:vS P call) {g:FuncId} {args aargs:List Value} {v:Value} (hG:GI μ S H) (hT:TI μ H ω T A) (h:call g args S=some (v,S')) (ha:L0 μ H args aargs):Out μ ω H A T S' v (lim P g aargs H):=by
 obtain ⟨a,H',μ',ω',h1,h2,h3,h4,h5,h6⟩:=hc g args aargs S v S' h μ H (fun r=>(ω r).map fun _=>.ext) hG ha (fun r s hs=>by
  cases hr:ω r with
  | none=>simp [hr] at hs
  | some s0=>exact hT.dom r s0 hr) (fun r s hs=>by
  cases hr:ω r with
  | none=>simp [hr] at hs
  | some s0=>simp [hr] at hs;exact hs.symm)
 have kept:∀ r s,ω r=some s→ω' r=some .ext∧H'.get r=H.get r:=fun r s hs=>h4 r (by dsimp only;rw [hs];rfl)
 refine ⟨a,H',μ',fun r=>match ω' r with | some .ext=>ω r | some (.slot _ _)=>none | x=>x,h1,h2,h3,fun r hr=>?_,fun r s hs=>?_,hT.len,fun i=>?_,?_⟩
 ·
  obtain ⟨k1,k2⟩:=kept r _ hr
  exact ⟨by (try dsimp only);rw [k1];exact hr,k2⟩
 ·
  dsimp only at hs
  cases hr:ω' r with
  | none=>rw [hr] at hs;cases hs
  | some s0 =>
   have:=h5 r s0 hr
   exact this
 ·
  refine (hT.slots i).later h3 (K:=fun _=>True) (fun _ _ _ _ _=>trivial) (fun r s _ hr=>?_) (fun _ _=>trivial)
  obtain ⟨k1,k2⟩:=kept r s hr
  exact ⟨by (try dsimp only);rw [k1];exact hr,k2⟩
 ·
  refine h6.later (Later.refl _ _) (K:=fun s=>∃ j,s=.res j) (fun s i t ⟨j,hj⟩ ht=>by subst hj;cases j <;> cases ht;exact ⟨_,rfl⟩) (fun r s ⟨j,hj⟩ hr=>?_) (fun s hs=>by cases hs;exact ⟨_,rfl⟩)
  subst hj
  exact ⟨by (try dsimp only);rw [hr],rfl⟩
def xH (t:Nat):jX→Option jX
 | .slot i j=>if i=t then some (.res j) else some (.slot i j)
 | s=>some s
def Zx (t k:Nat):jX→Option jX
 | .slot i (some j)=>if i=t∧j=k then some (.res none) else some (.slot i (some j))
 | s=>some s
theorem Kw {x:Operand} (hG:GI μ S H) (hT:TI μ H ω T A) (hx:wX x=true):Out μ ω H A (jI T x) S (zG T x) (some (zG A x,H)):=by
 cases x with
 | const v=>exact Out.same hG hT (VV.jJ hx)
 | global g=>cases hx
 | func f=>exact Out.same hG hT (hT.eval (x:=.func f) rfl)
 | tmp t =>
  refine ⟨_,H,μ,fun r=>(ω r).bind (xH t),rfl,hG,Later.refl μ H,fun r hr=>⟨by dsimp only;rw [hr];rfl,rfl⟩,fun r s hs=>?_,by simp [jI,wW,hT.len],fun i=>?_,?_⟩
  ·
   dsimp only at hs
   cases hr:ω r with
   | none=>rw [hr] at hs;cases hs
   | some s0=>exact hT.dom r s0 hr
  ·
   dsimp only [jI,wW]
   rw [wI]
   by_cases hi:i=t
   ·
    subst hi
    by_cases hlt:i < T.length
    ·
     rw [if_pos ⟨rfl,hlt⟩]
     exact (hT.slots i).v0.at0
    ·
     rw [if_neg (fun h=>hlt h.2)]
     rw [List.getD_eq_getElem?_getD,List.getElem?_eq_none (Nat.le_of_not_lt hlt),List.getD_eq_getElem?_getD,List.getElem?_eq_none (by rw [← hT.len];omega)]
     exact .nores
   ·
    rw [if_neg (fun h=>hi h.1)]
    refine (hT.slots i).WY (fun _=>rfl) _ (fun s hs=>?_)
    cases hs
    refine ⟨_,rfl,by simp only [xH];rw [if_neg hi],fun k t' ht=>?_⟩
    cases ht
    exact ⟨_,rfl,by simp only [xH];rw [if_neg hi]⟩
  ·
   refine (hT.slots t).WY (fun _=>rfl) _ (fun s hs=>?_)
   cases hs
   refine ⟨_,rfl,by simp only [xH,if_true],fun k t' ht=>?_⟩
   cases ht
   exact ⟨_,rfl,by simp only [xH,if_true]⟩
theorem getD_modify (vs:Array Value) (i k:Nat) (f:Value→Value) (hf:f zh=zh):(vs.modify i f).getD k zh=if k=i then f (vs.getD k zh) else vs.getD k zh:=by
 rw [Array.getD_eq_getD_getElem?,Array.getD_eq_getD_getElem?,Array.getElem?_modify]
 by_cases h:i=k
 ·
  subst h
  rw [if_pos rfl,if_pos rfl]
  cases vs[i]? with
  | none=>exact hf.symm
  | some v=>rfl
 ·
  rw [if_neg h,if_neg (fun e=>h e.symm)]
theorem VV.part {ω':Nat→Option jX} {ℓ ℓ':Option jX} {v a:Value} (h:VV μ H ω ℓ v a) (hℓ:∀ s,ℓ=some s→∀ k,s.comp k=none):VV μ H ω' ℓ' (Go.Abs.qj v) a:=by
 by_cases ht:∃ x,v=.tuple x
 ·
  obtain ⟨x,rfl⟩:=ht
  show VV μ H ω' ℓ' (.tuple x) a
  cases h with
  | sg hs=>simp [Go.Abs.sg] at hs
  | nores=>exact .nores
  | tuple hx hh =>
   refine .tuple hx fun i=>?_
   have:=hh i
   cases ℓ with
   | none=>exact this.at0
   | some s =>
    have e:(some s).bind (·.comp i)=none:=hℓ s rfl i
    rw [e] at this
    exact this.at0
 ·
  have e:Go.Abs.dem v=Go.Abs.qj v:=by
   cases v <;> first | rfl | exact absurd ⟨_,rfl⟩ ht
  rw [← e]
  exact h.v0.at0
def Zi (T:List Value) (i:Nat):Operand→List Value
 | .tmp t=>T.set t (jM i (T.getD t zh))
 | _=>T
theorem Qk {x:Operand} {i:Nat} {v:Value} (hG:GI μ S H) (hT:TI μ H ω T A) (hx:wX x=true) (h:zL (zG T x) i S=some (v,S')) :
  Out μ ω H A (Zi T i x) S' v (zL (zG A x) i H):=by
 cases x with
 | const w =>
  exfalso
  unfold zL at h
  split at h
  ·
   rename_i vs he
   simp only [zG] at he
   subst he
   simp [wX,ground,Go.Abs.sg] at hx
  ·
   cases h
 | global g=>cases hx
 | func f=>simp [zG,zL] at h
 | tmp t =>
  simp only [zG,Zi] at h ⊢
  unfold zL at h
  split at h
  ·
   rename_i vs hvs
   split at h <;> first | (cases h;done) | skip
   rename_i w hw
   cases h
   have hs:=hT.slots t
   rw [hvs] at hs
   have hil:i < vs.size:=(Array.getElem?_eq_some_iff.1 hw).1
   have hlt:t < T.length:=by
    rcases Nat.lt_or_ge t T.length with h | h
    ·
     exact h
    ·
     rw [List.getD_eq_getElem?_getD,List.getElem?_eq_none h] at hvs
     cases hvs
     simp at hil
   generalize hA:A.getD t zh=at' at hs
   cases hs with
   | sg hs=>simp [Go.Abs.sg] at hs
   | nores=>simp at hil
   | @tuple _ _ y hxs hxx =>
    have hiy:i < y.size:=by rw [← hxs];exact hil
    have hrun:zL (.tuple y) i H=some (y[i],H):=by simp only [zL,Array.getElem?_eq_getElem hiy]
    rw [hrun]
    have hcomp:=hxx i
    rw [Array.getD_eq_getD_getElem?,hw,Array.getD_eq_getD_getElem?,Array.getElem?_eq_getElem hiy] at hcomp
    simp only [Option.getD_some] at hcomp
    refine ⟨_,H,μ,fun r=>(ω r).bind (Zx t i),rfl,hG,Later.refl μ H,fun r hr=>⟨by dsimp only;rw [hr];rfl,rfl⟩,fun r s hs=>?_,by simp [hT.len],fun k=>?_,?_⟩
    ·
     dsimp only at hs
     cases hr:ω r with
     | none=>rw [hr] at hs;cases hs
     | some s0=>exact hT.dom r s0 hr
    ·
     rw [wI]
     by_cases hk:k=t
     ·
      subst hk
      rw [if_pos ⟨rfl,hlt⟩,hA,hvs]
      simp only [jM]
      refine .tuple (by simpa using hxs) fun j=>?_
      rw [getD_modify _ _ _ _ rfl]
      by_cases hj:j=i
      ·
       subst hj
       rw [if_pos rfl]
       exact (hxx j).part (fun s hs k=>by cases hs;rfl)
      ·
       rw [if_neg hj]
       refine (hxx j).WY (fun _=>rfl) _ (fun s hs=>?_)
       cases hs
       refine ⟨_,rfl,by simp only [Zx];rw [if_neg (fun e=>hj e.2)],fun a b hb=>by cases hb⟩
     ·
      rw [if_neg (fun e=>hk e.1)]
      refine (hT.slots k).WY (fun _=>rfl) _ (fun s hs=>?_)
      cases hs
      refine ⟨_,rfl,rfl,fun a b hb=>?_⟩
      cases hb
      exact ⟨_,rfl,by simp only [Zx];rw [if_neg (fun e=>hk e.1)]⟩
    ·
     refine hcomp.WY (fun _=>rfl) _ (fun s hs=>?_)
     cases hs
     exact ⟨_,rfl,by simp [Zx],fun a b hb=>by cases hb⟩
  ·
   cases h
theorem ado (hT:TI μ H ω T A):∀ (xs:List Operand),xs.all wX=true→L0 μ H (xs.map fun x=>dem (zG T x)) (xs.map (zG A)):=by
 intro xs h
 exact LV.map fun x hx=>hT.eval (List.all_eq_true.1 h x hx)
theorem ZG {xs:List Operand} (hT:TI μ H ω T A) (h:xs.all wX=true) (hg:(xs.map (zG T)).all ground=true):xs.map (zG A)=xs.map (zG T):=by
 apply List.map_congr_left
 intro x hx
 exact zO (hT.eval (List.all_eq_true.1 h x hx)) (List.all_eq_true.1 hg _ (List.mem_map.2 ⟨x,hx,rfl⟩))
theorem abO {o:Oper} (h:hands o=false) (hc:∀ c,o.op≠.call c):moved o T=T:=by
 unfold moved
 unfold hands at h
 split <;> first | rfl | (rename_i he;exact absurd he (hc _)) | (rename_i he;rw [he] at h;cases h)
theorem aaZ {fx:Fx} (hc:vS P call) {o:Oper} {v:Value} (hG:GI μ S H) (hT:TI μ H ω T A) (h:jW P fx call T o S=some (v,S')):Out μ ω H A (moved o T) S' v (jw P (lim P) A o H):=by
 unfold jW at h
 split at h <;> first | (cases h;done) | skip
 rename_i hok
 unfold jw
 rw [if_pos hok]
 have hargs:o.op.operands.toList.all wX=true:=hok
 have hev:∀ x ∈ o.op.operands.toList,V0 μ H (dem (zG T x)) (zG A x):=fun x hx=>hT.eval (List.all_eq_true.1 hargs x hx)
 have hoka:∀ x ∈ o.op.operands.toList,wX x=true:=fun x hx=>List.all_eq_true.1 hargs x hx
 obtain ⟨dst,op,type,pos,after,guard⟩:=o
 by_cases hcall:∃ c,op=.call c
 ·
  obtain ⟨c,rfl⟩:=hcall
  dsimp only at h hev hoka hargs ⊢
  have hcargs:c.args.toList.all wX=true:=by
   rw [List.all_eq_true]
   intro x hx
   refine hoka x ?_
   simp only [Op.operands,Call.operands]
   cases c.callee <;> simp <;> first | exact .inr (by simpa using hx) | exact (by simpa using hx)
  cases hcal:c.callee with
  | value f =>
   rw [hcal] at h
   dsimp only at h ⊢
   have hf:=hev f (by simp [Op.operands,Call.operands,hcal])
   split at h <;> first | (cases h;done) | skip
   rename_i g first captured hfe
   rw [hfe] at hf
   have hf:V0 μ H (.func (.func g) first captured) (zG A f):=hf
   generalize hfa:zG A f=fa at hf
   cases hf with
   | sg hs=>simp [Go.Abs.sg] at hs
   | func _ hx hcs h1 h2 =>
    rename_i x' c'
    dsimp only
    have l1:L0 μ H first.toList x'.toList:=⟨by simpa using hx,fun i=>by rw [getD_toList,getD_toList];exact h1 i⟩
    have l2:L0 μ H captured.toList c'.toList:=⟨by simpa using hcs,fun i=>by rw [getD_toList,getD_toList];exact h2 i⟩
    have hm:moved ⟨dst,.call c,type,pos,after,guard⟩ T=T:=by simp only [moved,hcal]
    rw [hm]
    exact abL hc hG hT h ((l1.append (ado hT _ hcargs)).append l2)
  | invoke r m=>rw [hcal] at h;cases h
  | builtin b =>
   rw [hcal] at h
   dsimp only at h ⊢
   unfold xG at h
   unfold yR
   cases b <;> dsimp only at h ⊢ <;> first | (cases h;done) | skip
   case len =>
    split at h <;> first | (cases h;done) | skip
    rename_i t x0 ht ha
    obtain ⟨x,hx,rfl⟩:∃ x,c.args.toList=[x]∧zG T x=x0:=by
     match hl:c.args.toList with
     | []=>rw [hl] at ha;cases ha
     | [y]=>rw [hl] at ha;simp at ha;exact ⟨y,rfl,ha⟩
     | y::z::w=>rw [hl] at ha;simp at ha
    have hm:moved ⟨dst,.call c,type,pos,after,guard⟩ T=T:=by simp only [moved,hcal]
    rw [hm,ht,hx]
    rw [hx] at hcargs
    obtain ⟨rfl,a,h1,h2⟩:=aal h (hT.eval (List.all_eq_true.1 hcargs x (by simp)))
    simp only [List.map_cons,List.map_nil]
    rw [h1]
    exact Out.same hG hT h2
   case append =>
    split at h <;> first | (cases h;done) | skip
    rename_i t tx s0 x0 ht ha
    obtain ⟨so,x,hx,rfl,rfl⟩:∃ so x,c.args.toList=[so,x]∧zG T so=s0∧zG T x=x0:=by
     match hl:c.args.toList with
     | []=>rw [hl] at ha;cases ha
     | [y]=>rw [hl] at ha;simp at ha
     | [y,z]=>rw [hl] at ha;simp at ha;exact ⟨y,z,rfl,ha.1,ha.2⟩
     | y::z::w::u=>rw [hl] at ha;simp at ha
    rw [hx] at hcargs
    have hso:=List.all_eq_true.1 hcargs so (by simp)
    have hm:moved ⟨dst,.call c,type,pos,after,guard⟩ T=jI T so:=by
     simp only [moved,hcal,hx]
     cases so <;> rfl
    rw [hm,ht,hx]
    exact XG hG hT hso h (hT.eval (List.all_eq_true.1 hcargs x (by simp)))
   case copy =>
    split at h <;> first | (cases h;done) | skip
    rename_i t tx s0 x0 ht ha
    obtain ⟨so,x,hx,rfl,rfl⟩:∃ so x,c.args.toList=[so,x]∧zG T so=s0∧zG T x=x0:=by
     match hl:c.args.toList with
     | []=>rw [hl] at ha;cases ha
     | [y]=>rw [hl] at ha;simp at ha
     | [y,z]=>rw [hl] at ha;simp at ha;exact ⟨y,z,rfl,ha.1,ha.2⟩
     | y::z::w::u=>rw [hl] at ha;simp at ha
    rw [hx] at hcargs
    have hm:moved ⟨dst,.call c,type,pos,after,guard⟩ T=T:=by simp only [moved,hcal]
    rw [hm,ht,hx]
    exact aby hG hT h (hT.eval (List.all_eq_true.1 hcargs so (by simp))) (hT.eval (List.all_eq_true.1 hcargs x (by simp)))
   case clear =>
    split at h <;> first | (cases h;done) | skip
    rename_i t x0 ht ha
    obtain ⟨x,hx,rfl⟩:∃ x,c.args.toList=[x]∧zG T x=x0:=by
     match hl:c.args.toList with
     | []=>rw [hl] at ha;cases ha
     | [y]=>rw [hl] at ha;simp at ha;exact ⟨y,rfl,ha⟩
     | y::z::w=>rw [hl] at ha;simp at ha
    have hm:moved ⟨dst,.call c,type,pos,after,guard⟩ T=T:=by simp only [moved,hcal]
    rw [hm,ht,hx]
    rw [hx] at hcargs
    exact aay hG hT h (hT.eval (List.all_eq_true.1 hcargs x (by simp)))
   case min =>
    obtain ⟨rfl,hg,hga,hh⟩:=jy (H:=H) h
    have hm:moved ⟨dst,.call c,type,pos,after,guard⟩ T=T:=by simp only [moved,hcal]
    rw [hm,ZG hT hcargs hga,hh]
    exact Out.same hG hT (V0.ground hg)
   case max =>
    obtain ⟨rfl,hg,hga,hh⟩:=jy (H:=H) h
    have hm:moved ⟨dst,.call c,type,pos,after,guard⟩ T=T:=by simp only [moved,hcal]
    rw [hm,ZG hT hcargs hga,hh]
    exact Out.same hG hT (V0.ground hg)
 ·
  have hnc:∀ c,op≠.call c:=fun c hc=>hcall ⟨c,hc⟩
  have hV:vOp P fx (zG T) ⟨dst,op,type,pos,after,guard⟩ S=some (v,S'):=by
   cases op <;> first | exact h | exact absurd rfl (hnc _)
  suffices hs:Out μ ω H A (moved ⟨dst,op,type,pos,after,guard⟩ T) S' v (aOp P (zG A) ⟨dst,op,type,pos,after,guard⟩ H) by
   cases op <;> first | exact hs | exact absurd rfl (hnc _)
  by_cases hh:hands ⟨dst,op,type,pos,after,guard⟩=true
  ·
   cases op <;> first | (cases hh;done) | skip
   case move x =>
    cases hV
    have:=Kw hG hT (hoka x (by simp [Op.operands]))
    have hm:moved ⟨dst,.move x,type,pos,after,guard⟩ T=jI T x:=by cases x <;> rfl
    rw [hm];exact this
   case assign x =>
    cases hV
    have:=Kw hG hT (hoka x (by simp [Op.operands]))
    have hm:moved ⟨dst,.assign x,type,pos,after,guard⟩ T=jI T x:=by cases x <;> rfl
    rw [hm];exact this
   case extract x i =>
    have:=Qk hG hT (hoka x (by simp [Op.operands])) hV
    have hm:moved ⟨dst,.extract x i,type,pos,after,guard⟩ T=(Zi T i x):=by cases x <;> rfl
    rw [hm];exact this
  ·
   have hh:hands ⟨dst,op,type,pos,after,guard⟩=false:=by simpa using hh
   rw [abO hh hnc]
   by_cases hch:xZ P ⟨dst,op,type,pos,after,guard⟩=false
   ·
    obtain ⟨rfl,a,h1,h2,h3⟩:=Yq hV hch hev (.inr hG) (.inr hG)
    rw [h1]
    exact Out.same hG hT (h3 hh)
   ·
    unfold vOp at hV
    unfold aOp
    cases op <;> dsimp only at hV hev ⊢ <;> first | (cases hV;done) | (exact absurd rfl hch) | (cases hh;done) | skip
    case alloc e=>exact XW hG hT hV
    case box x _=>exact adk hG hT hV (hev x (by simp [Op.operands]))
    case buildSlice t len parts _ =>
     have hps:=YT (μ:=μ) (H:=H) (parts:=parts.toList) (ρ:=zG T) (ρA:=zG A) fun p hp=>hev p.2 (by simp [Op.operands];exact ⟨p.1,by simpa using hp⟩)
     split at hV
     ·
      exact Y0 hG hT hV hps
     ·
      exact Jq hG hT hV hps
    case makeMap t r _=>exact QF hG hT hV (fun h=>by cases r <;> simp at h ⊢)
    case mapUpdate t x k w _=>exact WJ hG hT hV (hev x (by simp [Op.operands])) (hev k (by simp [Op.operands])) (hev w (by simp [Op.operands]))
    case store a x _=>exact VP hG hT hV (hev a (by simp [Op.operands])) (hev x (by simp [Op.operands]))
    case makeSlice l c _ =>
     split at hV
     ·
      exact Qp hG hT hV (hev l (by simp [Op.operands])) (hev c (by simp [Op.operands]))
     ·
      exact WV hG hT hV (hev l (by simp [Op.operands])) (hev c (by simp [Op.operands]))
    case convert dst' x _ =>
     have hd:∃ e,P.underlying dst'=some (.slice e):=by
      unfold xZ at hch
      dsimp only at hch
      split at hch
      ·
       exact ⟨_,by assumption⟩
      ·
       exact absurd rfl hch
     obtain ⟨e,hd⟩:=hd
     cases x with
     | tmp t=>exact Jf hG hT hV (hT.slots t) hd
     | const w=>exact Jf hG hT hV (VV.jJ (ℓ:=none) (hoka (.const w) (by simp [Op.operands]))) hd
     | global g=>have:=hoka (.global g) (by simp [Op.operands]);cases this
     | func f=>exact Jf hG hT hV (ℓ:=none) ((hT.eval (x:=.func f) rfl).at0) hd
theorem VJ {ops:Array Oper} (hT:TI μ H ω T A) (j:Nat):ynd ops T j=ynd ops A j:=by
 unfold ynd
 cases hd:(ops[j]?).bind (·.dst) with
 | none=>rfl
 | some d =>
  simp only [Option.bind_some]
  have:=hT.slots d
  have e:=hT.len
  by_cases hlt:d < T.length
  ·
   have hlt':d < A.length:=by rw [← e];exact hlt
   simp only [List.getD_eq_getElem?_getD,List.getElem?_eq_getElem hlt,List.getElem?_eq_getElem hlt',Option.getD_some] at this
   rw [List.getElem?_eq_getElem hlt,List.getElem?_eq_getElem hlt']
   generalize T[d]=u at *
   generalize A[d]=u' at *
   cases this <;> rfl
  ·
   have hlt':A.length≤d:=by rw [← e];exact Nat.le_of_not_lt hlt
   rw [List.getElem?_eq_none (Nat.le_of_not_lt hlt),List.getElem?_eq_none hlt']
theorem TI.moved (hT:TI μ H ω T A) (o:Oper):TI μ H ω (moved o T) A:=by
 have slot:∀ t,TI μ H ω (wW T t) A:=by
  intro t
  refine ⟨by simp [wW,hT.len],fun i=>?_,hT.dom,hT.nores⟩
  rw [wW,wI]
  split
  ·
   rename_i h;rw [h.1];exact (hT.slots t).dem
  ·
   exact hT.slots i
 unfold Go.Abs.moved
 split
 ·
  exact slot _
 ·
  exact slot _
 ·
  rename_i t i _
  refine ⟨by simp [hT.len],fun k=>?_,hT.dom,hT.nores⟩
  rw [wI]
  split
  ·
   rename_i h
   rw [h.1]
   have:=hT.slots t
   generalize T.getD t zh=w at this
   cases w with
   | tuple vs =>
    simp only [jM]
    generalize A.getD t zh=a at this
    cases this with
    | sg hs=>simp [Go.Abs.sg] at hs
    | nores=>rw [show (#[]:Array Value).modify i Go.Abs.qj=#[] by simp];exact .nores
    | @tuple _ _ y hxs hxx =>
     refine .tuple (by simpa using hxs) fun j=>?_
     rw [getD_modify _ _ _ _ rfl]
     by_cases hj:j=i
     ·
      subst hj
      rw [if_pos rfl]
      exact (hxx j).part (fun s hs k=>by cases hs;rfl)
     ·
      rw [if_neg hj];exact hxx j
   | _=>exact this
  ·
   exact hT.slots k
 ·
  split
  ·
   exact slot _
  ·
   exact hT
 ·
  exact hT
def After (μ:Mu) (ω:Nat→Option jX) (H:zx) (T':List Value) (S':zx) (R:Option (List Value×zx)):Prop :=
 ∃ A' H' μ' ω',R=some (A',H')∧GI μ' S' H'∧Later μ H μ' H'∧Kept ω H ω' H'∧TI μ' H' ω' T' A'
theorem KF {fx:Fx} (hc:vS P call) {o:Oper} {rest:List Oper} {v:Value} (hG:GI μ S H) (hT:TI μ H ω T A) (h:jW P fx call T o S=some (v,S')) :
  ∃ a H' μ' ω',jw P (lim P) A o H=some (a,H')∧GI μ' S' H'∧Later μ H μ' H'∧Kept ω H ω' H'∧TI μ' H' ω' (kN o rest T v) (xM A o.dst a):=by
 unfold kN
 split
 ·
  rename_i hl
  have hm:∃ x,o.op=.move x:=by
   unfold aeJ at hl
   split at hl
   ·
    rename_i x _ he _;exact ⟨x,he⟩
   ·
    cases hl
  obtain ⟨x,hx⟩:=hm
  unfold jW at h
  split at h <;> first | (cases h;done) | skip
  rename_i hok
  have hox:wX x=true:=List.all_eq_true.1 (show o.op.operands.toList.all wX=true from hok) x (by rw [hx];simp [Op.operands])
  rw [hx] at h
  dsimp only at h
  unfold vOp at h
  rw [hx] at h
  cases h
  have ha:jw P (lim P) A o H=some (zG A x,H):=by
   unfold jw
   rw [if_pos hok,hx]
   dsimp only
   unfold aOp
   rw [hx]
   rfl
  rw [ha]
  exact (Out.same hG hT (hT.eval hox)).put o.dst
 ·
  exact (aaZ hc hG hT h).put o.dst
theorem Zu {o:Oper} {rest:List Oper} (hG:GI μ S H) (hT:TI μ H ω T A):∃ μ' ω',GI μ' S H∧Later μ H μ' H∧Kept ω H ω' H∧TI μ' H ω' (kN o rest T zh) (xM A o.dst zh):=by
 unfold kN
 split
 ·
  rw [show dem zh=zh from kK]
  obtain ⟨a,H1,μ1,ω1,h1,h2,h3,h4,h5⟩:=(Out.same hG hT (VV.zh)).put o.dst
  cases h1
  exact ⟨μ1,ω1,h2,h3,h4,h5⟩
 ·
  obtain ⟨a,H1,μ1,ω1,h1,h2,h3,h4,h5⟩:=(Out.same hG (hT.moved o) (VV.zh)).put o.dst
  cases h1
  exact ⟨μ1,ω1,h2,h3,h4,h5⟩
theorem acH {fx:Fx} (hc:vS P call) {ops:Array Oper}:∀ (l:List Oper) (T T' A:List Value) (S S' H:zx) (μ:Mu) (ω:Nat→Option jX),jf P fx call ops l T S=some (T',S')→GI μ S H→TI μ H ω T A→After μ ω H T' S' (Y8 P (lim P) ops l A H):=by
 intro l
 induction l with
 | nil =>
  intro T T' A S S' H μ ω h hG hT
  simp only [jf,Option.some.injEq,Prod.mk.injEq] at h
  obtain ⟨rfl,rfl⟩:=h
  exact ⟨A,H,μ,ω,rfl,hG,Later.refl _ _,Kept.refl _ _,hT⟩
 | cons o l ih =>
  intro T T' A S S' H μ ω h hG hT
  have hy:(ynd ops T)=ynd ops A:=funext fun j=>VJ hT j
  simp only [jf] at h
  simp only [Y8,← hy]
  split at h
  ·
   rename_i hw
   split at h
   ·
    rename_i v S1 hs
    obtain ⟨a,H1,μ1,ω1,h1,h2,h3,h4,h5⟩:=KF (rest:=l) hc hG hT hs
    obtain ⟨A2,H2,μ2,ω2,k1,k2,k3,k4,k5⟩:=ih _ _ _ _ _ _ _ _ h h2 h5
    refine ⟨A2,H2,μ2,ω2,?_,k2,h3.trans k3,h4.trans k4,k5⟩
    rw [if_pos hw,h1]
    exact k1
   ·
    cases h
  ·
   rename_i hw
   obtain ⟨μ1,ω1,h2,h3,h4,h5⟩:=Zu (o:=o) (rest:=l) hG hT
   obtain ⟨A2,H2,μ2,ω2,k1,k2,k3,k4,k5⟩:=ih _ _ _ _ _ _ _ _ h h2 h5
   refine ⟨A2,H2,μ2,ω2,?_,k2,h3.trans k3,h4.trans k4,k5⟩
   rw [if_neg hw]
   exact k1
end
end Go.Abs
namespace Go.Abs
open Go.RowKit
section
variable {P:Program} {call:FuncId→List Value→M Value} {μ μ2:Mu} {S S' G H H2:zx} {T A:List Value}
theorem qY.two {s:M Value} (hs:qY s) {a:Value} {G':zx} (h:s G=some (a,G')):∀ H,s H=some (a,H):=by
 obtain ⟨o,ho⟩:=hs
 rw [ho] at h
 cases o with
 | none=>cases h
 | some w =>
  simp only [Option.map_some,Option.some.injEq,Prod.mk.injEq] at h
  intro H
  rw [ho,h.1];rfl
theorem Qx {t:TypeId} {ps:List (Nat×Value)}:qY (wO P t ps):=by
 refine ⟨(wO P t ps zx.empty).map (·.1),fun H=>?_⟩
 unfold wO
 split
 ·
  split
  ·
   split
   ·
    split
    ·
     split <;> rfl
    ·
     rfl
   ·
    split
    ·
     split <;> rfl
    ·
     rfl
   ·
    rfl
  ·
   rfl
 ·
  rfl
theorem Jp {x:Value}:qY (yX x):=by
 refine ⟨(yX x zx.empty).map (·.1),fun H=>?_⟩
 unfold yX
 split <;> rfl
theorem QA {t:TypeId} {x i:Value}:qY (qo P t x i):=by
 unfold qo
 refine ⟨(qo P t x i zx.empty).map (·.1),fun H=>?_⟩
 unfold qo
 dsimp only
 split
 ·
  split
  ·
   split
   ·
    split <;> rfl
   ·
    rfl
  ·
   rfl
 ·
  obtain ⟨o,ho⟩:=jT (P:=P) _ _
  rw [ho,ho]
  cases o <;> rfl
 ·
  rfl
theorem Vt {t:TypeId} {x:Value} (hx:∀ m,x≠.map m):qY (Y1 P t x):=by
 refine ⟨(Y1 P t x zx.empty).map (·.1),fun H=>?_⟩
 unfold Y1
 split <;> first | rfl | exact absurd rfl (hx _)
theorem Jc {d:Nat} {v:Value} (h:okq d v=true):okq d (dem v)=true:=by
 cases v with
 | iface k v=>cases d <;> rfl
 | tuple vs=>cases d <;> cases h
 | _=>exact h
theorem Ji:∀ (d:Nat) {v a:Value},okq d v=true→V0 μ H v a→XQ d a a=true:=by
 intro d
 induction d with
 | zero =>
  intro v a h hv
  cases hv <;> first | (cases h;done) | (simp [XQ];done) | skip
  rename_i hs
  cases v <;> first | (simp [XQ];done) | (simp [Go.Abs.sg] at hs;done) | skip
 | succ d ih =>
  intro v a h hv
  cases hv <;> first | (cases h;done) | (simp [XQ];done) | skip
  ·
   rename_i hs
   cases v <;> first | (simp [XQ];done) | (simp [Go.Abs.sg] at hs;done) | skip
  ·
   rename_i x x' hx hh
   unfold XQ
   simp only [decide_true,Bool.true_and]
   rw [List.all_eq_true]
   intro p hp
   obtain ⟨i,hi,he⟩:=List.mem_iff_getElem.1 hp
   simp only [List.length_zip,Nat.min_self] at hi
   rw [List.getElem_zip] at he
   subst he
   have hi':i < x'.size:=by simpa using hi
   have hi2:i < x.size:=by rw [hx];exact hi'
   have h2:=hh i
   rw [Array.getD_eq_getD_getElem?,Array.getElem?_eq_getElem hi2,Array.getD_eq_getD_getElem?,Array.getElem?_eq_getElem hi'] at h2
   have h3:okq d x[i]=true:=List.all_eq_true.1 (show x.toList.all (okq d)=true from h) _ (by simp)
   have:=ih h3 h2
   simpa using this
theorem KO (x:Value):Zo (dem x)=Zo x:=by cases x <;> rfl
theorem acg {fx:Fx} {o:Oper} {v:Value} (hdr:fx.dr=true) (h:jW P fx call T o S=some (v,S')) (hn:xZ P o=false) (hr:yV o=false) (ho:∀ x ∈ o.op.operands.toList,V0 μ G (dem (zG T x)) (zG A x)) :
  ∃ a,V0 μ G (dem v) a∧∀ H,aOp P (zG A) o H=some (a,H)∧jw P (lim P) A o H=some (a,H):=by
 have hrm:yK o=false:=by
  unfold yV at hr
  unfold yK
  split <;> simp_all
 unfold jW at h
 split at h <;> first | (cases h;done) | skip
 rename_i hok
 obtain ⟨dst,op,type,pos,after,guard⟩:=o
 by_cases hcall:∃ c,op=.call c
 ·
  obtain ⟨c,rfl⟩:=hcall
  dsimp only at h ho
  unfold xZ at hn
  dsimp only at hn
  have hcargs:∀ x ∈ c.args.toList,V0 μ G (dem (zG T x)) (zG A x):=by
   intro x hx
   refine ho x ?_
   simp only [Op.operands,Call.operands]
   cases c.callee <;> simp <;> first | exact .inr (by simpa using hx) | exact (by simpa using hx)
  have step:∀ {b:Builtin} (a:Value),c.callee=.builtin b→(∀ H,yR P b c.argTypes type (c.args.toList.map (zG A)) H=some (a,H))→∀ H,aOp P (zG A) ⟨dst,.call c,type,pos,after,guard⟩ H=some (a,H)∧jw P (lim P) A ⟨dst,.call c,type,pos,after,guard⟩ H=some (a,H):=by
   intro b a hb hall H
   constructor
   ·
    unfold aOp;dsimp only;rw [hb];exact hall H
   ·
    unfold jw;rw [if_pos hok];dsimp only;rw [hb];exact hall H
  cases hcal:c.callee with
  | value f=>rw [hcal] at hn;cases hn
  | invoke r m=>rw [hcal] at hn;cases hn
  | builtin b =>
   rw [hcal] at h
   dsimp only at h
   unfold xG at h
   rw [hcal] at hn
   have gargs:(c.args.toList.map (zG T)).all ground=true→c.args.toList.map (zG A)=c.args.toList.map (zG T):=by
    intro hg
    apply List.map_congr_left
    intro x hx
    exact zO (hcargs x hx) (List.all_eq_true.1 hg _ (List.mem_map.2 ⟨x,hx,rfl⟩))
   cases b <;> dsimp only at h hn <;> first | (cases h;done) | (cases hn;done) | skip
   case len =>
    split at h <;> first | (cases h;done) | skip
    rename_i t x0 ht ha
    obtain ⟨x,hx,rfl⟩:∃ x,c.args.toList=[x]∧zG T x=x0:=by
     match hl:c.args.toList with
     | []=>rw [hl] at ha;cases ha
     | [y]=>rw [hl] at ha;simp at ha;exact ⟨y,rfl,ha⟩
     | y::z::w=>rw [hl] at ha;simp at ha
    have hxv:=hcargs x (by rw [hx];simp)
    obtain ⟨rfl,a,h1,h2⟩:=aal h hxv
    have hmap:∀ m,zG A x≠.map m:=by
     intro m hm
     rw [hm] at hxv
     generalize hu:dem (zG T x)=u at hxv
     have hum:∃ m',u=.map m':=by cases hxv <;> exact ⟨_,rfl⟩
     obtain ⟨m',rfl⟩:=hum
     have:zG T x=.map m':=by
      cases hv:zG T x <;> rw [hv] at hu <;> simp [dem,qj] at hu <;> rw [hu]
     rw [this] at h
     simp [Zp] at h
    refine ⟨a,h2.dem,step a hcal fun H=>?_⟩
    unfold yR
    dsimp only
    rw [ht,hx]
    exact (Vt hmap).two h1 H
   case min =>
    obtain ⟨rfl,hg,hga,hh⟩:=jy (H:=G) h
    refine ⟨v,(V0.ground hg).dem,step v hcal fun H=>?_⟩
    unfold yR
    dsimp only
    rw [gargs hga]
    exact (jT _ _).two hh H
   case max =>
    obtain ⟨rfl,hg,hga,hh⟩:=jy (H:=G) h
    refine ⟨v,(V0.ground hg).dem,step v hcal fun H=>?_⟩
    unfold yR
    dsimp only
    rw [gargs hga]
    exact (jT _ _).two hh H
 ·
  have hnc:∀ c,op≠.call c:=fun c hc=>hcall ⟨c,hc⟩
  have hV:vOp P fx (zG T) ⟨dst,op,type,pos,after,guard⟩ S=some (v,S'):=by
   cases op <;> first | exact h | exact absurd rfl (hnc _)
  obtain ⟨rfl,a,h1,h2,h3⟩:=Yq (ρA:=zG A) hV hn ho (.inl (vP hrm)) (.inl hdr)
  have hA:∀ H,jw P (lim P) A ⟨dst,op,type,pos,after,guard⟩ H=aOp P (zG A) ⟨dst,op,type,pos,after,guard⟩ H:=by
   intro H
   unfold jw
   rw [if_pos hok]
   cases op <;> first | rfl | exact absurd rfl (hnc _)
  refine ⟨a,h2,fun H=>?_⟩
  rw [hA]
  have key:aOp P (zG A) ⟨dst,op,type,pos,after,guard⟩ H=some (a,H):=by
   have hf:qY (aOp P (zG A) ⟨dst,op,type,pos,after,guard⟩):=by
    unfold xZ at hn
    unfold yV at hr
    unfold aOp
    unfold vOp at hV
    cases op <;> dsimp only at hn hr hV ⊢ <;> first | (cases hn;done) | (cases hr;done) | (cases hV;done) | skip
    ·
     exact ZH _
    ·
     exact ZH _
    ·
     exact KZ _ _ _
    ·
     exact Qx
    ·
     exact Jp
    ·
     exact Yz _ _ _ _
    ·
     exact abe _ _
    ·
     exact ZH _
    ·
     exact ZT _ _ _
    ·
     exact Qm _ _ _
    ·
     exact ZR _ _ _
    ·
     exact QA
    ·
     exact Wy _ _
   exact hf.two h1 H
  exact ⟨key,key⟩
theorem aaC {t:TypeId} {r o e:Nat} {l:List Value} {own own':Own} {a:Value} (hg:G.get r=some (.cells l own e)) (hg':H2.get r=some (.cells l own' e)) (h:wB P t (.pointer (some ⟨r,o,none⟩)) G=some (a,G)) :
  wB P t (.pointer (some ⟨r,o,none⟩)) H2=some (a,H2):=by
 simp only [wB,hg] at h
 simp only [wB,hg']
 (repeat' split at h) <;> first | (cases h;done) | skip
 all_goals simp_all
theorem VV.backed {v:Value} {r o n c:Nat} (h:V0 μ G v (.slice (some ⟨r,o,none⟩) n c)) (hv:Zo v=false):∃ l own e,r < G.next∧xC μ r∧G.get r=some (.cells l own e):=by
 cases h with
 | sg hs=>simp [Go.Abs.sg] at hs
 | slm hm=>simp [Zo] at hv
 | sl hr hp hg _ _ _=>exact ⟨_,_,_,hr,hp,hg⟩
theorem XB {x:Value} {n:Nat} {cs:List Value} (hx:∀ r o n c,x=.slice (some ⟨r,o,none⟩) n c→∃ l own own' e,G.get r=some (.cells l own e)∧H2.get r=some (.cells l own' e)) (h:wE x n G=some cs):wE x n H2=some cs:=by
 unfold wE at h ⊢
 split at h
 ·
  rename_i r o k c
  obtain ⟨l,own,own',e,hg,hg'⟩:=hx _ _ _ _ rfl
  rw [hg] at h
  rw [hg']
  exact h
 ·
  exact h
 ·
  exact h
 ·
  cases h
theorem aae {src dst:TypeId} {x a:Value} (hd:∀ e,P.underlying dst≠some (.slice e)) (hx:∀ r o n c,x=.slice (some ⟨r,o,none⟩) n c→∃ l own own' e,G.get r=some (.cells l own e)∧H2.get r=some (.cells l own' e)) (h:wu P src dst x G=some (a,G)) :
  wu P src dst x H2=some (a,H2):=by
 unfold wu at h ⊢
 split at h
 ·
  rename_i b n c
  (try dsimp only)
  split at h
  ·
   rename_i e hs hdd
   split at h <;> first | (cases h;done) | skip
   rename_i he
   split at h <;> first | (cases h;done) | skip
   rename_i cs hcs
   rw [XB hx hcs]
   (try dsimp only)
   split at h <;> first | (cases h;done) | skip
   rename_i bs hbs
   (try rw [hbs])
   cases h
   rfl
  ·
   rename_i e0 e hs hdd
   exact absurd hdd (hd e)
  ·
   cases h
 ·
  rename_i s
  (try dsimp only)
  split at h
  ·
   rename_i d e hs hdd
   exact absurd hdd (hd e)
  ·
   exact (jT _ _).two h H2
 ·
  exact (jT _ _).two h H2
theorem Xh {t:TypeId} {x a:Value} {lo hi:Option Value} (hx:∀ r o n c,x=.slice (some ⟨r,o,none⟩) n c→∃ l own own' e,G.get r=some (.cells l own e)∧H2.get r=some (.cells l own' e)) (h:yH P t x lo hi G=some (a,G)) :
  yH P t x lo hi H2=some (a,H2):=by
 unfold yH at h ⊢
 split at h
 ·
  rename_i s hu
  exact (jT _ _).two h H2
 ·
  rename_i e b n c hu
  (try dsimp only)
  split at h <;> first | (cases h;done) | skip
  rename_i size l hh hs hl hhi
  (try simp only [hs,hl,hhi])
  split at h <;> first | (cases h;done) | skip
  rename_i c0
  split at h <;> first | (cases h;done) | skip
  rename_i c1
  split at h <;> first | (cases h;done) | skip
  rename_i c2
  rw [if_pos c0,if_pos c1,if_pos c2]
  split at h
  ·
   split at h <;> first | (cases h;done) | skip
   rename_i hn
   cases h
   rw [if_pos hn]
  ·
   rename_i r o
   obtain ⟨l2,own,own',e2,hg,hg'⟩:=hx _ _ _ _ rfl
   rw [hg] at h
   rw [hg']
   dsimp only at h ⊢
   split at h <;> first | (cases h;done) | skip
   rename_i he
   rw [if_pos he]
   cases h
   rfl
  ·
   split at h <;> first | (cases h;done) | skip
   rename_i hn
   cases h
   rw [if_pos hn]
  ·
   cases h
 ·
  cases h
theorem vV {t:TypeId} {r o:Nat} {a:Value} {G':zx} (hg:H2.get r=G.get r) (h:wB P t (.pointer (some ⟨r,o,none⟩)) G=some (a,G')):wB P t (.pointer (some ⟨r,o,none⟩)) H2=some (a,H2):=by
 simp only [wB] at h ⊢
 rw [hg]
 (repeat' split at h) <;> first | (cases h;done) | skip
 all_goals simp_all
theorem Yx {t:TypeId} {x k:Value} {ok:Bool} {a:Value} {G':zx} (hg:∀ r,x=.map (some r)→H2.get r=G.get r) (h:jE P t x k ok G=some (a,G')):jE P t x k ok H2=some (a,H2):=by
 have e:∀ H:zx,jE P t x k ok H=(jE P t x k ok H).map (fun r=>(r.1,H)):=by
  intro H
  unfold jE
  (try dsimp only)
  (repeat' split) <;> rfl
 have e2:(jE P t x k ok H2).map (·.1)=(jE P t x k ok G).map (·.1):=by
  cases x with
  | map b =>
   cases b with
   | none=>unfold jE;dsimp only;(repeat' split) <;> rfl
   | some r =>
    unfold jE
    dsimp only
    rw [hg r rfl]
    (repeat' split) <;> rfl
  | _=>unfold jE;(try dsimp only) <;> (try ((repeat' split) <;> rfl))
 rw [h] at e2
 rw [e H2]
 cases hh:jE P t x k ok H2 with
 | none=>rw [hh] at e2;cases e2
 | some w =>
  rw [hh] at e2
  simp only [Option.map_some,Option.some.injEq] at e2 ⊢
  rw [e2]
theorem adi {fx:Fx} {o:Oper} {v:Value} (hdr:fx.dr=true) (h:jW P fx call T o S=some (v,S')) (hn:xZ P o=false) (hm:qg (zG T) o) (ho:∀ x ∈ o.op.operands.toList,V0 μ G (dem (zG T x)) (zG A x)) (hL:Later μ G μ2 H2) :
  ∃ a,V0 μ G (dem v) a∧aOp P (zG A) o G=some (a,G)∧aOp P (zG A) o H2=some (a,H2)∧jw P (lim P) A o G=some (a,G)∧jw P (lim P) A o H2=some (a,H2):=by
 by_cases hr:yV o=false
 ·
  obtain ⟨a,h1,h2⟩:=acg hdr h hn hr ho
  exact ⟨a,h1,(h2 G).1,(h2 H2).1,(h2 G).2,(h2 H2).2⟩
 ·
  unfold jW at h
  split at h <;> first | (cases h;done) | skip
  rename_i hok
  obtain ⟨dst,op,type,pos,after,guard⟩:=o
  unfold yV at hr
  cases op <;> dsimp only at h hr <;> first | (exact absurd rfl hr) | skip
  case load t addr =>
   obtain ⟨rfl,a,h1,h2,h3⟩:=Yq (ρA:=zG A) h hn ho (.inl hm) (.inl hdr)
   have hA:∀ H,jw P (lim P) A ⟨dst,.load t addr,type,pos,after,guard⟩ H=aOp P (zG A) ⟨dst,.load t addr,type,pos,after,guard⟩ H:=fun H=>by unfold jw;rw [if_pos hok]
   have key:aOp P (zG A) ⟨dst,.load t addr,type,pos,after,guard⟩ H2=some (a,H2):=by
    have hx:=ho addr (by simp [Op.operands])
    have h:ji P fx.nm t (zG T addr) S'=some (v,S'):=h
    unfold aOp at h1 ⊢
    dsimp only at h1 ⊢
    unfold ji at h
    split at h
    ·
     rename_i k cs he
     split at h <;> first | (cases h;done) | skip
     rename_i hk
     subst hk
     rw [he] at hx
     have hx:V0 μ G (.iface 3 (.agg cs)) (zG A addr):=hx
     generalize hq:zG A addr=q at hx h1 ⊢
     cases hx with
     | sg hs=>simp [Go.Abs.sg] at hs
     | ep hr hp hg hl hc =>
      obtain ⟨own',hg'⟩:=hL.cells _ _ _ _ hr hp hg
      exact aaC hg hg' h1
    ·
     rename_i ad he
     exact absurd he (hm ad)
    ·
     cases h
   exact ⟨a,h2,h1,key,by rw [hA];exact h1,by rw [hA];exact key⟩
  case convert src d x =>
   obtain ⟨rfl,a,h1,h2,h3⟩:=Yq (ρA:=zG A) h hn ho (.inl hm) (.inl hdr)
   have hA:∀ H,jw P (lim P) A ⟨dst,.convert src d x,type,pos,after,guard⟩ H=aOp P (zG A) ⟨dst,.convert src d x,type,pos,after,guard⟩ H:=fun H=>by unfold jw;rw [if_pos hok]
   have key:aOp P (zG A) ⟨dst,.convert src d x,type,pos,after,guard⟩ H2=some (a,H2):=by
    have hx:=ho x (by simp [Op.operands])
    unfold aOp at h1 ⊢
    dsimp only at h1 ⊢
    refine aae (fun e he=>?_) (fun r o n c hq=>?_) h1
    ·
     unfold xZ at hn
     dsimp only at hn
     rw [he] at hn;cases hn
    ·
     rw [hq] at hx
     have hh:Zo (dem (zG T x))=false:=by
      rw [KO]
      have h:qF P fx.hp fx.dr src d (zG T x) S'=some (v,S'):=h
      unfold qF at h
      split at h
      ·
       first | (cases h;done) | (rw [hdr] at h;simp at h)
      ·
       rename_i hh;simpa using hh
     obtain ⟨l,own,e,hr,hp,hg⟩:=hx.backed hh
     obtain ⟨own',hg'⟩:=hL.cells _ _ _ _ hr hp hg
     exact ⟨l,own,own',e,hg,hg'⟩
   exact ⟨a,h2,h1,key,by rw [hA];exact h1,by rw [hA];exact key⟩
  case slice t x lo hi mx =>
   obtain ⟨rfl,a,h1,h2,h3⟩:=Yq (ρA:=zG A) h hn ho (.inl hm) (.inl hdr)
   have hA:∀ H,jw P (lim P) A ⟨dst,.slice t x lo hi mx,type,pos,after,guard⟩ H=aOp P (zG A) ⟨dst,.slice t x lo hi mx,type,pos,after,guard⟩ H:=fun H=>by unfold jw;rw [if_pos hok]
   have key:aOp P (zG A) ⟨dst,.slice t x lo hi mx,type,pos,after,guard⟩ H2=some (a,H2):=by
    have hx:=ho x (by simp [Op.operands])
    unfold aOp at h1 ⊢
    cases mx with
    | some m=>cases h1
    | none =>
     dsimp only at h1 ⊢
     refine Xh (fun r o n c hq=>?_) h1
     rw [hq] at hx
     have hh:Zo (dem (zG T x))=false:=by
      rw [KO]
      have h:yJ P fx.dr t (zG T x) (lo.map (zG T)) (hi.map (zG T)) S'=some (v,S'):=h
      unfold yJ at h
      split at h
      ·
       first | (cases h;done) | (rw [hdr] at h;simp at h)
      ·
       rename_i hh;simpa using hh
     obtain ⟨l,own,e,hr,hp,hg⟩:=hx.backed hh
     obtain ⟨own',hg'⟩:=hL.cells _ _ _ _ hr hp hg
     exact ⟨l,own,own',e,hg,hg'⟩
   exact ⟨a,h2,h1,key,by rw [hA];exact h1,by rw [hA];exact key⟩
  case lookup t x k ok =>
   exact hm.elim
end
end Go.Abs
namespace Go.Abs
open Go.RowKit
structure Line (P : Program) (fx : Fx) (chk : List Nat) (call : FuncId → List Value → M Value) (ops : Array Oper) (k0 : Nat) (l : List Oper) (Ts As : Nat → List Value) (Ss Hs : Nat → zx) (μs : Nat → Mu) (ωs : Nat → Nat → Option jX) (vs zf : Nat → Value) : Prop where
  inv : ∀ k, k ≤ l.length → GI (μs k) (Ss k) (Hs k) ∧ TI (μs k) (Hs k) (ωs k) (Ts k) (As k)
  step : ∀ k o, l[k]? = some o → Later (μs k) (Hs k) (μs (k + 1)) (Hs (k + 1)) ∧ Kept (ωs k) (Hs k) (ωs (k + 1)) (Hs (k + 1)) ∧
    ((Region.wanted o (ynd ops (As k)) = true ∧ jW P fx call (Ts k) o (Ss k) = some (vs k, Ss (k + 1)) ∧ jw P (lim P) (As k) o (Hs k) = some (zf k, Hs (k + 1)) ∧
        Ts (k + 1) = kN o (l.drop (k + 1)) (Ts k) (vs k) ∧ As (k + 1) = xM (As k) o.dst (zf k) ∧ (chk.contains (k0 + k) = true → okq 3 (vs k) = true)) ∨
     (Region.wanted o (ynd ops (As k)) = false ∧ zf k = zh ∧ Ts (k + 1) = kN o (l.drop (k + 1)) (Ts k) zh ∧ As (k + 1) = xM (As k) o.dst zh ∧ Hs (k + 1) = Hs k))
section
variable {P:Program} {call:FuncId→List Value→M Value}
theorem line_of {fx : Fx} {chk : List Nat} {nl : List (Nat × Nat)} (hc : vS P call) {ops : Array Oper} : ∀ (l : List Oper) (k0 : Nat) (hist : List (Value × zx)) (T T' A : List Value) (S S' H : zx) (μ : Mu) (ω : Nat → Option jX), jO P fx chk nl call ops k0 hist l T S = some (T', S') → GI μ S H → TI μ H ω T A →
    ∃ Ts As Ss Hs μs ωs vs zf tr, Line P fx chk call ops k0 l Ts As Ss Hs μs ωs vs zf ∧ Ts 0 = T ∧ As 0 = A ∧ Ss 0 = S ∧ Hs 0 = H ∧ μs 0 = μ ∧ ωs 0 = ω ∧ Ts l.length = T' ∧ Ss l.length = S' ∧
      wV P (lim P) ops l A H = some (tr, As l.length, Hs l.length) ∧ (∀ k, k < l.length → tr[k]? = some (As k, Hs k, zf k)) ∧ (∀ k, k ≤ l.length → (tr.map (·.2.1) ++ [Hs l.length])[k]? = some (Hs k)) ∧
      ∃ hs : List (Value × zx), hs.length = l.length ∧ (∀ k o, l[k]? = some o → hs[k]? = some (yY (Ts k) o, Ss k)) ∧ (nl.isEmpty = false → nl.all (YE (hist ++ hs ++ [(zh, S')])) = true) := by
  intro l
  induction l with
  | nil =>
    intro k0 hist T T' A S S' H μ ω h hG hT
    simp only [jO] at h
    split at h <;> first | (cases h; done) | skip
    rename_i hst
    cases h
    refine ⟨fun _ => T, fun _ => A, fun _ => S, fun _ => H, fun _ => μ, fun _ => ω, fun _ => zh, fun _ => zh, [], ⟨fun k _ => ⟨hG, hT⟩, fun k o ho => by simp at ho⟩, rfl, rfl, rfl, rfl, rfl, rfl, rfl, rfl, rfl, fun k hk => by simp at hk, fun k hk => ?_, [], rfl, fun k o ho => by simp at ho, fun he => ?_⟩
    · have : k = 0 := by simpa using hk
      subst this
      rfl
    · simpa [qG, he] using hst
  | cons o l ih =>
    intro k0 hist T T' A S S' H μ ω h hG hT
    have hy : (ynd ops T) = ynd ops A := funext fun j => VJ hT j
    simp only [jO] at h
    have glue : ∀ (T1 A1 : List Value) (S1 H1 : zx) (μ1 : Mu) (ω1 : Nat → Option jX) (v a : Value), jO P fx chk nl call ops (k0 + 1) (qG nl hist (yY T o) S) l T1 S1 = some (T', S') → GI μ1 S1 H1 → TI μ1 H1 ω1 T1 A1 → Later μ H μ1 H1 → Kept ω H ω1 H1 →
        ((Region.wanted o (ynd ops A) = true ∧ jW P fx call T o S = some (v, S1) ∧ jw P (lim P) A o H = some (a, H1) ∧ T1 = kN o l T v ∧ A1 = xM A o.dst a ∧ (chk.contains k0 = true → okq 3 v = true)) ∨
         (Region.wanted o (ynd ops A) = false ∧ a = zh ∧ T1 = kN o l T zh ∧ A1 = xM A o.dst zh ∧ H1 = H)) →
        (∀ tr A2 H2, wV P (lim P) ops l A1 H1 = some (tr, A2, H2) → wV P (lim P) ops (o :: l) A H = some ((A, H, a) :: tr, A2, H2)) →
        ∃ Ts As Ss Hs μs ωs vs zf tr, Line P fx chk call ops k0 (o :: l) Ts As Ss Hs μs ωs vs zf ∧ Ts 0 = T ∧ As 0 = A ∧ Ss 0 = S ∧ Hs 0 = H ∧ μs 0 = μ ∧ ωs 0 = ω ∧ Ts (o :: l).length = T' ∧ Ss (o :: l).length = S' ∧
          wV P (lim P) ops (o :: l) A H = some (tr, As (o :: l).length, Hs (o :: l).length) ∧ (∀ k, k < (o :: l).length → tr[k]? = some (As k, Hs k, zf k)) ∧ (∀ k, k ≤ (o :: l).length → (tr.map (·.2.1) ++ [Hs (o :: l).length])[k]? = some (Hs k)) ∧
          ∃ hs : List (Value × zx), hs.length = (o :: l).length ∧ (∀ k o', (o :: l)[k]? = some o' → hs[k]? = some (yY (Ts k) o', Ss k)) ∧ (nl.isEmpty = false → nl.all (YE (hist ++ hs ++ [(zh, S')])) = true) := by
      intro T1 A1 S1 H1 μ1 ω1 v a hrest hG1 hT1 hL hK hstep htr
      obtain ⟨Ts, As, Ss, Hs, μs, ωs, vs, zf, tr, hline, e1, e2, e3, e4, e5, e6, e7, e8, e9, e10, e11, hs, e12, e13, e14⟩ := ih _ _ _ _ _ _ _ _ _ _ hrest hG1 hT1
      refine ⟨fun k => match k with | 0 => T | k + 1 => Ts k, fun k => match k with | 0 => A | k + 1 => As k, fun k => match k with | 0 => S | k + 1 => Ss k, fun k => match k with | 0 => H | k + 1 => Hs k,
        fun k => match k with | 0 => μ | k + 1 => μs k, fun k => match k with | 0 => ω | k + 1 => ωs k, fun k => match k with | 0 => v | k + 1 => vs k, fun k => match k with | 0 => a | k + 1 => zf k, (A, H, a) :: tr,
        ⟨fun k hk => ?_, fun k o' ho => ?_⟩, rfl, rfl, rfl, rfl, rfl, rfl, e7, e8, htr _ _ _ e9, fun k hk => ?_, fun k hk => ?_, (yY T o, S) :: hs, by simp [e12], fun k o' ho => ?_, fun he => ?_⟩
      · cases k with
        | zero => exact ⟨hG, hT⟩
        | succ k => exact hline.inv k (by simpa using hk)
      · cases k with
        | zero =>
          simp only [List.getElem?_cons_zero, Option.some.injEq] at ho
          subst ho
          dsimp only
          rw [e1, e2, e3, e4, e5, e6]
          exact ⟨hL, hK, hstep⟩
        | succ k =>
          have := hline.step k o' (by simpa using ho)
          rw [show k0 + 1 + k = k0 + (k + 1) by omega] at this
          exact this
      · cases k with
        | zero => rfl
        | succ k => simpa using e10 k (by simpa using hk)
      · cases k with
        | zero => rfl
        | succ k => simpa using e11 k (by simpa using hk)
      · cases k with
        | zero =>
          simp only [List.getElem?_cons_zero, Option.some.injEq] at ho
          subst ho
          rfl
        | succ k => simpa using e13 k o' (by simpa using ho)
      · have := e14 he
        rw [show qG nl hist (yY T o) S = hist ++ [(yY T o, S)] by simp [qG, he]] at this
        simpa using this
    split at h
    · rename_i hw
      split at h
      · rename_i v S1 hs
        split at h <;> first | (cases h; done) | skip
        rename_i hchk
        obtain ⟨a, H1, μ1, ω1, h1, h2, h3, h4, h5⟩ := KF (rest := l) hc hG hT hs
        have hw' : Region.wanted o (ynd ops A) = true := by rw [← hy]; exact hw
        refine glue _ _ _ H1 μ1 ω1 v a h h2 h5 h3 h4 (.inl ⟨hw', hs, h1, rfl, rfl, fun hk => ?_⟩) (fun tr A2 H2 ht => ?_)
        · rw [hk] at hchk; simpa using hchk
        · simp only [wV, hw', if_true, h1, ht]
      · cases h
    · rename_i hw
      obtain ⟨μ1, ω1, h2, h3, h4, h5⟩ := Zu (o := o) (rest := l) hG hT
      have hw' : Region.wanted o (ynd ops A) = false := by rw [← hy]; simpa using hw
      refine glue _ _ _ H μ1 ω1 zh zh h h2 h5 h3 h4 (.inr ⟨hw', rfl, rfl, rfl, rfl⟩) (fun tr A2 H2 ht => ?_)
      simp only [wV, hw', ht]
      rfl
variable {fx:Fx} {chk:List Nat} {ops:Array Oper} {k0:Nat} {l:List Oper} {Ts As:Nat→List Value} {Ss Hs:Nat→zx} {μs:Nat→Mu} {ωs:Nat→Nat→Option jX} {vs zf:Nat→Value}
theorem Line.later (hl:Line P fx chk call ops k0 l Ts As Ss Hs μs ωs vs zf) {i:Nat}:∀ (d:Nat),i+d≤l.length→Later (μs i) (Hs i) (μs (i+d)) (Hs (i+d)):=by
 intro d
 induction d with
 | zero=>intro _;exact Later.refl _ _
 | succ d ih =>
  intro hd
  have ho:l[i+d]?=some l[i+d]:=List.getElem?_eq_getElem (by omega)
  exact (ih (by omega)).trans (hl.step (i+d) _ ho).1
theorem Line.kept (hl:Line P fx chk call ops k0 l Ts As Ss Hs μs ωs vs zf):∀ (d:Nat),d≤l.length→Kept (ωs 0) (Hs 0) (ωs d) (Hs d):=by
 intro d
 induction d with
 | zero=>intro _;exact Kept.refl _ _
 | succ d ih =>
  intro hd
  have ho:l[d]?=some l[d]:=List.getElem?_eq_getElem (by omega)
  exact (ih (by omega)).trans (hl.step d _ ho).2.1
theorem Qi (i:Nat) (w:Value):dem (jM i w)=dem w:=by
 cases w with
 | tuple vs =>
  simp only [jM,dem]
  congr 1
  apply Array.ext (by simp)
  intro k h1 h2
  rw [Array.getElem_map,Array.getElem_map,Array.getElem_modify]
  split
  ·
   have:∀ v,qj (qj v)=qj v:=by
    intro v
    cases v with
    | iface k v =>
     simp only [qj]
     by_cases h:k=2
     ·
      rw [if_pos h,if_neg (by decide)]
     ·
      rw [if_neg h,if_neg h]
    | _=>rfl
   exact this _
  ·
   rfl
 | _=>rfl
theorem Yo (o:Oper) (T:List Value) (t:Nat):dem ((moved o T).getD t zh)=dem (T.getD t zh):=by
 have slot:∀ t',dem ((wW T t').getD t zh)=dem (T.getD t zh):=by
  intro t'
  rw [wW,wI]
  split
  ·
   rename_i h;rw [h.1,WT]
  ·
   rfl
 unfold moved
 split
 ·
  exact slot _
 ·
  exact slot _
 ·
  rw [wI]
  split
  ·
   rename_i h;rw [h.1,Qi]
  ·
   rfl
 ·
  split
  ·
   exact slot _
  ·
   rfl
 ·
  rfl
theorem moved_length (o:Oper) (T:List Value):(moved o T).length=T.length:=by
 unfold moved
 split <;> first | simp [wW] | rfl | skip
 split <;> first | simp [wW] | rfl
theorem YS {o:Oper} {rest:List Oper} {T:List Value} {v:Value} (hd:o.dst=none) (t:Nat):dem ((kN o rest T v).getD t zh)=dem (T.getD t zh):=by
 unfold kN
 rw [hd]
 split
 ·
  rfl
 ·
  exact Yo o T t
theorem YP {o:Oper} {rest:List Oper} {T:List Value} {v:Value} {d:Nat} (hd:o.dst=some d) (t:Nat):dem ((kN o rest T v).getD t zh)=if t=d∧d < T.length then dem v else dem (T.getD t zh):=by
 unfold kN
 rw [hd]
 split
 ·
  simp only [xM]
  rw [wI]
  split
  ·
   exact WT v
  ·
   rfl
 ·
  simp only [xM]
  rw [wI,moved_length]
  split
  ·
   rfl
  ·
   exact Yo o T t
def Clear (μ:Mu) (G:zx) (bad:List Nat) (T A:List Value):Prop:=∀ t,bad.contains t=false→V0 μ G (dem (T.getD t zh)) (A.getD t zh)
theorem Clear.operands {μ:Mu} {G:zx} {bad:List Nat} {T A:List Value} (h:Clear μ G bad T A) {o:Oper} (hok:Xb o=true) (hc:wQ bad o=true):∀ x ∈ o.op.operands.toList,V0 μ G (dem (zG T x)) (zG A x):=by
 intro x hx
 have h1:=List.all_eq_true.1 (show o.op.operands.toList.all wX=true from hok) x hx
 have h2:=List.all_eq_true.1 hc x hx
 cases x with
 | tmp t=>exact h t (by simpa using h2)
 | const v=>exact (VV.jJ (μ:=μ) (H:=G) (ω:=W0) (ℓ:=none) h1).v0
 | global g=>cases h1
 | func f =>
  have:V0 μ G (.func (.func f) #[] #[]) (.func (.func f) #[] #[]):=.func _ rfl rfl (fun i=>by simpa using VV.zh) (fun i=>by simpa using VV.zh)
  exact this
theorem qm {T:List Value} {o:Oper} {S S':zx} {v:Value} (h:jW P fx call T o S=some (v,S')):Xb o=true:=by
 unfold jW at h
 split at h
 ·
  assumption
 ·
  cases h
theorem Xt {fx:Fx} {o:Oper} {T A:List Value} {v:Value} {S S' H:zx} {μ:Mu} (h:jW P fx call T o S=some (v,S')) (hnm:fx.nm=true) (hm:¬ qg (zG T) o) (hG:GI μ S H) (ho:∀ x ∈ o.op.operands.toList,V0 μ H (dem (zG T x)) (zG A x)) :
  ground v=true∧∃ a,jw P (lim P) A o H=some (a,H)∧a=v:=by
 have hok:=qm h
 unfold jW at h
 rw [if_pos hok] at h
 obtain ⟨dst,op,type,pos,after,guard⟩:=o
 unfold qg at hm
 cases op <;> dsimp only at h hm <;> first | (exact absurd True.intro hm) | skip
 case load t a =>
  have h:ji P fx.nm t (zG T a) S=some (v,S'):=h
  obtain ⟨q,hq⟩:∃ q,zG T a=.pointer q:=Classical.byContradiction fun hn=>hm fun q hq=>hn ⟨q,hq⟩
  obtain ⟨rfl,w,k1,k2⟩:=vK h (ho a (by simp [Op.operands])) (.inr hG)
  rw [hnm] at h
  have hgr:ground v=true:=by
   unfold ji at h
   rw [hq] at h
   dsimp only at h
   split at h <;> first | (cases h;done) | skip
   ·
    split at h
    ·
     split at h <;> first | (cases h;done) | skip
     rename_i hg
     cases h
     exact hg
    ·
     rename_i hf;exact absurd rfl hf
   ·
    split at h
    ·
     split at h <;> first | (cases h;done) | skip
     rename_i hg
     cases h
     exact hg
    ·
     rename_i hf;exact absurd rfl hf
  refine ⟨hgr,w,?_,k2.yI hgr⟩
  unfold jw
  rw [if_pos hok]
  exact k1
 case lookup t x k ok =>
  have h:vY P fx.nm t (zG T x) (zG T k) ok S=some (v,S'):=h
  unfold vY at h
  rw [hnm] at h
  simp at h
theorem Line.abk (hl:Line P fx chk call ops k0 l Ts As Ss Hs μs ωs vs zf) {j k:Nat} (hjk:j≤k) (hk:k≤l.length) {q r:Nat} {b:Bool} (hmq:μs j q=some (r,b)) {o:jY} (g1:(Ss j).get q=some o) (g2:o.alive=true) (g3:q ∉ (Ss k).log.take ((Ss k).log.length - (Ss j).log.length)):(Hs k).get r=(Hs j).get r:=by
 obtain ⟨hGj,_⟩:=hl.inv j (by omega)
 obtain ⟨hGk,_⟩:=hl.inv k hk
 obtain ⟨r0,_,g4,_⟩:=hGj.obj q o g1 g2
 rw [hmq] at g4
 cases g4
 have hL:=hl.later (i:=j) (k - j) (by omega)
 rw [show j+(k - j)=k by omega] at hL
 obtain ⟨new,n1,n2⟩:=hL.still
 rw [hGk.log,hGj.log] at n1
 rw [n1] at g3
 simp only [List.length_append,Nat.add_sub_cancel,List.take_left] at g3
 exact (n2 q r hmq g3).2
theorem Xw {fx:Bool} {t:TypeId} {q o:Nat} {v:Value} {S S2 S':zx} (e:S2.get q=S.get q) (h:ji P fx t (.pointer (some ⟨q,o,none⟩)) S=some (v,S')):ji P fx t (.pointer (some ⟨q,o,none⟩)) S2=some (v,S2):=by
 unfold ji at h ⊢
 dsimp only at h ⊢
 cases hl:wB P t (.pointer (some ⟨q,o,none⟩)) S with
 | none=>rw [hl] at h;cases h
 | some p =>
  obtain ⟨a,G⟩:=p
  rw [hl] at h
  rw [vV e hl]
  cases a <;> dsimp only at h ⊢ <;> (repeat' split at h) <;> first | (cases h;done) | (cases h;simp_all;done) | skip
  all_goals (cases h;try simp_all)
theorem Line.KW (hl:Line P fx chk call ops k0 l Ts As Ss Hs μs ωs vs zf) {j k:Nat} (hjk:j≤k) (hk:k≤l.length) {o:Oper} (hm:¬ qg (zG (Ts k)) o) (hL:isLoad o=true) (hv:jW P fx call (Ts k) o (Ss k)=some (vs k,Ss (k+1))) (ha:jw P (lim P) (As k) o (Hs k)=some (zf k,Hs (k+1)))
  (hx0:∀ x ∈ o.op.operands.toList,V0 (μs j) (Hs j) (dem (zG (Ts k) x)) (zG (As k) x)) (s1:yc (yY (Ts k) o) (Ss j) (Ss k)=true) (s2:VY (yY (Ts k) o) (Ss j) (Ss k)=true):V0 (μs j) (Hs j) (dem (vs k)) (zf k):=by
 have hok:=qm hv
 unfold jW at hv
 rw [if_pos hok] at hv
 obtain ⟨dst,op,type,pos,after,guard⟩:=o
 unfold qg at hm
 cases op <;> first | (cases hL;done) | skip
 case load t a =>
  dsimp only at hm
  have hv:ji P fx.nm t (zG (Ts k) a) (Ss k)=some (vs k,Ss (k+1)):=hv
  obtain ⟨ad,hq⟩:∃ q,zG (Ts k) a=.pointer q:=Classical.byContradiction fun hn=>hm fun q hq=>hn ⟨q,hq⟩
  have hx:=hx0 a (by simp [Op.operands])
  have hA:jw P (lim P) (As k) ⟨dst,.load t a,type,pos,after,guard⟩ (Hs k)=wB P t (zG (As k) a) (Hs k):=by unfold jw;rw [if_pos hok];rfl
  rw [hA] at ha
  have s1:yc (zG (Ts k) a) (Ss j) (Ss k)=true:=s1
  have s2:VY (zG (Ts k) a) (Ss j) (Ss k)=true:=s2
  rw [hq] at hx hv s1 s2
  have hx:V0 (μs j) (Hs j) (.pointer ad) (zG (As k) a):=hx
  generalize zG (As k) a=pa at hx ha
  cases hx with
  | sg hs =>
   cases ad with
   | none=>simp [ji,wB] at hv
   | some ad=>simp [Go.Abs.sg] at hs
  | @ptr _ q o r b hmq =>
   simp only [yc,Bool.and_eq_true,Bool.not_eq_true',List.contains_eq_mem,decide_eq_false_iff_not] at s1
   obtain ⟨h1,h3⟩:=s1
   split at h1 <;> first | (cases h1;done) | skip
   rename_i hsa
   have g:=hl.abk hjk hk hmq hsa rfl h3
   have e:(Ss j).get q=(Ss k).get q:=@of_decide_eq_true _ (Classical.propDecidable _) s2
   have k1:=vV g.symm ha
   have hvj:=Xw e hv
   obtain ⟨hGj,_⟩:=hl.inv j (by omega)
   obtain ⟨_,w,k2,k3⟩:=vK hvj (show V0 (μs j) (Hs j) (dem (.pointer (some ⟨q,o,none⟩))) _ from .ptr hmq) (.inr hGj)
   rw [k1] at k2
   cases k2
   exact k3.dem
theorem Line.clear (hdr:fx.dr=true) (hl:Line P fx chk call ops k0 l Ts As Ss Hs μs ωs vs zf) {j:Nat} (hj:j≤l.length) {cl:Nat→Bool} (hcl:∀ k o,j≤k→l[k]?=some o→isLoad o=true→cl k=true→yc (yY (Ts k) o) (Ss j) (Ss k)=true∧VY (yY (Ts k) o) (Ss j) (Ss k)=true):∀ (rest:List Oper) (bad:List Nat) (k:Nat),j≤k→l.drop k=rest→Clear (μs j) (Hs j) bad (Ts k) (As k) →
  ∀ d,d≤rest.length→Clear (μs j) (Hs j) ((aaF P fx.nm cl k rest bad).getD d []) (Ts (k+d)) (As (k+d)):=by
 intro rest
 induction rest with
 | nil =>
  intro bad k hjk hr hC d hd
  have:d=0:=by simpa using hd
  subst this
  exact hC
 | cons o rest ih =>
  intro bad k hjk hr hC d hd
  have hkl:k < l.length:=by
   have:=congrArg List.length hr
   simp at this;omega
  have ho:l[k]?=some o:=by
   have:=congrArg (·[0]?) hr
   simpa [List.getElem?_drop] using this
  cases d with
  | zero=>exact hC
  | succ d =>
   simp only [aaF,List.getD_cons_succ]
   rw [show k+(d+1)=k+1+d by omega]
   refine ih _ (k+1) (by omega) ?_ ?_ d (by simpa using hd)
   ·
    rw [← List.drop_drop,hr];rfl
   ·
    obtain ⟨hL,_,hor⟩:=hl.step k o ho
    obtain ⟨hG,hT⟩:=hl.inv k (by omega)
    have hlen:=hT.len
    intro t ht
    cases hd:o.dst with
    | none =>
     rw [hd] at ht
     rcases hor with ⟨_,_,_,e1,e2,_⟩ | ⟨_,_,e1,e2,_⟩
     ·
      rw [e1,YS hd,e2,hd];exact hC t ht
     ·
      rw [e1,YS hd,e2,hd];exact hC t ht
    | some dd =>
     rw [hd] at ht
     dsimp only at ht
     have htb:bad.contains t=false:=by
      split at ht
      ·
       simp only [List.contains_cons,Bool.or_eq_false_iff] at ht;exact ht.2
      ·
       exact ht
     rcases hor with ⟨hw,hv,ha,e1,e2,_⟩ | ⟨_,_,e1,e2,_⟩
     ·
      rw [e1,YP hd,e2,hd]
      simp only [xM]
      rw [wI,hlen]
      by_cases hc:t=dd∧dd < (As k).length
      ·
       rw [if_pos hc,if_pos hc]
       have hcond:¬ (xZ P o || !wQ bad o || (yK o && !fx.nm && !(isLoad o && cl k)))=true:=by
        intro hh
        rw [if_pos hh] at ht
        simp [hc.1] at ht
       rw [Bool.not_eq_true,Bool.or_eq_false_iff,Bool.or_eq_false_iff] at hcond
       obtain ⟨⟨q1,q2⟩,q3⟩:=hcond
       have q2':wQ bad o=true:=by simpa using q2
       have hLj:Later (μs j) (Hs j) (μs k) (Hs k):=by
        have:=hl.later (i:=j) (k - j) (by omega)
        rwa [show j+(k - j)=k by omega] at this
       by_cases hm:qg (zG (Ts k)) o
       ·
        obtain ⟨a,h1,_,_,_,h5⟩:=adi hdr hv q1 hm (hC.operands (qm hv) q2') hLj
        rw [ha] at h5
        have e:zf k=a:=by simpa using congrArg (Option.map Prod.fst) h5
        subst e
        exact h1
       ·
        have hrm:yK o=true:=by
         cases hrm:yK o with
         | true=>rfl
         | false=>exact absurd (vP hrm) hm
        by_cases hnm:fx.nm=true
        rotate_left
        ·
         rw [Bool.not_eq_true] at hnm
         rw [hrm,hnm] at q3
         have q4:isLoad o=true∧cl k=true:=by simpa using q3
         obtain ⟨s1,s2⟩:=hcl k o hjk ho q4.1 q4.2
         exact hl.KW hjk (by omega) hm q4.1 hv ha (hC.operands (qm hv) q2') s1 s2
        obtain ⟨g1,a,g2,g3⟩:=Xt hv hnm hm hG (fun x hx=>hT.eval (List.all_eq_true.1 (show o.op.operands.toList.all wX=true from qm hv) x hx))
        rw [ha] at g2
        have e:zf k=a:=by simpa using congrArg (Option.map Prod.fst) g2
        subst e
        rw [g3,JD g1]
        exact V0.ground g1
      ·
       rw [if_neg hc,if_neg hc]
       exact hC t htb
     ·
      rw [e1,YP hd,e2,hd]
      simp only [xM]
      rw [wI,hlen]
      by_cases hc:t=dd∧dd < (As k).length
      ·
       rw [if_pos hc,if_pos hc,show dem zh=zh from kK]
       exact .nores
      ·
       rw [if_neg hc,if_neg hc]
       exact hC t htb
theorem aaq {hp0:Bool} (hc:vS P call) {T T' A:List Value} {S S' H:zx} {μ:Mu} {ω:Nat→Option jX} (hd:qw P ops=true) (h:jO P ⟨hp0,!(checked P ops).isEmpty,fixed P ops⟩ (checked P ops) (again P ops) call ops 0 [] ops.toList T S=some (T',S')) (hG:GI μ S H) (hT:TI μ H ω T A) :
  After μ ω H T' S' (qU P (lim P) ops A H):=by
 obtain ⟨Ts,As,Ss,Hs,μs,ωs,vs,zf,tr,hline,rfl,rfl,rfl,rfl,rfl,rfl,rfl,rfl,e9,e10,e11,hs,e12,e13,e14⟩:=line_of hc _ _ _ _ _ _ _ _ _ _ _ h hG hT
 obtain ⟨hGn,hTn⟩:=hline.inv ops.toList.length (Nat.le_refl _)
 have hLn:=hline.later (i:=0) ops.toList.length (by omega)
 rw [Nat.zero_add] at hLn
 refine ⟨As ops.toList.length,Hs ops.toList.length,μs ops.toList.length,ωs ops.toList.length,?_,hGn,hLn,hline.kept _ (Nat.le_refl _),hTn⟩
 simp only [qw,xQ,Bool.and_eq_true] at hd
 have hlen:ops.toList.length < 1000:=of_decide_eq_true hd.1
 refine aa7 hd.2.1 e9 fun p hp=>?_
 have hchk:(checked P ops).contains p.1=true:=by
  unfold checked
  simp only [List.contains_eq_mem,decide_eq_true_eq]
  exact List.mem_map.2 ⟨p,hp,rfl⟩
 have hdr:(Fx.mk hp0 (!(checked P ops).isEmpty) (fixed P ops)).dr=true:=by
  show (!(checked P ops).isEmpty)=true
  cases hl:checked P ops with
  | nil=>rw [hl] at hchk;cases hchk
  | cons a b=>rfl
 have hp2:=List.all_eq_true.1 hd.2.2 p hp
 have hp0:=hp
 unfold need at hp
 obtain ⟨i,hi,hp⟩:=List.mem_flatMap.1 hp
 obtain ⟨j,hj,hp⟩:=List.mem_filterMap.1 hp
 have hi:i < ops.toList.length:=List.mem_range.1 hi
 have hj:j < ops.toList.length:=List.mem_range.1 hj
 split at hp <;> first | (cases hp;done) | skip
 rename_i oi oj hoi hoj
 split at hp <;> first | (cases hp;done) | skip
 rename_i hcond
 cases hp
 simp only [Bool.and_eq_true,Bool.not_eq_true'] at hcond
 obtain ⟨⟨hni,hcj⟩,_⟩:=hcond
 dsimp only at hp2 hchk ⊢
 rw [hoi] at hp2
 dsimp only at hp2
 have hij:i≠j:=by
  intro e;subst e
  rw [hoi] at hoj;cases hoj
  rw [hni] at hcj;cases hcj
 have hGj:(tr.map (·.2.1)++[Hs ops.toList.length])[if j < i then j else j+1]?=some (Hs (if j < i then j else j+1)):=e11 _ (by split <;> omega)
 unfold ZY
 rw [hoi,e10 i hi,hGj]
 dsimp only
 obtain ⟨_,_,hor⟩:=hline.step i oi hoi
 rcases hor with ⟨hw,hv,ha,heT,heA,hq⟩ | ⟨hw,_⟩
 ·
  rw [hw]
  simp only [Bool.not_true,Bool.false_or]
  obtain ⟨hGi,hTi⟩:=hline.inv i (by omega)
  have hops:∀ x ∈ oi.op.operands.toList,V0 (μs i) (Hs i) (dem (zG (Ts i) x)) (zG (As i) x):=fun x hx=>hTi.eval (List.all_eq_true.1 (show oi.op.operands.toList.all wX=true from qm hv) x hx)
  have hq3:okq 3 (vs i)=true:=hq (by rw [Nat.zero_add];exact hchk)
  have same:∃ G',aOp P (zG (As i)) oi (Hs (if j < i then j else j+1))=some (zf i,G')∧XQ 3 (zf i) (zf i)=true:=by
   by_cases hm:qg (zG (Ts i)) oi
   case neg =>
    have hrm:yK oi=true:=by
     cases hrm:yK oi with
     | true=>rfl
     | false=>exact absurd (vP hrm) hm
    have hin:(i,j) ∈ again P ops:=List.mem_append_left _ (List.mem_filter.2 ⟨hp0,by dsimp only;rw [hoi];exact hrm⟩)
    have hne:(again P ops).isEmpty=false:=by
     cases hl:again P ops with
     | nil=>rw [hl] at hin;cases hin
     | cons a b=>rfl
    have hst:=List.all_eq_true.1 (e14 hne) _ hin
    rw [List.nil_append] at hst
    have hi1:(hs++[(zh,Ss ops.toList.length)])[i]?=some (yY (Ts i) oi,Ss i):=by
     rw [List.getElem?_append_left (by omega)];exact e13 i oi hoi
    have hj1:∃ p2,(hs++[(zh,Ss ops.toList.length)])[if j < i then j else j+1]?=some (p2,Ss (if j < i then j else j+1)):=by
     by_cases hjl:(if j < i then j else j+1) < ops.toList.length
     ·
      rw [List.getElem?_append_left (by omega)]
      exact ⟨_,e13 _ _ (List.getElem?_eq_getElem hjl)⟩
     ·
      have:(if j < i then j else j+1)=ops.toList.length:=by split at hjl <;> (rename_i hh;simp only [hh,if_true,if_false];omega)
      rw [this,List.getElem?_append_right (by omega),e12,Nat.sub_self]
      exact ⟨_,rfl⟩
    obtain ⟨p2,hj1⟩:=hj1
    unfold YE at hst
    dsimp only at hst
    rw [if_pos (show i < 1000 by omega),hi1,hj1] at hst
    dsimp only at hst
    have obj:∀ q r b,μs i q=some (r,b)→(∀ Sa Sb,yc (yY (Ts i) oi) Sa Sb=true→(∃ o,Sa.get q=some o∧o.alive=true)∧q ∉ Sb.log.take (Sb.log.length - Sa.log.length))→(Hs (if j < i then j else j+1)).get r=(Hs i).get r:=by
     intro q r b hq hQ
     by_cases hji:j < i
     ·
      rw [if_pos hji] at hst ⊢
      rw [if_pos hji] at hst
      obtain ⟨⟨o1,g1,g2⟩,g3⟩:=hQ _ _ hst
      obtain ⟨hGj3,_⟩:=hline.inv j (by omega)
      obtain ⟨r0,_,g4,_⟩:=hGj3.obj q o1 g1 g2
      have hL:=hline.later (i:=j) (i - j) (by omega)
      rw [show j+(i - j)=i by omega] at hL
      obtain ⟨b',hb'⟩:=hL.mu q r0 true g4
      rw [hq] at hb'
      cases hb'
      obtain ⟨new,n1,n2⟩:=hL.still
      rw [hGj3.log,hGi.log] at n1
      rw [n1] at g3
      simp only [List.length_append,Nat.add_sub_cancel,List.take_left] at g3
      exact (n2 q r g4 g3).2.symm
     ·
      rw [if_neg hji] at hst ⊢
      rw [if_neg hji] at hst
      obtain ⟨⟨o1,g1,g2⟩,g3⟩:=hQ _ _ hst
      have hb:=hGi.at hq g1 g2
      subst hb
      have hL:=hline.later (i:=i) (j+1 - i) (by omega)
      rw [show i+(j+1 - i)=j+1 by omega] at hL
      obtain ⟨hGj3,_⟩:=hline.inv (j+1) (by omega)
      obtain ⟨new,n1,n2⟩:=hL.still
      rw [hGj3.log,hGi.log] at n1
      rw [n1] at g3
      simp only [List.length_append,Nat.add_sub_cancel,List.take_left] at g3
      exact (n2 q r hq g3).2
    clear hst hi1 hj1
    have hok:=qm hv
    have hvo:=hv
    unfold jW at hv
    rw [if_pos hok] at hv
    obtain ⟨dst,op,type,pos,after,guard⟩:=oi
    unfold qg at hm
    cases op <;> dsimp only at hv hm <;> first | (exact absurd True.intro hm) | skip
    case load t a =>
     have hv:ji P (fixed P ops) t (zG (Ts i) a) (Ss i)=some (vs i,Ss (i+1)):=hv
     obtain ⟨ad,hq⟩:∃ q,zG (Ts i) a=.pointer q:=Classical.byContradiction fun hn=>hm fun q hq=>hn ⟨q,hq⟩
     have hx:=hops a (by simp [Op.operands])
     obtain ⟨_,w,k1,k2⟩:=vK hv hx (.inr hGi)
     have hA:jw P (lim P) (As i) ⟨dst,.load t a,type,pos,after,guard⟩ (Hs i)=wB P t (zG (As i) a) (Hs i):=by unfold jw;rw [if_pos hok];rfl
     rw [hA,k1] at ha
     have e:w=zf i:=by simpa using congrArg (Option.map Prod.fst) ha
     subst e
     rw [hq] at hx
     have hx:V0 (μs i) (Hs i) (.pointer ad) (zG (As i) a):=hx
     generalize hpa:zG (As i) a=pa at hx k1
     have hres:wB P t pa (Hs (if j < i then j else j+1))=some (zf i,Hs (if j < i then j else j+1)):=by
      cases hx with
      | sg hs =>
       cases ad with
       | none=>simp [wB] at k1
       | some ad=>simp [Go.Abs.sg] at hs
      | @ptr _ q o r b hmq =>
       refine vV (obj q r b hmq fun Sa Sb hQ=>?_) k1
       have hQ:yc (zG (Ts i) a) Sa Sb=true:=hQ
       rw [hq] at hQ
       simp only [yc,Bool.and_eq_true,Bool.not_eq_true',List.contains_eq_mem,decide_eq_false_iff_not] at hQ
       refine ⟨?_,hQ.2⟩
       have h1:=hQ.1
       split at h1 <;> first | (cases h1;done) | skip
       rename_i hsa
       exact ⟨_,hsa,rfl⟩
     rw [← hpa] at hres
     exact ⟨_,hres,Ji 3 (Jc hq3) k2.dem⟩
    case lookup t x k ok =>
     have hv:vY P (fixed P ops) t (zG (Ts i) x) (zG (Ts i) k) ok (Ss i)=some (vs i,Ss (i+1)):=hv
     have hx:=hops x (by simp [Op.operands])
     obtain ⟨_,w,k1,k2⟩:=JG hv hx (hops k (by simp [Op.operands])) (.inr hGi)
     have hA:jw P (lim P) (As i) ⟨dst,.lookup t x k ok,type,pos,after,guard⟩ (Hs i)=jE P t (zG (As i) x) (zG (As i) k) ok (Hs i):=by unfold jw;rw [if_pos hok];rfl
     rw [hA,k1] at ha
     have e:w=zf i:=by simpa using congrArg (Option.map Prod.fst) ha
     subst e
     have hres:jE P t (zG (As i) x) (zG (As i) k) ok (Hs (if j < i then j else j+1))=some (zf i,Hs (if j < i then j else j+1)):=by
      refine Yx (fun r hr=>?_) k1
      rw [hr] at hx
      generalize hu:dem (zG (Ts i) x)=u at hx
      have hum:∃ q b,u=.map (some q)∧μs i q=some (r,b):=by
       cases hx with
       | sg hs=>simp [Go.Abs.sg] at hs
       | map hmq=>exact ⟨_,_,rfl,hmq⟩
      obtain ⟨q,b,rfl,hmq⟩:=hum
      have hxe:zG (Ts i) x=.map (some q):=by
       cases hvx:zG (Ts i) x <;> rw [hvx] at hu <;> simp [dem,qj] at hu <;> rw [hu]
      refine obj q r b hmq fun Sa Sb hQ=>?_
      have hQ:yc (zG (Ts i) x) Sa Sb=true:=hQ
      rw [hxe] at hQ
      simp only [yc,Bool.and_eq_true,Bool.not_eq_true',List.contains_eq_mem,decide_eq_false_iff_not] at hQ
      refine ⟨?_,hQ.2⟩
      have h1:=hQ.1
      split at h1 <;> first | (cases h1;done) | skip
      rename_i hsa
      exact ⟨_,hsa,rfl⟩
     exact ⟨_,hres,Ji 3 (Jc hq3) k2.dem⟩
   by_cases hrd:yV oi=false
   ·
    obtain ⟨a,h1,h2⟩:=acg hdr hv hni hrd hops
    have h3:=(h2 (Hs i)).2
    rw [ha] at h3
    have e:zf i=a:=by simpa using congrArg (Option.map Prod.fst) h3
    subst e
    exact ⟨_,(h2 _).1,Ji 3 (Jc hq3) h1⟩
   ·
    have hrd:yV oi=true:=by simpa using hrd
    by_cases hlt:i < j
    ·
     rw [if_neg (by omega)]
     have hL:=hline.later (i:=i) (j+1 - i) (by omega)
     rw [show i+(j+1 - i)=j+1 by omega] at hL
     obtain ⟨a,h1,_,h3,h4,_⟩:=adi hdr hv hni hm hops hL
     rw [ha] at h4
     have e:zf i=a:=by simpa using congrArg (Option.map Prod.fst) h4
     subst e
     exact ⟨_,h3,Ji 3 (Jc hq3) h1⟩
    ·
     rw [if_pos (by omega)]
     rw [hrd] at hp2
     have hcl:wQ ((aaF P (fixed P ops) (fun k=>XH P ops && (ZF P ops).contains (k,j)) j (ops.toList.drop j) []).getD (i - j) []) oi=true:=by
      simpa [hlt] using hp2
     obtain ⟨hGj2,hTj⟩:=hline.inv j (by omega)
     have hC0:Clear (μs j) (Hs j) [] (Ts j) (As j):=fun t _=>(hTj.slots t).v0
     have hld:∀ k o,j≤k→ops.toList[k]?=some o→isLoad o=true→(XH P ops && (ZF P ops).contains (k,j))=true→yc (yY (Ts k) o) (Ss j) (Ss k)=true∧VY (yY (Ts k) o) (Ss j) (Ss k)=true:=by
      intro k o hjk hok hld hck
      rw [Bool.and_eq_true] at hck
      obtain ⟨hcm,hin⟩:=hck
      have hin:(k,j) ∈ ZF P ops:=by simpa using hin
      have hkj:k≠j:=fun e=>by
       subst e
       rw [hoj] at hok
       cases hok
       obtain ⟨dst,op,type,pos,after,guard⟩:=oj
       cases op <;> first | (cases hld;done) | (cases hcj;done)
      have hjk:j < k:=by omega
      have hkn:k < ops.toList.length:=(List.getElem?_eq_some_iff.1 hok).1
      have h1:(k,j) ∈ again P ops:=List.mem_append_left _ hin
      have h2:(k+1000,j) ∈ again P ops:=List.mem_append_right _ (by
       rw [if_pos hcm]
       exact List.mem_map.2 ⟨(k,j),List.mem_filter.2 ⟨hin,decide_eq_true hjk⟩,rfl⟩)
      have hne:(again P ops).isEmpty=false:=by
       cases hl:again P ops with
       | nil=>rw [hl] at h1;cases h1
       | cons a b=>rfl
      have t1:=List.all_eq_true.1 (e14 hne) _ h1
      have t2:=List.all_eq_true.1 (e14 hne) _ h2
      rw [List.nil_append] at t1 t2
      have hk1:(hs++[(zh,Ss ops.toList.length)])[k]?=some (yY (Ts k) o,Ss k):=by
       rw [List.getElem?_append_left (by omega)];exact e13 k o hok
      have hj1:(hs++[(zh,Ss ops.toList.length)])[j]?=some (yY (Ts j) oj,Ss j):=by
       rw [List.getElem?_append_left (by omega)];exact e13 j oj hoj
      unfold YE at t1 t2
      dsimp only at t1 t2
      rw [if_pos (show k < 1000 by omega),if_pos hjk,hk1,hj1] at t1
      rw [if_neg (show ¬ k+1000 < 1000 by omega),Nat.add_sub_cancel,hk1,hj1] at t2
      dsimp only at t1 t2
      rw [if_pos hjk] at t1
      exact ⟨t1,t2⟩
     have hC:=hline.clear hdr (j:=j) (by omega) (cl:=fun k=>XH P ops && (ZF P ops).contains (k,j)) hld _ [] j (Nat.le_refl _) rfl hC0 (i - j) (by rw [List.length_drop];omega)
     rw [show j+(i - j)=i by omega] at hC
     have hL:=hline.later (i:=j) (i - j) (by omega)
     rw [show j+(i - j)=i by omega] at hL
     obtain ⟨a,h1,h2,_,_,h5⟩:=adi hdr hv hni hm (hC.operands (qm hv) hcl) hL
     rw [ha] at h5
     have e:zf i=a:=by simpa using congrArg (Option.map Prod.fst) h5
     subst e
     exact ⟨_,h2,Ji 3 (Jc hq3) h1⟩
  obtain ⟨G',h1,h2⟩:=same
  unfold recheck
  rw [h1]
  exact h2
 ·
  rw [hw]
  rfl
end
end Go.Abs
namespace Go.Abs
open Go.RowKit
section
variable {P:Program} {call:FuncId→List Value→M Value}
def ach (μ:Mu) (ω:Nat→Option jX) (H:zx) (e:AEx) (T':List Value) (S':zx) (R:St):Prop :=
 ∃ A' H' μ' ω',R=some (e,A',H')∧GI μ' S' H'∧Later μ H μ' H'∧Kept ω H ω' H'∧TI μ' H' ω' T' A'
theorem abm {hp:Bool} (hc:vS P call) (fuel:Nat):∀ (c:Code) (T T' A:List Value) (S S' H:zx) (μ:Mu) (ω:Nat→Option jX) (e:AEx),yh P hp call fuel c T S=some (e,T',S')→GI μ S H→TI μ H ω T A→ach μ ω H e T' S' (jU P c A H):=by
 intro c
 induction c with
 | skip =>
  intro T T' A S S' H μ ω e h hG hT
  simp only [yh,Option.some.injEq,Prod.mk.injEq] at h
  obtain ⟨rfl,rfl,rfl⟩:=h
  exact ⟨A,H,μ,ω,rfl,hG,Later.refl _ _,Kept.refl _ _,hT⟩
 | exit id =>
  intro T T' A S S' H μ ω e h hG hT
  simp only [yh,Option.some.injEq,Prod.mk.injEq] at h
  obtain ⟨rfl,rfl,rfl⟩:=h
  exact ⟨A,H,μ,ω,rfl,hG,Later.refl _ _,Kept.refl _ _,hT⟩
 | ret =>
  intro T T' A S S' H μ ω e h hG hT
  simp only [yh,Option.some.injEq,Prod.mk.injEq] at h
  obtain ⟨rfl,rfl,rfl⟩:=h
  exact ⟨A,H,μ,ω,rfl,hG,Later.refl _ _,Kept.refl _ _,hT⟩
 | region i ops d =>
  intro T T' A S S' H μ ω e h hG hT
  cases d with
  | false =>
   simp only [yh] at h
   split at h <;> first | (cases h;done) | skip
   rename_i T1 S1 ho
   cases h
   obtain ⟨A',H',μ',ω',h1,h2,h3,h4,h5⟩:=acH hc _ _ _ _ _ _ _ _ _ ho hG hT
   exact ⟨A',H',μ',ω',by simp only [jU,h1],h2,h3,h4,h5⟩
  | true =>
   simp only [yh] at h
   split at h <;> first | (cases h;done) | skip
   rename_i hd
   split at h <;> first | (cases h;done) | skip
   rename_i T1 S1 ho
   cases h
   obtain ⟨A',H',μ',ω',h1,h2,h3,h4,h5⟩:=aaq hc hd ho hG hT
   exact ⟨A',H',μ',ω',by simp only [jU,h1],h2,h3,h4,h5⟩
 | seq x y ihx ihy =>
  intro T T' A S S' H μ ω e h hG hT
  simp only [yh] at h
  split at h
  ·
   rename_i T1 S1 hx
   obtain ⟨A1,H1,μ1,ω1,h1,h2,h3,h4,h5⟩:=ihx _ _ _ _ _ _ _ _ _ hx hG hT
   obtain ⟨A2,H2,μ2,ω2,k1,k2,k3,k4,k5⟩:=ihy _ _ _ _ _ _ _ _ _ h h2 h5
   exact ⟨A2,H2,μ2,ω2,by simp only [jU,h1];exact k1,k2,h3.trans k3,h4.trans k4,k5⟩
  ·
   rename_i hne
   obtain ⟨A1,H1,μ1,ω1,h1,h2,h3,h4,h5⟩:=ihx _ _ _ _ _ _ _ _ _ h hG hT
   refine ⟨A1,H1,μ1,ω1,?_,h2,h3,h4,h5⟩
   simp only [jU,h1]
   cases e with
   | normal=>exact absurd h (hne _ _)
   | exit id=>rfl
   | ret=>rfl
 | cond c x y ihx ihy =>
  intro T T' A S S' H μ ω e h hG hT
  simp only [yh] at h
  split at h <;> first | (cases h;done) | skip
  rename_i hok
  have hv:=hT.eval hok
  split at h
  ·
   rename_i hb
   have:zG A c=.bool true:=zO hv (by rw [hb];rfl) |>.trans hb
   obtain ⟨A1,H1,μ1,ω1,h1,h2,h3,h4,h5⟩:=ihx _ _ _ _ _ _ _ _ _ h hG hT
   exact ⟨A1,H1,μ1,ω1,by simp only [jU,hok,if_true,this];exact h1,h2,h3,h4,h5⟩
  ·
   rename_i hb
   have:zG A c=.bool false:=zO hv (by rw [hb];rfl) |>.trans hb
   obtain ⟨A1,H1,μ1,ω1,h1,h2,h3,h4,h5⟩:=ihy _ _ _ _ _ _ _ _ _ h hG hT
   exact ⟨A1,H1,μ1,ω1,by simp only [jU,hok,if_true,this];exact h1,h2,h3,h4,h5⟩
  ·
   cases h
 | block id c ih =>
  intro T T' A S S' H μ ω e h hG hT
  simp only [yh] at h
  split at h
  ·
   rename_i id' T1 S1 hx
   obtain ⟨A1,H1,μ1,ω1,h1,h2,h3,h4,h5⟩:=ih _ _ _ _ _ _ _ _ _ hx hG hT
   by_cases hid:id'=id
   ·
    rw [if_pos hid] at h
    cases h
    exact ⟨A1,H1,μ1,ω1,by simp only [jU,h1,if_pos hid],h2,h3,h4,h5⟩
   ·
    rw [if_neg hid] at h
    cases h
    exact ⟨A1,H1,μ1,ω1,by simp only [jU,h1,if_neg hid],h2,h3,h4,h5⟩
  ·
   rename_i hne
   obtain ⟨A1,H1,μ1,ω1,h1,h2,h3,h4,h5⟩:=ih _ _ _ _ _ _ _ _ _ h hG hT
   refine ⟨A1,H1,μ1,ω1,?_,h2,h3,h4,h5⟩
   simp only [jU,h1]
   cases e with
   | normal=>rfl
   | exit id'=>exact absurd h (hne _ _ _)
   | ret=>rfl
 | loop c ih =>
  have key:∀ (n:Nat) (T T' A:List Value) (S S' H:zx) (μ:Mu) (ω:Nat→Option jX) (e:AEx),wZ n (yh P hp call fuel c) T S=some (e,T',S')→GI μ S H→TI μ H ω T A→ach μ ω H e T' S' (yj (jU P c) A H):=by
   intro n
   induction n with
   | zero=>intro T T' A S S' H μ ω e h;cases h
   | succ n ihn =>
    intro T T' A S S' H μ ω e h hG hT
    simp only [wZ] at h
    split at h
    ·
     rename_i T1 S1 hx
     obtain ⟨A1,H1,μ1,ω1,h1,h2,h3,h4,h5⟩:=ih _ _ _ _ _ _ _ _ _ hx hG hT
     obtain ⟨A2,H2,μ2,ω2,k1,k2,k3,k4,k5⟩:=ihn _ _ _ _ _ _ _ _ _ h h2 h5
     exact ⟨A2,H2,μ2,ω2,by rw [wz h1];exact k1,k2,h3.trans k3,h4.trans k4,k5⟩
    ·
     rename_i hne
     obtain ⟨A1,H1,μ1,ω1,h1,h2,h3,h4,h5⟩:=ih _ _ _ _ _ _ _ _ _ h hG hT
     exact ⟨A1,H1,μ1,ω1,jr h1 (fun he=>by subst he;exact hne _ _ h),h2,h3,h4,h5⟩
  intro T T' A S S' H μ ω e h hG hT
  simp only [yh] at h
  obtain ⟨A1,H1,μ1,ω1,h1,h2⟩:=key fuel _ _ _ _ _ _ _ _ _ h hG hT
  exact ⟨A1,H1,μ1,ω1,by simp only [jU];exact h1,h2⟩
 | _=>intro T T' A S S' H μ ω e h;simp only [yh] at h;cases h
theorem VV.adX {μ:Mu} {H:zx} {ω ω':Nat→Option jX} {f:jX→Option jX} (hω:∀ r,ω' r=(ω r).bind f) {s s':jX} (hs:f s=some s') {v a:Value} (h:VV μ H ω (some s) v a) (hv:yT v=true):VV μ H ω' (some s') v a:=by
 cases h with
 | sg h=>exact .sg h
 | ptr h=>exact .ptr h
 | map h=>exact .map h
 | slm h=>exact .slm h
 | slE=>exact .slE
 | sl hr hp hg hl hl' hc=>exact .sl hr hp hg hl hl' (fun i hi=>(hc i hi).at0)
 | so h hr hp hg hl hl' hc=>exact .so (by rw [hω,h];exact hs) hr hp hg hl hl' (fun i hi=>(hc i hi).at0)
 | ep hr hp hg hl hc=>exact .ep hr hp hg hl (fun i hi=>(hc i hi).at0)
 | func fn hx hc h1 h2=>exact .func fn hx hc (fun i=>(h1 i).at0) (fun i=>(h2 i).at0)
 | agg hx hh=>exact .agg hx (fun i=>(hh i).at0)
 | nores=>exact .nores
 | @tuple _ x x' hx hh =>
  have h0:x.size=0:=by simpa [yT] using hv
  have e1:x=#[]:=Array.eq_empty_of_size_eq_zero h0
  have e2:x'=#[]:=Array.eq_empty_of_size_eq_zero (by rw [← hx];exact h0)
  subst e1 e2
  exact .nores
def place (rs:List ResultVar):jX→Option jX
 | .ext=>some .ext
 | .res _=>none
 | .slot i j=>match rs with
  | [.tmp t]=>if i=t then some (.res j) else none
  | _=>match j with
   | none=>(rs.findIdx? (abJ i)).map fun k=>.res (some k)
   | some _=>none
theorem XJ {rs:List ResultVar} {i:Nat} (h:∀ t,rs≠[.tmp t]):place rs (.slot i none)=(rs.findIdx? (abJ i)).map fun k=>.res (some k):=by
 match rs,h with
 | [],_=>rfl
 | [.tmp t],h=>exact absurd rfl (h t)
 | [.cell _ _],_=>rfl
 | .tmp _::_::_,_=>rfl
 | .cell _ _::_::_,_=>rfl
theorem Qa {μ:Mu} {ω:Nat→Option jX} {S H:zx} {T A:List Value} (hG:GI μ S H) (hT:TI μ H ω T A):∀ (l:List ResultVar) (vs:List Value),zI P T S l=some vs →
  ∃ zf,qA P A H l=some zf∧vs.length=l.length∧zf.length=l.length∧∀ i:Nat,match (l[i]?:Option ResultVar) with
   | some (.tmp t)=>vs.getD i zh=T.getD t zh∧zf.getD i zh=A.getD t zh
   | _=>V0 μ H (vs.getD i zh) (zf.getD i zh):=by
 intro l
 induction l with
 | nil =>
  intro vs h
  simp only [zI,Option.some.injEq] at h
  subst h
  exact ⟨[],rfl,rfl,rfl,fun i=>by simpa using VV.zh⟩
 | cons x l ih =>
  intro vs h
  cases x with
  | tmp t =>
   simp only [zI] at h
   split at h <;> first | (cases h;done) | skip
   rename_i vs' hr
   cases h
   obtain ⟨zf,h1,h2,h3,h4⟩:=ih _ hr
   refine ⟨A.getD t zh::zf,by simp only [qA,h1],by simp [h2],by simp [h3],fun i=>?_⟩
   cases i with
   | zero=>exact ⟨rfl,rfl⟩
   | succ i=>simpa using h4 i
  | cell a t =>
   simp only [zI] at h
   split at h <;> first | (cases h;done) | skip
   rename_i v S1 vs' hl hr
   cases h
   obtain ⟨zf,h1,h2,h3,h4⟩:=ih _ hr
   obtain ⟨_,w,k1,k2⟩:=vK hl (hT.slots a).v0 (.inr hG)
   refine ⟨w::zf,by simp only [qA,k1,h1],by simp [h2],by simp [h3],fun i=>?_⟩
   cases i with
   | zero=>exact k2
   | succ i=>simpa using h4 i
theorem acB {μ:Mu} {ω:Nat→Option jX} {S S' H:zx} {T A:List Value} {fn:Func} {v:Value} (hG:GI μ S H) (hT:TI μ H ω T A) (h:aaO P fn T S=some (v,S')) :
  S'=S∧∃ a,abr P fn A H=some (a,H)∧VV μ H (fun r=>(ω r).bind (place fn.results.toList)) (some (.res none)) v a:=by
 unfold aaO at h
 split at h <;> first | (cases h;done) | skip
 rename_i vs hvs
 split at h <;> first | (cases h;done) | skip
 rename_i hok
 obtain ⟨zf,h1,h2,h3,h4⟩:=Qa hG hT _ _ hvs
 generalize hrs:fn.results.toList=rs at *
 split at h
 ·
  rename_i v1
  cases h
  obtain ⟨a,rfl⟩:∃ a,zf=[a]:=by
   match zf,h3.trans h2.symm with
   | [a],_=>exact ⟨a,rfl⟩
  refine ⟨rfl,a,by simp only [abr,hrs,h1],?_⟩
  match rs,h2 with
  | [x],_ =>
   have:=h4 0
   cases x with
   | tmp t =>
    simp only [List.getElem?_cons_zero,List.getD_cons_zero] at this
    obtain ⟨rfl,rfl⟩:=this
    refine (hT.slots t).WY (fun _=>rfl) _ (fun s hs=>?_)
    cases hs
    refine ⟨_,rfl,by simp only [place,if_true],fun k t' ht=>?_⟩
    cases ht
    exact ⟨_,rfl,by simp only [place,if_true]⟩
   | cell b t=>exact (show V0 μ H v a from this).at0
 ·
  rename_i hne
  split at h <;> first | (cases h;done) | skip
  rename_i hnt
  cases h
  refine ⟨rfl,.tuple zf.toArray,?_,.tuple (by simp [h2,h3]) fun i=>?_⟩
  ·
   simp only [abr,hrs,h1]
   match zf,vs,h3.trans h2.symm,hne with
   | [],_,_,_=>rfl
   | [a],[v],_,hne=>exact absurd rfl (hne v)
   | a::b::c,_,_,_=>rfl
  ·
   have e1:vs.toArray.getD i zh=vs.getD i zh:=by rw [← getD_toList,List.toList_toArray]
   have e2:zf.toArray.getD i zh=zf.getD i zh:=by rw [← getD_toList,List.toList_toArray]
   rw [e1,e2]
   have h5:=h4 i
   cases hx:rs[i]? with
   | none=>rw [hx] at h5;exact (show V0 μ H _ _ from h5).at0
   | some x =>
    rw [hx] at h5
    cases x with
    | cell b t=>exact (show V0 μ H _ _ from h5).at0
    | tmp t =>
     dsimp only at h5
     have hi:i < rs.length:=(List.getElem?_eq_some_iff.1 hx).1
     have hid:rs.findIdx? (abJ t)=some i:=by
      have:=List.all_eq_true.1 hok i (List.mem_range.2 hi)
      rw [hx] at this
      simpa using this
     have hnt2:yT (T.getD t zh)=true:=by
      rw [← h5.1,List.getD_eq_getElem?_getD,List.getElem?_eq_getElem (by omega)]
      exact List.all_eq_true.1 hnt _ (List.getElem_mem _)
     rw [h5.1,h5.2]
     refine (hT.slots t).adX (fun _=>rfl) (s':=.res (some i)) ?_ hnt2
     have hne1:∀ t',rs≠[.tmp t']:=by
      intro t' e
      rw [e] at h2
      match vs,h2 with
      | [v],_=>exact hne v rfl
     rw [XJ hne1,hid];rfl
def abb (P:Program) (O:Ora):Prop:=∀ f q,O.fn f=some q→vS P (fun g args=>if g=f then q args else fun _=>none)
theorem adn {s t:jX} {i:Nat} (h:s.comp i=some t):t≠.ext:=by
 cases s with
 | ext=>cases h
 | slot a b=>cases b <;> first | (cases h;exact fun h=>by cases h) | cases h
 | res b=>cases b <;> first | (cases h;exact fun h=>by cases h) | cases h
theorem VV.yO {μ μ':Mu} {H:zx} {ω ω':Nat→Option jX} {es:List Nat} (hp:∀ r l own e,H.get r=some (.cells l own e)→e ∉ es→xC μ r→xC μ' r) (hω:∀ r s,s≠.ext→ω r=some s→ω' r=some s)
  {ℓ:Option jX} {v a:Value} (h:VV μ H ω ℓ v a):∀ d,Go.Abs.yO es d v=true→(∀ s,ℓ=some s→s≠.ext)→VV μ' H ω' ℓ v a:=by
 induction h with
 | sg h=>exact fun _ _ _=>.sg h
 | ptr h=>intro d hc;cases d <;> simp [Go.Abs.yO] at hc
 | map h=>intro d hc;cases d <;> simp [Go.Abs.yO] at hc
 | slm h=>intro d hc;cases d <;> simp [Go.Abs.yO] at hc
 | slE=>exact fun _ _ _=>.slE
 | @sl ℓ e n r o cs l own hr hpr hg hl hn hc ih =>
  intro d hcl _
  cases d with
  | zero=>cases hcl
  | succ d =>
   have hv:Go.Abs.yO es (d+1) (.iface 1 (.iface e (.iface n (.agg cs))))=(!es.contains e && cs.toList.all (Go.Abs.yO es d)):=rfl
   rw [hv,Bool.and_eq_true] at hcl
   have he:e ∉ es:=by simpa using hcl.1
   refine .sl hr (hp _ _ _ _ hg he hpr) hg hl hn (fun i hi=>ih i hi d ?_ (fun s hs=>by cases hs))
   rw [List.getD_eq_getElem?_getD,List.getElem?_eq_getElem (by omega)]
   exact List.all_eq_true.1 hcl.2 _ (List.getElem_mem _)
 | @so s e n r cs l anc hw hr hpr hg hl hn hc ih =>
  intro d hcl hs
  cases d with
  | zero=>cases hcl
  | succ d =>
   have hv:Go.Abs.yO es (d+1) (.iface 2 (.iface e (.iface n (.agg cs))))=(!es.contains e && cs.toList.all (Go.Abs.yO es d)):=rfl
   rw [hv,Bool.and_eq_true] at hcl
   have he:e ∉ es:=by simpa using hcl.1
   refine .so (hω _ _ (hs _ rfl) hw) hr (hp _ _ _ _ hg he hpr) hg hl hn (fun i hi=>ih i hi d ?_ (fun s hs=>by cases hs))
   rw [List.getD_eq_getElem?_getD,List.getElem?_eq_getElem (by omega)]
   exact List.all_eq_true.1 hcl.2 _ (List.getElem_mem _)
 | ep hr hpr hg hl hc ih =>
  intro d hcl
  cases d with
  | zero=>cases hcl
  | succ d=>simp [Go.Abs.yO,vSl] at hcl
 | func fn hx hc h1 h2=>intro d hc;cases d <;> simp [Go.Abs.yO] at hc
 | @agg ℓ x x' hx hh ih =>
  intro d hcl _
  cases d with
  | zero=>cases hcl
  | succ d =>
   have hcl:x.toList.all (Go.Abs.yO es d)=true:=hcl
   refine .agg hx (fun i=>?_)
   by_cases hi:i < x.size
   ·
    refine ih i d ?_ (fun s hs=>by cases hs)
    rw [Array.getD_eq_getD_getElem?,Array.getElem?_eq_getElem hi]
    exact List.all_eq_true.1 hcl _ (by simp)
   ·
    rw [Array.getD_eq_getD_getElem?,Array.getElem?_eq_none (Nat.le_of_not_lt hi),Array.getD_eq_getD_getElem?,Array.getElem?_eq_none (by omega)]
    exact .nores
 | nores=>exact fun _ _ _=>.nores
 | @tuple ℓ x x' hx hh ih =>
  intro d hcl hs
  cases d with
  | zero=>cases hcl
  | succ d =>
   have hcl:x.toList.all (Go.Abs.yO es d)=true:=hcl
   refine .tuple hx (fun i=>?_)
   by_cases hi:i < x.size
   ·
    refine ih i d ?_ (fun s hb=>?_)
    ·
     rw [Array.getD_eq_getD_getElem?,Array.getElem?_eq_getElem hi]
     exact List.all_eq_true.1 hcl _ (by simp)
    ·
     cases ℓ with
     | none=>cases hb
     | some s0=>exact adn (s:=s0) hb
   ·
    rw [Array.getD_eq_getD_getElem?,Array.getElem?_eq_none (Nat.le_of_not_lt hi),Array.getD_eq_getD_getElem?,Array.getElem?_eq_none (by omega)]
    exact .nores
open Classical in
noncomputable def aeu (μ:Mu) (ω:Nat→Option jX):Nat→Option jX:=fun r=>if ∃ q,μ q=some (r,true) then none else ω r
open Classical in
noncomputable def WZ (μ μ1:Mu) (ω:Nat→Option jX):Nat→Option jX:=fun r=>if ∃ q,μ q=some (r,true)∧¬ μ1 q=some (r,true) then some .ext else ω r
theorem abd {call:FuncId→List Value→M Value} (hc:vS P call) {hps:FuncId→Bool} {hp:Bool}:vS P (yC hps hp call):=by
 cases hp with
 | false=>exact hc
 | true =>
  intro g args aargs S v S' h μ H ω hG hA hD hE
  unfold yC at h
  dsimp only at h
  split at h
  ·
   exact hc g args aargs S v S' h μ H ω hG hA hD hE
  ·
   split at h <;> first | (cases h;done) | skip
   rename_i m S1 hf
   obtain ⟨μ1,h1,h2,h3,hsz⟩:=Ym _ _ _ _ _ _ hf hG hA
   split at h <;> first | (cases h;done) | skip
   rename_i r0 hr0
   obtain ⟨v0,S2⟩:=r0
   simp only [Option.some.injEq] at h
   unfold Yy at h
   dsimp only at h
   split at h
   ·
    rename_i hb
    cases h
    simp only [Bool.and_eq_true,beq_iff_eq] at hb
    obtain ⟨⟨_,hgr⟩,hlog⟩:=hb
    have hlent:∀ q r,μ q=some (r,true)→¬ μ1 q=some (r,true)→r < H.next∧xC μ1 r:=fun q r hq hn =>
     ⟨hG.lt q r _ hq,fun q' hq'=>by
      rcases h2.new q' r hq' with h5 | h5
      ·
       have:=hG.inj q q' r hq h5
       subst this
       exact hn hq'
      ·
       have:=hG.lt q r _ hq;omega,by rw [h2.hid];exact hG.vis q r hq⟩
    have hDL:Dom μ1 H (WZ μ μ1 ω):=fun r s hs=>by
     unfold WZ at hs
     split at hs
     ·
      rename_i hx
      obtain ⟨q,hq,hn⟩:=hx
      exact hlent q r hq hn
     ·
      exact ⟨(hD r s hs).1,h2.priv (hD r s hs).1 (hD r s hs).2⟩
    have hEL:∀ r s,WZ μ μ1 ω r=some s→s=.ext:=fun r s hs=>by
     unfold WZ at hs
     split at hs
     ·
      cases hs;rfl
     ·
      exact hE r s hs
    obtain ⟨a,H',μ',ω',k1,k2,k3,k4,k5,k6⟩:=hc g m aargs S1 v S2 hr0 μ1 H (WZ μ μ1 ω) h1 h3 hDL hEL
    have hsame:∀ q r,μ q=some (r,true)→H'.get r=H.get r:=fun q r hq=>by
     by_cases hn:μ1 q=some (r,true)
     ·
      obtain ⟨new,e1,e2⟩:=k3.still
      have:new=[]:=by
       rw [k2.log,h1.log,hlog] at e1
       exact List.append_cancel_right (bs:=S1.log) (by rw [← e1];rfl)
      subst this
      exact (e2 q r hn (by simp)).2
     ·
      exact (k4 r (by unfold WZ;rw [if_pos ⟨q,hq,hn⟩])).2
    have hL:Later μ H μ H':=⟨fun _ _ b h=>⟨b,h⟩,k3.next,fun _ _ h=>.inl h,rfl,fun r hr hh=>k3.same r hr (by rw [h2.hid];exact hh),⟨[],rfl,fun q r hq _=>⟨hq,hsame q r hq⟩⟩,
     fun r l own e hr hp hg=>k3.cells r l own e hr (h2.priv hr hp) hg⟩
    rcases Bool.or_eq_true _ _ |>.mp hgr with hgr | hgr
    ·
     refine ⟨a,H',μ,ω,k1,hG.later hL rfl hsame,hL,fun r hr=>⟨hr,(k4 r ?_).2⟩,fun r s hs=>⟨Nat.lt_of_lt_of_le (hD r s hs).1 k3.next,(hD r s hs).2⟩,?_⟩
     ·
      unfold WZ
      split
      ·
       rfl
      ·
       exact hr
     ·
      rw [VV.yI hgr k6]
      exact VV.jJ hgr
    ·
     have hpr:∀ r l own e,H'.get r=some (.cells l own e)→e ∉ adD S args→xC μ' r→xC μ r:=fun r l own e hg he hp=>by
      refine ⟨fun q hq=>?_,by rw [← h2.hid,← k3.hid];exact hp.2⟩
      rcases hsz q r hq with hn | ⟨l1,own1,e1,he1,hg1⟩
      ·
       obtain ⟨new,e1,e2⟩:=k3.still
       have:new=[]:=by
        rw [k2.log,h1.log,hlog] at e1
        exact List.append_cancel_right (bs:=S1.log) (by rw [← e1];rfl)
       subst this
       exact hp.1 q (e2 q r hn (by simp)).1
      ·
       rw [hsame q r hq,hg1] at hg
       cases hg
       exact he he1
     have hno:∀ r s,ω r=some s→¬ ∃ q,μ q=some (r,true):=fun r s hs ⟨q,hq⟩=>(hD r s hs).2.1 q hq
     have hst:∀ r,(∃ q,μ q=some (r,true))→∀ s,ω' r=some s→s=.ext:=fun r ⟨q,hq⟩ s hs=>by
      by_cases hn:μ1 q=some (r,true)
      ·
       exfalso
       obtain ⟨new,e1,e2⟩:=k3.still
       have:new=[]:=by
        rw [k2.log,h1.log,hlog] at e1
        exact List.append_cancel_right (bs:=S1.log) (by rw [← e1];rfl)
       subst this
       exact (k5 r s hs).2.1 q (e2 q r hn (by simp)).1
      ·
       have:=(k4 r (by unfold WZ;rw [if_pos ⟨q,hq,hn⟩])).1
       rw [hs] at this
       cases this
       rfl
     refine ⟨a,H',μ,aeu μ ω',k1,hG.later hL rfl hsame,hL,fun r hr=>?_,fun r s hs=>?_,?_⟩
     ·
      have hnr:=hno r _ hr
      unfold aeu
      rw [if_neg hnr]
      refine k4 r ?_
      unfold WZ
      rw [if_neg (fun ⟨q,hq,_⟩=>hnr ⟨q,hq⟩)]
      exact hr
     ·
      unfold aeu at hs
      split at hs
      ·
       cases hs
      ·
       rename_i hnr
       exact ⟨(k5 r s hs).1,fun q hq=>hnr ⟨q,hq⟩,by rw [← h2.hid,← k3.hid];exact (k5 r s hs).2.2⟩
     ·
      refine k6.yO hpr (fun r s hne hs=>?_) 16 hgr (fun s hs=>by cases hs;exact fun h=>by cases h)
      unfold aeu
      rw [if_neg (fun hx=>hne (hst r hx s hs))]
      exact hs
   ·
    cases h
    obtain ⟨a,H',μ',ω',k1,k2,k3,k4,k5,k6⟩:=hc g m aargs S1 v S' hr0 μ1 H ω h1 h3 (fun r s hs=>⟨(hD r s hs).1,h2.priv (hD r s hs).1 (hD r s hs).2⟩) hE
    exact ⟨a,H',μ',ω',k1,k2,h2.trans k3,k4,k5,k6⟩
theorem VV.clean {μ μ':Mu} {H:zx} {ω:Nat→Option jX} (hp:∀ r,xC μ r→xC μ' r) {ℓ:Option jX} {v a:Value} (h:VV μ H ω ℓ v a):∀ d,jc d v=true→VV μ' H ω ℓ v a:=by
 induction h with
 | sg h=>exact fun _ _=>.sg h
 | ptr h=>intro d hc;cases d <;> simp [jc] at hc
 | map h=>intro d hc;cases d <;> simp [jc] at hc
 | slm h=>intro d hc;cases d <;> simp [jc] at hc
 | slE=>exact fun _ _=>.slE
 | sl hr hpr hg hl hn hc ih =>
  intro d hcl
  obtain ⟨d,rfl⟩:∃ k,d=k+4:=by
   match d,hcl with
   | 0,h=>cases h
   | 1,h=>simp [jc] at h
   | 2,h=>simp [jc] at h
   | 3,h=>simp [jc] at h
   | k+4,_=>exact ⟨k,rfl⟩
  simp only [jc] at hcl
  refine .sl hr (hp _ hpr) hg hl hn (fun i hi=>ih i hi d ?_)
  rw [List.getD_eq_getElem?_getD,List.getElem?_eq_getElem (by omega)]
  exact List.all_eq_true.1 hcl _ (List.getElem_mem _)
 | so hω hr hpr hg hl hn hc ih =>
  intro d hcl
  obtain ⟨d,rfl⟩:∃ k,d=k+4:=by
   match d,hcl with
   | 0,h=>cases h
   | 1,h=>simp [jc] at h
   | 2,h=>simp [jc] at h
   | 3,h=>simp [jc] at h
   | k+4,_=>exact ⟨k,rfl⟩
  simp only [jc] at hcl
  refine .so hω hr (hp _ hpr) hg hl hn (fun i hi=>ih i hi d ?_)
  rw [List.getD_eq_getElem?_getD,List.getElem?_eq_getElem (by omega)]
  exact List.all_eq_true.1 hcl _ (List.getElem_mem _)
 | ep hr hpr hg hl hc ih =>
  intro d hcl
  obtain ⟨d,rfl⟩:∃ k,d=k+2:=by
   match d,hcl with
   | 0,h=>cases h
   | 1,h=>simp [jc] at h
   | k+2,_=>exact ⟨k,rfl⟩
  simp only [jc] at hcl
  refine .ep hr (hp _ hpr) hg hl (fun i hi=>ih i hi d ?_)
  rw [List.getD_eq_getElem?_getD,List.getElem?_eq_getElem hi]
  exact List.all_eq_true.1 hcl _ (List.getElem_mem _)
 | func fn hx hc h1 h2=>intro d hc;cases d <;> simp [jc] at hc
 | @agg ℓ x x' hx hh ih =>
  intro d hcl
  obtain ⟨d,rfl⟩:∃ k,d=k+1:=by
   match d,hcl with
   | 0,h=>cases h
   | k+1,_=>exact ⟨k,rfl⟩
  simp only [jc] at hcl
  refine .agg hx (fun i=>?_)
  by_cases hi:i < x.size
  ·
   refine ih i d ?_
   rw [Array.getD_eq_getD_getElem?,Array.getElem?_eq_getElem hi]
   exact List.all_eq_true.1 hcl _ (by simp)
  ·
   rw [Array.getD_eq_getD_getElem?,Array.getElem?_eq_none (Nat.le_of_not_lt hi),Array.getD_eq_getD_getElem?,Array.getElem?_eq_none (by omega)]
   exact .nores
 | nores=>exact fun _ _=>.nores
 | @tuple ℓ x x' hx hh ih =>
  intro d hcl
  obtain ⟨d,rfl⟩:∃ k,d=k+1:=by
   match d,hcl with
   | 0,h=>cases h
   | k+1,_=>exact ⟨k,rfl⟩
  simp only [jc] at hcl
  refine .tuple hx (fun i=>?_)
  by_cases hi:i < x.size
  ·
   refine ih i d ?_
   rw [Array.getD_eq_getD_getElem?,Array.getElem?_eq_getElem hi]
   exact List.all_eq_true.1 hcl _ (by simp)
  ·
   rw [Array.getD_eq_getD_getElem?,Array.getElem?_eq_none (Nat.le_of_not_lt hi),Array.getD_eq_getD_getElem?,Array.getElem?_eq_none (by omega)]
   exact .nores
theorem VV.lower {μ μ' : Mu} {S H : zx} {ω : Nat → Option jX} (hG : GI μ S H) (hp : ∀ r, xC μ r → xC μ' r) (hq : ∀ q r, μ q = some (r, true) → xC μ' r) {ℓ : Option jX} {v a : Value} (h : VV μ H ω ℓ v a) :
    ∀ d d', jc d (jv S d' v) = true → VV μ' H ω ℓ (jv S d' v) a := by
  induction h with
  | sg h =>
    intro d d' hc
    rename_i v
    have e : jv S d' v = v := by
      cases d' with
      | zero => rfl
      | succ d' => cases v <;> first | rfl | (simp [Go.Abs.sg] at h; done) | skip
                   rename_i a n c
                   cases a <;> first | rfl | (simp [Go.Abs.sg] at h; done)
    rw [e]; exact .sg h
  | ptr h => intro d d' hc; cases d' <;> cases d <;> simp [jv, jc] at hc
  | map h => intro d d' hc; cases d' <;> cases d <;> simp [jv, jc] at hc
  | @slm ℓ r o r' b n hm =>
    intro d d' hc
    cases d' with
    | zero => cases d <;> simp [jv, jc] at hc
    | succ d' =>
      by_cases ho : o = 0
      · subst ho
        cases hg : S.get r with
        | none => rw [show jv S (d' + 1) (.slice (some ⟨r, 0, none⟩) n n) = .slice (some ⟨r, 0, none⟩) n n by simp only [jv, hg]] at hc; cases d <;> simp [jc] at hc
        | some ob =>
          cases ob with
          | map es c => rw [show jv S (d' + 1) (.slice (some ⟨r, 0, none⟩) n n) = .slice (some ⟨r, 0, none⟩) n n by simp only [jv, hg]] at hc; cases d <;> simp [jc] at hc
          | dead => rw [show jv S (d' + 1) (.slice (some ⟨r, 0, none⟩) n n) = .slice (some ⟨r, 0, none⟩) n n by simp only [jv, hg]] at hc; cases d <;> simp [jc] at hc
          | cells cs own e =>
            by_cases hle : n * e ≤ cs.length
            · have e1 : jv S (d' + 1) (.slice (some ⟨r, 0, none⟩) n n) = SL 1 e n (cs.take (n * e)) := by simp only [jv, hg, hle, and_self, if_true]
              rw [e1] at hc ⊢
              obtain ⟨r2, cs', own', _, hm', hg', hl⟩ := hG.cells hg
              rw [hm] at hm'; cases hm'
              have hlen := hl.1
              refine .sl (o := 0) (hG.lt r r' _ hm) (hq r r' hm) hg' (by omega) (by simp; omega) fun i hi => ?_
              have hv : VV μ H W0 none (cs.getD i Go.undef) (cs'.getD i Go.undef) := hl.2 i
              have e2 : (cs.take (n * e)).toArray.toList.getD i Go.undef = cs.getD i Go.undef := by
                rw [List.toList_toArray, List.getD_eq_getElem?_getD, List.getElem?_take, if_pos hi, ← List.getD_eq_getElem?_getD]
              rw [e2, Nat.zero_add]
              obtain ⟨d, rfl⟩ : ∃ k, d = k + 4 := by
                match d, hc with
                | 0, h => cases h
                | 1, h => simp [SL, jc] at h
                | 2, h => simp [SL, jc] at h
                | 3, h => simp [SL, jc] at h
                | k + 4, _ => exact ⟨k, rfl⟩
              simp only [SL, jc, List.toList_toArray] at hc
              have hci : jc d (cs.getD i Go.undef) = true := by
                have h2 : i < cs.length := by omega
                rw [List.getD_eq_getElem?_getD, List.getElem?_eq_getElem h2, Option.getD_some]
                exact List.all_eq_true.1 hc _ (by rw [List.mem_take_iff_getElem]; exact ⟨i, by omega, rfl⟩)
              exact (hv.clean hp d hci).at0
            · rw [show jv S (d' + 1) (.slice (some ⟨r, 0, none⟩) n n) = .slice (some ⟨r, 0, none⟩) n n by simp only [jv, hg, hle, and_false, if_false]] at hc; cases d <;> simp [jc] at hc
      · rw [show jv S (d' + 1) (.slice (some ⟨r, o, none⟩) n n) = .slice (some ⟨r, o, none⟩) n n by
          simp only [jv]
          split
          · rename_i h; simp only [Value.slice.injEq, Option.some.injEq, Addr.mk.injEq] at h; exact absurd h.1.2.1 ho
          · rename_i h; cases h
          · rename_i h; cases h
          · rfl] at hc
        cases d <;> simp [jc] at hc
  | slE => intro d d' _; cases d' <;> exact .slE
  | sl hr hpr hg hl hn hc ih => intro d d' hcl; cases d' <;> exact (VV.sl hr hpr hg hl hn hc).clean hp d hcl
  | so hω hr hpr hg hl hn hc ih => intro d d' hcl; cases d' <;> exact (VV.so hω hr hpr hg hl hn hc).clean hp d hcl
  | ep hr hpr hg hl hc ih => intro d d' hcl; cases d' <;> exact (VV.ep hr hpr hg hl hc).clean hp d hcl
  | func fn hx hc h1 h2 => intro d d' hcl; cases d' <;> cases d <;> simp [jv, jc] at hcl
  | @agg ℓ x x' hx hh ih =>
    intro d d' hcl
    cases d' with
    | zero => exact (VV.agg hx hh).clean hp d hcl
    | succ d' =>
      have e : jv S (d' + 1) (.agg x) = .agg (x.map (jv S d')) := rfl
      rw [e] at hcl ⊢
      cases d with
      | zero => cases hcl
      | succ d =>
        simp only [jc] at hcl
        refine .agg (by simpa using hx) fun i => ?_
        by_cases hi : i < x.size
        · have e2 : (x.map (jv S d')).getD i Go.undef = jv S d' (x.getD i Go.undef) := by simp [Array.getD_eq_getD_getElem?, Array.getElem?_eq_getElem hi]
          rw [e2]
          refine ih i d d' ?_
          refine List.all_eq_true.1 hcl _ ?_
          simp only [Array.toList_map, List.mem_map]
          exact ⟨x[i], by simp, by rw [Array.getD_eq_getD_getElem?, Array.getElem?_eq_getElem hi]; rfl⟩
        · rw [Array.getD_eq_getD_getElem?, Array.getElem?_eq_none (by simpa using Nat.le_of_not_lt hi), Array.getD_eq_getD_getElem?, Array.getElem?_eq_none (by omega)]
          exact .nores
  | nores =>
    intro d d' hcl
    cases d' with
    | zero => exact .nores
    | succ d' => rw [show jv S (d' + 1) (.tuple #[]) = .tuple #[] by simp [jv]]; exact .nores
  | @tuple ℓ x x' hx hh ih =>
    intro d d' hcl
    cases d' with
    | zero => exact (VV.tuple hx hh).clean hp d hcl
    | succ d' =>
      have e : jv S (d' + 1) (.tuple x) = .tuple (x.map (jv S d')) := rfl
      rw [e] at hcl ⊢
      cases d with
      | zero => cases hcl
      | succ d =>
        simp only [jc] at hcl
        refine .tuple (by simpa using hx) fun i => ?_
        by_cases hi : i < x.size
        · have e2 : (x.map (jv S d')).getD i Go.undef = jv S d' (x.getD i Go.undef) := by simp [Array.getD_eq_getD_getElem?, Array.getElem?_eq_getElem hi]
          rw [e2]
          refine ih i d d' ?_
          refine List.all_eq_true.1 hcl _ ?_
          simp only [Array.toList_map, List.mem_map]
          exact ⟨x[i], by simp, by rw [Array.getD_eq_getD_getElem?, Array.getElem?_eq_getElem hi]; rfl⟩
        · rw [Array.getD_eq_getD_getElem?, Array.getElem?_eq_none (by simpa using Nat.le_of_not_lt hi), Array.getD_eq_getD_getElem?, Array.getElem?_eq_none (by omega)]
          exact .nores
open Classical in
noncomputable def kE (μ:Mu):Mu:=⟨fun _=>none,fun r=>μ.hid r || decide (∃ q,μ q=some (r,true)),[]⟩
theorem ZK {μ:Mu} {r:Nat} (h:xC μ r):xC (kE μ) r:=⟨fun q hq=>(by cases hq),by
 simp only [kE,h.2,Bool.false_or,decide_eq_false_iff_not]
 rintro ⟨q,hq⟩
 exact h.1 q hq⟩
theorem aah {μ:Mu} {r:Nat} (h:(kE μ).hid r=false):xC μ r:=by
 simp only [kE,Bool.or_eq_false_iff,decide_eq_false_iff_not] at h
 exact ⟨fun q hq=>h.2 ⟨q,hq⟩,h.1⟩
def aez (P:Program) (g:FuncId) (args:List Value) (run:M Value):Prop:=∀ aargs S v S',run S=some (v,S')→∀ μ H ω,GI μ S H→L0 μ H args aargs→Dom μ H ω→(∀ r s,ω r=some s→s=.ext) →
 ∃ a H' μ' ω',lim P g aargs H=some (a,H')∧GI μ' S' H'∧Later μ H μ' H'∧Kept ω H ω' H'∧Dom μ' H' ω'∧VV μ' H' ω' (some (.res none)) v a
theorem aaV {g:FuncId} {args:List Value} {run:M Value} (hr:aez P g args run):aez P g args (abq run args):=by
 intro aargs S v S' h μ H ω hG hA hD hE
 unfold abq at h
 split at h <;> first | (cases h;done) | skip
 rename_i hca
 split at h <;> first | (cases h;done) | skip
 rename_i w S1 hrun
 split at h <;> first | (cases h;done) | skip
 rename_i hcw
 cases h
 have hG0:GI (kE μ) zx.empty H:=⟨fun q o h=>(by cases h),fun q q' r h=>(by cases h),fun q r b h=>(by cases h),fun q _=>rfl,fun q r h=>(by cases h),fun r h=>by
  simp only [kE,Bool.or_eq_true,decide_eq_true_eq] at h
  rcases h with h | ⟨q,hq⟩
  ·
   exact hG.hlt r h
  ·
   exact hG.lt q r _ hq,rfl,fun q cs anc e h=>(by cases h)⟩
 have hA0:L0 (kE μ) H args aargs:=⟨hA.1,fun i=>by
  by_cases hi:i < args.length
  ·
   refine (hA.2 i).clean (fun r h=>ZK h) 16 ?_
   rw [List.getD_eq_getElem?_getD,List.getElem?_eq_getElem hi]
   exact List.all_eq_true.1 hca _ (List.getElem_mem _)
  ·
   rw [List.getD_eq_getElem?_getD,List.getElem?_eq_none (Nat.le_of_not_lt hi),List.getD_eq_getElem?_getD,List.getElem?_eq_none (by rw [← hA.1];omega)]
   exact .nores⟩
 obtain ⟨a,H1,μ1,ω1,k1,k2,k3,k4,k5,k6⟩:=hr aargs _ _ _ hrun (kE μ) H ω hG0 hA0 (fun r s h=>⟨(hD r s h).1,ZK (hD r s h).2⟩) hE
 have hp1:∀ r,xC μ1 r→xC μ r:=fun r h=>aah (by rw [← k3.hid];exact h.2)
 have hL:Later μ H μ H1:=⟨fun _ _ b h=>⟨b,h⟩,k3.next,fun _ _ h=>.inl h,rfl,fun r hr hh=>k3.same r hr (by simp only [kE,hh,Bool.true_or]),⟨[],rfl,fun q r hq _=>⟨hq,k3.same r (hG.lt q r _ hq) (by
  simp only [kE,Bool.or_eq_true,decide_eq_true_eq]
  exact .inr ⟨q,hq⟩)⟩⟩,fun r l own e hr hp hg=>k3.cells r l own e hr (ZK hp) hg⟩
 have hq1:∀ q r,μ1 q=some (r,true)→xC μ r:=fun q r h=>by
  rcases k3.new q r h with h5 | h5
  ·
   cases h5
  ·
   exact ⟨fun q' hq'=>by have:=hG.lt q' r _ hq';omega,by
    cases hh:μ.hid r with
    | false=>rfl
    | true=>have:=hG.hlt r hh;omega⟩
 refine ⟨a,H1,μ,ω1,k1,?_,hL,k4,fun r s h=>⟨(k5 r s h).1,hp1 r (k5 r s h).2⟩,k6.lower k2 hp1 hq1 16 16 hcw⟩
 exact hG.later hL rfl fun q r hq=>k3.same r (hG.lt q r _ hq) (by
  simp only [kE,Bool.or_eq_true,decide_eq_true_eq]
  exact .inr ⟨q,hq⟩)
theorem abB {O:Ora} (hO:abb P O):∀ n,vS P (qX P O n):=by
 intro n
 induction n with
 | zero=>intro g args aargs S v S' h;cases h
 | succ n ih =>
  intro g args aargs S v S' h μ H ω hG hA hD hE
  simp only [qX] at h
  cases ho:O.fn g with
  | some q =>
   rw [ho] at h
   exact hO g q ho g args aargs S v S' (by simpa using h) μ H ω hG hA hD hE
  | none =>
   rw [ho] at h
   dsimp only at h
   cases hf:P.funcs[g]? with
   | none=>rw [hf] at h;cases h
   | some fn =>
    rw [hf] at h
    dsimp only at h
    split at h <;> first | (cases h;done) | skip
    rename_i hn
    cases hb:fn.body with
    | none=>rw [hb] at h;cases h
    | some c =>
     rw [hb] at h
     dsimp only at h
     have hrun:aez P g args (ada P (O.hp g) (yC O.hp (O.hp g) (qX P O n)) n fn c args):=by
      intro aargs S v S' h μ H ω hG hA hD hE
      have hT0:TI μ H ω (args++List.replicate (fn.ntmps - args.length) zh) (aargs++List.replicate (fn.ntmps - aargs.length) zh):=by
       have hl:L0 μ H (args++List.replicate (fn.ntmps - args.length) zh) (aargs++List.replicate (fn.ntmps - aargs.length) zh):=by
        refine hA.append (VL.ofRange (by rw [hA.1]) fun i hi=>?_)
        have hi2:i < fn.ntmps - args.length:=by simpa using hi
        rw [List.getD_eq_getElem?_getD,List.getElem?_replicate,if_pos hi2,List.getD_eq_getElem?_getD,List.getElem?_replicate,if_pos (by rw [← hA.1];exact hi2)]
        exact .nores
       exact ⟨hl.1,fun i=>(hl.2 i).at0,hD,fun r j hr=>by have:=hE r _ hr;cases this⟩
      have fin:∀ (e:AEx) (T1:List Value) (S1:zx),(e=.normal∨e=.ret)→yh P (O.hp g) (yC O.hp (O.hp g) (qX P O n)) n c (args++List.replicate (fn.ntmps - args.length) zh) S=some (e,T1,S1)→aaO P fn T1 S1=some (v,S') →
        ∃ a H' μ' ω',lim P g aargs H=some (a,H')∧GI μ' S' H'∧Later μ H μ' H'∧Kept ω H ω' H'∧Dom μ' H' ω'∧VV μ' H' ω' (some (.res none)) v a:=by
       intro e T1 S1 he hcode hres
       obtain ⟨A1,H1,μ1,ω1,h1,h2,h3,h4,h5⟩:=abm (abd ih) n c _ _ _ _ _ _ _ _ _ hcode hG hT0
       obtain ⟨rfl,a,k1,k2⟩:=acB (P:=P) h2 h5 hres
       refine ⟨a,H1,μ1,fun r=>(ω1 r).bind (place fn.results.toList),abf hf hn hb h1 he k1,h2,h3,fun r hr=>?_,fun r s hs=>?_,k2⟩
       ·
        obtain ⟨q1,q2⟩:=h4 r hr
        exact ⟨by simp [q1,place],q2⟩
       ·
        cases hr:ω1 r with
        | none=>simp [hr] at hs
        | some s0=>exact h5.dom r s0 hr
      unfold ada at h
      split at h
      ·
       rename_i T1 S1 hx;exact fin .normal _ _ (.inl rfl) hx h
      ·
       rename_i T1 S1 hx;exact fin .ret _ _ (.inr rfl) hx h
      ·
       cases h
     split at h
     ·
      exact aaV hrun aargs S v S' h μ H ω hG hA hD hE
     ·
      exact hrun aargs S v S' h μ H ω hG hA hD hE
end
end Go.Abs
namespace Go.Abs
open Go.RowKit
open Classical
noncomputable def zN (P:Program) (O:Ora) (g:FuncId) (args:List Value):M Value:=fun S =>
 if h:∃ r,∃ k0,∀ k,k0≤k→qX P O k g args S=some r then some (Classical.choose h) else none
section
variable {P:Program} {O:Ora}
theorem Z4 {g:FuncId} {args:List Value} {S:zx} {r:Value×zx} (h:zN P O g args S=some r):∃ k0,∀ k,k0≤k→qX P O k g args S=some r:=by
 unfold zN at h
 split at h
 ·
  rename_i hx
  have:=Classical.choose_spec hx
  cases h
  exact this
 ·
  cases h
theorem Qw {g:FuncId} {args:List Value} {S:zx} {r:Value×zx} (h:∃ k0,∀ k,k0≤k→qX P O k g args S=some r):zN P O g args S=some r:=by
 have hx:∃ r,∃ k0,∀ k,k0≤k→qX P O k g args S=some r:=⟨r,h⟩
 unfold zN
 rw [dif_pos hx]
 obtain ⟨k0,h0⟩:=h
 obtain ⟨k1,h1⟩:=Classical.choose_spec hx
 have e0:=h0 (max k0 k1) (Nat.le_max_left _ _)
 have e1:=h1 (max k0 k1) (Nat.le_max_right _ _)
 rw [e0] at e1
 exact e1.symm
theorem ac9 (hO:abb P O):vS P (zN P O):=by
 intro g args aargs S v S' h
 obtain ⟨k,hk⟩:=Z4 h
 exact abB hO k g args aargs S v S' (hk k (Nat.le_refl k))
theorem aaR {g:FuncId} {args:List Value} {q:List Value→M Value} (h:O.fn g=some q) (S:zx):zN P O g args S=q args S:=by
 cases hq:q args S with
 | some r =>
  refine Qw ⟨1,fun k hk=>?_⟩
  obtain ⟨k,rfl⟩:∃ i,k=i+1:=⟨k - 1,by omega⟩
  simp only [qX,h,hq]
 | none =>
  cases hv:zN P O g args S with
  | none=>rfl
  | some r =>
   obtain ⟨k,hk⟩:=Z4 hv
   have:=hk (k+1) (by omega)
   simp only [qX,h,hq] at this
   cases this
def adG (c:FuncId→List Value→M Value) (ck:Nat→FuncId→List Value→M Value):Prop:=∀ g args S r,c g args S=some r→∃ k0,∀ k,k0≤k→ck k g args S=some r
theorem YI:adG (zN P O) (fun k=>qX P O k):=fun g args S r h=>Z4 h
theorem JI {c:FuncId→List Value→M Value} {ck:Nat→FuncId→List Value→M Value} (hl:adG c ck) {hps:FuncId→Bool} {hp:Bool}:adG (yC hps hp c) (fun k=>yC hps hp (ck k)):=by
 cases hp with
 | false=>exact hl
 | true =>
  intro g args S r h
  unfold yC at h
  dsimp only at h
  split at h
  ·
   rename_i hg
   obtain ⟨k0,h0⟩:=hl _ _ _ _ h
   exact ⟨k0,fun k hk=>by unfold yC;dsimp only;rw [if_pos hg];exact h0 k hk⟩
  ·
   rename_i hg
   split at h <;> first | (cases h;done) | skip
   rename_i m S1 hf
   split at h <;> first | (cases h;done) | skip
   rename_i r0 hr0
   obtain ⟨k0,h0⟩:=hl _ _ _ _ hr0
   exact ⟨k0,fun k hk=>by unfold yC;dsimp only;rw [if_neg hg,hf];dsimp only;rw [h0 k hk];exact h⟩
section
variable {c:FuncId→List Value→M Value} {ck:Nat→FuncId→List Value→M Value}
theorem Yt (hl:adG c ck) {fx:Fx} {T:List Value} {o:Oper} {S:zx} {r:Value×zx} (h:jW P fx c T o S=some r):∃ k0,∀ k,k0≤k→jW P fx (ck k) T o S=some r:=by
 unfold jW at h
 split at h
 ·
  rename_i hok
  split at h
  ·
   rename_i q0 hop
   split at h
   ·
    rename_i f hf
    split at h
    ·
     rename_i g first captured hev
     obtain ⟨k0,hk⟩:=hl _ _ _ _ h
     refine ⟨k0,fun k hkk=>?_⟩
     unfold jW
     rw [if_pos hok]
     simp only [hop,hf,hev]
     exact hk k hkk
    ·
     cases h
   ·
    rename_i b hb
    refine ⟨0,fun k _=>?_⟩
    unfold jW
    rw [if_pos hok]
    simp only [hop,hb]
    exact h
   ·
    cases h
  ·
   rename_i hop
   refine ⟨0,fun k _=>?_⟩
   unfold jW
   rw [if_pos hok]
   split
   ·
    rename_i q0 hc;exact absurd hc (hop q0)
   ·
    exact h
 ·
  cases h
theorem abn (hl:adG c ck) {fx:Fx} {ops:Array Oper}:∀ (l:List Oper) (T:List Value) (S:zx) (r:List Value×zx),jf P fx c ops l T S=some r→∃ k0,∀ k,k0≤k→jf P fx (ck k) ops l T S=some r:=by
 intro l
 induction l with
 | nil=>intro T S r h;exact ⟨0,fun k _=>h⟩
 | cons o l ih =>
  intro T S r h
  simp only [jf] at h
  split at h
  ·
   rename_i hw
   split at h
   ·
    rename_i v S' hs
    obtain ⟨k1,h1⟩:=Yt hl hs
    obtain ⟨k2,h2⟩:=ih _ _ _ h
    refine ⟨max k1 k2,fun k hk=>?_⟩
    simp only [jf,hw,if_true,h1 k (by omega)]
    exact h2 k (by omega)
   ·
    cases h
  ·
   rename_i hw
   obtain ⟨k2,h2⟩:=ih _ _ _ h
   refine ⟨k2,fun k hk=>?_⟩
   simp only [jf,hw,if_false]
   exact h2 k hk
theorem V7 (hl:adG c ck) {fx:Fx} {chk:List Nat} {nl:List (Nat×Nat)} {ops:Array Oper}:∀ (l:List Oper) (i:Nat) (hist:List (Value×zx)) (T:List Value) (S:zx) (r:List Value×zx),jO P fx chk nl c ops i hist l T S=some r→∃ k0,∀ k,k0≤k→jO P fx chk nl (ck k) ops i hist l T S=some r:=by
 intro l
 induction l with
 | nil=>intro i hist T S r h;exact ⟨0,fun k _=>h⟩
 | cons o l ih =>
  intro i hist T S r h
  simp only [jO] at h
  split at h
  ·
   rename_i hw
   split at h
   ·
    rename_i v S' hs
    split at h
    ·
     rename_i hq
     obtain ⟨k1,h1⟩:=Yt hl hs
     obtain ⟨k2,h2⟩:=ih _ _ _ _ _ h
     refine ⟨max k1 k2,fun k hk=>?_⟩
     simp only [jO,hw,if_true,h1 k (by omega),hq]
     exact h2 k (by omega)
    ·
     cases h
   ·
    cases h
  ·
   rename_i hw
   obtain ⟨k2,h2⟩:=ih _ _ _ _ _ h
   refine ⟨k2,fun k hk=>?_⟩
   simp only [jO,hw,if_false]
   exact h2 k hk
end
noncomputable def zF (P:Program) (O:Ora) (hp:Bool):Code→List Value→zx→St
 | .skip,T,H=>some (.normal,T,H)
 | .region _ ops false,T,H=>match jf P ⟨hp,false,false⟩ (yC O.hp hp (zN P O)) ops ops.toList T H with
  | some (T1,H1)=>some (.normal,T1,H1)
  | none=>none
 | .region _ ops true,T,H=>if qw P ops then match jO P ⟨hp,!(checked P ops).isEmpty,fixed P ops⟩ (checked P ops) (again P ops) (yC O.hp hp (zN P O)) ops 0 [] ops.toList T H with
  | some (T1,H1)=>some (.normal,T1,H1)
  | none=>none
  else none
 | .seq x y,T,H=>match zF P O hp x T H with
  | some (.normal,T1,H1)=>zF P O hp y T1 H1
  | r=>r
 | .cond c x y,T,H=>if wX c then
   match zG T c with
   | .bool true=>zF P O hp x T H
   | .bool false=>zF P O hp y T H
   | _=>none
  else none
 | .block id c,T,H=>match zF P O hp c T H with
  | some (.exit id',T1,H1)=>if id'=id then some (.normal,T1,H1) else some (.exit id',T1,H1)
  | r=>r
 | .loop c,T,H=>yj (zF P O hp c) T H
 | .exit id,T,H=>some (.exit id,T,H)
 | .ret,T,H=>some (.ret,T,H)
 | _,_,_=>none
theorem JY {hp:Bool}:∀ (c:Code) (T:List Value) (H:zx) (r),zF P O hp c T H=some r→∃ k0,∀ k fuel,k0≤k→k0≤fuel→yh P hp (yC O.hp hp (qX P O k)) fuel c T H=some r:=by
 intro c
 induction c with
 | skip=>intro T H r h;exact ⟨0,fun k fuel _ _=>h⟩
 | region i ops d =>
  intro T H r h
  cases d with
  | false =>
   simp only [zF] at h
   split at h
   ·
    rename_i T1 H1 ho
    obtain ⟨k0,h0⟩:=abn (JI YI) _ _ _ _ ho
    exact ⟨k0,fun k fuel hk _=>by simp only [yh,h0 k hk];exact h⟩
   ·
    cases h
  | true =>
   simp only [zF] at h
   split at h
   ·
    rename_i hd
    split at h
    ·
     rename_i T1 H1 ho
     obtain ⟨k0,h0⟩:=V7 (JI YI) _ _ _ _ _ _ ho
     exact ⟨k0,fun k fuel hk _=>by simp only [yh,hd,if_true,h0 k hk];exact h⟩
    ·
     cases h
   ·
    cases h
 | seq x y ihx ihy =>
  intro T H r h
  simp only [zF] at h
  split at h
  ·
   rename_i T1 H1 hx
   obtain ⟨k1,h1⟩:=ihx _ _ _ hx
   obtain ⟨k2,h2⟩:=ihy _ _ _ h
   exact ⟨max k1 k2,fun k fuel hk hf=>by simp only [yh,h1 k fuel (by omega) (by omega)];exact h2 k fuel (by omega) (by omega)⟩
  ·
   rename_i hne
   obtain ⟨k1,h1⟩:=ihx _ _ _ h
   refine ⟨k1,fun k fuel hk hf=>?_⟩
   simp only [yh,h1 k fuel hk hf]
   split
   ·
    rename_i T1 H1 he;exact absurd (h.trans he) (hne T1 H1)
   ·
    rfl
 | cond c x y ihx ihy =>
  intro T H r h
  simp only [zF] at h
  split at h
  ·
   rename_i hok
   split at h
   ·
    rename_i hb
    obtain ⟨k1,h1⟩:=ihx _ _ _ h
    exact ⟨k1,fun k fuel hk hf=>by simp only [yh,hok,if_true,hb];exact h1 k fuel hk hf⟩
   ·
    rename_i hb
    obtain ⟨k1,h1⟩:=ihy _ _ _ h
    exact ⟨k1,fun k fuel hk hf=>by simp only [yh,hok,if_true,hb];exact h1 k fuel hk hf⟩
   ·
    cases h
  ·
   cases h
 | block id c ih =>
  intro T H r h
  simp only [zF] at h
  split at h
  ·
   rename_i id' T1 H1 hc
   obtain ⟨k1,h1⟩:=ih _ _ _ hc
   exact ⟨k1,fun k fuel hk hf=>by simp only [yh,h1 k fuel hk hf];exact h⟩
  ·
   rename_i hne
   obtain ⟨k1,h1⟩:=ih _ _ _ h
   refine ⟨k1,fun k fuel hk hf=>?_⟩
   simp only [yh,h1 k fuel hk hf]
   split
   ·
    rename_i id' T1 H1 he;exact absurd (h.trans he) (hne id' T1 H1)
   ·
    rfl
 | loop c ih =>
  intro T H r h
  simp only [zF] at h
  obtain ⟨n,hn⟩:=kT h
  have key:∀ (n:Nat) (T:List Value) (H:zx),wZ n (zF P O hp c) T H=some r→∃ k0,∀ k fuel,k0≤k→k0≤fuel→∀ j,n≤j→wZ j (yh P hp (yC O.hp hp (qX P O k)) fuel c) T H=some r:=by
   intro n
   induction n with
   | zero=>intro T H h;cases h
   | succ n ihn =>
    intro T H h
    simp only [wZ] at h
    split at h
    ·
     rename_i T1 H1 hf
     obtain ⟨k1,h1⟩:=ih _ _ _ hf
     obtain ⟨k2,h2⟩:=ihn _ _ h
     refine ⟨max k1 k2,fun k fuel hk hfu j hj=>?_⟩
     obtain ⟨j,rfl⟩:∃ i,j=i+1:=⟨j - 1,by omega⟩
     simp only [wZ,h1 k fuel (by omega) (by omega)]
     exact h2 k fuel (by omega) (by omega) j (by omega)
    ·
     rename_i hne
     obtain ⟨k1,h1⟩:=ih _ _ _ h
     refine ⟨k1,fun k fuel hk hfu j hj=>?_⟩
     obtain ⟨j,rfl⟩:∃ i,j=i+1:=⟨j - 1,by omega⟩
     simp only [wZ,h1 k fuel hk hfu]
     split
     ·
      rename_i T1 H1 he;exact absurd (h.trans he) (hne T1 H1)
     ·
      rfl
  obtain ⟨k0,h0⟩:=key n T H hn
  exact ⟨max k0 n,fun k fuel hk hf=>by simp only [yh];exact h0 k fuel (by omega) (by omega) fuel (by omega)⟩
 | exit id=>intro T H r h;exact ⟨0,fun k fuel _ _=>h⟩
 | ret=>intro T H r h;exact ⟨0,fun k fuel _ _=>h⟩
 | _=>intro T H r h;simp only [zF] at h;cases h
theorem jG {f:FuncId} {fn:Func} {c:Code} {args:List Value} {H H1 H':zx} {e:AEx} {T:List Value} {v:Value} (ho:O.fn f=none) (hpu:O.pu f=false) (hf:P.funcs[f]?=some fn) (hn:aco fn=true) (hb:fn.body=some c)
  (h:zF P O (O.hp f) c (args++List.replicate (fn.ntmps - args.length) zh) H=some (e,T,H1)) (he:e=.normal∨e=.ret) (hres:aaO P fn T H1=some (v,H')):zN P O f args H=some (v,H'):=by
 obtain ⟨k0,h0⟩:=JY _ _ _ _ h
 refine Qw ⟨k0+1,fun k hk=>?_⟩
 obtain ⟨k,rfl⟩:∃ i,k=i+1:=⟨k - 1,by omega⟩
 simp only [qX,ho,hf,if_pos hn,hb,hpu,Bool.false_eq_true,if_false,ada,h0 k k (by omega) (by omega)]
 rcases he with rfl | rfl <;> exact hres
theorem XD {f:FuncId} {fn:Func} {c:Code} {args:List Value} {S H1 H':zx} {e:AEx} {T:List Value} {v:Value} (ho:O.fn f=none) (hpu:O.pu f=true) (hf:P.funcs[f]?=some fn) (hn:aco fn=true) (hb:fn.body=some c)
  (h:zF P O (O.hp f) c (args++List.replicate (fn.ntmps - args.length) zh) zx.empty=some (e,T,H1)) (he:e=.normal∨e=.ret) (hres:aaO P fn T H1=some (v,H')) (hca:args.all (jc 16)=true) (hcv:jc 16 (jv H' 16 v)=true):zN P O f args S=some (jv H' 16 v,S):=by
 obtain ⟨k0,h0⟩:=JY _ _ _ _ h
 refine Qw ⟨k0+1,fun k hk=>?_⟩
 obtain ⟨k,rfl⟩:∃ i,k=i+1:=⟨k - 1,by omega⟩
 have hr:ada P (O.hp f) (yC O.hp (O.hp f) (qX P O k)) k fn c args zx.empty=some (v,H'):=by
  simp only [ada,h0 k k (by omega) (by omega)]
  rcases he with rfl | rfl <;> exact hres
 simp only [qX,ho,hf,if_pos hn,hb,hpu,if_true,abq,if_pos hca,hr,if_pos hcv]
theorem YJ (S:zx):∀ (d d':Nat) (v:Value),jc d v=true→jv S d' v=v:=by
 intro d
 induction d with
 | zero=>intro d' v h;cases h
 | succ d ih =>
  intro d' v h
  cases d' with
  | zero=>rfl
  | succ d' =>
   cases v with
   | agg cs =>
    simp only [jc] at h
    show Value.agg (cs.map (jv S d'))=.agg cs
    congr 1
    apply Array.ext (by simp)
    intro i h1 h2
    rw [Array.getElem_map]
    exact ih d' _ (List.all_eq_true.1 h _ (by simp))
   | tuple cs =>
    simp only [jc] at h
    show Value.tuple (cs.map (jv S d'))=.tuple cs
    congr 1
    apply Array.ext (by simp)
    intro i h1 h2
    rw [Array.getElem_map]
    exact ih d' _ (List.all_eq_true.1 h _ (by simp))
   | slice a n c =>
    cases a with
    | none=>rfl
    | some a=>simp [jc] at h
   | _=>rfl
theorem YA {f:FuncId} {fn:Func} {c:Code} {args:List Value} {S H1 H':zx} {e:AEx} {T:List Value} {v:Value} (ho:O.fn f=none) (hpu:O.pu f=true) (hf:P.funcs[f]?=some fn) (hn:aco fn=true) (hb:fn.body=some c)
  (h:zF P O (O.hp f) c (args++List.replicate (fn.ntmps - args.length) zh) zx.empty=some (e,T,H1)) (he:e=.normal∨e=.ret) (hres:aaO P fn T H1=some (v,H')) (hca:args.all (jc 16)=true) (hcv:jc 16 v=true):zN P O f args S=some (v,S):=by
 have e1:=YJ H' 16 16 v hcv
 have:=XD (S:=S) ho hpu hf hn hb h he hres hca (by rw [e1];exact hcv)
 rwa [e1] at this
def Ty.Jk:(t:Ty)→t.Val→List Value
 | .int k,n=>[.int k n]
 | .bool,b=>[.bool b]
 | .str,s=>[.string s]
 | .slc _ e,l=>match l with
  | none=>[.slice none 0 0]
  | some l=>[SL 1 e.sz l.length (l.flatMap e.Jk)]
 | .pair a b,(x,y)=>a.Jk x++b.Jk y
 | .unit,_=>[]
theorem Ty.QB:∀ (t:Ty) (x:t.Val),(t.Jk x).length=t.sz:=by
 intro t
 induction t with
 | pair a b iha ihb=>rintro ⟨x,y⟩;simp [Ty.Jk,Ty.sz,iha,ihb]
 | slc bytes e ih=>intro x;cases x <;> rfl
 | _=>intro x;rfl
theorem Zr {e:Ty} (l:List e.Val):(l.flatMap e.Jk).length=l.length * e.sz:=by
 induction l with
 | nil=>simp
 | cons x l ih=>simp [List.flatMap_cons,Ty.QB,ih,Nat.add_mul];omega
def M0:Mu:=⟨fun _=>none,fun _=>false,[]⟩
theorem GI.none {H:zx}:GI M0 zx.empty H:=⟨(fun q o h=>by cases h),(fun q q' r h=>by cases h),(fun q r b h=>by cases h),(fun q _=>rfl),(fun q r h=>by cases h),(fun r h=>by cases h),rfl,(fun q cs anc e h=>by cases h)⟩
theorem Ty.Yg:∀ (t:Ty) (x:t.Val) (H:zx),Later M0 H M0 (t.place x H).2∧L0 M0 (t.place x H).2 (t.Jk x) (t.place x H).1:=by
 intro t
 induction t with
 | int k=>intro x H;exact ⟨Later.refl _ _,VL.cons (.sg rfl) VL.nil⟩
 | bool=>intro x H;exact ⟨Later.refl _ _,VL.cons (.sg rfl) VL.nil⟩
 | str=>intro x H;exact ⟨Later.refl _ _,VL.cons (.sg rfl) VL.nil⟩
 | unit=>intro x H;exact ⟨Later.refl _ _,VL.nil⟩
 | pair a b iha ihb =>
  rintro ⟨x,y⟩ H
  obtain ⟨h1,h2⟩:=iha x H
  obtain ⟨h3,h4⟩:=ihb y (a.place x H).2
  exact ⟨h1.trans h3,(h2.later h3).append h4⟩
 | slc bytes e ih =>
  intro x H
  match x with
  | none=>exact ⟨Later.refl _ _,VL.cons (.sg rfl) VL.nil⟩
  | some []=>exact ⟨Later.refl _ _,VL.cons (.slE (e:=e.sz)) VL.nil⟩
  | some (x::l) =>
   have key:∀ (l:List e.Val) (H:zx),Later M0 H M0 (jD e.place l H).2∧L0 M0 (jD e.place l H).2 (l.flatMap e.Jk) (jD e.place l H).1:=by
    intro l
    induction l with
    | nil=>intro H;exact ⟨Later.refl _ _,VL.nil⟩
    | cons x l ihl =>
     intro H
     obtain ⟨h1,h2⟩:=ih x H
     obtain ⟨h3,h4⟩:=ihl (e.place x H).2
     exact ⟨h1.trans h3,(h2.later h3).append h4⟩
   obtain ⟨h1,h2⟩:=key (x::l) H
   have hL:Later M0 (jD e.place (x::l) H).2 M0 ((jD e.place (x::l) H).2.push (.cells (jD e.place (x::l) H).1 .ro e.sz)):=JX (fun q r h=>by cases h) _
   refine ⟨h1.trans hL,VL.cons ?_ VL.nil⟩
   have hlen:(jD e.place (x::l) H).1.length=(l.length+1) * e.sz:=by rw [← h2.1,Zr];rfl
   show V0 M0 ((jD e.place (x::l) H).2.push (.cells (jD e.place (x::l) H).1 .ro e.sz)) (SL 1 e.sz (l.length+1) ((x::l).flatMap e.Jk)) (.slice (some ⟨(jD e.place (x::l) H).2.next,0,none⟩) (l.length+1) (l.length+1))
   refine VV.sl (o:=0) (l:=(jD e.place (x::l) H).1) (own:=.ro) (by simp) ⟨fun q h=>(by cases h),rfl⟩ (by rw [zx.zM,if_pos rfl]) (by omega) (by rw [List.toList_toArray,Zr];rfl) (fun i hi=>?_)
   rw [Nat.zero_add,List.toList_toArray]
   exact (h2.2 i).ql hL
def Args.Jk:(l:List (Bool×Ty))→Args l→List Value
 | [],_=>[]
 | (b,c)::l,(x,xs)=>kU b (c.Jk x)::Args.Jk l xs
theorem aa3 {H:zx} {b:Bool} {cs cs':List Value} (h:L0 M0 H cs cs'):V0 M0 H (kU b cs) (kU b cs'):=by
 unfold kU
 split
 ·
  exact Z5 h
 ·
  rw [kP,kP];exact h.2 0
theorem Args.Yg:∀ (l:List (Bool×Ty)) (x:Args l) (H:zx),Later M0 H M0 (Args.place l x H).2∧L0 M0 (Args.place l x H).2 (Args.Jk l x) (Args.place l x H).1:=by
 intro l
 induction l with
 | nil=>intro x H;exact ⟨Later.refl _ _,VL.nil⟩
 | cons p l ih =>
  obtain ⟨b,c⟩:=p
  rintro ⟨x,xs⟩ H
  obtain ⟨h1,h2⟩:=c.Yg x H
  obtain ⟨h3,h4⟩:=ih xs (c.place x H).2
  exact ⟨h1.trans h3,VL.cons ((aa3 h2).ql h3) h4⟩
theorem Qq (hO:abb P O) {f:FuncId} {codes:List (Bool×Ty)} {x:Args codes} {S':zx} (h:zN P O f (Args.Jk codes x) zx.empty=some (.bool true,S')) :
  ∃ k,(qy P k f (Args.place codes x zx.empty).1 (Args.place codes x zx.empty).2).map (·.1)=some (.bool true):=by
 obtain ⟨h1,h2⟩:=Args.Yg codes x zx.empty
 obtain ⟨a,H',μ',ω',k1,k2,k3,k4,k5,k6⟩:=ac9 hO f _ _ _ _ _ h M0 _ W0 GI.none h2 (fun r s hs=>by cases hs) (fun r s hs=>by cases hs)
 have:a=.bool true:=zO (k6.v0) rfl
 subst this
 exact Xc k1
end
end Go.Abs
namespace Go.Abs
open Go.RowKit
section
variable {R:Type} {P:Program} {O:Ora} {fx:Fx} {hp nm:Bool} {chk:List Nat} {call:FuncId→List Value→M Value} {ops:Array Oper}
def okC (v:Value) (r:Option R):Option R:=if okq 3 v=true then r else none
@[simp] theorem KJ (b:Bool) (r:Option R):okC (.bool b) r=r:=Eq.trans rfl rfl
@[simp] theorem VN (k:IntKind) (n:Int) (r:Option R):okC (.int k n) r=r:=Eq.trans rfl rfl
@[simp] theorem JR (s:ByteArray) (r:Option R):okC (.string s) r=r:=Eq.trans rfl rfl
@[simp] theorem Yp (a:Option Addr) (n c:Nat) (r:Option R):okC (.slice a n c) r=r:=Eq.trans rfl rfl
@[simp] theorem YZ (k:Nat) (v:Value) (r:Option R):okC (.iface k v) r=r:=Eq.trans rfl rfl
@[simp] theorem ac6 (a:Option Addr) (r:Option R):okC (.pointer a) r=r:=Eq.trans rfl rfl
def gdC (v:Value) (b:Bool) (s:M Value) (S:zx) (K:Value→zx→Option R):Option R :=
 if (vb v == some b)=true then andThen (s S) (fun v S1=>okC v (K v S1)) else K zh S
@[simp] theorem abW (s:M Value) (H:zx) (K:Value→zx→Option R):gdC (.bool true) true s H K=andThen (s H) (fun v S1=>okC v (K v S1)):=Eq.trans rfl rfl
@[simp] theorem abR (s:M Value) (H:zx) (K:Value→zx→Option R):gdC (.bool false) false s H K=andThen (s H) (fun v S1=>okC v (K v S1)):=Eq.trans rfl rfl
@[simp] theorem ab6 (s:M Value) (H:zx) (K:Value→zx→Option R):gdC (.bool true) false s H K=K zh H:=Eq.trans rfl rfl
@[simp] theorem abQ (s:M Value) (H:zx) (K:Value→zx→Option R):gdC (.bool false) true s H K=K zh H:=Eq.trans rfl rfl
@[simp] theorem acs (s:M Value) (b:Bool) (H:zx) (K:Value→zx→Option R):gdC zh b s H K=K zh H:=Eq.trans rfl rfl
abbrev Zq {α:Type} (a:α):Type:=Unit
def zW (s:Option (Value×zx)) (K:Value→zx→Option R) (p:Zq K):Option R:=andThen s K
def gdK (v:Value) (b:Bool) (s:M Value) (S:zx) (K:Value→zx→Option R) (p:Zq K):Option R:=gd v b s S K
def ad9 (v:Value) (b:Bool) (s:M Value) (S:zx) (K:Value→zx→Option R) (p:Zq K):Option R:=gdC v b s S K
def okK (v:Value) (r:Option R) (p:Zq r):Option R:=okC v r
@[simp] theorem Yk (v:Value) (H:zx) (K:Value→zx→Option R) (p:Zq K):zW (some (v,H)) K p=K v H:=Eq.trans rfl rfl
@[simp] theorem ab9 (s:M Value) (H:zx) (K:Value→zx→Option R) (p:Zq K):gdK (.bool true) true s H K p=zW (s H) K p:=Eq.trans rfl rfl
@[simp] theorem acw (s:M Value) (H:zx) (K:Value→zx→Option R) (p:Zq K):gdK (.bool false) false s H K p=zW (s H) K p:=Eq.trans rfl rfl
@[simp] theorem acA (s:M Value) (H:zx) (K:Value→zx→Option R) (p:Zq K):gdK (.bool true) false s H K p=K zh H:=Eq.trans rfl rfl
@[simp] theorem acy (s:M Value) (H:zx) (K:Value→zx→Option R) (p:Zq K):gdK (.bool false) true s H K p=K zh H:=Eq.trans rfl rfl
@[simp] theorem aci (s:M Value) (b:Bool) (H:zx) (K:Value→zx→Option R) (p:Zq K):gdK zh b s H K p=K zh H:=Eq.trans rfl rfl
@[simp] theorem VE (s:M Value) (H:zx) (K:Value→zx→Option R) (p:Zq K):ad9 (.bool true) true s H K p=zW (s H) (fun v S1=>okK v (K v S1) ()) ():=Eq.trans rfl rfl
@[simp] theorem aaH (s:M Value) (H:zx) (K:Value→zx→Option R) (p:Zq K):ad9 (.bool false) false s H K p=zW (s H) (fun v S1=>okK v (K v S1) ()) ():=Eq.trans rfl rfl
@[simp] theorem aaB (s:M Value) (H:zx) (K:Value→zx→Option R) (p:Zq K):ad9 (.bool true) false s H K p=K zh H:=Eq.trans rfl rfl
@[simp] theorem VU (s:M Value) (H:zx) (K:Value→zx→Option R) (p:Zq K):ad9 (.bool false) true s H K p=K zh H:=Eq.trans rfl rfl
@[simp] theorem aax (s:M Value) (b:Bool) (H:zx) (K:Value→zx→Option R) (p:Zq K):ad9 zh b s H K p=K zh H:=Eq.trans rfl rfl
@[simp] theorem KR (b:Bool) (r:Option R) (p:Zq r):okK (.bool b) r p=r:=Eq.trans rfl rfl
@[simp] theorem aau (k:IntKind) (n:Int) (r:Option R) (p:Zq r):okK (.int k n) r p=r:=Eq.trans rfl rfl
@[simp] theorem JC (s:ByteArray) (r:Option R) (p:Zq r):okK (.string s) r p=r:=Eq.trans rfl rfl
@[simp] theorem YU (a:Option Addr) (n c:Nat) (r:Option R) (p:Zq r):okK (.slice a n c) r p=r:=Eq.trans rfl rfl
@[simp] theorem Jb (a:Option Addr) (r:Option R) (p:Zq r):okK (.pointer a) r p=r:=Eq.trans rfl rfl
theorem Vb {l rest:List Oper} {o:Oper} {T:List Value} {T1:Value→List Value} {S:zx} {v:Value} {r:Option (List Value×zx)} (hl:l=o::rest) (hg:o.guard=none) (hm:∀ v,kN o rest T v=T1 v)
  (hs:jW P fx call T o S=some (v,S)) (hK:jf P fx call ops rest (T1 v) S=r):jf P fx call ops l T S=r:=by
 subst hl
 simp only [jf,Region.wanted,hg,if_true,hs,hm]
 exact hK
theorem acR {l rest:List Oper} {o:Oper} {T:List Value} {T1:Value→List Value} {S:zx} {s:Option (Value×zx)} {K:Value→zx→Option (List Value×zx)} (hl:l=o::rest) (hg:o.guard=none) (hm:∀ v,kN o rest T v=T1 v)
  (hs:jW P fx call T o S=s) (hK:∀ v S1,jf P fx call ops rest (T1 v) S1=K v S1):jf P fx call ops l T S=zW s K ():=by
 show _=andThen s K
 subst hl hs
 simp only [jf,Region.wanted,hg,if_true,hm,hK]
 rfl
theorem acQ {l rest:List Oper} {o:Oper} {T:List Value} {T1:Value→List Value} {S:zx} {j:Nat} {b:Bool} {g:Value} {s:M Value} {K:Value→zx→Option (List Value×zx)} (hl:l=o::rest) (hg:o.guard=some (j,b)) (hm:∀ v,kN o rest T v=T1 v)
  (hy:ynd ops T j=vb g) (hs:jW P fx call T o S=s S) (hK:∀ v S1,jf P fx call ops rest (T1 v) S1=K v S1):jf P fx call ops l T S=gdK g b s S K ():=by
 show _=gd g b s S K
 subst hl
 simp only [jf,Region.wanted,hg,hy,hs,hm,hK,gd]
 rfl
theorem aa1 {l rest:List Oper} {o:Oper} {T:List Value} {T1:Value→List Value} {S:zx} {k:Nat} {s:Option (Value×zx)} {K:Value→zx→Option (List Value×zx)} (hc:chk.contains k=false) (hl:l=o::rest) (hg:o.guard=none) (hm:∀ v,kN o rest T v=T1 v)
  (hs:jW P fx call T o S=s) (hK:∀ v S1,jO P fx chk [] call ops (k+1) [] rest (T1 v) S1=K v S1):jO P fx chk [] call ops k [] l T S=zW s K ():=by
 show _=andThen s K
 subst hl hs
 simp only [jO,qG,List.isEmpty_nil,if_true,Region.wanted,hg,if_true,hm,hK,hc,Bool.not_false,Bool.true_or]
 rfl
theorem XM {l rest:List Oper} {o:Oper} {T:List Value} {T1:Value→List Value} {S:zx} {k:Nat} {v:Value} {r:Option (List Value×zx)} (hc:chk.contains k=false) (hl:l=o::rest) (hg:o.guard=none) (hm:∀ v,kN o rest T v=T1 v)
  (hs:jW P fx call T o S=some (v,S)) (hK:jO P fx chk [] call ops (k+1) [] rest (T1 v) S=r):jO P fx chk [] call ops k [] l T S=r:=by
 subst hl
 simp only [jO,qG,List.isEmpty_nil,if_true,Region.wanted,hg,if_true,hs,hm,hc,Bool.not_false,Bool.true_or]
 exact hK
theorem abM {l rest:List Oper} {o:Oper} {T:List Value} {T1:Value→List Value} {S:zx} {k:Nat} {s:Option (Value×zx)} {K:Value→zx→Option (List Value×zx)} (hc:chk.contains k=false) {x:Nat×Nat} {nl:List (Nat×Nat)} {hist:List (Value×zx)} {pe:Value} (hpe:yY T o=pe) (hl:l=o::rest) (hg:o.guard=none) (hm:∀ v,kN o rest T v=T1 v)
  (hs:jW P fx call T o S=s) (hK:∀ v S1,jO P fx chk (x::nl) call ops (k+1) (hist++[(pe,S)]) rest (T1 v) S1=K v S1):jO P fx chk (x::nl) call ops k hist l T S=zW s K ():=by
 show _=andThen s K
 subst hl hs
 simp only [jO,qG,List.isEmpty_cons,Bool.false_eq_true,if_false,hpe,Region.wanted,hg,if_true,hm,hK,hc,Bool.not_false,Bool.true_or]
 rfl
theorem VK {l rest:List Oper} {o:Oper} {T:List Value} {T1:Value→List Value} {S:zx} {k:Nat} {s:Option (Value×zx)} {K:Value→zx→Option (List Value×zx)} (hc:chk.contains k=true) {x:Nat×Nat} {nl:List (Nat×Nat)} {hist:List (Value×zx)} {pe:Value} (hpe:yY T o=pe) (hl:l=o::rest) (hg:o.guard=none) (hm:∀ v,kN o rest T v=T1 v)
  (hs:jW P fx call T o S=s) (hK:∀ v S1,jO P fx chk (x::nl) call ops (k+1) (hist++[(pe,S)]) rest (T1 v) S1=K v S1):jO P fx chk (x::nl) call ops k hist l T S=zW s (fun v S1=>okK v (K v S1) ()) ():=by
 show _=andThen s (fun v S1=>okC v (K v S1))
 subst hl hs
 simp only [jO,qG,List.isEmpty_cons,Bool.false_eq_true,if_false,hpe,Region.wanted,hg,if_true,hm,hK,hc,Bool.not_true,Bool.false_or]
 rfl
theorem XI {l rest:List Oper} {o:Oper} {T:List Value} {T1:Value→List Value} {S:zx} {k:Nat} {v:Value} {r:Option (List Value×zx)} (hc:chk.contains k=false) {x:Nat×Nat} {nl:List (Nat×Nat)} {hist:List (Value×zx)} {pe:Value} (hpe:yY T o=pe) (hl:l=o::rest) (hg:o.guard=none) (hm:∀ v,kN o rest T v=T1 v)
  (hs:jW P fx call T o S=some (v,S)) (hK:jO P fx chk (x::nl) call ops (k+1) (hist++[(pe,S)]) rest (T1 v) S=r):jO P fx chk (x::nl) call ops k hist l T S=r:=by
 subst hl
 simp only [jO,qG,List.isEmpty_cons,Bool.false_eq_true,if_false,hpe,Region.wanted,hg,if_true,hs,hm,hc,Bool.not_false,Bool.true_or]
 exact hK
theorem Qd {l rest:List Oper} {o:Oper} {T:List Value} {T1:Value→List Value} {S:zx} {k:Nat} {v:Value} {r:Option (List Value×zx)} (hc:chk.contains k=true) {x:Nat×Nat} {nl:List (Nat×Nat)} {hist:List (Value×zx)} {pe:Value} (hpe:yY T o=pe) (hl:l=o::rest) (hg:o.guard=none) (hm:∀ v,kN o rest T v=T1 v)
  (hs:jW P fx call T o S=some (v,S)) (hK:jO P fx chk (x::nl) call ops (k+1) (hist++[(pe,S)]) rest (T1 v) S=r):jO P fx chk (x::nl) call ops k hist l T S=okK v r ():=by
 show _=okC v r
 subst hl
 simp only [jO,qG,List.isEmpty_cons,Bool.false_eq_true,if_false,hpe,Region.wanted,hg,if_true,hs,hm,hc,Bool.not_true,Bool.false_or]
 rw [← hK]
 rfl
def ckK (c:Bool) (r:Option R) (p:Zq r):Option R:=if c then r else none
@[simp] theorem KE (r:Option R) (p:Zq r):ckK true r p=r:=Eq.trans rfl rfl
noncomputable def acJ (P:Program) (O:Ora) (hp:Bool) (v:Value) (x y:Code) (T:List Value) (S:zx):St:=abC v (zF P O hp x T S) (zF P O hp y T S)
@[simp] theorem JK (x y:Code) (T:List Value) (S:zx):acJ P O hp (.bool true) x y T S=zF P O hp x T S:=Eq.trans rfl rfl
@[simp] theorem ZL (x y:Code) (T:List Value) (S:zx):acJ P O hp (.bool false) x y T S=zF P O hp y T S:=Eq.trans rfl rfl
@[simp] theorem ZU (T:List Value) (H:zx):zF P O hp .skip T H=some (.normal,T,H):=Eq.trans rfl rfl
@[simp] theorem JV (T:List Value) (H:zx):zF P O hp .ret T H=some (.ret,T,H):=Eq.trans rfl rfl
@[simp] theorem ZE (i:Nat) (T:List Value) (H:zx):zF P O hp (.exit i) T H=some (.exit i,T,H):=Eq.trans rfl rfl
@[simp] theorem vJ (i:Nat) (ops:Array Oper) (T:List Value) (H:zx):zF P O false (.region i ops false) T H=QJ (jf P ⟨false,false,false⟩ (zN P O) ops ops.toList T H):=Eq.trans rfl rfl
@[simp] theorem kY (i:Nat) (ops:Array Oper) (T:List Value) (H:zx):zF P O true (.region i ops false) T H=QJ (jf P ⟨true,false,false⟩ (yC O.hp true (zN P O)) ops ops.toList T H):=Eq.trans rfl rfl
theorem Zj {i:Nat} {ops:Array Oper} (hd:qw P ops=true) (hf:fixed P ops=nm) (hc:checked P ops=chk) {nl:List (Nat×Nat)} (hn:again P ops=nl) (T:List Value) (H:zx):zF P O false (.region i ops true) T H=QJ (jO P ⟨false,!chk.isEmpty,nm⟩ chk nl (zN P O) ops 0 [] ops.toList T H):=by
 subst hf hc hn
 simp only [zF,hd,if_true,yC]
 rfl
theorem xO {i:Nat} {ops:Array Oper} (hd:qw P ops=true) (hf:fixed P ops=nm) (hc:checked P ops=chk) {nl:List (Nat×Nat)} (hn:again P ops=nl) (T:List Value) (H:zx):zF P O true (.region i ops true) T H=QJ (jO P ⟨true,!chk.isEmpty,nm⟩ chk nl (yC O.hp true (zN P O)) ops 0 [] ops.toList T H):=by
 subst hf hc hn
 simp only [zF,hd,if_true]
 rfl
@[simp] theorem Jw (x y:Code) (T:List Value) (H:zx):zF P O hp (.seq x y) T H=aeo (zF P O hp x T H) (zF P O hp y):=Eq.trans rfl rfl
@[simp] theorem Zv (i:Nat) (c:Code) (T:List Value) (H:zx):zF P O hp (.block i c) T H=Y2 i (zF P O hp c T H):=Eq.trans rfl rfl
@[simp] theorem Jg (c:Code) (T:List Value) (H:zx):zF P O hp (.loop c) T H=yj (zF P O hp c) T H:=Eq.trans rfl rfl
@[simp] theorem Ja (t:Tmp) (x y:Code) (T:List Value) (H:zx):zF P O hp (.cond (.tmp t) x y) T H=acJ P O hp (T.getD t zh) x y T H:=by
 simp only [zF,wX,if_true,zG]
 rfl
@[simp] theorem Yu:dem zh=zh:=kK
@[simp] theorem aad (k:IntKind) (n:Int):dem (.int k n)=.int k n:=Eq.trans rfl rfl
@[simp] theorem KQ (b:Bool):dem (.bool b)=.bool b:=Eq.trans rfl rfl
@[simp] theorem Jz (s:ByteArray):dem (.string s)=.string s:=Eq.trans rfl rfl
@[simp] theorem aaE:dem (.slice none 0 0)=.slice none 0 0:=Eq.trans rfl rfl
@[simp] theorem aao (x:Array Value):dem (.agg x)=.agg x:=Eq.trans rfl rfl
@[simp] theorem qJ (f:Fn) (x c:Array Value):dem (.func f x c)=.func f x c:=Eq.trans rfl rfl
@[simp] theorem ZJ (a:Option Addr):dem (.pointer a)=.pointer a:=Eq.trans rfl rfl
@[simp] theorem aeD (e n:Nat) (cs:List Value):dem (SL 1 e n cs)=SL 1 e n cs:=Eq.trans rfl rfl
@[simp] theorem aex (e n:Nat) (cs:List Value):dem (SL 2 e n cs)=SL 1 e n cs:=Eq.trans rfl rfl
@[simp] theorem abZ (k e n:Nat) (cs:List Value) (r:Option R) (p:Zq r):okK (SL k e n cs) r p=r:=Eq.trans rfl rfl
@[simp] theorem acj (cs:List Value) (r:Option R) (p:Zq r):okK (EP cs) r p=r:=Eq.trans rfl rfl
@[simp] theorem aeN (k e n:Nat) (cs:List Value) (r:Option R):okC (SL k e n cs) r=r:=Eq.trans rfl rfl
@[simp] theorem acz (cs:List Value) (r:Option R):okC (EP cs) r=r:=Eq.trans rfl rfl
def sv (k e n:Nat) (cs:List Value):Value:=if k=0 then .slice none 0 0 else SL k e n cs
structure Okv (k n:Nat) (cs:List Value):Prop where
 le:k≤2
 nil:k=0→n=0∧cs=[]
theorem sv0 {e n:Nat} {cs:List Value}:sv 0 e n cs=.slice none 0 0:=rfl
theorem sv1 {e n:Nat} {cs:List Value}:sv 1 e n cs=SL 1 e n cs:=rfl
theorem sv2 {e n:Nat} {cs:List Value}:sv 2 e n cs=SL 2 e n cs:=rfl
@[simp] theorem X7 (k e n:Nat) (cs:List Value):dem (sv k e n cs)=sv (if k=2 then 1 else k) e n cs:=by
 unfold sv
 by_cases h0:k=0
 ·
  subst h0;rfl
 ·
  by_cases h2:k=2
  ·
   subst h2;rfl
  ·
   rw [if_neg h0,if_neg h2,if_neg h0]
   simp only [SL,dem,qj,if_neg h2]
@[simp] theorem YQ (k e n:Nat) (cs:List Value) (r:Option R):okC (sv k e n cs) r=r:=by
 unfold sv;split <;> rfl
@[simp] theorem abU (k e n:Nat) (cs:List Value) (r:Option R) (p:Zq r):okK (sv k e n cs) r p=r:=YQ k e n cs r
theorem ab1 {k e n:Nat} {cs:List Value} (h:Okv k n cs):∃ e',vSl (sv k e n cs)=some (e',n,cs)∧(e'=e∨n=0∧cs=[]):=by
 unfold sv
 by_cases h0:k=0
 ·
  obtain ⟨rfl,rfl⟩:=h.nil h0
  rw [if_pos h0]
  exact ⟨0,rfl,.inr ⟨rfl,rfl⟩⟩
 ·
  rw [if_neg h0]
  have:k=1∨k=2:=by have:=h.le;omega
  exact ⟨e,by simp [SL,vSl,this],.inl rfl⟩
theorem acG {t te:TypeId} {k e n:Nat} {cs:List Value} {S:zx} (ht:P.underlying t=some (.slice te)) (h:Okv k n cs):Zp P t (sv k e n cs) S=some (goInt n,S):=by
 by_cases h0:k=0
 ·
  obtain ⟨rfl,rfl⟩:=h.nil h0
  subst h0
  simp only [sv0,Zp,Y1,ht]
 ·
  obtain ⟨e',h1,_⟩:=ab1 (e:=e) h
  simp only [sv,if_neg h0] at h1 ⊢
  simp only [SL] at h1 ⊢
  simp only [Zp,ht,h1]
theorem WS {t te:TypeId} {k e n:Nat} {cs:List Value} {S:zx} {ki:IntKind} {i:Int} (ht:P.underlying t=some (.slice te)) (he:yZ P te=some e) (h:Okv k n cs) (h0:0≤i) (hi:i < n) :
  zX P t (sv k e n cs) (.int ki i) S=some (EP ((cs.drop (i.toNat * e)).take e),S):=by
 have hk:k≠0:=fun e=>by have:=(h.nil e).1;omega
 have hk2:k=1∨k=2:=by have:=h.le;omega
 have h1:vSl (SL k e n cs)=some (e,n,cs):=by simp [SL,vSl,hk2]
 simp only [sv,if_neg hk]
 simp only [SL] at h1 ⊢
 simp only [zX,ht,h1,he,if_true]
 rw [if_pos ⟨h0,hi⟩]
@[simp] theorem aaD {t:TypeId} {v:Value} {S:zx} (ht:yN P t=some false):ji P nm t (EP [v]) S=some (v,S):=by
 simp [EP,ji,ht]
theorem Yi {t:TypeId} {n:Nat} {cs:List Value} {S:zx} (ht:yN P t=some true) (hn:yZ P t=some n) (hc:cs.length=n):ji P nm t (EP cs) S=some (.agg cs.toArray,S):=by
 simp only [EP,ji,ht,hn,if_true,List.toList_toArray]
 rw [if_pos (by omega),← hc,List.take_length]
theorem aaf {t te:TypeId} {k e n:Nat} {cs:List Value} {S:zx} {lo hi:Option Value} {i j:Int} (ht:P.underlying t=some (.slice te)) (he:yZ P te=some e) (h:Okv k n cs) (hlo:yP 0 lo=some i) (hhi:yP n hi=some j)
  (h0:0≤i) (hij:i≤j) (hj:j≤n):qW P t (sv k e n cs) lo hi S=some (sv (if k=2 then 1 else k) e (j.toNat - i.toNat) ((cs.drop (i.toNat * e)).take ((j.toNat - i.toNat) * e)),S):=by
 by_cases hk:k=0
 ·
  obtain ⟨rfl,rfl⟩:=h.nil hk
  subst hk
  simp only [sv0,qW,ht,vSl,he,hlo,hhi,if_pos h0,if_pos hij,if_pos hj]
  rfl
 ·
  have hk2:k=1∨k=2:=by have:=h.le;omega
  have h1:vSl (SL k e n cs)=some (e,n,cs):=by simp [SL,vSl,hk2]
  have h3:(if k=2 then 1 else k)=1:=by rcases hk2 with rfl | rfl <;> rfl
  rw [h3]
  simp only [sv,if_neg hk]
  simp only [SL] at h1 ⊢
  simp only [qW,ht,h1,he,hlo,hhi,if_pos h0,if_pos hij,if_pos hj,if_true]
  rfl
@[simp] theorem WC (k e n:Nat) (cs:List Value):Zo (sv k e n cs)=false:=by unfold sv;split <;> rfl
@[simp] theorem Zd (dr:Bool) (t:TypeId) (k e n:Nat) (cs:List Value) (lo hi:Option Value) (S:zx):yJ P dr t (sv k e n cs) lo hi S=qW P t (sv k e n cs) lo hi S:=by
 unfold yJ;rw [WC];rfl
@[simp] theorem kX (dr:Bool) (t:TypeId) (s:ByteArray) (lo hi:Option Value) (S:zx):yJ P dr t (.string s) lo hi S=qW P t (.string s) lo hi S:=Eq.trans rfl rfl
@[simp] theorem ZV (hp dr:Bool) (src dst:TypeId) (k e n:Nat) (cs:List Value) (S:zx):qF P hp dr src dst (sv k e n cs) S=Jh P src dst (sv k e n cs) S:=by
 unfold qF
 rw [WC]
 have:∀ s,sv k e n cs≠.string s:=by intro s;unfold sv;split <;> (intro h;cases h)
 cases hp <;> simp only [Bool.false_eq_true,if_false] <;> (split <;> first | rfl | (rename_i h;exact absurd h (this _)) | skip)
@[simp] theorem JA (hp dr:Bool) (src dst:TypeId) (k:IntKind) (n:Int) (S:zx):qF P hp dr src dst (.int k n) S=Jh P src dst (.int k n) S:=by cases hp <;> rfl
@[simp] theorem vN (dr:Bool) (src dst:TypeId) (s:ByteArray) (S:zx):qF P false dr src dst (.string s) S=Jh P src dst (.string s) S:=Eq.trans rfl rfl
@[simp] theorem kZ (dr:Bool) (src dst:TypeId) (s:ByteArray) (S:zx):qF P true dr src dst (.string s) S=wu P src dst (.string s) S:=Eq.trans rfl rfl
theorem XP {t te tx tex:TypeId} {k e n j m bytes:Nat} {cs ds:List Value} {z:Value} {S:zx} (ht:P.underlying t=some (.slice te)) (he:yZ P te=some e) (hz:zeroOf P te=some z) (hzs:z.cells.size=e) (hb:bytesOf P te=some bytes) (hp:0 < e)
  (htx:P.underlying tx=some (.slice tex)) (h:Okv k n cs) (hk:k≠1) (hx:Okv j m ds) (hn:cs.length=n * e) (hm:ds.length=m * e) (h1:cs.all (·.oneCell')=true) (h2:ds.all (·.oneCell')=true) (hl:(n+m) * bytes≤140737488355328) (hmax:n+m≤4611686018427387903) :
  kM P t tx (sv k e n cs) (sv j e m ds) S=some (sv (if k=0∧m=0 then 0 else 2) e (n+m) (cs++ds),S):=by
 have hel:wF P t=some te:=by simp only [wF,ht]
 have hsrc:adH P tx e (sv j e m ds)=some (m,ds):=by
  obtain ⟨e',q1,q2⟩:=ab1 (e:=e) hx
  have hns:∀ s,sv j e m ds≠.string s:=by intro s;unfold sv;split <;> (intro h;cases h)
  have hcond:m=0∨e'=e:=q2.elim .inr fun h=>.inl h.1
  unfold adH
  split
  ·
   rename_i s hs;exact absurd hs (hns s)
  ·
   simp only [htx,q1,if_pos hcond,if_pos hm,h2,if_true]
 have hsrc:Jj P tx e (sv j e m ds) S=some (m,ds):=by
  unfold Jj
  rw [WC]
  exact hsrc
 by_cases hk0:k=0
 ·
  obtain ⟨rfl,rfl⟩:=h.nil hk0
  subst hk0
  simp only [sv0,kM,wU,hel,he,hz,hb,if_pos hp,if_pos hzs,hsrc]
  by_cases hm0:m=0
  ·
   subst hm0
   simp [sv0]
  ·
   rw [Nat.zero_add] at hl hmax
   rw [if_neg hm0,if_pos hl,if_pos hmax,if_neg Bool.false_ne_true,if_neg (fun h=>hm0 h.2),sv2,Nat.zero_add,List.nil_append]
 ·
  have hk2:k=2:=by have:=h.le;omega
  subst hk2
  rw [if_neg (fun h=>hk0 h.1)]
  have h1':cs.toArray.toList.all (·.oneCell')=true:=by simpa using h1
  simp only [sv2,SL,kM,wU,hel,he,hz,hb,if_pos hp,if_pos hzs,hsrc,if_true,if_pos hl,if_pos hmax,h1']
@[simp] theorem QV (op:BinOp) (t:TypeId) (k k':IntKind) (a b:Int) (S:zx):yL P op t (.int k a) (.int k' b) S=kW P op t (.int k a) (.int k' b) S:=Eq.trans rfl rfl
@[simp] theorem ZO (op:BinOp) (t:TypeId) (a b:ByteArray) (S:zx):yL P op t (.string a) (.string b) S=kW P op t (.string a) (.string b) S:=Eq.trans rfl rfl
@[simp] theorem YO (op:BinOp) (t:TypeId) (a b:Bool) (S:zx):yL P op t (.bool a) (.bool b) S=kW P op t (.bool a) (.bool b) S:=Eq.trans rfl rfl
@[simp] theorem KP (op:BinOp) (t:TypeId) (a b:Array Value) (S:zx):yL P op t (.agg a) (.agg b) S=kW P op t (.agg a) (.agg b) S:=Eq.trans rfl rfl
@[simp] theorem J3 (b:Bool) (x y:Value) (S:zx):vW (.bool b) x y S=some (if b then dem x else dem y,S):=Eq.trans rfl rfl
@[simp] theorem Yw {src dst:TypeId} (k:IntKind) (n:Int) (S:zx):Jh P src dst (.int k n) S=wu P src dst (.int k n) S:=Eq.trans rfl rfl
@[simp] theorem xk (vs:List Value) (i:Nat) (S:zx):zL (.tuple vs.toArray) i S=(vs[i]?).map (·,S):=by
 simp only [zL,List.getElem?_toArray]
 cases vs[i]? <;> rfl
end
end Go.Abs
namespace Go.Abs
theorem jK {P:Program} {fn:Func} {a:Value} {T:List Value} {S:zx} (h:zI P T S fn.results.toList=some [a]) (hn:aej fn.results.toList=true):aaO P fn T S=some (a,S):=by
 unfold aaO
 rw [h]
 dsimp only
 rw [if_pos hn]
@[simp] theorem acp (k:IntKind) (n:Int):yT (.int k n)=true:=rfl
@[simp] theorem abx (b:Bool):yT (.bool b)=true:=rfl
@[simp] theorem Qh (k e n:Nat) (cs:List Value):yT (sv k e n cs)=true:=by unfold sv;split <;> rfl
@[simp] theorem ace (x:Array Value):yT (.agg x)=true:=rfl
@[simp] theorem aaN (a:Option Addr) (n c:Nat):yT (.slice a n c)=true:=rfl
end Go.Abs
namespace Go.Abs
open Go.RowKit
def vs {α:Type} (f:α→List Value) (e k:Nat) (l:List α):Value:=sv k e l.length (l.flatMap f)
structure Okl {α:Type} (k:Nat) (l:List α):Prop where
 le:k≤2
 nil:k=0→l=[]
theorem Okl.own {α:Type} {l:List α}:Okl 2 l:=⟨Nat.le_refl 2,(fun h=>by cases h)⟩
theorem Okl.read {α:Type} {l:List α}:Okl 1 l:=⟨by omega,(fun h=>by cases h)⟩
theorem Okl.none {α:Type}:Okl 0 ([]:List α):=⟨by omega,fun _=>rfl⟩
theorem Okl.dem {α:Type} {k:Nat} {l:List α} (h:Okl k l):Okl (if k=2 then 1 else k) l:=⟨by have:=h.le;split <;> omega,fun hk=>h.nil (by split at hk <;> omega)⟩
def cb (b:UInt8):List Value:=[.int .u8 b.toNat]
def ci (n:Int):List Value:=[.int .i64 n]
section
variable {R α:Type} {P:Program} {f:α→List Value} {e k j:Nat} {l m:List α} {t te tx tex:TypeId} {S:zx}
theorem Okl.okv (h:Okl k l):Okv k l.length (l.flatMap f):=⟨h.le,fun h0=>by rw [h.nil h0];exact ⟨rfl,rfl⟩⟩
theorem jB (hf:∀ x,(f x).length=e) (l:List α):(l.flatMap f).length=l.length * e:=by
 induction l with
 | nil=>simp
 | cons x l ih=>simp only [List.flatMap_cons,List.length_append,hf,ih,List.length_cons,Nat.add_mul];omega
theorem kJ (hf:∀ x,(f x).length=e) (l:List α):∀ (i:Nat),(l.flatMap f).drop (i * e)=(l.drop i).flatMap f:=by
 induction l with
 | nil=>intro i;simp
 | cons x l ih =>
  intro i
  cases i with
  | zero=>simp
  | succ i =>
   rw [List.flatMap_cons,List.drop_succ_cons,← ih i,List.drop_append,List.drop_eq_nil_of_le (by rw [hf,Nat.add_mul];omega),List.nil_append,hf]
   congr 1
   rw [Nat.add_mul];omega
theorem kF (hf:∀ x,(f x).length=e) (l:List α):∀ (i:Nat),(l.flatMap f).take (i * e)=(l.take i).flatMap f:=by
 induction l with
 | nil=>intro i;simp
 | cons x l ih =>
  intro i
  cases i with
  | zero=>simp
  | succ i =>
   rw [List.flatMap_cons,List.take_succ_cons,List.flatMap_cons,← ih i,List.take_append,List.take_of_length_le (by rw [hf,Nat.add_mul];omega),hf]
   congr 2
   rw [Nat.add_mul];omega
@[simp] theorem abS:dem (vs f e k l)=vs f e (if k=2 then 1 else k) l:=X7 _ _ _ _
@[simp] theorem ab2 (r:Option R):okC (vs f e k l) r=r:=YQ _ _ _ _ _
@[simp] theorem ab8 (r:Option R) (p:Zq r):okK (vs f e k l) r p=r:=YQ _ _ _ _ _
@[simp] theorem aeB:Zo (vs f e k l)=false:=WC _ _ _ _
@[simp] theorem Js (dr:Bool) (lo hi:Option Value):yJ P dr t (vs f e k l) lo hi S=qW P t (vs f e k l) lo hi S:=Zd _ _ _ _ _ _ _ _ _
@[simp] theorem YX (hp dr:Bool) (src dst:TypeId):qF P hp dr src dst (vs f e k l) S=Jh P src dst (vs f e k l) S:=ZV _ _ _ _ _ _ _ _ _
@[simp] theorem ade:yT (vs f e k l)=true:=Qh _ _ _ _
theorem X8 (ht:P.underlying t=some (.slice te)) (h:Okl k l):Zp P t (vs f e k l) S=some (goInt l.length,S):=acG ht h.okv
theorem ac2 {ki:IntKind} {i:Int} (ht:P.underlying t=some (.slice te)) (he:yZ P te=some e) (hf:∀ x,(f x).length=e) (h:Okl k l) (h0:0≤i) (hi:i < l.length) :
  zX P t (vs f e k l) (.int ki i) S=some (EP (f (l[i.toNat]'(by omega))),S):=by
 unfold vs
 rw [WS ht he h.okv h0 hi,kJ hf]
 have hlt:i.toNat < l.length:=by omega
 have:=kF hf (l.drop i.toNat) 1
 rw [Nat.one_mul] at this
 rw [this,List.drop_eq_getElem_cons hlt,List.take_succ_cons,List.take_zero,List.flatMap_cons,List.flatMap_nil,List.append_nil]
theorem abj {lo hi:Option Value} {i j:Int} (ht:P.underlying t=some (.slice te)) (he:yZ P te=some e) (hf:∀ x,(f x).length=e) (h:Okl k l) (hlo:yP 0 lo=some i) (hhi:yP l.length hi=some j) (h0:0≤i) (hij:i≤j) (hj:j≤l.length) :
  qW P t (vs f e k l) lo hi S=some (vs f e (if k=2 then 1 else k) ((l.drop i.toNat).take (j.toNat - i.toNat)),S):=by
 unfold vs
 rw [aaf ht he h.okv hlo hhi h0 hij hj,kJ hf,kF hf]
 congr 3
 simp;omega
theorem XV {bytes:Nat} {z:Value} (ht:P.underlying t=some (.slice te)) (he:yZ P te=some e) (hz:zeroOf P te=some z) (hzs:z.cells.size=e) (hb:bytesOf P te=some bytes) (hp:0 < e) (htx:P.underlying tx=some (.slice tex))
  (hf:∀ x,(f x).length=e) (h1:∀ x,(f x).all (·.oneCell')=true) (h:Okl k l) (hk:k≠1) (hm:Okl j m) (hl:(l.length+m.length) * bytes≤140737488355328) (hmax:l.length+m.length≤4611686018427387903) :
  kM P t tx (vs f e k l) (vs f e j m) S=some (vs f e (if k=0∧m.length=0 then 0 else 2) (l++m),S):=by
 have hone:∀ l:List α,(l.flatMap f).all (·.oneCell')=true:=by
  intro l
  rw [List.all_flatMap,List.all_eq_true]
  exact fun x _=>h1 x
 unfold vs
 rw [XP ht he hz hzs hb hp htx h.okv hk hm.okv (jB hf l) (jB hf m) (hone l) (hone m) hl hmax,List.flatMap_append,List.length_append]
theorem aer (x:Int):(ci x).length=1:=rfl
theorem zT {v:Value} {i j:Nat} {S:zx} (h:j≠i):zL (jM j v) i S=zL v i S:=by
 cases v with
 | tuple vs=>simp only [jM,zL,Array.getElem?_modify,if_neg h]
 | _=>rfl
theorem Vx {v:Value} {S:zx}:zL (jM 0 v) 1 S=zL v 1 S:=zT (by decide)
theorem Vs {v:Value} {S:zx}:zL (jM 0 v) 2 S=zL v 2 S:=zT (by decide)
theorem XR {v:Value} {S:zx}:zL (jM 1 v) 2 S=zL v 2 S:=zT (by decide)
theorem aaI {v:Value} {S:zx}:zL (jM 0 v) 3 S=zL v 3 S:=zT (by decide)
theorem Vu {v:Value} {S:zx}:zL (jM 1 v) 3 S=zL v 3 S:=zT (by decide)
theorem XT {v:Value} {S:zx}:zL (jM 2 v) 3 S=zL v 3 S:=zT (by decide)
theorem Vy {v:Value} {S:zx}:zL (jM 0 v) 4 S=zL v 4 S:=zT (by decide)
theorem X6 {v:Value} {S:zx}:zL (jM 1 v) 4 S=zL v 4 S:=zT (by decide)
theorem X9 {v:Value} {S:zx}:zL (jM 2 v) 4 S=zL v 4 S:=zT (by decide)
theorem Va {v:Value} {S:zx}:zL (jM 3 v) 4 S=zL v 4 S:=zT (by decide)
theorem Vh {v:Value} {S:zx}:zL (jM 0 v) 5 S=zL v 5 S:=zT (by decide)
theorem X3 {v:Value} {S:zx}:zL (jM 1 v) 5 S=zL v 5 S:=zT (by decide)
theorem Vm {v:Value} {S:zx}:zL (jM 2 v) 5 S=zL v 5 S:=zT (by decide)
theorem X0 {v:Value} {S:zx}:zL (jM 3 v) 5 S=zL v 5 S:=zT (by decide)
theorem Vf {v:Value} {S:zx}:zL (jM 4 v) 5 S=zL v 5 S:=zT (by decide)
abbrev iz (k:Nat) (l:List Int):Value:=vs ci 1 k l
end
end Go.Abs
namespace Go.Abs
open Go.RowKit
section
variable {P:Program} {O:Ora} {c d:FuncId→List Value→M Value}
end
end Go.Abs
namespace Go.Abs
open Go.RowKit
theorem abX {n:Int} (h:(Lit.int .i64 n).wf=true):-9223372036854775808≤n∧n < 9223372036854775808:=by
 simp [Lit.wf,IntKind.min,IntKind.max,IntKind.signed,IntKind.bits] at h
 omega
theorem aeM {P:Program} {hp:Bool} {ts:Array TypeId} {ty:TypeId} {k:IntKind} {a b:Int} {S:zx}:xG P hp .min ts ty [.int k a,.int k b] S=some (.int k (if b < a then b else a),S):=by
 show jq P [.int k a,.int k b] (Builtin.min_ ts ty #[.int k a,.int k b]) S=_
 exact je rfl rfl rfl
def Jl (call:FuncId→List Value→M Value) (g:FuncId) (args:List Value):M Value:=fun S=>match yE args S with
 | some (m,S1)=>match call g m S1 with
  | some r=>some (Yy S S1 args r)
  | none=>none
 | none=>none
theorem J4 {x:Value} {S:zx} (h:Zo x=false):qp x S=some (x,S):=by
 unfold qp
 split <;> first | rfl | (simp [Zo] at h)
theorem JF:∀ {l:List Value} {S:zx},l.all (fun x=>!Zo x)=true→qx l S=some (l,S)
 | [],S,_=>rfl
 | x::l,S,h=>by
  rw [List.all_cons,Bool.and_eq_true] at h
  have h1:Zo x=false:=by simpa using h.1
  simp only [qx,J4 h1,JF h.2]
theorem XE {x:Value} {S:zx} (h:WM x=false):kC x S=some (x,S):=by
 unfold kC
 split
 ·
  rename_i cs
  have h1:cs.toList.all (fun x=>!Zo x)=true:=by
   rw [List.all_eq_true]
   intro y hy
   have:cs.toList.any Zo=false:=h
   rw [List.any_eq_false] at this
   simpa using this y hy
  rw [JF h1]
 ·
  rename_i hne
  refine J4 ?_
  cases x <;> first | rfl | exact h | (exact absurd rfl (hne _))
theorem xB:∀ {l:List Value} {S:zx},l.all (fun x=>!WM x)=true→yE l S=some (l,S)
 | [],S,_=>rfl
 | x::l,S,h=>by
  rw [List.all_cons,Bool.and_eq_true] at h
  have h1:WM x=false:=by simpa using h.1
  simp only [yE,XE h1,xB h.2]
theorem abD {call:FuncId→List Value→M Value} {g:FuncId} {args:List Value} {S:zx} (h:args.all (fun x=>!WM x)=true):Jl call g args S=call g args S:=by
 have hn:args.any WM=false:=by
  rw [List.any_eq_false];intro x hx
  have:=List.all_eq_true.1 h x hx
  simpa using this
 unfold Jl;rw [xB h]
 dsimp only
 cases call g args S with
 | none=>rfl
 | some r=>dsimp only;rw [Yy,hn];rfl
theorem Xz {call:FuncId→List Value→M Value} {g:FuncId} {args m:List Value} {S S1 S2:zx} {v:Value} (h:yE args S=some (m,S1)) (hc:call g m S1=some (v,S2)) (ha:args.any WM=true) (hv:ground v=true) (hl:S2.log=S1.log):Jl call g args S=some (v,S):=by
 unfold Jl;rw [h]
 dsimp only
 rw [hc]
 dsimp only
 rw [Yy,ha,hv,hl,beq_self_eq_true]
 rfl
theorem XK {q o n e:Nat} {cs:List Value} {anc:List Nat} {S:zx} (hg:S.get q=some (.cells cs (.own anc) e)) (hl:o+n * e≤cs.length):qp (.slice (some ⟨q,o,none⟩) n n) S=some (SL 1 e n ((cs.drop o).take (n * e)),S.set q .dead):=by
 unfold qp;dsimp only;rw [hg];dsimp only;rw [if_pos rfl,if_pos hl]
end Go.Abs
namespace Go.Abs
open Go.RowKit
section
variable {P:Program} {μ μ1:Mu} {S S1 H H1:zx} {ω ω1:Nat→Option jX}
structure Ext (S S1:zx):Prop where
 next:S.next≤S1.next
 get:∀ k,k < S.next→S1.get k=S.get k
 log:∃ new,S1.log=new++S.log∧∀ k ∈ new,S.next≤k
theorem Ext.refl (S:zx):Ext S S:=⟨Nat.le_refl _,fun _ _=>rfl,[],rfl,fun k h=>by cases h⟩
theorem Ext.trans {S2:zx} (h:Ext S S1) (k:Ext S1 S2):Ext S S2:=⟨Nat.le_trans h.1 k.1,fun q hq=>(k.2 q (Nat.lt_of_lt_of_le hq h.1)).trans (h.2 q hq),by
 obtain ⟨n1,e1,f1⟩:=h.log
 obtain ⟨n2,e2,f2⟩:=k.log
 refine ⟨n2++n1,by rw [e2,e1,List.append_assoc],fun q hq=>?_⟩
 rcases List.mem_append.1 hq with hq | hq
 ·
  exact Nat.le_trans h.1 (f2 q hq)
 ·
  exact f1 q hq⟩
theorem Ext.push (S:zx) (o:jY):Ext S (S.push o):=⟨by simp,fun k hk=>by rw [zx.zM,if_neg (by omega)],[],rfl,fun k h=>by cases h⟩
theorem Ext.set {S S1:zx} (h:Ext S S1) {r:Nat} (hr:S.next≤r) (o:jY):Ext S (S1.set r o):=⟨by simpa using h.1,fun k hk=>by rw [zx.zY,if_neg (by omega)];exact h.2 k hk,by
 obtain ⟨n1,e1,f1⟩:=h.log
 refine ⟨r::n1,by rw [zx.WW,e1];rfl,fun q hq=>?_⟩
 rcases List.mem_cons.1 hq with rfl | hq
 ·
  exact hr
 ·
  exact f1 q hq⟩
inductive Lower (S:zx) (v1:Value) (S1:zx):Value→Prop
 | same (h:ground v1=true):Lower S v1 S1 v1
 | own {r n e:Nat} {cs:List Value} (hv:v1=.slice (some ⟨r,0,none⟩) n n) (hr:S.next≤r) (hg:S1.get r=some (.cells cs (.own []) e)) (hn:cs.length=n * e) (hs:cs.all sg=true):Lower S v1 S1 (SL 2 e n cs)
end
end Go.Abs
namespace Go.Abs
open Go.RowKit
section
variable {P:Program} {S:zx} {t te tx tex:TypeId} {q o n c e i r:Nat} {cs:List Value} {own:Own} {anc:List Nat} {v x:Value} {hp:Bool}
theorem wP (a:Addr) (S:zx):jV (.pointer (some a)) S=some (.pointer (some a),S):=Eq.trans rfl rfl
theorem KA (h:S.get q=some (.cells cs own e)) (ha:yN P t=some false) (hv:cs[o]?=some v) (hn:∀ l,v≠.agg l):ji P false t (.pointer (some ⟨q,o,none⟩)) S=some (dem v,S):=by
 unfold ji
 simp only [Bool.false_eq_true,if_false]
 have:wB P t (.pointer (some ⟨q,o,none⟩)) S=some (v,S):=by simp only [wB,h,ha,hv]
 rw [this]
 split
 ·
  rename_i l S2 he;cases he;exact absurd rfl (hn _)
 ·
  rename_i v2 S2 _ he;cases he;rfl
 ·
  rename_i he;cases he
theorem qL {k:IntKind} {m:Int} (h:S.get q=some (.cells cs own e)) (ha:yN P t=some false) (hv:cs[o]?=some (.int k m)):ji P false t (.pointer (some ⟨q,o,none⟩)) S=some (.int k m,S) :=
 KA h ha hv (fun l h=>by cases h)
theorem Zh {a:Option Addr} {n c:Nat} (h:S.get q=some (.cells cs own e)) (ha:yN P t=some false) (hv:cs[o]?=some (.slice a n c)):ji P false t (.pointer (some ⟨q,o,none⟩)) S=some (.slice a n c,S) :=
 KA h ha hv (fun l h=>by cases h)
theorem Q5 (h:S.get q=some (.cells cs own e)) (ha:yN P t=some true) (hs:yZ P t=some n) (hle:o+n≤cs.length):ji P false t (.pointer (some ⟨q,o,none⟩)) S=some (.agg (((cs.drop o).take n).toArray.map qj),S):=by
 unfold ji
 simp only [Bool.false_eq_true,if_false]
 have:wB P t (.pointer (some ⟨q,o,none⟩)) S=some (.agg ((cs.drop o).take n).toArray,S):=by simp only [wB,h,ha,hs,if_pos hle]
 rw [this]
theorem xX (h:S.get q=some (.cells cs (.own anc) e)) (hs:yZ P t=some n) (hx:x.cells.size=n) (h1:x.cells.toList.all (·.oneCell')=true) (hle:o+n≤cs.length) :
  ku P t (.pointer (some ⟨q,o,none⟩)) x S=some (zh,(S.kills anc).set q (.cells (splice cs o x.cells.toList) (.own []) e)):=by
 simp only [ku,kV,h,hs,if_pos hx,if_pos h1,if_pos hle]
theorem adr {k:IntKind} {j:Int} {sz:Nat} (ht:P.underlying t=some (.slice te)) (hs:yZ P te=some sz) (h0:0≤j) (hj:j < n):zX P t (.slice (some ⟨q,o,none⟩) n c) (.int k j) S=some (.pointer (some ⟨q,o+j.toNat * sz,none⟩),S):=by
 simp only [zX,jm,ht,hs]
 rw [if_pos ⟨h0,hj⟩]
theorem Y9 (ht:P.underlying t=some (.slice te)) (a:Option Addr) (n c:Nat) (S:zx):Zp P t (.slice a n c) S=some (goInt n,S):=by
 simp only [Zp,Y1,ht]
theorem aaJ {lo hi:Option Value} {l h:Int} {dr:Bool} (hd:dr=false) (hg:S.get q=some (.cells cs own e)) (ht:P.underlying t=some (.slice te)) (hs:yZ P te=some e) (hl:yP 0 lo=some l) (hh:yP n hi=some h) (h0:0≤l) (h1:l≤h) (h2:h≤n) :
  yJ P dr t (.slice (some ⟨q,o,none⟩) n c) lo hi S=some (.slice (some ⟨q,o+l.toNat * e,none⟩) (h.toNat - l.toNat) (h.toNat - l.toNat),S):=by
 subst hd
 simp only [yJ,Zo,if_true,Bool.false_eq_true,if_false,yH,ht,hs,hl,hh,if_pos h0,if_pos h1,if_pos h2,hg]
theorem Vz {m:Nat} (htx:P.underlying tx=some (.slice tex)) (hg:S.get q=some (.cells cs own i)) (hm:o+m * e≤cs.length) (h2:((cs.drop o).take (m * e)).all (·.oneCell')=true):Jj P tx e (.slice (some ⟨q,o,none⟩) m c) S=some (m,(cs.drop o).take (m * e)):=by
 simp only [Jj,Zo,if_true,wG,htx,wE,hg]
 rw [if_pos hm]
 dsimp only
 rw [if_pos h2]
theorem Xk {bytes k:Nat} {z:Value} {news:List Value} (hel:P.underlying t=some (.slice te)) (he:yZ P te=some e) (hz:zeroOf P te=some z) (hzs:z.cells.size=e) (hb:bytesOf P te=some bytes) (hpos:0 < e) (hsrc:Jj P tx e x S=some (k,news))
  (hg:S.get q=some (.cells cs (.own anc) e)) (hle:o+n * e≤cs.length) (hmax:(n+k) * bytes≤140737488355328) (hmax2:n+k≤4611686018427387903) (h1:((cs.drop o).take (n * e)).all (·.oneCell')=true) :
  wU P hp t tx (.slice (some ⟨q,o,none⟩) n c) x S=some (.slice (some ⟨S.next,0,none⟩) (n+k) (n+k),
   if o+n * e=cs.length then (S.set q (.cells cs .ro e)).push (.cells ((cs.drop o).take (n * e)++news) (.own (if n * e=0 then [] else q::anc)) e)
   else ((S.kills anc).set q .dead).push (.cells ((cs.drop o).take (n * e)++news) (.own []) e)):=by
 have hel2:wF P t=some te:=by simp only [wF,hel]
 simp only [wU,hel2,he,hz,hb,if_pos hpos,if_pos hzs,hsrc,hg,if_true,if_pos hle,if_pos hmax,if_pos hmax2,if_pos h1,wK]
 by_cases h:o+n * e=cs.length
 ·
  rw [if_pos h,if_pos h]
 ·
  rw [if_neg h,if_neg h]
theorem Xm {bytes k:Nat} {z:Value} {news:List Value} (hel:P.underlying t=some (.slice te)) (he:yZ P te=some e) (hz:zeroOf P te=some z) (hzs:z.cells.size=e) (hb:bytesOf P te=some bytes) (hpos:0 < e) (hsrc:Jj P tx e x S=some (k,news))
  (hmax:k * bytes≤140737488355328) (hmax2:k≤4611686018427387903) :
  wU P true t tx (.slice none 0 0) x S=some (if k=0 then .slice none 0 0 else .slice (some ⟨S.next,0,none⟩) k k,if k=0 then S else S.push (.cells news (.own []) e)):=by
 have hel2:wF P t=some te:=by simp only [wF,hel]
 simp only [wU,hel2,he,hz,hb,if_pos hpos,if_pos hzs,hsrc,if_pos hmax,if_pos hmax2,if_true]
 by_cases h:k=0
 ·
  rw [if_pos h,if_pos h,if_pos h]
 ·
  rw [if_neg h,if_neg h,if_neg h]
end
theorem xY {x:Array Value}:(Value.agg x).cells=x:=rfl
@[simp] theorem Y3 (a:Option Addr) (n c:Nat):dem (.slice a n c)=.slice a n c:=Eq.trans rfl rfl
@[simp] theorem aaM (a:Option Nat):dem (.map a)=.map a:=Eq.trans rfl rfl
theorem wrap_i64 {n:Int} (h0:-9223372036854775808≤n) (h:n < 9223372036854775808):IntKind.i64.wrap n=n:=by
 simp [IntKind.wrap,IntKind.bits,IntKind.signed]
 split <;> omega
theorem YV {l pre suf:List Int} {n:Int} (hl:l=pre++n::suf) (h:Int.toNat (pre.length:Int) < l.length):l[Int.toNat (pre.length:Int)]=n:=by
 subst hl;simp
theorem acn {α:Type} {l pre suf:List α} {n:α} (hl:l=pre++n::suf) (h:Int.toNat (pre.length:Int) < l.length):l[Int.toNat (pre.length:Int)]=n:=by
 subst hl;simp
theorem aeV (k:Nat):(if (if k=2 then 1 else k)=2 then 1 else if k=2 then 1 else k)=if k=2 then 1 else k:=by split <;> simp_all
theorem ZM (k:Nat):(if k=2 then 1 else k)≠2:=by split <;> omega
theorem Zt (Sa Sb:zx):yc zh Sa Sb=true:=rfl
theorem YC (cs:List Value) (Sa Sb:zx):yc (EP cs) Sa Sb=true:=rfl
theorem ZI {q o e:Nat} {cs:List Value} {own:Own} {S:zx} (h:S.get q=some (.cells cs own e)):yc (.pointer (some ⟨q,o,none⟩)) S S=true:=by
 simp only [yc,h,Nat.sub_self,List.take_zero,List.contains_nil,Bool.not_false,Bool.and_self]
theorem Xu {q o e:Nat} {cs:List Value} {own:Own} {S S1:zx} (h:S.get q=some (.cells cs own e)) (hq:q < S.next) (hE:Ext S S1):yc (.pointer (some ⟨q,o,none⟩)) S S1=true:=by
 obtain ⟨new,h1,h2⟩:=hE.log
 simp only [yc,h,h1,List.length_append,Nat.add_sub_cancel,List.take_left,Bool.true_and,Bool.not_eq_true',List.contains_eq_mem,decide_eq_false_iff_not]
 intro hm
 have:=h2 q hm
 omega
end Go.Abs
namespace Go.Abs
open Go.RowKit
section
variable {P:Program} {fx:Fx} {chk:List Nat} {call:FuncId→List Value→M Value} {ops:Array Oper}
theorem sP (f:Func) (i n:Nat) {l:List Oper} {T:List Value} {T1:Value→List Value} {S:zx} {v:Value} {r:Option (List Value×zx)} (hK:jf P fx call ops ((reg f i).toList.drop (n+1)) (T1 v) S=r) (hl:l=(opAt f i n)::((reg f i).toList.drop (n+1)):=by kernel_rfl) (hg:(opAt f i n).guard=none:=by kernel_rfl) (hm:∀ v,kN (opAt f i n) ((reg f i).toList.drop (n+1)) T v=T1 v:=by exact fun _=>rfl) (hs:jW P fx call T (opAt f i n) S=some (v,S):=by kernel_rfl):jf P fx call ops l T S=r :=
 Vb hl hg hm hs hK
theorem sD (f:Func) (i n:Nat) {l:List Oper} {T:List Value} {T1:Value→List Value} {S:zx} {s:Option (Value×zx)} {K:Value→zx→Option (List Value×zx)} (hK:∀ v S1,jf P fx call ops ((reg f i).toList.drop (n+1)) (T1 v) S1=K v S1) (hl:l=(opAt f i n)::((reg f i).toList.drop (n+1)):=by kernel_rfl) (hg:(opAt f i n).guard=none:=by kernel_rfl) (hm:∀ v,kN (opAt f i n) ((reg f i).toList.drop (n+1)) T v=T1 v:=by exact fun _=>rfl) (hs:jW P fx call T (opAt f i n) S=s:=by kernel_rfl):jf P fx call ops l T S=zW s K () :=
 acR hl hg hm hs hK
theorem sG (f:Func) (i n:Nat) {l:List Oper} {T:List Value} {T1:Value→List Value} {S:zx} {j:Nat} {b:Bool} {g:Value} {s:M Value} {K:Value→zx→Option (List Value×zx)} (hK:∀ v S1,jf P fx call ops ((reg f i).toList.drop (n+1)) (T1 v) S1=K v S1) (hl:l=(opAt f i n)::((reg f i).toList.drop (n+1)):=by kernel_rfl) (hg:(opAt f i n).guard=some (j,b):=by kernel_rfl) (hm:∀ v,kN (opAt f i n) ((reg f i).toList.drop (n+1)) T v=T1 v:=by exact fun _=>rfl) (hy:ynd ops T j=vb g:=by kernel_rfl) (hs:jW P fx call T (opAt f i n) S=s S:=by kernel_rfl):jf P fx call ops l T S=gdK g b s S K () :=
 acQ hl hg hm hy hs hK
theorem tD (f:Func) (i n:Nat) {l:List Oper} {T:List Value} {T1:Value→List Value} {S:zx} {k:Nat} {s:Option (Value×zx)} {K:Value→zx→Option (List Value×zx)} (hK:∀ v S1,jO P fx chk [] call ops (k+1) [] ((reg f i).toList.drop (n+1)) (T1 v) S1=K v S1) (hc:chk.contains k=false:=by kernel_rfl) (hl:l=(opAt f i n)::((reg f i).toList.drop (n+1)):=by kernel_rfl) (hg:(opAt f i n).guard=none:=by kernel_rfl) (hm:∀ v,kN (opAt f i n) ((reg f i).toList.drop (n+1)) T v=T1 v:=by exact fun _=>rfl) (hs:jW P fx call T (opAt f i n) S=s:=by kernel_rfl):jO P fx chk [] call ops k [] l T S=zW s K () :=
 aa1 hc hl hg hm hs hK
theorem tP (f:Func) (i n:Nat) {l:List Oper} {T:List Value} {T1:Value→List Value} {S:zx} {k:Nat} {v:Value} {r:Option (List Value×zx)} (hK:jO P fx chk [] call ops (k+1) [] ((reg f i).toList.drop (n+1)) (T1 v) S=r) (hc:chk.contains k=false:=by kernel_rfl) (hl:l=(opAt f i n)::((reg f i).toList.drop (n+1)):=by kernel_rfl) (hg:(opAt f i n).guard=none:=by kernel_rfl) (hm:∀ v,kN (opAt f i n) ((reg f i).toList.drop (n+1)) T v=T1 v:=by exact fun _=>rfl) (hs:jW P fx call T (opAt f i n) S=some (v,S):=by kernel_rfl):jO P fx chk [] call ops k [] l T S=r :=
 XM hc hl hg hm hs hK
theorem uD (f:Func) (i n:Nat) {l:List Oper} {T:List Value} {T1:Value→List Value} {S:zx} {k:Nat} {s:Option (Value×zx)} {K:Value→zx→Option (List Value×zx)} {x:Nat×Nat} {nl:List (Nat×Nat)} {hist:List (Value×zx)} {pe:Value} (hK:∀ v S1,jO P fx chk (x::nl) call ops (k+1) (hist++[(pe,S)]) ((reg f i).toList.drop (n+1)) (T1 v) S1=K v S1) (hc:chk.contains k=false:=by kernel_rfl) (hpe:yY T (opAt f i n)=pe:=by kernel_rfl) (hl:l=(opAt f i n)::((reg f i).toList.drop (n+1)):=by kernel_rfl) (hg:(opAt f i n).guard=none:=by kernel_rfl) (hm:∀ v,kN (opAt f i n) ((reg f i).toList.drop (n+1)) T v=T1 v:=by exact fun _=>rfl) (hs:jW P fx call T (opAt f i n) S=s:=by kernel_rfl):jO P fx chk (x::nl) call ops k hist l T S=zW s K () :=
 abM hc hpe hl hg hm hs hK
theorem uDC (f:Func) (i n:Nat) {l:List Oper} {T:List Value} {T1:Value→List Value} {S:zx} {k:Nat} {s:Option (Value×zx)} {K:Value→zx→Option (List Value×zx)} {x:Nat×Nat} {nl:List (Nat×Nat)} {hist:List (Value×zx)} {pe:Value} (hK:∀ v S1,jO P fx chk (x::nl) call ops (k+1) (hist++[(pe,S)]) ((reg f i).toList.drop (n+1)) (T1 v) S1=K v S1) (hc:chk.contains k=true:=by kernel_rfl) (hpe:yY T (opAt f i n)=pe:=by kernel_rfl) (hl:l=(opAt f i n)::((reg f i).toList.drop (n+1)):=by kernel_rfl) (hg:(opAt f i n).guard=none:=by kernel_rfl) (hm:∀ v,kN (opAt f i n) ((reg f i).toList.drop (n+1)) T v=T1 v:=by exact fun _=>rfl) (hs:jW P fx call T (opAt f i n) S=s:=by kernel_rfl):jO P fx chk (x::nl) call ops k hist l T S=zW s (fun v S1=>okK v (K v S1) ()) () :=
 VK hc hpe hl hg hm hs hK
theorem uP (f:Func) (i n:Nat) {l:List Oper} {T:List Value} {T1:Value→List Value} {S:zx} {k:Nat} {v:Value} {r:Option (List Value×zx)} {x:Nat×Nat} {nl:List (Nat×Nat)} {hist:List (Value×zx)} {pe:Value} (hK:jO P fx chk (x::nl) call ops (k+1) (hist++[(pe,S)]) ((reg f i).toList.drop (n+1)) (T1 v) S=r) (hc:chk.contains k=false:=by kernel_rfl) (hpe:yY T (opAt f i n)=pe:=by kernel_rfl) (hl:l=(opAt f i n)::((reg f i).toList.drop (n+1)):=by kernel_rfl) (hg:(opAt f i n).guard=none:=by kernel_rfl) (hm:∀ v,kN (opAt f i n) ((reg f i).toList.drop (n+1)) T v=T1 v:=by exact fun _=>rfl) (hs:jW P fx call T (opAt f i n) S=some (v,S):=by kernel_rfl):jO P fx chk (x::nl) call ops k hist l T S=r :=
 XI hc hpe hl hg hm hs hK
theorem uPC (f:Func) (i n:Nat) {l:List Oper} {T:List Value} {T1:Value→List Value} {S:zx} {k:Nat} {v:Value} {r:Option (List Value×zx)} {x:Nat×Nat} {nl:List (Nat×Nat)} {hist:List (Value×zx)} {pe:Value} (hK:jO P fx chk (x::nl) call ops (k+1) (hist++[(pe,S)]) ((reg f i).toList.drop (n+1)) (T1 v) S=r) (hc:chk.contains k=true:=by kernel_rfl) (hpe:yY T (opAt f i n)=pe:=by kernel_rfl) (hl:l=(opAt f i n)::((reg f i).toList.drop (n+1)):=by kernel_rfl) (hg:(opAt f i n).guard=none:=by kernel_rfl) (hm:∀ v,kN (opAt f i n) ((reg f i).toList.drop (n+1)) T v=T1 v:=by exact fun _=>rfl) (hs:jW P fx call T (opAt f i n) S=some (v,S):=by kernel_rfl):jO P fx chk (x::nl) call ops k hist l T S=okK v r () :=
 Qd hc hpe hl hg hm hs hK
end
end Go.Abs
namespace Go.Proofs.Ytacbgjhmkhjpoaa
open Go.Abs
theorem aeG:yZ zi 3=some 1:=by kernel_rfl
theorem Yv:yN zi 3=some false:=by kernel_rfl
theorem jd:zi.underlying 23=some (TypeDesc.slice 30):=by kernel_rfl
theorem JQ:yZ zi 23=some 1:=by kernel_rfl
theorem y7:yN zi 23=some false:=by kernel_rfl
theorem abh:zi.underlying 30=some (TypeDesc.struct #[{ name:= "ID",type:=3,offset:=0,embedded:=false,tag:= "",pkgPath:= "",byteOffset:=0 },{ name:= "Fee",type:=3,offset:=1,embedded:=false,tag:= "",pkgPath:= "",byteOffset:=8 }]):=by kernel_rfl
theorem jH:yZ zi 30=some 2:=by kernel_rfl
theorem aaW:bytesOf zi 30=some 16:=by kernel_rfl
theorem abz:zeroOf zi 30=(some (Value.agg #[(Value.int IntKind.i64 0),(Value.int IntKind.i64 0)])):=by kernel_rfl
theorem Zy:yN zi 30=some true:=by kernel_rfl
theorem aaG:zi.underlying 38=some (TypeDesc.slice 3):=by kernel_rfl
theorem yu (q o:Nat) (S:zx):zS zi 30 (.pointer (some ⟨q,o,none⟩)) 0 S=some (.pointer (some ⟨q,o+0,none⟩),S):=by kernel_rfl
theorem ZB (q o:Nat) (S:zx):zS zi 30 (.pointer (some ⟨q,o,none⟩)) 1 S=some (.pointer (some ⟨q,o+1,none⟩),S):=by kernel_rfl
theorem jA (q o:Nat) (S:zx):zS zi 49 (.pointer (some ⟨q,o,none⟩)) 0 S=some (.pointer (some ⟨q,o+0,none⟩),S):=by kernel_rfl
theorem qC {fx:Bool} {x0 x1:Value} {S:zx}:ji zi fx 30 (EP [x0,x1]) S=some (.agg [x0,x1].toArray,S):=Yi Zy jH rfl
theorem VA {q:Nat} {x0 x1:Value} {own:Own} {e:Nat} {S:zx} (h:S.get q=some (.cells [x0,x1] own e)):ji zi false 30 (.pointer (some ⟨q,0,none⟩)) S=some (.agg [qj x0,qj x1].toArray,S):=(Q5 (o:=0) h Zy jH (by simp)).trans (by simp)
theorem Wu (S:zx):jL zi 23 0 [] S=some (sv 2 2 0 [],S):=by kernel_rfl
theorem Xa (x0 x1:Int) (S:zx):jL zi 38 2 [(0,.int IntKind.i64 x0),(1,.int IntKind.i64 x1)] S=some (sv 2 1 2 [.int IntKind.i64 x0,.int IntKind.i64 x1],S):=by kernel_rfl
theorem abV {k:Nat} {l:List Int} {S:zx} (h:Okl k l):Zp zi 38 (iz k l) S=some (goInt l.length,S):=X8 aaG h
theorem ad4 {k:Nat} {l:List Int} {S:zx} {ki:IntKind} {i:Int} (h:Okl k l) (h0:0≤i) (hi:i < l.length):zX zi 38 (iz k l) (.int ki i) S=some (EP [.int .i64 (l[i.toNat]'(by omega))],S):=ac2 aaG aeG aer h h0 hi
theorem J9 {fx:Bool} {v:Value} {S:zx}:ji zi fx 3 (EP [v]) S=some (v,S):=aaD Yv
theorem wk:type_of% (aeZ @Jw (aeZ @vJ (aeZ @Zv (aeZ @ZU (aeZ @JV (aeZ @ZE (aeZ @Ja (aeZ @Jg (aeZ @Zl (aeZ @YN (aeZ @ZW (aeZ @Y5 (aeZ @Ky (aeZ @xI (aeZ @JM (aeZ @ZC (aeZ @JK (aeZ @ZL (aeZ @Yk (aeZ @ab9 (aeZ @acw (aeZ @acA (aeZ @acy (aeZ @aci (aeZ @VE (aeZ @aaH (aeZ @aaB (aeZ @VU (aeZ @aax (aeZ @KE (aeZ @Zt (aeZ @YC (aeZ @Bool.and_true (aeZ @Bool.true_and (aeZ @Bool.and_self (aeZ @KR (aeZ @aau (aeZ @JC (aeZ @YU (aeZ @Jb (aeZ @abZ (aeZ @acj (aeZ @abU (aeZ @ab8 (aeZ @adR (aeZ @aeg (aeZ @aed (aeZ @adP (aeZ @adI (aeZ @abW (aeZ @abR (aeZ @ab6 (aeZ @abQ (aeZ @acs (aeZ @Vr (aeZ @J3 (aeZ @Bool.false_eq_true (aeZ @KJ (aeZ @VN (aeZ @JR (aeZ @Yp (aeZ @YZ (aeZ @ab2 (aeZ @YQ (aeZ @acz (aeZ @Yu (aeZ @aad (aeZ @KQ (aeZ @Jz (aeZ @aaE (aeZ @aao (aeZ @qJ (aeZ @ZJ (aeZ @Y3 (aeZ @aaM (aeZ @abS (aeZ @X7 (aeZ @WT (aeZ @QV (aeZ @ZO (aeZ @YO (aeZ @Yw (aeZ @JA (aeZ @vN (aeZ @kZ (aeZ @ZV (aeZ @YX (aeZ @Zd (aeZ @Js (aeZ @kX (aeZ @kY (aeZ @xk (aeZ @KG (aeZ @Kv (aeZ @Kr (aeZ @Q9 (aeZ @QU (aeZ @QY (aeZ @QO (aeZ @Kt (aeZ @KD (aeZ @VW (aeZ @Bool.not_true (aeZ @Bool.not_false (aeZ @Bool.true_eq_false (aeZ @decide_true (aeZ @decide_false (aeZ @Vx (aeZ @Vs (aeZ @XR (aeZ @aaI (aeZ @Vu (aeZ @XT (aeZ @Vy (aeZ @X6 (aeZ @X9 (aeZ @Va (aeZ @Vh (aeZ @X3 (aeZ @Vm (aeZ @X0 (@Vf)))))))))))))))))))))))))))))))))))))))))))))))))))))))))))))))))))))))))))))))))))))))))))))))))))))))))))))))))))))))))):=aeZ @Jw (aeZ @vJ (aeZ @Zv (aeZ @ZU (aeZ @JV (aeZ @ZE (aeZ @Ja (aeZ @Jg (aeZ @Zl (aeZ @YN (aeZ @ZW (aeZ @Y5 (aeZ @Ky (aeZ @xI (aeZ @JM (aeZ @ZC (aeZ @JK (aeZ @ZL (aeZ @Yk (aeZ @ab9 (aeZ @acw (aeZ @acA (aeZ @acy (aeZ @aci (aeZ @VE (aeZ @aaH (aeZ @aaB (aeZ @VU (aeZ @aax (aeZ @KE (aeZ @Zt (aeZ @YC (aeZ @Bool.and_true (aeZ @Bool.true_and (aeZ @Bool.and_self (aeZ @KR (aeZ @aau (aeZ @JC (aeZ @YU (aeZ @Jb (aeZ @abZ (aeZ @acj (aeZ @abU (aeZ @ab8 (aeZ @adR (aeZ @aeg (aeZ @aed (aeZ @adP (aeZ @adI (aeZ @abW (aeZ @abR (aeZ @ab6 (aeZ @abQ (aeZ @acs (aeZ @Vr (aeZ @J3 (aeZ @Bool.false_eq_true (aeZ @KJ (aeZ @VN (aeZ @JR (aeZ @Yp (aeZ @YZ (aeZ @ab2 (aeZ @YQ (aeZ @acz (aeZ @Yu (aeZ @aad (aeZ @KQ (aeZ @Jz (aeZ @aaE (aeZ @aao (aeZ @qJ (aeZ @ZJ (aeZ @Y3 (aeZ @aaM (aeZ @abS (aeZ @X7 (aeZ @WT (aeZ @QV (aeZ @ZO (aeZ @YO (aeZ @Yw (aeZ @JA (aeZ @vN (aeZ @kZ (aeZ @ZV (aeZ @YX (aeZ @Zd (aeZ @Js (aeZ @kX (aeZ @kY (aeZ @xk (aeZ @KG (aeZ @Kv (aeZ @Kr (aeZ @Q9 (aeZ @QU (aeZ @QY (aeZ @QO (aeZ @Kt (aeZ @KD (aeZ @VW (aeZ @Bool.not_true (aeZ @Bool.not_false (aeZ @Bool.true_eq_false (aeZ @decide_true (aeZ @decide_false (aeZ @Vx (aeZ @Vs (aeZ @XR (aeZ @aaI (aeZ @Vu (aeZ @XT (aeZ @Vy (aeZ @X6 (aeZ @X9 (aeZ @Va (aeZ @Vh (aeZ @X3 (aeZ @Vm (aeZ @X0 (@Vf)))))))))))))))))))))))))))))))))))))))))))))))))))))))))))))))))))))))))))))))))))))))))))))))))))))))))))))))))))))))))
theorem zSs:type_of% (aeZ wk (aeZ (@List.getD_cons_succ Value) (aeZ (@List.getD_cons_zero Value) (aeZ @if_true.{1} (aeZ @if_false.{1} (aeZ (@List.getElem?_cons_succ Value) (aeZ (@List.getElem?_cons_zero Value) (aeZ @Option.map_some.{0,0} @eq_self.{1})))))))):=aeZ wk (aeZ (@List.getD_cons_succ Value) (aeZ (@List.getD_cons_zero Value) (aeZ @if_true.{1} (aeZ @if_false.{1} (aeZ (@List.getElem?_cons_succ Value) (aeZ (@List.getElem?_cons_zero Value) (aeZ @Option.map_some.{0,0} @eq_self.{1})))))))
end Go.Proofs.Ytacbgjhmkhjpoaa
namespace Go.Abs
open Go.RowKit
section
theorem qB (b:Nat) (vs:List Value):∀ (o:Nat) (w:World),(w.setCells b o vs).drawn=w.drawn:=by
 induction vs with
 | nil=>intro o w;rfl
 | cons v r ih=>intro o w;rw [World.setCells,ih];rfl
theorem aaT {w1 w2:World} (h1:w1.os=w2.os) (h2:w1.tape=w2.tape) (h3:w1.output=w2.output) (h4:w1.drawn=w2.drawn) (h5:w1.heap.size=w2.heap.size) (h6:∀ k:Nat,w1.heap[k]?=w2.heap[k]?):w1=w2:=by
 cases w1;cases w2
 simp only at *
 subst h1 h2 h3 h4
 congr
 exact Array.ext_getElem? h6
theorem ZQ {w:World} {b o:Nat} {cc:Array Value} {e:TypeId} {fr:Nat×Nat} (hb:w.heap[b]?=some (.cells cc e fr)) {pre vs suf:List Value} (hpre:∀ j v,pre[j]?=some v→cc[o+j]?=some v) (hle:o+(pre.length+vs.length+suf.length)≤cc.size) :
  (w.setCells b (o+(pre.length+vs.length)) suf).setCells b (o+pre.length) vs=w.setCells b o (pre++(vs++suf)):=by
 obtain ⟨a1,a2,a3,a4⟩:=wS b suf (o+(pre.length+vs.length)) w
 obtain ⟨b1,b2,b3,b4⟩:=wS b vs (o+pre.length) (w.setCells b (o+(pre.length+vs.length)) suf)
 obtain ⟨c1,c2,c3,c4⟩:=wS b (pre++(vs++suf)) o w
 refine aaT (by rw [b1,a1,c1]) (by rw [b2,a2,c2]) (by rw [b3,a3,c3]) (by rw [qB,qB,qB]) (by rw [b4,a4,c4]) fun k=>?_
 by_cases hk:k=b
 ·
  subst hk
  rw [jS _ _ _ _ _ _ _ (jS _ _ _ _ _ _ _ hb),jS _ _ _ _ _ _ _ hb]
  congr 2
  refine Array.ext_getElem? fun n=>?_
  rw [y5,y5,y5,wY]
  simp only [List.length_append]
  by_cases h1:o≤n∧n < o+(pre.length+(vs.length+suf.length))
  ·
   rw [if_pos (show o≤n∧n < o+(pre.length+(vs.length+suf.length))∧n < cc.size by omega)]
   by_cases h2:n < o+pre.length
   ·
    rw [if_neg (by omega),if_neg (by omega),List.getElem?_append_left (by omega)]
    have hlt:n - o < pre.length:=by omega
    have:=hpre (n - o) _ (List.getElem?_eq_getElem hlt)
    rw [show o+(n - o)=n by omega] at this
    rw [this,List.getElem?_eq_getElem hlt]
   ·
    rw [List.getElem?_append_right (by omega)]
    by_cases h3:n < o+pre.length+vs.length
    ·
     rw [if_pos (by omega),List.getElem?_append_left (by omega)]
     congr 1;omega
    ·
     rw [if_neg (by omega),if_pos (by omega),List.getElem?_append_right (by omega)]
     congr 1;omega
  ·
   rw [if_neg (by omega),if_neg (by omega),if_neg (by omega)]
 ·
  rw [jg _ _ _ _ _ hk,jg _ _ _ _ _ hk,jg _ _ _ _ _ hk]
end
section
variable {P:Program}
theorem yD (w:World) {dT sT ty elem:TypeId} {b o dLen dCap e:Nat} {a:Addr} {sLen sCap:Nat} {cs:List Value}
  (hu:P.underlying dT=some (.slice elem)) (hs:yZ P elem=some e) (hn:cs.length=Nat.min sLen dLen * e)
  (hsrc:∀ j v,cs[j]?=some v→w.cell? (a.add j)=some v) (hc:∀ j,j < cs.length→(w.cell? ⟨b,o+j,none⟩).isSome=true) (hf:∀ j,j < cs.length→w.frozen? ⟨b,o+j,none⟩=false) (h1:∀ v ∈ cs,v.oneCell'=true) :
  (Builtin.copy_ #[dT,sT] ty #[.slice (some ⟨b,o,none⟩) dLen dCap,.slice (some a) sLen sCap]).run P w=.ok (goInt (Nat.min sLen dLen)) (w.setCells b o cs):=by
 have hl:=run_loadCells_list (P:=P) w a cs hsrc
 have hst:=run_storeCells_cells (P:=P) b o cs 0 w (by simpa using hc) (by simpa using hf) h1
 simp only [Nat.add_zero] at hst
 rw [hn] at hl
 simp [Builtin.copy_,run_underlying hu,Builtin.lenOf,jZ hs,Builtin.firstCells,hl,hst]
end
section
variable {P:Program} {B:Base} {w0:World} {m:Mp} {H:zx} {w:World}
theorem Rel.inserted {r:Nat} {L:Loc} {cs all all':List Value} {size o:Nat} {anc:List Nat} (hr:Rel B w0 m H w) (hm:m r=some L) (hg:H.get r=some (.cells cs (.own anc) size)) (ho:o≤cs.length) (hx:LR m all all') (hl:L.shift+o+all.length≤L.lim) :
  w.there L.blk (L.shift+o) all'.length∧Rel B w0 (m.add H.next ⟨L.blk,L.shift+o,L.lim,size⟩) (((H.kills anc).set r .dead).push (.cells all (.own []) size)) (w.setCells L.blk (L.shift+o) all'):=by
 have h:=hr.moved (o:=o) (n:=0) (anc:=[]) (G:=(H.kills anc).set r .dead) hm hg (.inr ⟨rfl,rfl⟩) ho hx hl
 simpa using h
end
section
variable {P:Program} {B:Base} {w0:World} {m:Mp} {H:zx} {w w1:World}
theorem Rel.less {G:zx} (hr:Rel B w0 m G w) (hn:H.next=G.next) (hg:∀ r o,H.get r=some o→o=.dead∨G.get r=some o):Rel B w0 m H w:=by
 refine ⟨hr.below,hr.base,fun r L o hm ho=>?_,hr.lt,fun r L o hm ho hw=>?_,fun r r' L L' o o' hne h1 h2 g1 g2 hw ha hb=>?_,fun r h=>hr.fresh r (by rw [← hn];exact h),hr.keep,hr.far,hr.QS fun r cs a e ho=>?_⟩
 ·
  rcases hg r o ho with rfl | h
  ·
   exact True.intro
  ·
   exact hr.obj r L o hm h
 ·
  rcases hg r o ho with rfl | h
  ·
   cases hw
  ·
   exact hr.own r L o hm h hw
 ·
  rcases hg r o g1 with rfl | k1
  ·
   cases hw
  ·
   rcases hg r' o' g2 with rfl | k2
   ·
    cases ha
   ·
    exact hr.apart r r' L L' o o' hne h1 h2 k1 k2 hw ha hb
 ·
  rcases hg r _ ho with h | h
  ·
   cases h
  ·
   exact ⟨_,_,h⟩
theorem yA.ad6 {b:Obj} (h:yA w w1 b):yA w w1.drew b:=⟨h.os,h.tape,h.output,h.size,h.old,h.new⟩
theorem yA.put {cc:Array Value} {e:TypeId} {fr:Nat×Nat} (h:yA w w1 (.cells cc e fr)) (o:Nat) (vs:List Value):yA w (w1.setCells w.heap.size o vs) (.cells (VX cc o vs) e fr):=by
 obtain ⟨r1,r2,r3,r4⟩:=wS w.heap.size vs o w1
 exact ⟨r1.trans h.os,r2.trans h.tape,r3.trans h.output,r4.trans h.size,fun k hk=>by rw [jg _ _ _ _ _ (by omega)];exact h.old k hk,jS _ _ _ _ _ _ _ h.new⟩
theorem Ql {pre vs suf:List Value} {row:Array Value} (hp:∀ (j:Nat) (v:Value),pre[j]?=some v→row[j]?=some v) (hl:pre.length+vs.length+suf.length≤row.size) :
  ∃ tail:List Value,VX (VX row pre.length vs) (pre.length+vs.length) suf=(pre++(vs++suf)++tail).toArray∧tail.length=row.size - (pre.length+vs.length+suf.length):=by
 refine ⟨row.toList.drop (pre.length+vs.length+suf.length),?_,by simp⟩
 refine Array.ext_getElem? fun n=>?_
 rw [y5,y5,wY]
 simp only [List.getElem?_toArray]
 by_cases h1:n < pre.length
 ·
  rw [if_neg (by omega),if_neg (by omega),List.append_assoc,List.getElem?_append_left h1,List.getElem?_eq_getElem h1]
  exact hp n _ (List.getElem?_eq_getElem h1)
 ·
  by_cases h2:n < pre.length+vs.length
  ·
   rw [if_neg (by omega),if_pos (by omega),List.append_assoc,List.getElem?_append_right (by omega),List.append_assoc,List.getElem?_append_left (by omega)]
  ·
   by_cases h3:n < pre.length+vs.length+suf.length
   ·
    rw [if_pos (by omega),List.append_assoc,List.getElem?_append_right (by omega),List.append_assoc,List.getElem?_append_right (by omega),List.getElem?_append_left (by omega)]
    congr 1;omega
   ·
    rw [if_neg (by omega),if_neg (by omega),List.append_assoc,List.getElem?_append_right (by omega),List.append_assoc,List.getElem?_append_right (by omega),List.getElem?_append_right (by omega),List.getElem?_drop]
    rw [← Array.getElem?_toList]
    congr 1;omega
theorem LR.three {a b c:Value} {l:List Value} (h:LR m [a,b,c] l):∃ a' b' c',l=[a',b',c']∧VR m a a'∧VR m b b'∧VR m c c':=by
 have hl:=h.1
 match l,hl with
 | [x,y,z],_=>exact ⟨x,y,z,rfl,h.head,h.tail.head,h.tail.tail.head⟩
end
end Go.Abs
namespace Go.Proofs.Ytacbgjhmkhjpoaa
open Go.Abs Go.Proofs Go.RowKit Go.Lib
set_option maxHeartbeats 4000000 in
theorem YB (b off n c i vb voff m vc:Nat) (cs vs:List Value) (w:World) (hi:i < n) (hm:0 < m) (hroom:n+m≤c) (hnm:n+m≤4611686018427387903) (hdis:vb=b→voff+m * 2≤off∨off+(n+m) * 2≤voff)
  (hcl:cs.length=n * 2) (hvl:vs.length=m * 2)
  (hcs:∀ j v,cs[j]?=some v→w.cell? ⟨b,off+j,none⟩=some v) (hsp:∀ j,j < (n+m) * 2→(w.cell? ⟨b,off+j,none⟩).isSome=true) (hfz:∀ j,j < (n+m) * 2→w.frozen? ⟨b,off+j,none⟩=false)
  (hvs:∀ j v,vs[j]?=some v→w.cell? ⟨vb,voff+j,none⟩=some v) (h1c:∀ v ∈ cs,v.oneCell'=true) (h1v:∀ v ∈ vs,v.oneCell'=true)
  (hov:∀ cb,(callFunc 34 #[.slice (some ⟨vb,voff,none⟩) m vc,.slice (some ⟨b,off+(i+m) * 2,none⟩) (n+m - (i+m)) cb]).run zi w=.ok (.value (.bool false)) w) :
  Calls zi 28 #[.slice (some ⟨b,off,none⟩) n c,.int .i64 i,.slice (some ⟨vb,voff,none⟩) m vc] w fun e w' =>
   e=.returned (.slice (some ⟨b,off,none⟩) (n+m) c)∧w'=(w.drew.setCells b (off+(i+m) * 2) (cs.drop (i * 2))).setCells b (off+i * 2) vs:=by
 have hz1:¬ ((m:Int)=0):=by omega
 have hz2:¬ ((i:Int)=(n:Int)):=by omega
 have hw1:IntKind.i64.wrap ((i:Int)+(m:Int))=(i:Int)+(m:Int):=by rw [IntKind.wrap_i64];omega
 have hw2:IntKind.i64.wrap ((n:Int)+(m:Int))=(n:Int)+(m:Int):=by rw [IntKind.wrap_i64];omega
 have hb1:(0:Int)≤(i:Int)+(m:Int):=by omega
 have hin:i≤n:=by omega
 have htn:((i:Int)+(m:Int)).toNat=i+m:=by omega
 have hb2:¬ (c=i+m):=by omega
 have hb3:(i:Int)≤(n:Int)+(m:Int):=by omega
 have hb4:¬ (c=i):=by omega
 have hdl:(cs.drop (i * 2)).length=(n - i) * 2:=by rw [List.length_drop,hcl];omega
 have hm1:Nat.min (n+m - i) (n+m - (i+m))=n - i:=by simp only [Nat.min_def];split <;> omega
 have hcp1:∀ ty dc sc,(Builtin.copy_ #[23,23] ty #[.slice (some ⟨b,off+(i+m) * 2,none⟩) (n+m - (i+m)) dc,.slice (some ⟨b,off+i * 2,none⟩) (n+m - i) sc]).run zi w.drew=.ok (goInt (n - i:Nat)) (w.drew.setCells b (off+(i+m) * 2) (cs.drop (i * 2))):=fun ty dc sc=>by
  rw [← hm1]
  exact yD w.drew jd jH (by rw [hdl,hm1])
   (fun j v hj=>by rw [Addr.add_lit,Nat.add_assoc];exact hcs (i * 2+j) v (by rwa [List.getElem?_drop] at hj))
   (fun j hj=>by rw [Nat.add_assoc];exact hsp _ (by omega)) (fun j hj=>by rw [Nat.add_assoc];exact hfz _ (by omega)) (fun v hv=>h1c v (List.mem_of_mem_drop hv))
 obtain ⟨W1,hW1⟩:∃ W1,W1=w.drew.setCells b (off+(i+m) * 2) (cs.drop (i * 2)):=⟨_,rfl⟩
 have hsp1:∀ k,k < (n+m) * 2→(W1.cell? ⟨b,off+k,none⟩).isSome=true:=fun k hk=>by
  rw [hW1]
  exact isSome_setCells b _ _ _ (fun j hj=>by rw [Nat.add_assoc];exact hsp _ (by omega)) _ (hsp k hk)
 have hm2:Nat.min m (n+m - i)=m:=by simp only [Nat.min_def];split <;> omega
 have hcp2:∀ (W:World),(∀ x,W.cell? x=W1.cell? x)→(∀ x,W.frozen? x=W1.frozen? x)→∀ ty dc,(Builtin.copy_ #[23,23] ty #[.slice (some ⟨b,off+i * 2,none⟩) (n+m - i) dc,.slice (some ⟨vb,voff,none⟩) m vc]).run zi W=.ok (goInt (m:Nat)) (W.setCells b (off+i * 2) vs):=fun W hWc hWf ty dc=>by
  have h:=yD (P:=zi) W (dT:=23) (sT:=23) (ty:=ty) (b:=b) (o:=off+i * 2) (dLen:=n+m - i) (dCap:=dc) (e:=2) (a:=⟨vb,voff,none⟩) (sLen:=m) (sCap:=vc) (cs:=vs) jd jH (by rw [hvl,hm2])
   (fun j v hj=>by
    have hj2:j < m * 2:=by rw [← hvl];exact (List.getElem?_eq_some_iff.1 hj).1
    rw [Addr.add_lit,hWc,hW1,World.cell?_setCells_out b _ _ _ _ (fun h _=>by have:=hdis h;rw [hdl];dsimp only;omega)]
    exact hvs j v hj)
   (fun j hj=>by rw [hWc,Nat.add_assoc];exact hsp1 _ (by omega)) (fun j hj=>by rw [hWf,hW1,World.frozen?_setCells,Nat.add_assoc];exact hfz _ (by omega)) h1v
  rw [hm2] at h
  exact h
 rw [← hW1] at hcp1
 have mixed:zi.follows .mixedOrders=true:=by kernel_rfl
 go_enter Try.func28,Try.ntmps28
 go_wp2_with (simp only [hov])
 go_region_law_o (refine step_copy_runI rfl _ _ 23 23 rfl _ _ (by simp [Act.eval,Act.put]) (by simp [Act.eval,Act.put]) (hcp1 _ _ _) ?_)
 go_wp2_with (at_builtin;refine wpList_copy_runI _ rfl _ _ 23 23 rfl _ _ rfl rfl (hcp2 _ (fun _=>rfl) (fun _=>rfl) _ _) ?_)
 go_ret
 first | exact ⟨rfl,rfl⟩ | exact ⟨rfl,by rw [hW1]⟩
section
variable {P:Program}
theorem Jo (w:World) {o:Oper} {a:Act} {K:Act→World→Prop} {Q:Exit→Act→World→Prop} (d s:Operand) (t t':TypeId)
  (ho:o.op=.call { callee:=.builtin .append,args:=#[d,s],argTypes:=#[t,t'] }) (v u:Value) (hd:a.eval d=v) (hs:a.eval s=u) {v':Value} {w':World}
  (hr:(Builtin.append_ #[t,t'] o.type #[v,u]).run P w=.ok v' w') (h:K (a.put o.dst v') w'):o.wp P a w K Q:=by
 unfold Oper.wp execOp
 simp only [ho,resolve,invoke,builtin,Sem.run_bind,Sem.run_pure,Result.andThen_ok,List.map_toArray,List.map_cons,List.map_nil,hd,hs,hr]
 exact h
theorem yF (w:World) {ops:Array Oper} {rest:List Oper} {o:Oper} {a:Act} {Q:Exit→Act→World→Prop} (hgd:o.guard=none) (d s:Operand) (t t':TypeId)
  (ho:o.op=.call { callee:=.builtin .append,args:=#[d,s],argTypes:=#[t,t'] }) (v u:Value) (hd:a.eval d=v) (hs:a.eval s=u) {v':Value} {w':World}
  (hr:(Builtin.append_ #[t,t'] o.type #[v,u]).run P w=.ok v' w') (h:wpList P ops Q rest (a.put o.dst v') w'):wpList P ops Q (o::rest) a w :=
 wpList_plain hgd fun _ hK=>Jo w d s t t' ho v u hd hs hr (hK _ _ h)
end
set_option maxHeartbeats 4000000 in
theorem Ju (base:Option Addr) (n c m vc:Nat) (vb:Option Addr) (w w':World) (v':Value) (hm:0 < m) (hnc:n≤c)
  (hr:∀ ty,(Builtin.append_ #[23,23] ty #[.slice base n c,.slice vb m vc]).run zi w=.ok v' w') :
  Calls zi 28 #[.slice base n c,.int .i64 n,.slice vb m vc] w fun e w2=>e=.returned v'∧w2=w':=by
 have hz1:¬ ((m:Int)=0):=by omega
 have mixed:zi.follows .mixedOrders=true:=by kernel_rfl
 cases base with
 | none =>
  go_enter Try.func28,Try.ntmps28
  go_wp2_with (at_builtin;refine yF _ rfl _ _ 23 23 rfl _ _ rfl rfl (hr _) ?_)
  go_ret
  exact ⟨rfl,rfl⟩
 | some a =>
  go_enter Try.func28,Try.ntmps28
  go_wp2_with (at_builtin;refine yF _ rfl _ _ 23 23 rfl _ _ rfl rfl (hr _) ?_)
  all_goals (go_ret;exact ⟨rfl,rfl⟩)
set_option maxHeartbeats 4000000 in
theorem QI (b off n c i vb voff m vc N G:Nat) (cs vs:List Value) (w W1:World) (hi:i < n) (hm:0 < m) (hnc:n≤c) (hroom:c < n+m) (hG63:G≤9223372036854775807) (hGn:n+m≤G)
  (hcl:cs.length=n * 2) (hvl:vs.length=m * 2) (h1c:∀ v ∈ cs,v.oneCell'=true) (h1v:∀ v ∈ vs,v.oneCell'=true)
  (hrz:∀ ty,(Builtin.append_ #[23,3] ty #[.slice (some ⟨b,off,none⟩) i c,.int .i64 ((n:Int)+(m:Int) - (i:Int))]).run zi w=.ok (.slice (some ⟨N,0,none⟩) (n+m) G) W1)
  (hN:∀ j,j < (n+m) * 2→(W1.cell? ⟨N,j,none⟩).isSome=true) (hNf:∀ j,W1.frozen? ⟨N,j,none⟩=false)
  (hcs:∀ j v,cs[j]?=some v→W1.cell? ⟨b,off+j,none⟩=some v) (hvs:∀ j v,vs[j]?=some v→W1.cell? ⟨vb,voff+j,none⟩=some v) (hbN:b≠N) (hvN:vb≠N) :
  Calls zi 28 #[.slice (some ⟨b,off,none⟩) n c,.int .i64 i,.slice (some ⟨vb,voff,none⟩) m vc] w fun e w' =>
   e=.returned (.slice (some ⟨N,0,none⟩) (n+m) G)∧w'=((W1.setCells N (i * 2) vs).drew).setCells N ((i+m) * 2) (cs.drop (i * 2)):=by
 have hz1:¬ ((m:Int)=0):=by omega
 have hz2:¬ ((i:Int)=(n:Int)):=by omega
 have hz3:(c:Int) < (n:Int)+(m:Int):=by omega
 have hw1:IntKind.i64.wrap ((i:Int)+(m:Int))=(i:Int)+(m:Int):=by rw [IntKind.wrap_i64];omega
 have hw2:IntKind.i64.wrap ((n:Int)+(m:Int))=(n:Int)+(m:Int):=by rw [IntKind.wrap_i64];omega
 have hw3:IntKind.i64.wrap ((n:Int)+(m:Int) - (i:Int))=(n:Int)+(m:Int) - (i:Int):=by rw [IntKind.wrap_i64];omega
 have hb1:(0:Int)≤(i:Int)+(m:Int):=by omega
 have hin:i≤n:=by omega
 have htn:((i:Int)+(m:Int)).toNat=i+m:=by omega
 have hb3:(i:Int)≤(n:Int):=by omega
 have hGi:¬ (G=i):=by omega
 have hGim:¬ (G=i+m):=by omega
 have hci:¬ (c=i):=by omega
 have hdl:(cs.drop (i * 2)).length=(n - i) * 2:=by rw [List.length_drop,hcl];omega
 have hm1:Nat.min (n - i) (n+m - (i+m))=n - i:=by simp only [Nat.min_def];split <;> omega
 have hm2:Nat.min m (n+m - i)=m:=by simp only [Nat.min_def];split <;> omega
 have hcpA:∀ ty dc,(Builtin.copy_ #[23,23] ty #[.slice (some ⟨N,i * 2,none⟩) (n+m - i) dc,.slice (some ⟨vb,voff,none⟩) m vc]).run zi W1=.ok (goInt (m:Nat)) (W1.setCells N (i * 2) vs):=fun ty dc=>by
  have h:=yD (P:=zi) W1 (dT:=23) (sT:=23) (ty:=ty) (b:=N) (o:=i * 2) (dLen:=n+m - i) (dCap:=dc) (e:=2) (a:=⟨vb,voff,none⟩) (sLen:=m) (sCap:=vc) (cs:=vs) jd jH (by rw [hvl,hm2])
   (fun j v hj=>by rw [Addr.add_lit];exact hvs j v hj) (fun j hj=>hN _ (by omega)) (fun j hj=>hNf _) h1v
  rw [hm2] at h
  exact h
 have hcpB:∀ (W:World),(∀ x,W.cell? x=(W1.setCells N (i * 2) vs).cell? x)→(∀ x,W.frozen? x=(W1.setCells N (i * 2) vs).frozen? x)→∀ ty dc sc,(Builtin.copy_ #[23,23] ty #[.slice (some ⟨N,(i+m) * 2,none⟩) (n+m - (i+m)) dc,.slice (some ⟨b,off+i * 2,none⟩) (n - i) sc]).run zi W=.ok (goInt (n - i:Nat)) (W.setCells N ((i+m) * 2) (cs.drop (i * 2))):=fun W hWc hWf ty dc sc=>by
  have h:=yD (P:=zi) W (dT:=23) (sT:=23) (ty:=ty) (b:=N) (o:=(i+m) * 2) (dLen:=n+m - (i+m)) (dCap:=dc) (e:=2) (a:=⟨b,off+i * 2,none⟩) (sLen:=n - i) (sCap:=sc) (cs:=cs.drop (i * 2)) jd jH (by rw [hdl,hm1])
   (fun j v hj=>by
    rw [Addr.add_lit,hWc,World.cell?_setCells_out _ _ _ _ _ (fun h _=>absurd h hbN),Nat.add_assoc]
    exact hcs (i * 2+j) v (by rwa [List.getElem?_drop] at hj))
   (fun j hj=>by rw [hWc];simpa using isSome_setCells N vs (i * 2) W1 (fun t ht=>by exact hN _ (by omega)) _ (hN _ (by omega)))
   (fun j hj=>by rw [hWf,World.frozen?_setCells];exact hNf _) (fun v hv=>h1c v (List.mem_of_mem_drop hv))
  rw [hm1] at h
  exact h
 have mixed:zi.follows .mixedOrders=true:=by kernel_rfl
 go_enter Try.func28,Try.ntmps28
 go_wp2_with (first
  | (at_builtin;refine yF _ rfl _ _ _ _ rfl _ _ rfl rfl (hrz _) ?_)
  | (at_builtin;refine wpList_copy_runI _ rfl _ _ 23 23 rfl _ _ rfl rfl (hcpA _ _) ?_))
 go_region_law_o (refine step_copy_runI rfl _ _ 23 23 rfl (.slice (some ⟨N,(i+m) * 2,none⟩) (n+m - (i+m)) (G - (i+m))) (.slice (some ⟨b,off+i * 2,none⟩) (n - i) (c - i)) (by simp [Act.eval,Act.put]) (by simp [Act.eval,Act.put]) (hcpB ((W1.setCells N (i * 2) vs).drew) (fun _=>rfl) (fun _=>rfl) 3 (G - (i+m)) (c - i)) ?_)
 go_wp2
 go_ret
 exact ⟨rfl,rfl⟩
end Go.Proofs.Ytacbgjhmkhjpoaa
namespace Go.Proofs.Ytacbgjhmkhjpoaa
open Go.Abs Go.Proofs Go.RowKit Go.Lib
theorem vT {P:Program} (w:World) (tS tR e:TypeId) (ht:P.underlying tS=some (.slice e)) (size:Nat) (hz:∀ w,(Go.sizeOf e).run P w=.ok size w) (b oa la ca ob lb cb:Nat) (hd:oa+la * size≤ob∨ob+lb * size≤oa) :
  (Extern.SlicesOverlaps.overlaps #[tS,tS] #[tR] #[.slice (some ⟨b,oa,none⟩) la ca,.slice (some ⟨b,ob,none⟩) lb cb]).run P w=.ok (.bool false) w:=by
 have hf:(decide (oa < ob+lb * size) && decide (ob < oa+la * size))=false:=by
  rcases hd with h | h
  ·
   rw [decide_eq_false (show ¬ ob < oa+la * size by omega),Bool.and_false]
  ·
   rw [decide_eq_false (show ¬ oa < ob+lb * size by omega),Bool.false_and]
 have hb:(b != b)=false:=by simp
 have hu:=run_underlying ht
 change Sem.run P (bind (underlying tS) _) w=_
 rw [Sem.run_bind,hu]
 change Sem.run P (bind (sizeOf e) _) w=_
 rw [Sem.run_bind,hz]
 change Sem.run P (if la=0∨lb=0∨size=0 then _ else _) w=_
 by_cases h0:la=0∨lb=0∨size=0
 ·
  rw [if_pos h0];rfl
 ·
  rw [if_neg h0]
  simp [hb,hf]
  try omega
section
variable {B:Base} {w0:World} {m:Mp} {H:zx} {w:World}
theorem QC:wF zi 23=some 30:=by kernel_rfl
theorem Yc:∃ z,zeroOf zi 30=some z∧z.cells.size=2∧z.cells.toList.all (·.oneCell')=true:=⟨_,rfl,by kernel_rfl,by kernel_rfl⟩
theorem Zz:bytesOf zi 30=some 16:=by kernel_rfl
theorem ab4 {vr vo k kc:Nat} {vcs:List Value} {own:Own} (hv:H.get vr=some (.cells vcs own 2)) (h1:vo+k * 2≤vcs.length) (h2:((vcs.drop vo).take (k * 2)).all (·.oneCell')=true) :
  wG zi 23 2 (.slice (some ⟨vr,vo,none⟩) k kc) H=some (k,(vcs.drop vo).take (k * 2)):=by
 simp only [wG,jd,wE,hv,if_pos h1,if_pos h2]
theorem acV {vr vo k kc:Nat} {vcs:List Value} {own:Own} (hv:H.get vr=some (.cells vcs own 2)) (h1:vo+k * 2≤vcs.length) (h2:((vcs.drop vo).take (k * 2)).all (·.oneCell')=true) (hk:0 < k) (hb:k≤1048576) :
  wJ zi 23 23 (.slice none 0 0) (.slice (some ⟨vr,vo,none⟩) k kc) H=some (.slice (some ⟨H.next,0,none⟩) k k,H.push (.cells ((vcs.drop vo).take (k * 2)) (.own []) 2)):=by
 obtain ⟨z,z1,z2,_⟩:=Yc
 simp only [wJ,QC,jH,z1,Zz,ab4 hv h1 h2,z2,if_true,show (0:Nat) < 2 from by decide,if_neg (show ¬ k=0 by omega),if_pos (show k * 16≤140737488355328 by omega),if_pos (show k≤4611686018427387903 by omega)]
theorem abv {vr vo k kc r o n c:Nat} {vcs cs:List Value} {own:Own} {anc:List Nat} (hv:H.get vr=some (.cells vcs own 2)) (h1:vo+k * 2≤vcs.length) (h2:((vcs.drop vo).take (k * 2)).all (·.oneCell')=true) (hb:n+k≤1048576)
  (hg:H.get r=some (.cells cs (.own anc) 2)) (h3:o+n * 2≤cs.length) (h4:((cs.drop o).take (n * 2)).all (·.oneCell')=true) :
  ∃ (G:zx) (anc':List Nat),Go.Abs.Left H r anc cs (o+n * 2) (n * 2) 2 G anc'∧wJ zi 23 23 (.slice (some ⟨r,o,none⟩) n c) (.slice (some ⟨vr,vo,none⟩) k kc) H=some (.slice (some ⟨H.next,0,none⟩) (n+k) (n+k),G.push (.cells ((cs.drop o).take (n * 2)++(vcs.drop vo).take (k * 2)) (.own anc') 2)):=by
 obtain ⟨z,z1,z2,_⟩:=Yc
 obtain ⟨G,anc',hap⟩:∃ G anc',wK H r (.own anc) cs (o+n * 2) (n * 2) 2=some (G,anc'):=by
  unfold wK
  dsimp only
  split <;> exact ⟨_,_,rfl⟩
 obtain ⟨anc0,e,hL⟩:=xP hap
 cases e
 refine ⟨G,anc',hL,?_⟩
 simp only [wJ,QC,jH,z1,Zz,ab4 hv h1 h2,z2,if_true,show (0:Nat) < 2 from by decide,hg,if_pos h3,if_pos (show (n+k) * 16≤140737488355328 by omega),if_pos (show n+k≤4611686018427387903 by omega),if_pos h4,hap]
theorem aec {v va vc b o n c r r':Nat} {L L':Go.Abs.Loc} {cs cs':List Value} {own:List Nat} {anc:List Nat} (hr:Rel B w0 m H w) (hne:r≠r') (h1:m r=some L) (h2:m r'=some L') (g1:H.get r=some (.cells cs (.own anc) 2)) (g2:H.get r'=some (.cells cs' (.own own) 2))
  (hc':0 < cs'.length) (hc1:0 < cs.length) (hb:b=L.blk) (ho:L.shift≤o) (hl:o+n * 2≤L.lim) (hv:L'.shift≤va) (hvl:va+v * 2≤L'.lim) :
  (callFunc 34 #[.slice (some ⟨L'.blk,va,none⟩) v vc,.slice (some ⟨b,o,none⟩) n c]).run zi w=.ok (.value (.bool false)) w:=by
 have hz:∀ w,(Go.sizeOf 30).run zi w=.ok 2 w:=fun w=>jZ jH w
 have hap:=hr.apart r r' L L' _ _ hne h1 h2 g1 g2 rfl rfl
 have e1:jY.lo (.cells cs (.own anc) 2) r' (.cells cs' (.own own) 2)=0:=by simp [jY.lo,jY.owns,Own.owns]
 have e2:jY.hi L'.shift L'.lim (.cells cs' (.own own) 2)=L'.lim:=rfl
 rw [e1,e2] at hap
 obtain ⟨_,cc,e,fr,hbk,k1,k2,k3,k4⟩:=hr.obj r L _ h1 g1
 obtain ⟨_,cc',e',fr',hbk',k1',k2',k3',k4'⟩:=hr.obj r' L' _ h2 g2
 have key:(Extern.SlicesOverlaps.overlaps #[23,23] #[4] #[.slice (some ⟨L'.blk,va,none⟩) v vc,.slice (some ⟨b,o,none⟩) n c]).run zi w=.ok (.bool false) w:=by
  subst hb
  by_cases hbb:L'.blk=L.blk
  ·
   rw [hbb]
   exact vT w _ _ _ jd 2 hz _ _ _ _ _ _ _ (by have:=hap hbb.symm;omega)
  ·
   have f':fr'.1=fr'.2:=by
    rcases k4' rfl with h | ⟨_,h⟩
    ·
     exact h
    ·
     cases h
   have nofr:∀ x,w.frozen? ⟨L'.blk,x,none⟩=false:=fun x=>by
    simp only [World.frozen?,hbk']
    obtain ⟨a,b⟩:=fr'
    dsimp only at f' ⊢
    subst f'
    simp only [Bool.and_eq_false_iff,decide_eq_false_iff_not]
    omega
   exact run_overlaps_apart w _ _ _ jd 2 hz ⟨L'.blk,va,none⟩ ⟨L.blk,o,none⟩ v vc n c hbb e' e cc'.size cc.size (by simp [World.shape?,hbk']) (by simp [World.shape?,hbk]) (by omega) (nofr _) (nofr _)
 rw [run_callFunc_extern Try.func34 (by kernel_rfl) (by kernel_rfl) (by kernel_rfl) (e:=Extern.SlicesOverlaps.overlaps #[23,23] #[4]) (by kernel_rfl),key]
 rfl
end
section
variable {B:Base} {w0:World} {m:Mp} {H:zx} {w:World}
abbrev WI (B:Base) (w0:World) (m:Mp) (H':zx) (v:Value):Ending→World→Prop:=fun e w'=>∃ v' m',e=.returned v'∧VR m' v v'∧m.le m'∧Rel B w0 m' H' w'
abbrev qh (X V:List Value) (i:Nat):List Value:=X.take (i * 2)++(V++X.drop (i * 2))
theorem aar {r o n c i vr vo k vc:Nat} {L Lv:Go.Abs.Loc} {cs vcs:List Value} {anc vanc:List Nat} (hr:Rel B w0 m H w) (hm:m r=some L) (hg:H.get r=some (.cells cs (.own anc) 2)) (hvm:m vr=some Lv) (hv:H.get vr=some (.cells vcs (.own vanc) 2)) (hne:r≠vr)
  (hi:i < n) (hk:0 < k) (hl:L.shift+o+c * L.esz≤L.lim) (hroom:n+k≤c) (hle:o+n * 2≤cs.length) (h1:((cs.drop o).take (n * 2)).all (·.oneCell')=true) (hvl:vo+k * 2≤vcs.length) (hkc:k≤vc) (hvlim:Lv.shift+vo+vc * Lv.esz≤Lv.lim) (h2:((vcs.drop vo).take (k * 2)).all (·.oneCell')=true) (hb:n+k≤1048576) :
  Calls zi 28 #[.slice (some ⟨L.blk,L.shift+o,none⟩) n c,.int .i64 i,.slice (some ⟨Lv.blk,Lv.shift+vo,none⟩) k vc] w
   (WI B w0 m (((H.kills anc).set r .dead).push (.cells (qh ((cs.drop o).take (n * 2)) ((vcs.drop vo).take (k * 2)) i) (.own []) 2)) (.slice (some ⟨H.next,0,none⟩) (n+k) (n+k))):=by
 have hL:L.esz=2:=(hr.obj r L _ hm hg).1
 have hLv:Lv.esz=2:=(hr.obj vr Lv _ hvm hv).1
 rw [hL] at hl;rw [hLv] at hvlim
 obtain ⟨olds,ho1,ho2⟩:=hr.range hm hg hle
 obtain ⟨news,hn1,hn2⟩:=hr.range hvm hv hvl
 have hol:olds.length=n * 2:=by rw [← ho1.1];simp;omega
 have hnl:news.length=k * 2:=by rw [← hn1.1];simp;omega
 have hall:LR m (qh ((cs.drop o).take (n * 2)) ((vcs.drop vo).take (k * 2)) i) (qh olds news i):=(ho1.take _).append (hn1.append (ho1.drop _))
 have hlen':(qh olds news i).length=(n+k) * 2:=by simp only [qh,List.length_append,List.length_take,List.length_drop,hol,hnl];omega
 have hlen:(qh ((cs.drop o).take (n * 2)) ((vcs.drop vo).take (k * 2)) i).length=(n+k) * 2:=by rw [hall.1];exact hlen'
 obtain ⟨ht,hrel⟩:=hr.drew.inserted (o:=o) hm hg (by omega) hall (by rw [hlen];omega)
 rw [hlen'] at ht
 obtain ⟨_,cc,e,fr,hbk,k1,k2,k3,k4⟩:=hr.obj r L _ hm hg
 have hap:=hr.apart r vr L Lv _ _ hne hm hvm hg hv rfl rfl
 have e1:jY.lo (.cells cs (.own anc) 2) vr (.cells vcs (.own vanc) 2)=0:=by simp [jY.lo,jY.owns,Own.owns]
 have e2:jY.hi Lv.shift Lv.lim (.cells vcs (.own vanc) 2)=Lv.lim:=rfl
 rw [e1,e2] at hap
 have hpl:(olds.take (i * 2)).length=i * 2:=by rw [List.length_take,hol];omega
 have hset:=ZQ (w:=w.drew) (b:=L.blk) (o:=L.shift+o) hbk (pre:=olds.take (i * 2)) (vs:=news) (suf:=olds.drop (i * 2))
  (fun j v hj=>by
   rw [List.getElem?_take] at hj
   split at hj
   ·
    have:=ho2 j v hj
    rw [kG hbk] at this
    exact this
   ·
    cases hj)
  (by rw [hpl,hnl,List.length_drop,hol];omega)
 rw [hpl,hnl,← Nat.add_mul] at hset
 refine (YB L.blk (L.shift+o) n c i Lv.blk (Lv.shift+vo) k vc olds news w hi hk hroom (by omega) (fun e=>by have:=hap e.symm;omega) hol hnl ho2 (fun j hj=>(ht j hj).1) (fun j hj=>(ht j hj).2) hn2 (Go.Abs.qZ ho1 h1) (Go.Abs.qZ hn1 h2)
  (fun cb=>aec hr hne hm hvm hg hv (by omega) (by omega) rfl (by omega) (by omega) (by omega) (by omega))).mono ?_
 rintro e' w' ⟨rfl,rfl⟩
 refine ⟨_,_,rfl,VR.slice (o:=0) (Mp.add_same m H.next ⟨L.blk,L.shift+o,L.lim,2⟩) hroom (by dsimp only;omega),Mp.yG (hr.fresh _ (Nat.le_refl _)),?_⟩
 rw [hset]
 exact hrel
theorem aa5 {r o n c i vr vo k vc:Nat} {L Lv:Go.Abs.Loc} {cs vcs:List Value} {anc vanc:List Nat} (hr:Rel B w0 m H w) (hm:m r=some L) (hg:H.get r=some (.cells cs (.own anc) 2)) (hvm:m vr=some Lv) (hv:H.get vr=some (.cells vcs (.own vanc) 2))
  (hi:i < n) (hk:0 < k) (hnc:n≤c) (hroom:c < n+k) (hle:o+n * 2≤cs.length) (h1:((cs.drop o).take (n * 2)).all (·.oneCell')=true) (hvl:vo+k * 2≤vcs.length) (h2:((vcs.drop vo).take (k * 2)).all (·.oneCell')=true) (hb:n+k≤1048576) :
  Calls zi 28 #[.slice (some ⟨L.blk,L.shift+o,none⟩) n c,.int .i64 i,.slice (some ⟨Lv.blk,Lv.shift+vo,none⟩) k vc] w
   (WI B w0 m (((H.kills anc).set r .dead).push (.cells (qh ((cs.drop o).take (n * 2)) ((vcs.drop vo).take (k * 2)) i) (.own []) 2)) (.slice (some ⟨H.next,0,none⟩) (n+k) (n+k))):=by
 obtain ⟨olds,ho1,ho2⟩:=hr.range hm hg hle
 obtain ⟨news,hn1,hn2⟩:=hr.range hvm hv hvl
 have hol:olds.length=n * 2:=by rw [← ho1.1];simp;omega
 have hnl:news.length=k * 2:=by rw [← hn1.1];simp;omega
 have hall:LR m (qh ((cs.drop o).take (n * 2)) ((vcs.drop vo).take (k * 2)) i) (qh olds news i):=(ho1.take _).append (hn1.append (ho1.drop _))
 have hpl:(olds.take (i * 2)).length=i * 2:=by rw [List.length_take,hol];omega
 obtain ⟨z,z1,z2,z3⟩:=Yc
 obtain ⟨ti,hti,htz⟩:=qK z1
 have hts:ti.size=2:=by have:=jH;simpa [yZ,hti] using this
 have htb:ti.bytes=16:=by have:=Zz;simpa [Go.Abs.bytesOf,hti] using this
 have hbw:=hr.lt r L hm
 have hvw:=hr.lt vr Lv hvm
 have hik:i+(n+k - i)=n+k:=by omega
 have hkk:(n:Int)+(k:Int) - (i:Int)=((n+k - i:Nat):Int):=by omega
 obtain ⟨G,hG⟩:∃ G,G=grownCap w (n+k) c 30:=⟨_,rfl⟩
 have hGn:n+k≤G:=by rw [hG];exact grownCap_ge w _ _ _
 have hG63:G≤9223372036854775807:=by
  have:=grownCap_le_maxLen w (n+k) c 30 (by unfold maxLen;omega)
  rw [← hG] at this
  unfold maxLen at this
  omega
 obtain ⟨ROW,hROW⟩:∃ ROW:Array Value,ROW=(olds.take (i * 2)).toArray++Builtin.zeroCells z.cells (n+k - i)++Builtin.zeroCells z.cells (G - (n+k)):=⟨_,rfl⟩
 have hRl:ROW.size=G * 2:=by
  rw [hROW,Array.size_append,Array.size_append,size_zeroCells,size_zeroCells,z2]
  simp only [List.size_toArray,hpl]
  omega
 have hold:(Builtin.firstCells ti.size i (.slice (some ⟨L.blk,L.shift+o,none⟩) i c)).run zi w.drew=.ok (olds.take (i * 2)).toArray w.drew:=by
  rw [hts]
  exact run_firstCells_some w.drew 2 i ⟨L.blk,L.shift+o,none⟩ i c (olds.take (i * 2)) hpl (fun j v hj=>by
   rw [Addr.add_lit]
   rw [List.getElem?_take] at hj
   split at hj
   ·
    exact ho2 j v hj
   ·
    cases hj)
 have hrz:∀ ty,(Builtin.append_ #[23,3] ty #[.slice (some ⟨L.blk,L.shift+o,none⟩) i c,.int .i64 ((n:Int)+(k:Int) - (i:Int))]).run zi w=.ok (.slice (some ⟨w.heap.size,0,none⟩) (n+k) G) (w.drew.alloc (.cells ROW 30)):=fun ty=>by
  have h:=Lib.run_append_grow_zeros w 23 3 ty 30 ti z .i64 .i64 jd (by kernel_rfl) hti htz (some ⟨L.blk,L.shift+o,none⟩) i c (olds.take (i * 2)) hold (n+k - i) (by omega) (by omega) (by omega) (by omega) (by rw [htb];omega)
   (by rw [htb];exact growslice_fits (by omega) (by omega))
  rw [hik,← hG] at h
  rw [hkk,hROW]
  exact h
 have hg1:yA w (w.drew.alloc (.cells ROW 30)) (.cells ROW 30 (0,0)):=yA.da w _
 obtain ⟨W1,hW1⟩:∃ W1,W1=w.drew.alloc (.cells ROW 30):=⟨_,rfl⟩
 rw [← hW1] at hrz hg1
 have oldc:∀ b x,b < w.heap.size→W1.cell? ⟨b,x,none⟩=w.cell? ⟨b,x,none⟩:=fun b x hb=>by rw [hW1];exact World.cell?_alloc_past (w:=w.drew) _ b x hb
 obtain ⟨tail,ht1,ht2⟩:=Ql (pre:=olds.take (i * 2)) (vs:=news) (suf:=olds.drop (i * 2)) (row:=ROW)
  (fun j v hj=>by
   have hjl:j < i * 2:=by have:=(List.getElem?_eq_some_iff.1 hj).1;rw [hpl] at this;exact this
   rw [hROW,Array.append_assoc,Array.getElem?_append_left (by simp [hpl];omega)]
   simpa using hj)
  (by rw [hRl,hpl,hnl,List.length_drop,hol];omega)
 have hg2:=((hg1.put (i * 2) news).ad6).put ((i+k) * 2) (olds.drop (i * 2))
 rw [hpl,hnl,← Nat.add_mul] at ht1
 rw [ht1] at hg2
 have hK:Rel B w0 m ((H.kills anc).set r .dead) w:=hr.less (by simp) fun x ob hx=>by
  rw [zx.zY,zx.wM] at hx
  split at hx
  ·
   cases hx;exact .inl rfl
  ·
   split at hx
   ·
    cases hx;exact .inl rfl
   ·
    exact .inr hx
 refine (QI L.blk (L.shift+o) n c i Lv.blk (Lv.shift+vo) k vc w.heap.size G olds news w W1 hi hk hnc hroom hG63 hGn hol hnl (Go.Abs.qZ ho1 h1) (Go.Abs.qZ hn1 h2) hrz
  (fun j hj=>by rw [kG hg1.new,Array.getElem?_eq_getElem (by omega)];rfl) (fun j=>Je hg1.new (by simp)) (fun j v hj=>by rw [oldc _ _ hbw];exact ho2 j v hj) (fun j v hj=>by rw [oldc _ _ hvw];exact hn2 j v hj) (by omega) (by omega)).mono ?_
 rintro e' w' ⟨rfl,rfl⟩
 obtain ⟨L2,l1,l2,l3,l4,hrel⟩:=hK.new (own:=.own []) (esz:=2) hall hg2 (.inl rfl)
 have hn:((H.kills anc).set r .dead).next=H.next:=by simp
 rw [hn] at hrel
 have hlen':(qh olds news i).length=(n+k) * 2:=by simp only [qh,List.length_append,List.length_take,List.length_drop,hol,hnl];omega
 refine ⟨_,m.add H.next L2,rfl,?_,Mp.yG (hr.fresh _ (Nat.le_refl _)),hrel⟩
 have:=VR.qN (n:=n+k) (c:=G) (Mp.add_same m H.next L2) l2 hGn (by
  rw [l4,l3,hlen',ht2,hRl,hpl,hnl,List.length_drop,hol]
  omega)
 rw [l1] at this
 exact this
end
section
variable {B:Base} {w0:World} {m:Mp} {H:zx} {w:World}
theorem XL {X V:List Value} {n:Nat} (h:X.length=n * 2):qh X V n=X++V:=by
 unfold qh
 rw [← h,List.take_length,List.drop_length,List.append_nil]
theorem aaU {r o n vr vo k kc vc:Nat} {Lv:Go.Abs.Loc} {cs vcs:List Value} {anc vanc:List Nat} {s':Value} {c0:Nat} (hr:Rel B w0 m H w) (hs:VR m (.slice (some ⟨r,o,none⟩) n c0) s') (hg:H.get r=some (.cells cs (.own anc) 2)) (hx:VR m (.slice (some ⟨vr,vo,none⟩) k kc) (.slice (some ⟨Lv.blk,Lv.shift+vo,none⟩) k vc)) (hv:H.get vr=some (.cells vcs (.own vanc) 2))
  (hk:0 < k) (hle:o+n * 2≤cs.length) (h1:((cs.drop o).take (n * 2)).all (·.oneCell')=true) (hvl:vo+k * 2≤vcs.length) (h2:((vcs.drop vo).take (k * 2)).all (·.oneCell')=true) (hb:n+k≤1048576) :
  Calls zi 28 #[s',.int .i64 n,.slice (some ⟨Lv.blk,Lv.shift+vo,none⟩) k vc] w
   (WI B w0 m (((H.kills anc).set r .dead).push (.cells (qh ((cs.drop o).take (n * 2)) ((vcs.drop vo).take (k * 2)) n) (.own []) 2)) (.slice (some ⟨H.next,0,none⟩) (n+k) (n+k))):=by
 obtain ⟨G,anc',hX,happ⟩:=abv (c:=c0) (kc:=kc) hv hvl h2 hb hg hle h1
 have hsim:=fun ty=>Zc (ty:=ty) hr happ hs hx
 obtain ⟨v',w',m',hrun,hvr,hm',hrel⟩:=hsim 23
 have hrun':∀ ty,(Builtin.append_ #[23,23] ty #[s',.slice (some ⟨Lv.blk,Lv.shift+vo,none⟩) k vc]).run zi w=.ok v' w':=fun ty=>hrun
 have hs'e:∃ base c,s'=.slice base n c∧n≤c:=by
  cases hs with
  | slice hm h1 h2=>exact ⟨_,_,rfl,h1⟩
  | slice0 hm h1 ha=>exact ⟨_,_,rfl,Nat.le_refl _⟩
 obtain ⟨base,c,rfl,hnc⟩:=hs'e
 refine (Ju base n c k vc _ w w' v' hk hnc hrun').mono ?_
 rintro e' w2 ⟨rfl,rfl⟩
 have hmL:∃ L,m' H.next=some L:=by
  generalize n+k=N at hvr
  generalize H.next=q at hvr ⊢
  cases hvr with
  | slice hm h1 h2=>exact ⟨_,hm⟩
  | slice0 hm h1 ha=>exact ⟨_,hm⟩
 obtain ⟨L,hmL⟩:=hmL
 have hnG:=hX.next
 have hget:(G.push (.cells ((cs.drop o).take (n * 2)++(vcs.drop vo).take (k * 2)) (.own anc') 2)).get H.next=some (.cells ((cs.drop o).take (n * 2)++(vcs.drop vo).take (k * 2)) (.own anc') 2):=by
  rw [zx.zM,if_pos hnG.symm]
 have hst:=(hrel.store (o:=0) hmL hget LR.nil (by simp)).2
 have hfin:Rel B w0 m' (((H.kills anc).set r .dead).push (.cells (qh ((cs.drop o).take (n * 2)) ((vcs.drop vo).take (k * 2)) n) (.own []) 2)) w2:=by
  refine Rel.less (G:=_) hst (by simp [hnG]) fun x ob hx=>?_
  rw [zx.zM] at hx
  rw [zx.zY,zx.wM,zx.zM,hnG]
  simp only [zx.qQ,zx.y9] at hx
  split at hx
  ·
   rename_i e1
   rw [if_pos e1]
   right
   rw [← hx,XL (by simp;omega)]
   simp [splice]
  ·
   rename_i e1
   rw [zx.zY,zx.wM] at hx
   rw [if_neg e1,if_neg e1]
   split at hx
   ·
    cases hx;exact .inl rfl
   ·
    rename_i e2
    split at hx
    ·
     cases hx;exact .inl rfl
    ·
     rename_i e3
     right
     have hna:x ∉ anc':=by
      rcases hX with ⟨_,_,ha⟩ | ⟨_,ha⟩
      ·
       rw [ha]
       split
       ·
        simp
       ·
        simp [e2,e3]
      ·
       rw [ha];simp
     rw [if_neg hna]
     rcases hX with ⟨_,hGe,_⟩ | ⟨hGe,_⟩
     ·
      rw [hGe,zx.zY,if_neg e2];exact hx
     ·
      rw [hGe,zx.zY,if_neg e2,zx.wM,if_neg e3];exact hx
 exact ⟨_,m',rfl,hvr,hm',hfin⟩
theorem aa9 {vr vo k kc vc:Nat} {Lv:Go.Abs.Loc} {vcs:List Value} {vanc:List Nat} (hr:Rel B w0 m H w) (hx:VR m (.slice (some ⟨vr,vo,none⟩) k kc) (.slice (some ⟨Lv.blk,Lv.shift+vo,none⟩) k vc)) (hv:H.get vr=some (.cells vcs (.own vanc) 2))
  (hk:0 < k) (hvl:vo+k * 2≤vcs.length) (h2:((vcs.drop vo).take (k * 2)).all (·.oneCell')=true) (hb:k≤1048576) :
  Calls zi 28 #[.slice none 0 0,.int .i64 (0:Nat),.slice (some ⟨Lv.blk,Lv.shift+vo,none⟩) k vc] w
   (WI B w0 m (H.push (.cells ((vcs.drop vo).take (k * 2)) (.own []) 2)) (.slice (some ⟨H.next,0,none⟩) k k)):=by
 have happ:=acV (kc:=kc) hv hvl h2 hk hb
 obtain ⟨v',w',m',hrun,hvr,hm',hrel⟩:=Zc (ty:=23) hr happ .sliceNil hx
 have hrun':∀ ty,(Builtin.append_ #[23,23] ty #[.slice none 0 0,.slice (some ⟨Lv.blk,Lv.shift+vo,none⟩) k vc]).run zi w=.ok v' w':=fun ty=>hrun
 refine (Ju none 0 0 k vc _ w w' v' hk (Nat.le_refl _) hrun').mono ?_
 rintro e' w2 ⟨rfl,rfl⟩
 exact ⟨_,m',rfl,hvr,hm',hrel⟩
end
theorem aaY:Prim zi 28:=by
 intro B w0 g args H v H' h m w args' hl hr
 dsimp only at h
 split at h
 case isFalse=>cases h
 case isTrue hg =>
 subst hg
 refine ⟨?_,?_⟩
 ·
  have hne:(Try.f28.name == "runtime.NumGoroutine")=false:=by decide
  have hnn:Try.f28.body.isNone=false:=rfl
  simp only [callFunc,Sem.run_bind,run_program,Result.andThen_ok,Try.func28,hne,hnn,Bool.false_eq_true,if_false,Sem.run_pure]
 ·
  unfold Y7 at h
  split at h <;> first | (cases h;done) | skip
  rename_i sb n c0 i vr vo k kc
  obtain ⟨s',i',x',rfl,hs,hi',hx⟩:=hl.three
  cases hi'
  split at h <;> first | (cases h;done) | skip
  rename_i vcs vanc hv
  split at h <;> first | (cases h;done) | skip
  rename_i hcond
  obtain ⟨k0,k1,k2,k3,k4,k5⟩:=hcond
  obtain ⟨j,rfl⟩:∃ j:Nat,i=j:=⟨i.toNat,by omega⟩
  rw [Int.toNat_natCast] at k3
  have hx0:=hx
  cases hx with
  | slice0=>omega
  | @slice _ _ Lv _ vc hvm hvn hvlim =>
  show Calls zi 28 #[s',.int .i64 j,.slice (some ⟨Lv.blk,Lv.shift+vo,none⟩) k vc] w _
  split at h
  ·
   split at h <;> first | (cases h;done) | skip
   rename_i hn0
   subst hn0
   cases h
   have hj:j=0:=by omega
   subst hj
   cases hs
   exact aa9 hr hx0 hv k0 k1 k5 (by omega)
  ·
   rename_i r o
   split at h <;> first | (cases h;done) | skip
   rename_i cs anc hg
   split at h <;> first | (cases h;done) | skip
   rename_i hcond2
   obtain ⟨q1,q2,q3⟩:=hcond2
   cases h
   rw [Int.toNat_natCast]
   by_cases hjn:j=n
   ·
    subst hjn
    exact aaU hr hs hg hx0 hv k0 q2 q3 k1 k5 k4
   ·
    cases hs with
    | slice0=>omega
    | @slice _ _ L _ c hm hnc hlim =>
     by_cases hroom:n+k≤c
     ·
      exact aar hr hm hg hvm hv q1 (by omega) k0 hlim hroom q2 q3 k1 hvn hvlim k5 k4
     ·
      exact aa5 hr hm hg hvm hv (by omega) k0 hnc (by omega) q2 q3 k1 k5 k4
  ·
   cases h
end Go.Proofs.Ytacbgjhmkhjpoaa
namespace Go.Proofs.Ytacbgjhmkhjpoaa
open Go.Abs Go.RowKit
theorem acP {args:List Value} {H:zx} {r:Value×zx} (h:Y7 args H=some r):lim zi 28 args H=some r:=by
 have hn:aco Try.f28=false:=by decide
 refine acu ⟨1,fun k hk=>?_⟩
 obtain ⟨k,rfl⟩:∃ i,k=i+1:=⟨k - 1,by omega⟩
 simp only [qy,Try.func28,hn,Bool.false_eq_true,if_false,adh,if_pos aaY,h]
theorem aep:vS zi (fun g args=>if g=28 then Y7 args else fun _=>none):=by
 intro g args aargs S v S' h μ H ω hG hA hD hE
 dsimp only at h
 split at h
 case isFalse=>cases h
 case isTrue hg =>
 subst hg
 have hT:TI μ H ω [] []:=⟨rfl,fun i=>by simpa using VV.zh,hD,fun r j hr=>by have:=hE r _ hr;cases this⟩
 have fin:∀ {a:Value} {H':zx} {μ':Mu} {ω':Nat→Option jX},Y7 aargs H=some (a,H')→Upd μ ω H [] [] μ' ω' S' H'→V0 μ' H' v a→∃ a H' μ' ω',lim zi 28 aargs H=some (a,H')∧GI μ' S' H'∧Later μ H μ' H'∧Kept ω H ω' H'∧Dom μ' H' ω'∧VV μ' H' ω' (some (.res none)) v a :=
  fun k1 k2 k3=>⟨_,_,_,_,acP k1,k2.gi,k2.later,k2.kept,k2.ti.dom,k3.at0⟩
 unfold Y7 at h
 split at h <;> first | (cases h;done) | skip
 rename_i sb n c0 i vq vo k kc
 obtain ⟨sa,ia,xa,rfl⟩:∃ a b c,aargs=[a,b,c]:=by
  have hl:=hA.1
  match aargs,hl with
  | [x,y,z],_=>exact ⟨x,y,z,rfl⟩
 have hs:=hA.head
 have hi:=hA.tail.head
 have hx:=hA.tail.tail.head
 have e1:=VV.yI (by rfl) hi
 subst e1
 split at h <;> first | (cases h;done) | skip
 rename_i vcs vanc hv
 split at h <;> first | (cases h;done) | skip
 rename_i hcond
 obtain ⟨k0,k1,k2,k3,k4,k5⟩:=hcond
 obtain ⟨vr,vcs',vown',w1,w2,w3,w4⟩:=hG.cells hv
 cases vown' with
 | ro=>exact w1.elim
 | own vanc' =>
 have hV:L0 μ H ((vcs.drop vo).take (k * 2)) ((vcs'.drop vo).take (k * 2)):=(w4.drop vo).take _
 have k5':=VL.one hV k5
 have hax:xa=.slice (some ⟨vr,vo,none⟩) k kc:=by
  cases hx with
  | sg hs=>simp [Go.Abs.sg] at hs
  | slm hm=>rw [w2] at hm;cases hm;rfl
 subst hax
 have k1':vo+k * 2≤vcs'.length:=by rw [← w4.1];exact k1
 split at h
 ·
  split at h <;> first | (cases h;done) | skip
  rename_i hn0
  subst hn0
  cases h
  have has:sa=.slice none 0 c0:=by
   cases hs with
   | sg hs=>rfl
  subst has
  have hq:Y7 [.slice none 0 c0,.int .i64 i,.slice (some ⟨vr,vo,none⟩) k kc] H=some (.slice (some ⟨H.next,0,none⟩) k k,H.push (.cells ((vcs'.drop vo).take (k * 2)) (.own []) 2)):=by
   simp only [Y7,w3]
   rw [if_pos ⟨k0,k1',k2,k3,k4,k5'⟩]
   rfl
  exact fin hq (yU hG hT hV) (.slm yB)
 ·
  rename_i q o
  split at h <;> first | (cases h;done) | skip
  rename_i cs anc hg
  split at h <;> first | (cases h;done) | skip
  rename_i hcond2
  obtain ⟨q1,q2,q3⟩:=hcond2
  cases h
  obtain ⟨r,cs',own',u1,u2,u3,u4⟩:=hG.cells hg
  cases own' with
  | ro=>exact u1.elim
  | own anc' =>
  have hX:L0 μ H ((cs.drop o).take (n * 2)) ((cs'.drop o).take (n * 2)):=(u4.drop o).take _
  have has:sa=.slice (some ⟨r,o,none⟩) n c0:=by
   cases hs with
   | sg hs=>simp [Go.Abs.sg] at hs
   | slm hm=>rw [u2] at hm;cases hm;rfl
  subst has
  have hne:r≠vr:=fun e=>q1 (hG.inj q vq r u2 (by rw [e];exact w2))
  have hq:Y7 [.slice (some ⟨r,o,none⟩) n c0,.int .i64 i,.slice (some ⟨vr,vo,none⟩) k kc] H=some (.slice (some ⟨H.next,0,none⟩) (n+k) (n+k),((H.kills anc').set r .dead).push (.cells (((cs'.drop o).take (n * 2)).take (i.toNat * 2)++((vcs'.drop vo).take (k * 2)++((cs'.drop o).take (n * 2)).drop (i.toNat * 2))) (.own []) 2)):=by
   simp only [Y7,w3]
   rw [if_pos ⟨k0,k1',k2,k3,k4,k5'⟩]
   simp only [u3]
   rw [if_pos ⟨hne,by rw [← u4.1];exact q2,VL.one hX q3⟩]
  have U1:=vX (o:=.dead) (o':=.dead) hG hT u2 u1 (fun _ _ _ ha=>by cases ha) (fun _ _ _ h=>by cases h)
  have U2:=yU (e:=2) U1.gi U1.ti (((hX.take (i.toNat * 2)).append (hV.append (hX.drop (i.toNat * 2)))).later U1.later)
  have hnS:((S.kills anc).set q .dead).next=S.next:=by simp
  have hnH:((H.kills anc').set r .dead).next=H.next:=by simp
  rw [hnS,hnH] at U2
  exact fin hq (U1.trans U2) (.slm yB)
 ·
  cases h
end Go.Proofs.Ytacbgjhmkhjpoaa
namespace Go.Proofs.Ytacbgjhmkhjpoaa
open Go.Abs
def O:Ora:=⟨fun f=>if f=28 then some Y7 else none,fun f=>([12,28,30]:List Nat).contains f,fun f=>([13,14,19,20,22,27]:List Nat).contains f⟩
theorem ad1:abb zi O:=by
 intro f q h
 simp only [O] at h
 split at h
 ·
  rename_i hf;subst hf;cases h;exact aep
 ·
  cases h
end Go.Proofs.Ytacbgjhmkhjpoaa
namespace Go.Proofs.Ytacbgjhmkhjpoaa
open Go.Abs
noncomputable def zu.jh:Code:=(.seq (.region 10 (reg Try.f6 10) false) (.seq (.cond (.tmp 29) Code.skip (.exit 2)) (.seq (.block 3 (.seq (.region 11 (reg Try.f6 11) false) (.seq (.region 12 (reg Try.f6 12) false) (.cond (.tmp 36) (.seq (.region 13 (reg Try.f6 13) false) Code.ret) Code.skip)))) (.region 14 (reg Try.f6 14) false))))
noncomputable def zu.Ya:Code:=(.seq (.region 7 (reg Try.f6 7) false) (.seq (.cond (.tmp 20) Code.skip (.exit 0)) (.seq (.block 1 (.seq (.region 8 (reg Try.f6 8) false) (.seq (.seq (.region 9 (reg Try.f6 9) false) (.block 2 (.loop zu.jh))) (.region 15 (reg Try.f6 15) false)))) (.region 16 (reg Try.f6 16) false))))
noncomputable def zu.WU:Code:=(.seq (.seq (.region 18 (reg Try.f6 18) false) (.cond (.tmp 46) Code.skip (.exit 4))) (.seq (.block 5 (.region 20 (reg Try.f6 20) false)) (.region 19 (reg Try.f6 19) false)))
noncomputable def zu.code:Code:=(.seq (.region 0 (reg Try.f6 0) false) (.seq (.seq (.region 1 (reg Try.f6 1) false) (.cond (.tmp 11) (.seq (.region 2 (reg Try.f6 2) false) Code.ret) Code.skip)) (.seq (.seq (.region 3 (reg Try.f6 3) false) (.cond (.tmp 14) (.seq (.region 4 (reg Try.f6 4) false) Code.ret) Code.skip)) (.seq (.region 5 (reg Try.f6 5) false) (.seq (.seq (.region 6 (reg Try.f6 6) false) (.block 0 (.loop zu.Ya))) (.seq (.seq (.region 17 (reg Try.f6 17) false) (.block 4 (.loop zu.WU))) (.seq (.region 21 (reg Try.f6 21) false) Code.ret)))))))
theorem zu.body:Try.f6.body=some zu.code:=by kernel_rfl
theorem zu.eta {T:List Value} (h:T.length=67):T=[T.getD 0 zh,T.getD 1 zh,T.getD 2 zh,T.getD 3 zh,T.getD 4 zh,T.getD 5 zh,T.getD 6 zh,T.getD 7 zh,T.getD 8 zh,T.getD 9 zh,T.getD 10 zh,T.getD 11 zh,T.getD 12 zh,T.getD 13 zh,T.getD 14 zh,T.getD 15 zh,T.getD 16 zh,T.getD 17 zh,T.getD 18 zh,T.getD 19 zh,T.getD 20 zh,T.getD 21 zh,T.getD 22 zh,T.getD 23 zh,T.getD 24 zh,T.getD 25 zh,T.getD 26 zh,T.getD 27 zh,T.getD 28 zh,T.getD 29 zh,T.getD 30 zh,T.getD 31 zh,T.getD 32 zh,T.getD 33 zh,T.getD 34 zh,T.getD 35 zh,T.getD 36 zh,T.getD 37 zh,T.getD 38 zh,T.getD 39 zh,T.getD 40 zh,T.getD 41 zh,T.getD 42 zh,T.getD 43 zh,T.getD 44 zh,T.getD 45 zh,T.getD 46 zh,T.getD 47 zh,T.getD 48 zh,T.getD 49 zh,T.getD 50 zh,T.getD 51 zh,T.getD 52 zh,T.getD 53 zh,T.getD 54 zh,T.getD 55 zh,T.getD 56 zh,T.getD 57 zh,T.getD 58 zh,T.getD 59 zh,T.getD 60 zh,T.getD 61 zh,T.getD 62 zh,T.getD 63 zh,T.getD 64 zh,T.getD 65 zh,T.getD 66 zh]:=(qH T 67 h).trans (by kernel_rfl)
variable (x0 x1 x2 x3 x4 x5 x6 x7 x8 x9 k l m n o p q d f b r s t u w x g i c y z A B C D E F G H I J K L M N P Q R U V W X Y Z a0 a1 a2 a3 a4 a5 a6 a7 a8 a9 b0 b1 b2:Value) (S:zx)
theorem zu.r0 :jf zi ⟨false,false,false⟩ (zN zi O) (reg Try.f6 0) (reg Try.f6 0).toList ([x0,x1,x2,x3,x4,x5,x6,x7,x8,x9,k,l,m,n,o,p,q,d,f,b,r,s,t,u,w,x,g,i,c,y,z,A,B,C,D,E,F,G,H,I,J,K,L,M,N,P,Q,R,U,V,W,X,Y,Z,a0,a1,a2,a3,a4,a5,a6,a7,a8,a9,b0,b1,b2]) S =
  ( some ([x0,x1,Value.bool false,x3,x4,x5,x6,x7,x8,x9,k,l,m,n,o,p,q,d,f,b,r,s,t,u,w,x,g,i,c,y,z,A,B,C,D,E,F,G,H,I,J,K,L,M,N,P,Q,R,U,V,W,X,Y,Z,a0,a1,a2,a3,a4,a5,a6,a7,a8,a9,b0,b1,b2],S)):=by
 kernel_rfl
theorem zu.r1 :jf zi ⟨false,false,false⟩ (zN zi O) (reg Try.f6 1) (reg Try.f6 1).toList ([x0,x1,x2,x3,x4,x5,x6,x7,x8,x9,k,l,m,n,o,p,q,d,f,b,r,s,t,u,w,x,g,i,c,y,z,A,B,C,D,E,F,G,H,I,J,K,L,M,N,P,Q,R,U,V,W,X,Y,Z,a0,a1,a2,a3,a4,a5,a6,a7,a8,a9,b0,b1,b2]) S =
  (zW ((zN zi O) 9 [] S) (fun v0 S1=>zW (aUn zi UnOp.not v0 S1) (fun v1 S2=>some ([x0,x1,x2,x3,x4,x5,x6,x7,x8,x9,v0,v1,m,n,o,p,q,d,f,b,r,s,t,u,w,x,g,i,c,y,z,A,B,C,D,E,F,G,H,I,J,K,L,M,N,P,Q,R,U,V,W,X,Y,Z,a0,a1,a2,a3,a4,a5,a6,a7,a8,a9,b0,b1,b2],S2)) ()) ()):=by
 kernel_rfl
theorem zu.r2 :jf zi ⟨false,false,false⟩ (zN zi O) (reg Try.f6 2) (reg Try.f6 2).toList ([x0,x1,x2,x3,x4,x5,x6,x7,x8,x9,k,l,m,n,o,p,q,d,f,b,r,s,t,u,w,x,g,i,c,y,z,A,B,C,D,E,F,G,H,I,J,K,L,M,N,P,Q,R,U,V,W,X,Y,Z,a0,a1,a2,a3,a4,a5,a6,a7,a8,a9,b0,b1,b2]) S =
  ( some ([x0,x1,Value.bool false,x3,x4,x5,x6,x7,x8,x9,k,l,m,n,o,p,q,d,f,b,r,s,t,u,w,x,g,i,c,y,z,A,B,C,D,E,F,G,H,I,J,K,L,M,N,P,Q,R,U,V,W,X,Y,Z,a0,a1,a2,a3,a4,a5,a6,a7,a8,a9,b0,b1,b2],S)):=by
 kernel_rfl
theorem zu.r3 :jf zi ⟨false,false,false⟩ (zN zi O) (reg Try.f6 3) (reg Try.f6 3).toList ([x0,x1,x2,x3,x4,x5,x6,x7,x8,x9,k,l,m,n,o,p,q,d,f,b,r,s,t,u,w,x,g,i,c,y,z,A,B,C,D,E,F,G,H,I,J,K,L,M,N,P,Q,R,U,V,W,X,Y,Z,a0,a1,a2,a3,a4,a5,a6,a7,a8,a9,b0,b1,b2]) S =
  (zW (Zp zi 23 (dem x0) S) (fun v1 S1=>zW (yL zi BinOp.gtr 3 v1 (.int .i64 16) S1) (fun v2 S2=>some ([x0,x1,x2,x3,x4,x5,x6,x7,x8,x9,k,l,dem x0,v1,v2,p,q,d,f,b,r,s,t,u,w,x,g,i,c,y,z,A,B,C,D,E,F,G,H,I,J,K,L,M,N,P,Q,R,U,V,W,X,Y,Z,a0,a1,a2,a3,a4,a5,a6,a7,a8,a9,b0,b1,b2],S2)) ()) ()):=by
 kernel_rfl
theorem zu.r4 :jf zi ⟨false,false,false⟩ (zN zi O) (reg Try.f6 4) (reg Try.f6 4).toList ([x0,x1,x2,x3,x4,x5,x6,x7,x8,x9,k,l,m,n,o,p,q,d,f,b,r,s,t,u,w,x,g,i,c,y,z,A,B,C,D,E,F,G,H,I,J,K,L,M,N,P,Q,R,U,V,W,X,Y,Z,a0,a1,a2,a3,a4,a5,a6,a7,a8,a9,b0,b1,b2]) S =
  ( some ([x0,x1,Value.bool true,x3,x4,x5,x6,x7,x8,x9,k,l,m,n,o,p,q,d,f,b,r,s,t,u,w,x,g,i,c,y,z,A,B,C,D,E,F,G,H,I,J,K,L,M,N,P,Q,R,U,V,W,X,Y,Z,a0,a1,a2,a3,a4,a5,a6,a7,a8,a9,b0,b1,b2],S)):=by
 kernel_rfl
theorem zu.r5 :jf zi ⟨false,false,false⟩ (zN zi O) (reg Try.f6 5) (reg Try.f6 5).toList ([x0,x1,x2,x3,x4,x5,x6,x7,x8,x9,k,l,m,n,o,p,q,d,f,b,r,s,t,u,w,x,g,i,c,y,z,A,B,C,D,E,F,G,H,I,J,K,L,M,N,P,Q,R,U,V,W,X,Y,Z,a0,a1,a2,a3,a4,a5,a6,a7,a8,a9,b0,b1,b2]) S =
  (zW ((zN zi O) 10 [] S) (fun v0 S1=>zW ((zN zi O) 10 [] S1) (fun v1 S2=>some ([x0,x1,x2,v0,v1,x5,x6,x7,x8,x9,k,l,m,n,o,dem v0,dem v1,d,f,b,r,s,t,u,w,x,g,i,c,y,z,A,B,C,D,E,F,G,H,I,J,K,L,M,N,P,Q,R,U,V,W,X,Y,Z,a0,a1,a2,a3,a4,a5,a6,a7,a8,a9,b0,b1,b2],S2)) ()) ()):=by
 kernel_rfl
theorem zu.r6 :jf zi ⟨false,false,false⟩ (zN zi O) (reg Try.f6 6) (reg Try.f6 6).toList ([x0,x1,x2,x3,x4,x5,x6,x7,x8,x9,k,l,m,n,o,p,q,d,f,b,r,s,t,u,w,x,g,i,c,y,z,A,B,C,D,E,F,G,H,I,J,K,L,M,N,P,Q,R,U,V,W,X,Y,Z,a0,a1,a2,a3,a4,a5,a6,a7,a8,a9,b0,b1,b2]) S =
  (zW (Zp zi 23 (dem x0) S) (fun v1 S1=>some ([x0,x1,x2,x3,x4,x5,x6,x7,x8,x9,k,l,m,n,o,p,q,dem x0,v1,.int .i64 0,r,s,t,u,w,x,g,i,c,y,z,A,B,C,D,E,F,G,H,I,J,K,L,M,N,P,Q,R,U,V,W,X,Y,Z,a0,a1,a2,a3,a4,a5,a6,a7,a8,a9,b0,b1,b2],S1)) ()):=by
 kernel_rfl
theorem zu.r7 :jf zi ⟨false,false,false⟩ (zN zi O) (reg Try.f6 7) (reg Try.f6 7).toList ([x0,x1,x2,x3,x4,x5,x6,x7,x8,x9,k,l,m,n,o,p,q,d,f,b,r,s,t,u,w,x,g,i,c,y,z,A,B,C,D,E,F,G,H,I,J,K,L,M,N,P,Q,R,U,V,W,X,Y,Z,a0,a1,a2,a3,a4,a5,a6,a7,a8,a9,b0,b1,b2]) S =
  (zW (yL zi BinOp.lss 3 b f S) (fun v0 S1=>some ([x0,x1,x2,x3,x4,x5,x6,x7,x8,x9,k,l,m,n,o,p,q,d,f,b,v0,s,t,u,w,x,g,i,c,y,z,A,B,C,D,E,F,G,H,I,J,K,L,M,N,P,Q,R,U,V,W,X,Y,Z,a0,a1,a2,a3,a4,a5,a6,a7,a8,a9,b0,b1,b2],S1)) ()):=by
 kernel_rfl
theorem zu.r8 :jf zi ⟨false,false,false⟩ (zN zi O) (reg Try.f6 8) (reg Try.f6 8).toList ([x0,x1,x2,x3,x4,x5,x6,x7,x8,x9,k,l,m,n,o,p,q,d,f,b,r,s,t,u,w,x,g,i,c,y,z,A,B,C,D,E,F,G,H,I,J,K,L,M,N,P,Q,R,U,V,W,X,Y,Z,a0,a1,a2,a3,a4,a5,a6,a7,a8,a9,b0,b1,b2]) S =
  (zW (zX zi 23 d (dem b) S) (fun v1 S1=>zW (ji zi false 30 v1 S1) (fun v2 S2=>zW (qR zi 30 S2) (fun v3 S3=>zW (ku zi 30 v3 (dem v2) S3) (fun v5 S4=>some ([x0,x1,x2,x3,x4,b,v3,x7,x8,x9,k,l,m,n,o,p,q,d,f,dem b,r,dem b,v1,v2,w,x,g,i,c,y,z,A,B,C,D,E,F,G,H,I,J,K,L,M,N,P,Q,R,U,V,W,X,Y,Z,a0,a1,a2,a3,a4,a5,a6,a7,a8,a9,b0,b1,b2],S4)) ()) ()) ()) ()):=by
 kernel_rfl
theorem zu.r9 :jf zi ⟨false,false,false⟩ (zN zi O) (reg Try.f6 9) (reg Try.f6 9).toList ([x0,x1,x2,x3,x4,x5,x6,x7,x8,x9,k,l,m,n,o,p,q,d,f,b,r,s,t,u,w,x,g,i,c,y,z,A,B,C,D,E,F,G,H,I,J,K,L,M,N,P,Q,R,U,V,W,X,Y,Z,a0,a1,a2,a3,a4,a5,a6,a7,a8,a9,b0,b1,b2]) S =
  (zW (yJ zi false 23 (dem x0) none (some (dem x5)) S) (fun v2 S1=>zW (Zp zi 23 v2 S1) (fun v3 S2=>some ([x0,x1,x2,x3,x4,x5,x6,x7,x8,x9,k,l,m,n,o,p,q,d,f,b,r,s,t,u,dem x0,dem x5,v2,v3,.int .i64 0,y,z,A,B,C,D,E,F,G,H,I,J,K,L,M,N,P,Q,R,U,V,W,X,Y,Z,a0,a1,a2,a3,a4,a5,a6,a7,a8,a9,b0,b1,b2],S2)) ()) ()):=by
 kernel_rfl
theorem zu.r10 :jf zi ⟨false,false,false⟩ (zN zi O) (reg Try.f6 10) (reg Try.f6 10).toList ([x0,x1,x2,x3,x4,x5,x6,x7,x8,x9,k,l,m,n,o,p,q,d,f,b,r,s,t,u,w,x,g,i,c,y,z,A,B,C,D,E,F,G,H,I,J,K,L,M,N,P,Q,R,U,V,W,X,Y,Z,a0,a1,a2,a3,a4,a5,a6,a7,a8,a9,b0,b1,b2]) S =
  (zW (yL zi BinOp.lss 3 c i S) (fun v0 S1=>some ([x0,x1,x2,x3,x4,x5,x6,x7,x8,x9,k,l,m,n,o,p,q,d,f,b,r,s,t,u,w,x,g,i,c,v0,z,A,B,C,D,E,F,G,H,I,J,K,L,M,N,P,Q,R,U,V,W,X,Y,Z,a0,a1,a2,a3,a4,a5,a6,a7,a8,a9,b0,b1,b2],S1)) ()):=by
 kernel_rfl
theorem zu.r11 :jf zi ⟨false,false,false⟩ (zN zi O) (reg Try.f6 11) (reg Try.f6 11).toList ([x0,x1,x2,x3,x4,x5,x6,x7,x8,x9,k,l,m,n,o,p,q,d,f,b,r,s,t,u,w,x,g,i,c,y,z,A,B,C,D,E,F,G,H,I,J,K,L,M,N,P,Q,R,U,V,W,X,Y,Z,a0,a1,a2,a3,a4,a5,a6,a7,a8,a9,b0,b1,b2]) S =
  (zW (zX zi 23 g c S) (fun v0 S1=>zW (ji zi false 30 v0 S1) (fun v1 S2=>zW (qR zi 30 S2) (fun v2 S3=>zW (ku zi 30 v2 (dem v1) S3) (fun v3 S4=>some ([x0,x1,x2,x3,x4,x5,x6,x7,v2,x9,k,l,m,n,o,p,q,d,f,b,r,s,t,u,w,x,g,i,c,y,v0,v1,B,C,D,E,F,G,H,I,J,K,L,M,N,P,Q,R,U,V,W,X,Y,Z,a0,a1,a2,a3,a4,a5,a6,a7,a8,a9,b0,b1,b2],S4)) ()) ()) ()) ()):=by
 kernel_rfl
theorem zu.r12 :jf zi ⟨false,false,false⟩ (zN zi O) (reg Try.f6 12) (reg Try.f6 12).toList ([x0,x1,x2,x3,x4,x5,x6,x7,x8,x9,k,l,m,n,o,p,q,d,f,b,r,s,t,u,w,x,g,i,c,y,z,A,B,C,D,E,F,G,H,I,J,K,L,M,N,P,Q,R,U,V,W,X,Y,Z,a0,a1,a2,a3,a4,a5,a6,a7,a8,a9,b0,b1,b2]) S =
  (zW (zS zi 30 x8 0 S) (fun v0 S1=>zW (ji zi false 3 v0 S1) (fun v1 S2=>zW (zS zi 30 x6 0 S2) (fun v2 S3=>zW (ji zi false 3 v2 S3) (fun v3 S4=>zW (yL zi BinOp.eql 3 v1 v3 S4) (fun v4 S5=>some ([x0,x1,x2,x3,x4,x5,x6,x7,x8,x9,k,l,m,n,o,p,q,d,f,b,r,s,t,u,w,x,g,i,c,y,z,A,v0,v1,v2,v3,v4,G,H,I,J,K,L,M,N,P,Q,R,U,V,W,X,Y,Z,a0,a1,a2,a3,a4,a5,a6,a7,a8,a9,b0,b1,b2],S5)) ()) ()) ()) ()) ()):=by
 kernel_rfl
theorem zu.r13 :jf zi ⟨false,false,false⟩ (zN zi O) (reg Try.f6 13) (reg Try.f6 13).toList ([x0,x1,x2,x3,x4,x5,x6,x7,x8,x9,k,l,m,n,o,p,q,d,f,b,r,s,t,u,w,x,g,i,c,y,z,A,B,C,D,E,F,G,H,I,J,K,L,M,N,P,Q,R,U,V,W,X,Y,Z,a0,a1,a2,a3,a4,a5,a6,a7,a8,a9,b0,b1,b2]) S =
  ( some ([x0,x1,Value.bool true,x3,x4,x5,x6,x7,x8,x9,k,l,m,n,o,p,q,d,f,b,r,s,t,u,w,x,g,i,c,y,z,A,B,C,D,E,F,G,H,I,J,K,L,M,N,P,Q,R,U,V,W,X,Y,Z,a0,a1,a2,a3,a4,a5,a6,a7,a8,a9,b0,b1,b2],S)):=by
 kernel_rfl
theorem zu.r14 :jf zi ⟨false,false,false⟩ (zN zi O) (reg Try.f6 14) (reg Try.f6 14).toList ([x0,x1,x2,x3,x4,x5,x6,x7,x8,x9,k,l,m,n,o,p,q,d,f,b,r,s,t,u,w,x,g,i,c,y,z,A,B,C,D,E,F,G,H,I,J,K,L,M,N,P,Q,R,U,V,W,X,Y,Z,a0,a1,a2,a3,a4,a5,a6,a7,a8,a9,b0,b1,b2]) S =
  (zW (yL zi BinOp.add 3 c (.int .i64 1) S) (fun v0 S1=>some ([x0,x1,x2,x3,x4,x5,x6,x7,x8,x9,k,l,m,n,o,p,q,d,f,b,r,s,t,u,w,x,g,i,dem v0,y,z,A,B,C,D,E,F,v0,H,I,J,K,L,M,N,P,Q,R,U,V,W,X,Y,Z,a0,a1,a2,a3,a4,a5,a6,a7,a8,a9,b0,b1,b2],S1)) ()):=by
 kernel_rfl
theorem zu.r15 :jf zi ⟨false,false,false⟩ (zN zi O) (reg Try.f6 15) (reg Try.f6 15).toList ([x0,x1,x2,x3,x4,x5,x6,x7,x8,x9,k,l,m,n,o,p,q,d,f,b,r,s,t,u,w,x,g,i,c,y,z,A,B,C,D,E,F,G,H,I,J,K,L,M,N,P,Q,R,U,V,W,X,Y,Z,a0,a1,a2,a3,a4,a5,a6,a7,a8,a9,b0,b1,b2]) S =
  (zW (ji zi false 30 x6 S) (fun v1 S1=>zW ((zN zi O) 12 [(dem (dem x3)),(dem v1)] S1) (fun v2 S2=>some ([x0,x1,x2,x3,x4,x5,x6,x7,x8,x9,k,l,m,n,o,p,q,d,f,b,r,s,t,u,w,x,g,i,c,y,z,A,B,C,D,E,F,G,dem x3,v1,v2,K,L,M,N,P,Q,R,U,V,W,X,Y,Z,a0,a1,a2,a3,a4,a5,a6,a7,a8,a9,b0,b1,b2],S2)) ()) ()):=by
 kernel_rfl
theorem zu.r16 :jf zi ⟨false,false,false⟩ (zN zi O) (reg Try.f6 16) (reg Try.f6 16).toList ([x0,x1,x2,x3,x4,x5,x6,x7,x8,x9,k,l,m,n,o,p,q,d,f,b,r,s,t,u,w,x,g,i,c,y,z,A,B,C,D,E,F,G,H,I,J,K,L,M,N,P,Q,R,U,V,W,X,Y,Z,a0,a1,a2,a3,a4,a5,a6,a7,a8,a9,b0,b1,b2]) S =
  (zW (yL zi BinOp.add 3 b (.int .i64 1) S) (fun v0 S1=>some ([x0,x1,x2,x3,x4,x5,x6,x7,x8,x9,k,l,m,n,o,p,q,d,f,dem v0,r,s,t,u,w,x,g,i,c,y,z,A,B,C,D,E,F,G,H,I,J,v0,L,M,N,P,Q,R,U,V,W,X,Y,Z,a0,a1,a2,a3,a4,a5,a6,a7,a8,a9,b0,b1,b2],S1)) ()):=by
 kernel_rfl
theorem zu.r17 :jf zi ⟨false,false,false⟩ (zN zi O) (reg Try.f6 17) (reg Try.f6 17).toList ([x0,x1,x2,x3,x4,x5,x6,x7,x8,x9,k,l,m,n,o,p,q,d,f,b,r,s,t,u,w,x,g,i,c,y,z,A,B,C,D,E,F,G,H,I,J,K,L,M,N,P,Q,R,U,V,W,X,Y,Z,a0,a1,a2,a3,a4,a5,a6,a7,a8,a9,b0,b1,b2]) S =
  (zW (Zp zi 23 (dem x0) S) (fun v1 S1=>zW (yL zi BinOp.sub 3 v1 (.int .i64 1) S1) (fun v2 S2=>some ([x0,x1,x2,x3,x4,x5,x6,x7,x8,v2,k,l,m,n,o,p,q,d,f,b,r,s,t,u,w,x,g,i,c,y,z,A,B,C,D,E,F,G,H,I,J,K,dem x0,v1,dem v2,P,Q,R,U,V,W,X,Y,Z,a0,a1,a2,a3,a4,a5,a6,a7,a8,a9,b0,b1,b2],S2)) ()) ()):=by
 kernel_rfl
theorem zu.r18 :jf zi ⟨false,false,false⟩ (zN zi O) (reg Try.f6 18) (reg Try.f6 18).toList ([x0,x1,x2,x3,x4,x5,x6,x7,x8,x9,k,l,m,n,o,p,q,d,f,b,r,s,t,u,w,x,g,i,c,y,z,A,B,C,D,E,F,G,H,I,J,K,L,M,N,P,Q,R,U,V,W,X,Y,Z,a0,a1,a2,a3,a4,a5,a6,a7,a8,a9,b0,b1,b2]) S =
  (zW (yL zi BinOp.geq 3 (dem x9) (.int .i64 0) S) (fun v1 S1=>some ([x0,x1,x2,x3,x4,x5,x6,x7,x8,x9,k,l,m,n,o,p,q,d,f,b,r,s,t,u,w,x,g,i,c,y,z,A,B,C,D,E,F,G,H,I,J,K,L,M,N,dem x9,v1,R,U,V,W,X,Y,Z,a0,a1,a2,a3,a4,a5,a6,a7,a8,a9,b0,b1,b2],S1)) ()):=by
 kernel_rfl
theorem zu.r20 :jf zi ⟨false,false,false⟩ (zN zi O) (reg Try.f6 20) (reg Try.f6 20).toList ([x0,x1,x2,x3,x4,x5,x6,x7,x8,x9,k,l,m,n,o,p,q,d,f,b,r,s,t,u,w,x,g,i,c,y,z,A,B,C,D,E,F,G,H,I,J,K,L,M,N,P,Q,R,U,V,W,X,Y,Z,a0,a1,a2,a3,a4,a5,a6,a7,a8,a9,b0,b1,b2]) S =
  (zW (zX zi 23 (dem x0) (dem x9) S) (fun v3 S1=>zW (ji zi false 30 v3 S1) (fun v4 S2=>zW ((zN zi O) 12 [(dem (dem x4)),(dem v4)] S2) (fun v5 S3=>some ([x0,x1,x2,x3,x4,x5,x6,x7,x8,x9,k,l,m,n,o,p,q,d,f,b,r,s,t,u,w,x,g,i,c,y,z,A,B,C,D,E,F,G,H,I,J,K,L,M,N,P,Q,R,U,dem x4,dem x0,dem x9,v3,v4,v5,a1,a2,a3,a4,a5,a6,a7,a8,a9,b0,b1,b2],S3)) ()) ()) ()):=by
 kernel_rfl
theorem zu.r19 :jf zi ⟨false,false,false⟩ (zN zi O) (reg Try.f6 19) (reg Try.f6 19).toList ([x0,x1,x2,x3,x4,x5,x6,x7,x8,x9,k,l,m,n,o,p,q,d,f,b,r,s,t,u,w,x,g,i,c,y,z,A,B,C,D,E,F,G,H,I,J,K,L,M,N,P,Q,R,U,V,W,X,Y,Z,a0,a1,a2,a3,a4,a5,a6,a7,a8,a9,b0,b1,b2]) S =
  (zW (yL zi BinOp.sub 3 (dem x9) (.int .i64 1) S) (fun v1 S1=>some ([x0,x1,x2,x3,x4,x5,x6,x7,x8,v1,k,l,m,n,o,p,q,d,f,b,r,s,t,u,w,x,g,i,c,y,z,A,B,C,D,E,F,G,H,I,J,K,L,M,N,P,Q,dem x9,dem v1,V,W,X,Y,Z,a0,a1,a2,a3,a4,a5,a6,a7,a8,a9,b0,b1,b2],S1)) ()):=by
 kernel_rfl
theorem zu.r21 :jf zi ⟨false,false,false⟩ (zN zi O) (reg Try.f6 21) (reg Try.f6 21).toList ([x0,x1,x2,x3,x4,x5,x6,x7,x8,x9,k,l,m,n,o,p,q,d,f,b,r,s,t,u,w,x,g,i,c,y,z,A,B,C,D,E,F,G,H,I,J,K,L,M,N,P,Q,R,U,V,W,X,Y,Z,a0,a1,a2,a3,a4,a5,a6,a7,a8,a9,b0,b1,b2]) S =
  (zW ((zN zi O) 11 [(dem (dem x3))] S) (fun v1 S1=>zW ((zN zi O) 11 [(dem (dem x4))] S1) (fun v3 S2=>zW ((zN zi O) 15 [(dem v1),(dem v3)] S2) (fun v4 S3=>gdK (dem v4) true (ret x3) S3 (fun v6 S4=>gdK (dem v4) true ((zN zi O) 16 [(dem (dem v6)),(.int .i64 3),(Value.slice none 0 0)]) S4 (fun v7 S5=>gdK (dem v4) true (ret x4) S5 (fun v8 S6=>gdK (dem v4) true ((zN zi O) 16 [(dem (dem v8)),(.int .i64 3),(Value.slice none 0 0)]) S6 (fun v9 S7=>gdK (dem v4) true ((zN zi O) 15 [(dem v7),(dem v9)]) S7 (fun b4 S8=>zW (vW (dem v4) b4 (Value.bool false) S8) (fun b3 S9=>some ([x0,x1,b3,x3,x4,x5,x6,x7,x8,x9,k,l,m,n,o,p,q,d,f,b,r,s,t,u,w,x,g,i,c,y,z,A,B,C,D,E,F,G,H,I,J,K,L,M,N,P,Q,R,U,V,W,X,Y,Z,a0,dem x3,v1,dem x4,v3,v4,dem v4,dem v6,v7,dem v8,v9,b4,dem b3],S9)) ()) ()) ()) ()) ()) ()) ()) ()) ()):=by
 refine sP Try.f6 21 0 (v:=x3) ?_
 refine sD Try.f6 21 1 (fun v1 S1=>?_)
 refine sP Try.f6 21 2 (v:=x4) ?_
 refine sD Try.f6 21 3 (fun v3 S2=>?_)
 refine sD Try.f6 21 4 (fun v4 S3=>?_)
 refine sP Try.f6 21 5 (v:=v4) ?_
 refine sG Try.f6 21 6 (j:=5) (fun v6 S4=>?_)
 refine sG Try.f6 21 7 (j:=5) (fun v7 S5=>?_)
 refine sG Try.f6 21 8 (j:=5) (fun v8 S6=>?_)
 refine sG Try.f6 21 9 (j:=5) (fun v9 S7=>?_)
 refine sG Try.f6 21 10 (j:=5) (fun b4 S8=>?_)
 refine sD Try.f6 21 11 (fun b3 S9=>?_)
 refine sP Try.f6 21 12 (v:=b3) ?_
 kernel_rfl
theorem zu.rs:type_of% (aeZ @zu.r0 (aeZ @zu.r1 (aeZ @zu.r2 (aeZ @zu.r3 (aeZ @zu.r4 (aeZ @zu.r5 (aeZ @zu.r6 (aeZ @zu.r7 (aeZ @zu.r8 (aeZ @zu.r9 (aeZ @zu.r10 (aeZ @zu.r11 (aeZ @zu.r12 (aeZ @zu.r13 (aeZ @zu.r14 (aeZ @zu.r15 (aeZ @zu.r16 (aeZ @zu.r17 (aeZ @zu.r18 (aeZ @zu.r20 (aeZ @zu.r19 (@zu.r21)))))))))))))))))))))):=aeZ @zu.r0 (aeZ @zu.r1 (aeZ @zu.r2 (aeZ @zu.r3 (aeZ @zu.r4 (aeZ @zu.r5 (aeZ @zu.r6 (aeZ @zu.r7 (aeZ @zu.r8 (aeZ @zu.r9 (aeZ @zu.r10 (aeZ @zu.r11 (aeZ @zu.r12 (aeZ @zu.r13 (aeZ @zu.r14 (aeZ @zu.r15 (aeZ @zu.r16 (aeZ @zu.r17 (aeZ @zu.r18 (aeZ @zu.r20 (aeZ @zu.r19 (@zu.r21)))))))))))))))))))))
theorem zu.runs {x0:Value} {S S1:zx} {e:AEx} {T:List Value} (h:zF zi O false zu.code ([x0,zh,zh,zh,zh,zh,zh,zh,zh,zh,zh,zh,zh,zh,zh,zh,zh,zh,zh,zh,zh,zh,zh,zh,zh,zh,zh,zh,zh,zh,zh,zh,zh,zh,zh,zh,zh,zh,zh,zh,zh,zh,zh,zh,zh,zh,zh,zh,zh,zh,zh,zh,zh,zh,zh,zh,zh,zh,zh,zh,zh,zh,zh,zh,zh,zh,zh]) S=some (e,T,S1)) (he:e=.normal∨e=.ret):zN zi O 6 [x0] S=some (T.getD 2 zh,S1) :=
 jG rfl rfl Try.func6 (by decide) zu.body (by exact h) he (jK (a:=T.getD 2 zh) ((show zI zi T S1 Try.f6.results.toList=zI zi T S1 [(ResultVar.tmp 2)] from by kernel_rfl).trans (by simp only [zI])) (by kernel_rfl))
end Go.Proofs.Ytacbgjhmkhjpoaa
namespace Go.Proofs.Ytacbgjhmkhjpoaa
open Go.Abs
abbrev zC.id:FuncId:=9
noncomputable def zC.code:Code:=(.seq (.region 0 (reg Try.f9 0) false) (.seq (.region 1 (reg Try.f9 1) false) (.seq (.seq (.region 2 (reg Try.f9 2) false) (.cond (.tmp 23) (.seq (.region 3 (reg Try.f9 3) false) Code.ret) Code.skip)) (.seq (.region 4 (reg Try.f9 4) false) (.seq (.region 5 (reg Try.f9 5) false) Code.ret)))))
theorem zC.body:Try.f9.body=some zC.code:=by kernel_rfl
variable (Y b I P Q R U V W X c d f g i k l m n o p q r s t u w x y z A B C D E F G:Value) (S:zx)
theorem zC.r0 :jf zi ⟨false,false,false⟩ (zN zi O) (reg Try.f9 0) (reg Try.f9 0).toList ([Y,b,I,P,Q,R,U,V,W,X,c,d,f,g,i,k,l,m,n,o,p,q,r,s,t,u,w,x,y,z,A,B,C,D,E,F,G]) S =
  ( some ([Value.bool false,b,I,P,Q,R,U,V,W,X,c,d,f,g,i,k,l,m,n,o,p,q,r,s,t,u,w,x,y,z,A,B,C,D,E,F,G],S)):=by
 kernel_rfl
theorem zC.r1 :jf zi ⟨false,false,false⟩ (zN zi O) (reg Try.f9 1) (reg Try.f9 1).toList ([Y,b,I,P,Q,R,U,V,W,X,c,d,f,g,i,k,l,m,n,o,p,q,r,s,t,u,w,x,y,z,A,B,C,D,E,F,G]) S =
  (zW ((zN zi O) 10 [] S) (fun v0 J=>some ([Y,v0,I,dem v0,Q,R,U,V,W,X,c,d,f,g,i,k,l,m,n,o,p,q,r,s,t,u,w,x,y,z,A,B,C,D,E,F,G],J)) ()):=by
 kernel_rfl
theorem zC.r2 :jf zi ⟨false,false,false⟩ (zN zi O) (reg Try.f9 2) (reg Try.f9 2).toList ([Y,b,I,P,Q,R,U,V,W,X,c,d,f,g,i,k,l,m,n,o,p,q,r,s,t,u,w,x,y,z,A,B,C,D,E,F,G]) S =
  (zW (yL zi BinOp.eql 24 (dem b) (Value.pointer none) S) (fun H J=>gdK (dem H) false (ret b) J (fun Z S2=>gdK (dem H) false (wO zi 30 [(0,(.int .i64 1)),(1,(.int .i64 1))]) S2 (fun L S3=>gdK (dem H) false ((zN zi O) 12 [(dem (dem Z)),(dem L)]) S3 (fun v5 S4=>gdK (dem H) false (yL zi BinOp.neq 27 v5 (.int .i64 0)) S4 (fun v6 S5=>zW (vW (dem H) (Value.bool true) v6 S5) (fun M S6=>gdK (dem M) false (ret b) S6 (fun v9 S7=>gdK (dem M) false (wO zi 30 [(0,(.int .i64 2)),(1,(.int .i64 5))]) S7 (fun N S8=>gdK (dem M) false ((zN zi O) 12 [(dem (dem v9)),(dem N)]) S8 (fun a0 S9=>gdK (dem M) false (yL zi BinOp.neq 27 a0 (.int .i64 0)) S9 (fun a1 a6=>zW (vW (dem M) (Value.bool true) a1 a6) (fun K a7=>gdK (dem K) false (ret b) a7 (fun a2 a8=>gdK (dem K) false (wO zi 30 [(0,(.int .i64 3)),(1,(.int .i64 3))]) a8 (fun a3 a9=>gdK (dem K) false ((zN zi O) 12 [(dem (dem a2)),(dem a3)]) a9 (fun a4 b0=>gdK (dem K) false (yL zi BinOp.neq 27 a4 (.int .i64 0)) b0 (fun a5 b1=>zW (vW (dem K) (Value.bool true) a5 b1) (fun b2 b3=>some ([Y,b,I,P,dem b,H,dem H,dem Z,L,v5,v6,M,dem M,dem v9,N,a0,a1,K,dem K,dem a2,a3,a4,a5,b2,t,u,w,x,y,z,A,B,C,D,E,F,G],b3)) ()) ()) ()) ()) ()) ()) ()) ()) ()) ()) ()) ()) ()) ()) ()) ()):=by
 refine sP Try.f9 2 0 (v:=b) ?_
 refine sD Try.f9 2 1 (fun H J=>?_)
 refine sP Try.f9 2 2 (v:=H) ?_
 refine sG Try.f9 2 3 (j:=2) (fun Z S2=>?_)
 refine sG Try.f9 2 4 (j:=2) (fun L S3=>?_)
 refine sG Try.f9 2 5 (j:=2) (fun v5 S4=>?_)
 refine sG Try.f9 2 6 (j:=2) (fun v6 S5=>?_)
 refine sD Try.f9 2 7 (fun M S6=>?_)
 refine sP Try.f9 2 8 (v:=M) ?_
 refine sG Try.f9 2 9 (j:=8) (fun v9 S7=>?_)
 refine sG Try.f9 2 10 (j:=8) (fun N S8=>?_)
 refine sG Try.f9 2 11 (j:=8) (fun a0 S9=>?_)
 refine sG Try.f9 2 12 (j:=8) (fun a1 a6=>?_)
 refine sD Try.f9 2 13 (fun K a7=>?_)
 refine sP Try.f9 2 14 (v:=K) ?_
 refine sG Try.f9 2 15 (j:=14) (fun a2 a8=>?_)
 refine sG Try.f9 2 16 (j:=14) (fun a3 a9=>?_)
 refine sG Try.f9 2 17 (j:=14) (fun a4 b0=>?_)
 refine sG Try.f9 2 18 (j:=14) (fun a5 b1=>?_)
 refine sD Try.f9 2 19 (fun b2 b3=>?_)
 kernel_rfl
theorem zC.r3 :jf zi ⟨false,false,false⟩ (zN zi O) (reg Try.f9 3) (reg Try.f9 3).toList ([Y,b,I,P,Q,R,U,V,W,X,c,d,f,g,i,k,l,m,n,o,p,q,r,s,t,u,w,x,y,z,A,B,C,D,E,F,G]) S =
  ( some ([Value.bool false,b,I,P,Q,R,U,V,W,X,c,d,f,g,i,k,l,m,n,o,p,q,r,s,t,u,w,x,y,z,A,B,C,D,E,F,G],S)):=by
 kernel_rfl
theorem zC.r4 :jf zi ⟨false,false,false⟩ (zN zi O) (reg Try.f9 4) (reg Try.f9 4).toList ([Y,b,I,P,Q,R,U,V,W,X,c,d,f,g,i,k,l,m,n,o,p,q,r,s,t,u,w,x,y,z,A,B,C,D,E,F,G]) S =
  (zW ((zN zi O) 16 [(dem (dem b)),(.int .i64 2),(Value.slice none 0 0)] S) (fun H J=>some ([Y,b,H,P,Q,R,U,V,W,X,c,d,f,g,i,k,l,m,n,o,p,q,r,s,dem b,dem H,w,x,y,z,A,B,C,D,E,F,G],J)) ()):=by
 kernel_rfl
theorem zC.r5 :jf zi ⟨false,false,false⟩ (zN zi O) (reg Try.f9 5) (reg Try.f9 5).toList ([Y,b,I,P,Q,R,U,V,W,X,c,d,f,g,i,k,l,m,n,o,p,q,r,s,t,u,w,x,y,z,A,B,C,D,E,F,G]) S =
  (zW (wO zi 30 [(0,(.int .i64 2)),(1,(.int .i64 5))] S) (fun H J=>zW (wO zi 30 [(0,(.int .i64 3)),(1,(.int .i64 3))] J) (fun v2 S2=>zW (jL zi 23 2 [(0,H),(1,v2)] S2) (fun Z S3=>zW ((zN zi O) 15 [(dem (dem I)),(dem Z)] S3) (fun L S4=>gdK (dem L) true (ret b) S4 (fun v6 S5=>gdK (dem L) true (wO zi 30 [(0,(.int .i64 1)),(1,(.int .i64 9))]) S5 (fun M S6=>gdK (dem L) true ((zN zi O) 12 [(dem (dem v6)),(dem M)]) S6 (fun v8 S7=>gdK (dem L) true (yL zi BinOp.eql 27 v8 (.int .i64 91)) S7 (fun v9 S8=>zW (vW (dem L) v9 (Value.bool false) S8) (fun N S9=>some ([N,b,I,P,Q,R,U,V,W,X,c,d,f,g,i,k,l,m,n,o,p,q,r,s,t,u,dem I,H,v2,Z,L,dem L,dem v6,M,v8,v9,dem N],S9)) ()) ()) ()) ()) ()) ()) ()) ()) ()):=by
 refine sP Try.f9 5 0 (v:=I) ?_
 refine sD Try.f9 5 1 (fun H J=>?_)
 refine sD Try.f9 5 2 (fun v2 S2=>?_)
 refine sD Try.f9 5 3 (fun Z S3=>?_)
 refine sD Try.f9 5 4 (fun L S4=>?_)
 refine sP Try.f9 5 5 (v:=L) ?_
 refine sG Try.f9 5 6 (j:=5) (fun v6 S5=>?_)
 refine sG Try.f9 5 7 (j:=5) (fun M S6=>?_)
 refine sG Try.f9 5 8 (j:=5) (fun v8 S7=>?_)
 refine sG Try.f9 5 9 (j:=5) (fun v9 S8=>?_)
 refine sD Try.f9 5 10 (fun N S9=>?_)
 refine sP Try.f9 5 11 (v:=N) ?_
 kernel_rfl
theorem zC.rs:type_of% (aeZ @zC.r0 (aeZ @zC.r1 (aeZ @zC.r2 (aeZ @zC.r3 (aeZ @zC.r4 (@zC.r5)))))):=aeZ @zC.r0 (aeZ @zC.r1 (aeZ @zC.r2 (aeZ @zC.r3 (aeZ @zC.r4 (@zC.r5)))))
theorem zC.runs {S J:zx} {e:AEx} {T:List Value} (h:zF zi O false zC.code ([zh,zh,zh,zh,zh,zh,zh,zh,zh,zh,zh,zh,zh,zh,zh,zh,zh,zh,zh,zh,zh,zh,zh,zh,zh,zh,zh,zh,zh,zh,zh,zh,zh,zh,zh,zh,zh]) S=some (e,T,J)) (he:e=.normal∨e=.ret):zN zi O 9 [] S=some (T.getD 0 zh,J) :=
 jG rfl rfl Try.func9 (by decide) zC.body (by exact h) he (jK (a:=T.getD 0 zh) ((show zI zi T J Try.f9.results.toList=zI zi T J [(ResultVar.tmp 0)] from by kernel_rfl).trans (by simp only [zI])) (by kernel_rfl))
end Go.Proofs.Ytacbgjhmkhjpoaa
namespace Go.Proofs.Ytacbgjhmkhjpoaa
open Go.Abs
abbrev zK.id:FuncId:=11
noncomputable def zK.code:Code:=(.seq (.region 0 (reg Try.f11 0) false) (.seq (.region 1 (reg Try.f11 1) false) Code.ret))
theorem zK.body:Try.f11.body=some zK.code:=by kernel_rfl
variable (b d l f g i j k:Value) (S:zx)
theorem zK.r0 :jf zi ⟨false,false,false⟩ (zN zi O) (reg Try.f11 0) (reg Try.f11 0).toList ([b,d,l,f,g,i,j,k]) S =
  ( some ([b,d,Value.slice none 0 0,f,g,i,j,k],S)):=by
 kernel_rfl
theorem zK.r1 :jf zi ⟨false,false,false⟩ (zN zi O) (reg Try.f11 1) (reg Try.f11 1).toList ([b,d,l,f,g,i,j,k]) S =
  (zW (jV (dem b) S) (fun m c=>zW (zS zi 49 m 0 c) (fun n q=>zW (ji zi false 23 n q) (fun o r=>zW ((zN zi O) 21 [(dem o)] r) (fun p s=>some ([b,d,p,dem b,m,n,o,dem p],s)) ()) ()) ()) ()):=by
 kernel_rfl
theorem zK.rs:type_of% (aeZ @zK.r0 (@zK.r1)):=aeZ @zK.r0 (@zK.r1)
theorem zK.runs {b:Value} {S c:zx} {e:AEx} {T:List Value} (h:zF zi O false zK.code ([b,zh,zh,zh,zh,zh,zh,zh]) S=some (e,T,c)) (he:e=.normal∨e=.ret):zN zi O 11 [b] S=some (T.getD 2 zh,c) :=
 jG rfl rfl Try.func11 (by decide) zK.body (by exact h) he (jK (a:=T.getD 2 zh) ((show zI zi T c Try.f11.results.toList=zI zi T c [(ResultVar.tmp 2)] from by kernel_rfl).trans (by simp only [zI])) (by kernel_rfl))
end Go.Proofs.Ytacbgjhmkhjpoaa
namespace Go.Proofs.Ytacbgjhmkhjpoaa
open Go.Abs
abbrev zA.id:FuncId:=16
noncomputable def zA.jh:Code:=(.seq (.region 3 (reg Try.f16 3) false) (.seq (.cond (.tmp 16) Code.skip (.exit 0)) (.seq (.block 1 (.seq (.region 4 (reg Try.f16 4) false) (.seq (.region 5 (reg Try.f16 5) false) (.cond (.tmp 29) (.region 6 (reg Try.f16 6) false) Code.skip)))) (.region 7 (reg Try.f16 7) false))))
noncomputable def zA.code:Code:=(.seq (.region 0 (reg Try.f16 0) false) (.seq (.region 1 (reg Try.f16 1) false) (.seq (.seq (.region 2 (reg Try.f16 2) false) (.block 0 (.loop zA.jh))) (.seq (.region 8 (reg Try.f16 8) false) Code.ret))))
theorem zA.body:Try.f16.body=some zA.code:=by kernel_rfl
theorem zA.eta {T:List Value} (h:T.length=36):T=[T.getD 0 zh,T.getD 1 zh,T.getD 2 zh,T.getD 3 zh,T.getD 4 zh,T.getD 5 zh,T.getD 6 zh,T.getD 7 zh,T.getD 8 zh,T.getD 9 zh,T.getD 10 zh,T.getD 11 zh,T.getD 12 zh,T.getD 13 zh,T.getD 14 zh,T.getD 15 zh,T.getD 16 zh,T.getD 17 zh,T.getD 18 zh,T.getD 19 zh,T.getD 20 zh,T.getD 21 zh,T.getD 22 zh,T.getD 23 zh,T.getD 24 zh,T.getD 25 zh,T.getD 26 zh,T.getD 27 zh,T.getD 28 zh,T.getD 29 zh,T.getD 30 zh,T.getD 31 zh,T.getD 32 zh,T.getD 33 zh,T.getD 34 zh,T.getD 35 zh]:=(qH T 36 h).trans (by kernel_rfl)
variable (G F I K L M R H N J f g i c d b k l m n o p q r s t u w x y z A B C D E:Value) (S:zx)
theorem zA.r0 :jf zi ⟨false,false,false⟩ (zN zi O) (reg Try.f16 0) (reg Try.f16 0).toList ([G,F,I,K,L,M,R,H,N,J,f,g,i,c,d,b,k,l,m,n,o,p,q,r,s,t,u,w,x,y,z,A,B,C,D,E]) S =
  ( some ([G,F,I,K,L,M,Value.slice none 0 0,H,N,J,f,g,i,c,d,b,k,l,m,n,o,p,q,r,s,t,u,w,x,y,z,A,B,C,D,E],S)):=by
 kernel_rfl
theorem zA.r1 :jf zi ⟨false,false,false⟩ (zN zi O) (reg Try.f16 1) (reg Try.f16 1).toList ([G,F,I,K,L,M,R,H,N,J,f,g,i,c,d,b,k,l,m,n,o,p,q,r,s,t,u,w,x,y,z,A,B,C,D,E]) S =
  ( some ([G,F,I,K,L,M,R,Value.slice none 0 0,N,J,f,g,i,c,d,b,k,l,m,n,o,p,q,r,s,t,u,w,x,y,z,A,B,C,D,E],S)):=by
 kernel_rfl
theorem zA.r2 :jf zi ⟨false,false,false⟩ (zN zi O) (reg Try.f16 2) (reg Try.f16 2).toList ([G,F,I,K,L,M,R,H,N,J,f,g,i,c,d,b,k,l,m,n,o,p,q,r,s,t,u,w,x,y,z,A,B,C,D,E]) S =
  (zW (jV (dem G) S) (fun U P=>zW (zS zi 49 U 0 P) (fun V W=>zW (ji zi false 23 V W) (fun Q X=>zW (Zp zi 23 Q X) (fun v4 Z=>some ([G,F,I,K,L,M,R,H,N,J,dem G,U,V,Q,v4,.int .i64 0,k,l,m,n,o,p,q,r,s,t,u,w,x,y,z,A,B,C,D,E],Z)) ()) ()) ()) ()):=by
 kernel_rfl
theorem zA.r3 :jf zi ⟨false,false,false⟩ (zN zi O) (reg Try.f16 3) (reg Try.f16 3).toList ([G,F,I,K,L,M,R,H,N,J,f,g,i,c,d,b,k,l,m,n,o,p,q,r,s,t,u,w,x,y,z,A,B,C,D,E]) S =
  (zW (yL zi BinOp.lss 3 b d S) (fun Y P=>some ([G,F,I,K,L,M,R,H,N,J,f,g,i,c,d,b,Y,l,m,n,o,p,q,r,s,t,u,w,x,y,z,A,B,C,D,E],P)) ()):=by
 kernel_rfl
theorem zA.r4 :jf zi ⟨false,false,false⟩ (zN zi O) (reg Try.f16 4) (reg Try.f16 4).toList ([G,F,I,K,L,M,R,H,N,J,f,g,i,c,d,b,k,l,m,n,o,p,q,r,s,t,u,w,x,y,z,A,B,C,D,E]) S =
  (zW (zX zi 23 c b S) (fun Y P=>zW (ji zi false 30 Y P) (fun U W=>zW (qR zi 30 W) (fun V X=>zW (ku zi 30 V (dem U) X) (fun Q Z=>some ([G,F,I,K,L,M,R,H,N,V,f,g,i,c,d,b,k,Y,U,n,o,p,q,r,s,t,u,w,x,y,z,A,B,C,D,E],Z)) ()) ()) ()) ()):=by
 kernel_rfl
theorem zA.r5 :jf zi ⟨false,false,false⟩ (zN zi O) (reg Try.f16 5) (reg Try.f16 5).toList ([G,F,I,K,L,M,R,H,N,J,f,g,i,c,d,b,k,l,m,n,o,p,q,r,s,t,u,w,x,y,z,A,B,C,D,E]) S =
  (zW (Zp zi 23 (dem H) S) (fun U P=>zW (yL zi BinOp.lss 3 U (dem F) P) (fun Q W=>gdK (dem Q) true (ret I) W (fun v5 X=>gdK (dem Q) true (zS zi 30 J 0) X (fun v6 Z=>gdK (dem Q) true (ji zi false 3 v6) Z (fun v7 S5=>gdK (dem Q) true ((zN zi O) 29 [(dem (dem v5)),(dem v7)]) S5 (fun v8 S6=>gdK (dem Q) true (aUn zi UnOp.not v8) S6 (fun v9 S7=>zW (vW (dem Q) v9 (Value.bool false) S7) (fun a0 S8=>some ([G,F,I,K,L,M,R,H,N,J,f,g,i,c,d,b,k,l,m,dem H,U,dem F,Q,dem Q,dem v5,v6,v7,v8,v9,a0,z,A,B,C,D,E],S8)) ()) ()) ()) ()) ()) ()) ()) ()):=by
 refine sP Try.f16 5 0 (v:=H) ?_
 refine sD Try.f16 5 1 (fun U P=>?_)
 refine sP Try.f16 5 2 (v:=F) ?_
 refine sD Try.f16 5 3 (fun Q W=>?_)
 refine sP Try.f16 5 4 (v:=Q) ?_
 refine sG Try.f16 5 5 (j:=4) (fun v5 X=>?_)
 refine sG Try.f16 5 6 (j:=4) (fun v6 Z=>?_)
 refine sG Try.f16 5 7 (j:=4) (fun v7 S5=>?_)
 refine sG Try.f16 5 8 (j:=4) (fun v8 S6=>?_)
 refine sG Try.f16 5 9 (j:=4) (fun v9 S7=>?_)
 refine sD Try.f16 5 10 (fun a0 S8=>?_)
 kernel_rfl
theorem zA.r6 :jf zi ⟨false,false,false⟩ (zN zi O) (reg Try.f16 6) (reg Try.f16 6).toList ([G,F,I,K,L,M,R,H,N,J,f,g,i,c,d,b,k,l,m,n,o,p,q,r,s,t,u,w,x,y,z,A,B,C,D,E]) S =
  (zW (ji zi false 30 J S) (fun U P=>zW (jL zi 23 1 [(0,U)] P) (fun V W=>zW (kM zi 23 23 H V W) (fun Q X=>some ([G,F,I,K,L,M,R,Q,N,J,f,g,i,c,d,b,k,l,m,n,o,p,q,r,s,t,u,w,x,y,dem H,U,V,dem Q,D,E],X)) ()) ()) ()):=by
 kernel_rfl
theorem zA.r7 :jf zi ⟨false,false,false⟩ (zN zi O) (reg Try.f16 7) (reg Try.f16 7).toList ([G,F,I,K,L,M,R,H,N,J,f,g,i,c,d,b,k,l,m,n,o,p,q,r,s,t,u,w,x,y,z,A,B,C,D,E]) S =
  (zW (yL zi BinOp.add 3 b (.int .i64 1) S) (fun Y P=>some ([G,F,I,K,L,M,R,H,N,J,f,g,i,c,d,dem Y,k,l,m,n,o,p,q,r,s,t,u,w,x,y,z,A,B,C,Y,E],P)) ()):=by
 kernel_rfl
theorem zA.r8 :jf zi ⟨false,false,false⟩ (zN zi O) (reg Try.f16 8) (reg Try.f16 8).toList ([G,F,I,K,L,M,R,H,N,J,f,g,i,c,d,b,k,l,m,n,o,p,q,r,s,t,u,w,x,y,z,A,B,C,D,E]) S =
  ( some ([G,F,I,K,L,M,H,dem H,N,J,f,g,i,c,d,b,k,l,m,n,o,p,q,r,s,t,u,w,x,y,z,A,B,C,D,dem H],S)):=by
 kernel_rfl
theorem zA.rs:type_of% (aeZ @zA.r0 (aeZ @zA.r1 (aeZ @zA.r2 (aeZ @zA.r3 (aeZ @zA.r4 (aeZ @zA.r5 (aeZ @zA.r6 (aeZ @zA.r7 (@zA.r8))))))))):=aeZ @zA.r0 (aeZ @zA.r1 (aeZ @zA.r2 (aeZ @zA.r3 (aeZ @zA.r4 (aeZ @zA.r5 (aeZ @zA.r6 (aeZ @zA.r7 (@zA.r8))))))))
theorem zA.runs {G F I:Value} {S P:zx} {e:AEx} {T:List Value} (h:zF zi O false zA.code ([G,F,I,zh,zh,zh,zh,zh,zh,zh,zh,zh,zh,zh,zh,zh,zh,zh,zh,zh,zh,zh,zh,zh,zh,zh,zh,zh,zh,zh,zh,zh,zh,zh,zh,zh]) S=some (e,T,P)) (he:e=.normal∨e=.ret):zN zi O 16 [G,F,I] S=some (T.getD 6 zh,P) :=
 jG rfl rfl Try.func16 (by decide) zA.body (by exact h) he (jK (a:=T.getD 6 zh) ((show zI zi T P Try.f16.results.toList=zI zi T P [(ResultVar.tmp 6)] from by kernel_rfl).trans (by simp only [zI])) (by kernel_rfl))
end Go.Proofs.Ytacbgjhmkhjpoaa
namespace Go.Proofs.Ytacbgjhmkhjpoaa
open Go.Abs
abbrev slices_Clone.id:FuncId:=21
noncomputable def slices_Clone.code:Code:=(.seq (.region 0 (reg Try.f21 0) false) (.seq (.seq (.region 1 (reg Try.f21 1) false) (.cond (.tmp 4) (.seq (.region 2 (reg Try.f21 2) false) Code.ret) Code.skip)) (.seq (.region 3 (reg Try.f21 3) false) Code.ret)))
theorem slices_Clone.body:Try.f21.body=some slices_Clone.code:=by kernel_rfl
variable (b c l f g i j k:Value) (S:zx)
theorem slices_Clone.r0 :jf zi ⟨false,false,false⟩ (zN zi O) (reg Try.f21 0) (reg Try.f21 0).toList ([b,c,l,f,g,i,j,k]) S =
  ( some ([b,c,Value.slice none 0 0,f,g,i,j,k],S)):=by
 kernel_rfl
theorem slices_Clone.r1 :jf zi ⟨false,false,false⟩ (zN zi O) (reg Try.f21 1) (reg Try.f21 1).toList ([b,c,l,f,g,i,j,k]) S =
  (zW (yL zi BinOp.eql 23 (dem b) (Value.slice none 0 0) S) (fun o d=>some ([b,c,l,dem b,o,i,j,k],d)) ()):=by
 kernel_rfl
theorem slices_Clone.r2 :jf zi ⟨false,false,false⟩ (zN zi O) (reg Try.f21 2) (reg Try.f21 2).toList ([b,c,l,f,g,i,j,k]) S =
  ( some ([b,c,Value.slice none 0 0,f,g,i,j,k],S)):=by
 kernel_rfl
theorem slices_Clone.r3 :jf zi ⟨false,false,false⟩ (zN zi O) (reg Try.f21 3) (reg Try.f21 3).toList ([b,c,l,f,g,i,j,k]) S =
  (zW (jL zi 23 0 [] S) (fun m d=>zW (kM zi 23 23 m (dem b) d) (fun n p=>some ([b,c,n,f,g,dem m,dem b,dem n],p)) ()) ()):=by
 kernel_rfl
theorem slices_Clone.rs:type_of% (aeZ @slices_Clone.r0 (aeZ @slices_Clone.r1 (aeZ @slices_Clone.r2 (@slices_Clone.r3)))):=aeZ @slices_Clone.r0 (aeZ @slices_Clone.r1 (aeZ @slices_Clone.r2 (@slices_Clone.r3)))
theorem slices_Clone.runs {b:Value} {S d:zx} {e:AEx} {T:List Value} (h:zF zi O false slices_Clone.code ([b,zh,zh,zh,zh,zh,zh,zh]) S=some (e,T,d)) (he:e=.normal∨e=.ret):zN zi O 21 [b] S=some (T.getD 2 zh,d) :=
 jG rfl rfl Try.func21 (by decide) slices_Clone.body (by exact h) he (jK (a:=T.getD 2 zh) ((show zI zi T d Try.f21.results.toList=zI zi T d [(ResultVar.tmp 2)] from by kernel_rfl).trans (by simp only [zI])) (by kernel_rfl))
end Go.Proofs.Ytacbgjhmkhjpoaa
namespace Go.Proofs.Ytacbgjhmkhjpoaa
open Go.Abs
abbrev zV.id:FuncId:=10
noncomputable def zV.code:Code:=(.seq (.region 0 (reg Try.f10 0) false) (.seq (.region 1 (reg Try.f10 1) false) Code.ret))
theorem zV.body:Try.f10.body=some zV.code:=by kernel_rfl
variable (f c d:Value) (S:zx)
theorem zV.r0 :jf zi ⟨false,false,false⟩ (zN zi O) (reg Try.f10 0) (reg Try.f10 0).toList ([f,c,d]) S =
  ( some ([Value.pointer none,c,d],S)):=by
 kernel_rfl
theorem zV.r1 :jf zi ⟨false,false,false⟩ (zN zi O) (reg Try.f10 1) (reg Try.f10 1).toList ([f,c,d]) S =
  (zW (wO zi 49 [] S) (fun g b=>zW (J5 (dem g) b) (fun i j=>some ([i,g,dem i],j)) ()) ()):=by
 kernel_rfl
theorem zV.rs:type_of% (aeZ @zV.r0 (@zV.r1)):=aeZ @zV.r0 (@zV.r1)
theorem zV.runs {S b:zx} {e:AEx} {T:List Value} (h:zF zi O false zV.code ([zh,zh,zh]) S=some (e,T,b)) (he:e=.normal∨e=.ret):zN zi O 10 [] S=some (T.getD 0 zh,b) :=
 jG rfl rfl Try.func10 (by decide) zV.body (by exact h) he (jK (a:=T.getD 0 zh) ((show zI zi T b Try.f10.results.toList=zI zi T b [(ResultVar.tmp 0)] from by kernel_rfl).trans (by simp only [zI])) (by kernel_rfl))
end Go.Proofs.Ytacbgjhmkhjpoaa
namespace Go.Proofs.Ytacbgjhmkhjpoaa
open Go.Abs
abbrev zB.id:FuncId:=12
noncomputable def zB.code:Code:=(.seq (.region 0 (reg Try.f12 0) false) (.seq (.seq (.region 1 (reg Try.f12 1) false) (.cond (.tmp 8) (.seq (.region 2 (reg Try.f12 2) false) Code.ret) Code.skip)) (.seq (.seq (.region 3 (reg Try.f12 3) false) (.cond (.tmp 14) (.seq (.region 4 (reg Try.f12 4) false) Code.ret) Code.skip)) (.seq (.region 5 (reg Try.f12 5) false) (.seq (.seq (.region 6 (reg Try.f12 6) false) (.cond (.tmp 22) (.region 7 (reg Try.f12 7) false) Code.skip)) (.seq (.seq (.region 8 (reg Try.f12 8) false) (.cond (.tmp 29) (.seq (.region 9 (reg Try.f12 9) false) Code.ret) Code.skip)) (.seq (.region 10 (reg Try.f12 10) true) (.seq (.region 11 (reg Try.f12 11) true) (.seq (.region 12 (reg Try.f12 12) false) Code.ret)))))))))
theorem zB.body:Try.f12.body=some zB.code:=by kernel_rfl
variable (b x1 x2 x3 x4 x5 x6 x7 x8 x9 c d f g i j k l m n o p q r s t u w x y z A B C D E F G H I J K L M N P Q R U V W X Y Z a0:Value) (S:zx)
theorem zB.r0 :jf zi ⟨true,false,false⟩ (yC O.hp true (zN zi O)) (reg Try.f12 0) (reg Try.f12 0).toList ([b,x1,x2,x3,x4,x5,x6,x7,x8,x9,c,d,f,g,i,j,k,l,m,n,o,p,q,r,s,t,u,w,x,y,z,A,B,C,D,E,F,G,H,I,J,K,L,M,N,P,Q,R,U,V,W,X,Y,Z,a0]) S =
  (zW (J5 (dem x1) S) (fun v0 S1=>some ([b,x1,x2,v0,.int .i64 0,x5,x6,x7,x8,x9,c,d,f,g,i,j,k,l,m,n,o,p,q,r,s,t,u,w,x,y,z,A,B,C,D,E,F,G,H,I,J,K,L,M,N,P,Q,R,U,V,W,X,Y,Z,a0],S1)) ()):=by
 kernel_rfl
theorem zB.r1 :jf zi ⟨true,false,false⟩ (yC O.hp true (zN zi O)) (reg Try.f12 1) (reg Try.f12 1).toList ([b,x1,x2,x3,x4,x5,x6,x7,x8,x9,c,d,f,g,i,j,k,l,m,n,o,p,q,r,s,t,u,w,x,y,z,A,B,C,D,E,F,G,H,I,J,K,L,M,N,P,Q,R,U,V,W,X,Y,Z,a0]) S =
  (zW (ji zi false 30 x3 S) (fun v0 S1=>zW (Jl (zN zi O) 22 [(dem v0)] S1) (fun v1 S2=>zW (aUn zi UnOp.not v1 S2) (fun v2 S3=>some ([b,x1,x2,x3,x4,x5,v0,v1,v2,x9,c,d,f,g,i,j,k,l,m,n,o,p,q,r,s,t,u,w,x,y,z,A,B,C,D,E,F,G,H,I,J,K,L,M,N,P,Q,R,U,V,W,X,Y,Z,a0],S3)) ()) ()) ()):=by
 kernel_rfl
theorem zB.r2 :jf zi ⟨true,false,false⟩ (yC O.hp true (zN zi O)) (reg Try.f12 2) (reg Try.f12 2).toList ([b,x1,x2,x3,x4,x5,x6,x7,x8,x9,c,d,f,g,i,j,k,l,m,n,o,p,q,r,s,t,u,w,x,y,z,A,B,C,D,E,F,G,H,I,J,K,L,M,N,P,Q,R,U,V,W,X,Y,Z,a0]) S =
  ( some ([b,x1,x2,x3,.int .i64 61,x5,x6,x7,x8,x9,c,d,f,g,i,j,k,l,m,n,o,p,q,r,s,t,u,w,x,y,z,A,B,C,D,E,F,G,H,I,J,K,L,M,N,P,Q,R,U,V,W,X,Y,Z,a0],S)):=by
 kernel_rfl
theorem zB.r3 :jf zi ⟨true,false,false⟩ (yC O.hp true (zN zi O)) (reg Try.f12 3) (reg Try.f12 3).toList ([b,x1,x2,x3,x4,x5,x6,x7,x8,x9,c,d,f,g,i,j,k,l,m,n,o,p,q,r,s,t,u,w,x,y,z,A,B,C,D,E,F,G,H,I,J,K,L,M,N,P,Q,R,U,V,W,X,Y,Z,a0]) S =
  (zW (jV (dem b) S) (fun v1 S1=>zW (zS zi 49 v1 0 S1) (fun v2 S2=>zW (ji zi false 23 v2 S2) (fun v3 S3=>zW (Jl (zN zi O) 23 [(dem v3),(Value.func (Fn.func 24) #[] #[(dem x3)])] S3) (fun v5 S4=>some ([b,x1,x2,x3,x4,x5,x6,x7,x8,dem b,v1,v2,v3,Value.func (Fn.func 24) #[] #[(dem x3)],v5,j,k,l,m,n,o,p,q,r,s,t,u,w,x,y,z,A,B,C,D,E,F,G,H,I,J,K,L,M,N,P,Q,R,U,V,W,X,Y,Z,a0],S4)) ()) ()) ()) ()):=by
 kernel_rfl
theorem zB.r4 :jf zi ⟨true,false,false⟩ (yC O.hp true (zN zi O)) (reg Try.f12 4) (reg Try.f12 4).toList ([b,x1,x2,x3,x4,x5,x6,x7,x8,x9,c,d,f,g,i,j,k,l,m,n,o,p,q,r,s,t,u,w,x,y,z,A,B,C,D,E,F,G,H,I,J,K,L,M,N,P,Q,R,U,V,W,X,Y,Z,a0]) S =
  ( some ([b,x1,x2,x3,.int .i64 91,x5,x6,x7,x8,x9,c,d,f,g,i,j,k,l,m,n,o,p,q,r,s,t,u,w,x,y,z,A,B,C,D,E,F,G,H,I,J,K,L,M,N,P,Q,R,U,V,W,X,Y,Z,a0],S)):=by
 kernel_rfl
theorem zB.r5 :jf zi ⟨true,false,false⟩ (yC O.hp true (zN zi O)) (reg Try.f12 5) (reg Try.f12 5).toList ([b,x1,x2,x3,x4,x5,x6,x7,x8,x9,c,d,f,g,i,j,k,l,m,n,o,p,q,r,s,t,u,w,x,y,z,A,B,C,D,E,F,G,H,I,J,K,L,M,N,P,Q,R,U,V,W,X,Y,Z,a0]) S =
  (zW (jV (dem b) S) (fun v1 S1=>zW (zS zi 49 v1 0 S1) (fun v2 S2=>zW (ji zi false 23 v2 S2) (fun v3 S3=>zW (Jl (zN zi O) 25 [(dem v3),(Value.func (Fn.func 26) #[] #[(dem x3)])] S3) (fun v5 S4=>some ([b,x1,x2,x3,x4,v5,x6,x7,x8,x9,c,d,f,g,i,dem b,v1,v2,v3,Value.func (Fn.func 26) #[] #[(dem x3)],dem v5,p,q,r,s,t,u,w,x,y,z,A,B,C,D,E,F,G,H,I,J,K,L,M,N,P,Q,R,U,V,W,X,Y,Z,a0],S4)) ()) ()) ()) ()):=by
 kernel_rfl
theorem zB.r6 :jf zi ⟨true,false,false⟩ (yC O.hp true (zN zi O)) (reg Try.f12 6) (reg Try.f12 6).toList ([b,x1,x2,x3,x4,x5,x6,x7,x8,x9,c,d,f,g,i,j,k,l,m,n,o,p,q,r,s,t,u,w,x,y,z,A,B,C,D,E,F,G,H,I,J,K,L,M,N,P,Q,R,U,V,W,X,Y,Z,a0]) S =
  (zW (yL zi BinOp.lss 3 (dem x5) (.int .i64 0) S) (fun v1 S1=>some ([b,x1,x2,x3,x4,x5,x6,x7,x8,x9,c,d,f,g,i,j,k,l,m,n,o,dem x5,v1,r,s,t,u,w,x,y,z,A,B,C,D,E,F,G,H,I,J,K,L,M,N,P,Q,R,U,V,W,X,Y,Z,a0],S1)) ()):=by
 kernel_rfl
theorem zB.r7 :jf zi ⟨true,false,false⟩ (yC O.hp true (zN zi O)) (reg Try.f12 7) (reg Try.f12 7).toList ([b,x1,x2,x3,x4,x5,x6,x7,x8,x9,c,d,f,g,i,j,k,l,m,n,o,p,q,r,s,t,u,w,x,y,z,A,B,C,D,E,F,G,H,I,J,K,L,M,N,P,Q,R,U,V,W,X,Y,Z,a0]) S =
  (zW (jV (dem b) S) (fun v1 S1=>zW (zS zi 49 v1 0 S1) (fun v2 S2=>zW (ji zi false 23 v2 S2) (fun v3 S3=>zW (Zp zi 23 v3 S3) (fun v4 S4=>some ([b,x1,x2,x3,x4,v4,x6,x7,x8,x9,c,d,f,g,i,j,k,l,m,n,o,p,q,dem b,v1,v2,v3,dem v4,x,y,z,A,B,C,D,E,F,G,H,I,J,K,L,M,N,P,Q,R,U,V,W,X,Y,Z,a0],S4)) ()) ()) ()) ()):=by
 kernel_rfl
theorem zB.r8 :jf zi ⟨true,false,false⟩ (yC O.hp true (zN zi O)) (reg Try.f12 8) (reg Try.f12 8).toList ([b,x1,x2,x3,x4,x5,x6,x7,x8,x9,c,d,f,g,i,j,k,l,m,n,o,p,q,r,s,t,u,w,x,y,z,A,B,C,D,E,F,G,H,I,J,K,L,M,N,P,Q,R,U,V,W,X,Y,Z,a0]) S =
  (zW (yL zi BinOp.eql 3 (dem x5) (.int .i64 16) S) (fun v1 S1=>some ([b,x1,x2,x3,x4,x5,x6,x7,x8,x9,c,d,f,g,i,j,k,l,m,n,o,p,q,r,s,t,u,w,dem x5,v1,z,A,B,C,D,E,F,G,H,I,J,K,L,M,N,P,Q,R,U,V,W,X,Y,Z,a0],S1)) ()):=by
 kernel_rfl
theorem zB.r9 :jf zi ⟨true,false,false⟩ (yC O.hp true (zN zi O)) (reg Try.f12 9) (reg Try.f12 9).toList ([b,x1,x2,x3,x4,x5,x6,x7,x8,x9,c,d,f,g,i,j,k,l,m,n,o,p,q,r,s,t,u,w,x,y,z,A,B,C,D,E,F,G,H,I,J,K,L,M,N,P,Q,R,U,V,W,X,Y,Z,a0]) S =
  ( some ([b,x1,x2,x3,.int .i64 91,x5,x6,x7,x8,x9,c,d,f,g,i,j,k,l,m,n,o,p,q,r,s,t,u,w,x,y,z,A,B,C,D,E,F,G,H,I,J,K,L,M,N,P,Q,R,U,V,W,X,Y,Z,a0],S)):=by
 kernel_rfl
theorem zB.d10:qw zi (reg Try.f12 10)=true:=by kernel_rfl
theorem zB.aeW:fixed zi (reg Try.f12 10)=false:=by kernel_rfl
theorem zB.k10:checked zi (reg Try.f12 10)=[0,0,1,2,3,4,5]:=by kernel_rfl
theorem zB.g10:again zi (reg Try.f12 10)=[(4,7)]:=by kernel_rfl
theorem zB.r10 :zF zi O true (.region 10 (reg Try.f12 10) true) ([b,x1,x2,x3,x4,x5,x6,x7,x8,x9,c,d,f,g,i,j,k,l,m,n,o,p,q,r,s,t,u,w,x,y,z,A,B,C,D,E,F,G,H,I,J,K,L,M,N,P,Q,R,U,V,W,X,Y,Z,a0]) S =
  QJ (okK b ( okK b ( zW (jV (dem b) S) (fun v2 S1=>okK v2 ( zW (zS zi 49 v2 0 S1) (fun v3 S2=>okK v3 ( zW (ji zi false 23 v3 S2) (fun v4 S3=>okK v4 ( okK x5 ( zW (ji zi false 30 x3 S3) (fun v6 S4=>zW (jl zi 23 1 [(0,(dem v6))] S4) (fun v7 S5=>zW ((zN zi O) 28 [(dem v4),(dem (dem x5)),(dem v7)] S5) (fun v8 S6=>zW (jV (dem b) S6) (fun v9 S7=>zW (zS zi 49 v9 0 S7) (fun a1 S8=>zW (ku zi 23 a1 (dem v8) S8) (fun a2 S9=>ckK (yc v3 S2 S5 && (true)) (some ([b,x1,x2,x3,x4,x5,x6,x7,x8,x9,c,d,f,g,i,j,k,l,m,n,o,p,q,r,s,t,u,w,x,y,dem b,dem b,v2,v3,v4,dem x5,v6,v7,v8,v9,a1,K,L,M,N,P,Q,R,U,V,W,X,Y,Z,a0],S9)) ()) ()) ()) ()) ()) ()) ()) ()) ()) ()) ()) ()) ()) ()) ()) ()):=by
 rw [xO zB.d10 zB.aeW zB.k10 zB.g10]
 refine congrArg QJ ?_
 refine uPC Try.f12 10 0 (v:=b) (pe:=zh) ?_
 refine uPC Try.f12 10 1 (v:=b) (pe:=zh) ?_
 refine uDC Try.f12 10 2 (pe:=zh) (fun v2 S1=>?_)
 refine uDC Try.f12 10 3 (pe:=zh) (fun v3 S2=>?_)
 refine uDC Try.f12 10 4 (pe:=v3) (fun v4 S3=>?_)
 refine uPC Try.f12 10 5 (v:=x5) (pe:=zh) ?_
 refine uD Try.f12 10 6 (pe:=x3) (fun v6 S4=>?_)
 refine uD Try.f12 10 7 (pe:=zh) (fun v7 S5=>?_)
 refine uD Try.f12 10 8 (pe:=zh) (fun v8 S6=>?_)
 refine uD Try.f12 10 9 (pe:=zh) (fun v9 S7=>?_)
 refine uD Try.f12 10 10 (pe:=zh) (fun a1 S8=>?_)
 refine uD Try.f12 10 11 (pe:=zh) (fun a2 S9=>?_)
 kernel_rfl
theorem zB.d11:qw zi (reg Try.f12 11)=true:=by kernel_rfl
theorem zB.aeX:fixed zi (reg Try.f12 11)=false:=by kernel_rfl
theorem zB.k11:checked zi (reg Try.f12 11)=[]:=by kernel_rfl
theorem zB.g11:again zi (reg Try.f12 11)=[]:=by kernel_rfl
theorem zB.r11 :zF zi O true (.region 11 (reg Try.f12 11) true) ([b,x1,x2,x3,x4,x5,x6,x7,x8,x9,c,d,f,g,i,j,k,l,m,n,o,p,q,r,s,t,u,w,x,y,z,A,B,C,D,E,F,G,H,I,J,K,L,M,N,P,Q,R,U,V,W,X,Y,Z,a0]) S =
  QJ (zW (jV (dem b) S) (fun v2 S1=>zW (zS zi 49 v2 0 S1) (fun v3 S2=>zW (ji zi false 23 v3 S2) (fun v4 S3=>zW (jV (dem b) S3) (fun v6 S4=>zW (zS zi 49 v6 0 S4) (fun v7 S5=>zW (ji zi false 23 v7 S5) (fun v8 S6=>zW (Zp zi 23 v8 S6) (fun v9 S7=>zW (xG zi true Builtin.min #[3,3] 3 [v9,(.int .i64 16)] S7) (fun a1 S8=>zW (yJ zi false 23 v4 none (some a1) S8) (fun a2 S9=>zW (jV (dem b) S9) (fun a3 a5=>zW (zS zi 49 a3 0 a5) (fun a4 a6=>zW (ku zi 23 a4 (dem a2) a6) (fun a8 a7=>some ([b,x1,x2,x3,x4,x5,x6,x7,x8,x9,c,d,f,g,i,j,k,l,m,n,o,p,q,r,s,t,u,w,x,y,z,A,B,C,D,E,F,G,H,I,J,dem b,dem b,v2,v3,v4,dem b,v6,v7,v8,v9,a1,a2,a3,a4],a7)) ()) ()) ()) ()) ()) ()) ()) ()) ()) ()) ()) ()):=by
 rw [xO zB.d11 zB.aeX zB.k11 zB.g11]
 refine congrArg QJ ?_
 refine tP Try.f12 11 0 (v:=b) ?_
 refine tP Try.f12 11 1 (v:=b) ?_
 refine tD Try.f12 11 2 (fun v2 S1=>?_)
 refine tD Try.f12 11 3 (fun v3 S2=>?_)
 refine tD Try.f12 11 4 (fun v4 S3=>?_)
 refine tP Try.f12 11 5 (v:=b) ?_
 refine tD Try.f12 11 6 (fun v6 S4=>?_)
 refine tD Try.f12 11 7 (fun v7 S5=>?_)
 refine tD Try.f12 11 8 (fun v8 S6=>?_)
 refine tD Try.f12 11 9 (fun v9 S7=>?_)
 refine tD Try.f12 11 10 (fun a1 S8=>?_)
 refine tD Try.f12 11 11 (fun a2 S9=>?_)
 refine tD Try.f12 11 12 (fun a3 a5=>?_)
 refine tD Try.f12 11 13 (fun a4 a6=>?_)
 refine tD Try.f12 11 14 (fun a8 a7=>?_)
 kernel_rfl
theorem zB.r12 :jf zi ⟨true,false,false⟩ (yC O.hp true (zN zi O)) (reg Try.f12 12) (reg Try.f12 12).toList ([b,x1,x2,x3,x4,x5,x6,x7,x8,x9,c,d,f,g,i,j,k,l,m,n,o,p,q,r,s,t,u,w,x,y,z,A,B,C,D,E,F,G,H,I,J,K,L,M,N,P,Q,R,U,V,W,X,Y,Z,a0]) S =
  ( some ([b,x1,x2,x3,.int .i64 0,x5,x6,x7,x8,x9,c,d,f,g,i,j,k,l,m,n,o,p,q,r,s,t,u,w,x,y,z,A,B,C,D,E,F,G,H,I,J,K,L,M,N,P,Q,R,U,V,W,X,Y,Z,a0],S)):=by
 kernel_rfl
theorem zB.rs:type_of% (aeZ @zB.r0 (aeZ @zB.r1 (aeZ @zB.r2 (aeZ @zB.r3 (aeZ @zB.r4 (aeZ @zB.r5 (aeZ @zB.r6 (aeZ @zB.r7 (aeZ @zB.r8 (aeZ @zB.r9 (aeZ @zB.r10 (aeZ @zB.r11 (@zB.r12))))))))))))):=aeZ @zB.r0 (aeZ @zB.r1 (aeZ @zB.r2 (aeZ @zB.r3 (aeZ @zB.r4 (aeZ @zB.r5 (aeZ @zB.r6 (aeZ @zB.r7 (aeZ @zB.r8 (aeZ @zB.r9 (aeZ @zB.r10 (aeZ @zB.r11 (@zB.r12))))))))))))
theorem zB.runs {b x1:Value} {S S1:zx} {e:AEx} {T:List Value} (h:zF zi O true zB.code ([b,x1,zh,zh,zh,zh,zh,zh,zh,zh,zh,zh,zh,zh,zh,zh,zh,zh,zh,zh,zh,zh,zh,zh,zh,zh,zh,zh,zh,zh,zh,zh,zh,zh,zh,zh,zh,zh,zh,zh,zh,zh,zh,zh,zh,zh,zh,zh,zh,zh,zh,zh,zh,zh,zh]) S=some (e,T,S1)) (he:e=.normal∨e=.ret):zN zi O 12 [b,x1] S=some (T.getD 4 zh,S1) :=
 jG rfl rfl Try.func12 (by decide) zB.body (by exact h) he (jK (a:=T.getD 4 zh) ((show zI zi T S1 Try.f12.results.toList=zI zi T S1 [(ResultVar.tmp 4)] from by kernel_rfl).trans (by simp only [zI])) (by kernel_rfl))
end Go.Proofs.Ytacbgjhmkhjpoaa
namespace Go.Proofs.Ytacbgjhmkhjpoaa
open Go.Abs
abbrev zH.id:FuncId:=24
noncomputable def zH.code:Code:=(.seq (.region 0 (reg Try.f24 0) false) (.seq (.region 1 (reg Try.f24 1) false) Code.ret))
theorem zH.body:Try.f24.body=some zH.code:=by kernel_rfl
variable (b c f n i j k l m:Value) (S:zx)
theorem zH.r0 :jf zi ⟨false,false,false⟩ (zN zi O) (reg Try.f24 0) (reg Try.f24 0).toList ([b,c,f,n,i,j,k,l,m]) S =
  (zW (J5 (dem b) S) (fun g d=>some ([b,c,g,Value.bool false,i,j,k,l,m],d)) ()):=by
 kernel_rfl
theorem zH.r1 :jf zi ⟨false,false,false⟩ (zN zi O) (reg Try.f24 1) (reg Try.f24 1).toList ([b,c,f,n,i,j,k,l,m]) S =
  (zW (zS zi 30 f 0 S) (fun g d=>zW (ji zi false 3 g d) (fun o s=>zW (zS zi 30 c 0 s) (fun p t=>zW (ji zi false 3 p t) (fun q u=>zW (yL zi BinOp.eql 3 o q u) (fun r v=>some ([b,c,f,r,g,o,p,q,dem r],v)) ()) ()) ()) ()) ()):=by
 kernel_rfl
theorem zH.rs:type_of% (aeZ @zH.r0 (@zH.r1)):=aeZ @zH.r0 (@zH.r1)
theorem zH.runs {b c:Value} {S d:zx} {e:AEx} {T:List Value} (h:zF zi O false zH.code ([b,c,zh,zh,zh,zh,zh,zh,zh]) S=some (e,T,d)) (he:e=.normal∨e=.ret):zN zi O 24 [b,c] S=some (T.getD 3 zh,d) :=
 jG rfl rfl Try.func24 (by decide) zH.body (by exact h) he (jK (a:=T.getD 3 zh) ((show zI zi T d Try.f24.results.toList=zI zi T d [(ResultVar.tmp 3)] from by kernel_rfl).trans (by simp only [zI])) (by kernel_rfl))
end Go.Proofs.Ytacbgjhmkhjpoaa
namespace Go.Proofs.Ytacbgjhmkhjpoaa
open Go.Abs
abbrev zJ.id:FuncId:=26
noncomputable def zJ.code:Code:=(.seq (.region 0 (reg Try.f26 0) false) (.seq (.region 1 (reg Try.f26 1) false) Code.ret))
theorem zJ.body:Try.f26.body=some zJ.code:=by kernel_rfl
variable (b c f l i j k:Value) (S:zx)
theorem zJ.r0 :jf zi ⟨false,false,false⟩ (zN zi O) (reg Try.f26 0) (reg Try.f26 0).toList ([b,c,f,l,i,j,k]) S =
  (zW (J5 (dem b) S) (fun g d=>some ([b,c,g,Value.bool false,i,j,k],d)) ()):=by
 kernel_rfl
theorem zJ.r1 :jf zi ⟨false,false,false⟩ (zN zi O) (reg Try.f26 1) (reg Try.f26 1).toList ([b,c,f,l,i,j,k]) S =
  (zW (ji zi false 30 c S) (fun g d=>zW (ji zi false 30 f d) (fun m o=>zW ((zN zi O) 27 [(dem g),(dem m)] o) (fun n p=>some ([b,c,f,n,g,m,dem n],p)) ()) ()) ()):=by
 kernel_rfl
theorem zJ.rs:type_of% (aeZ @zJ.r0 (@zJ.r1)):=aeZ @zJ.r0 (@zJ.r1)
theorem zJ.runs {b c:Value} {S d:zx} {e:AEx} {T:List Value} (h:zF zi O false zJ.code ([b,c,zh,zh,zh,zh,zh]) S=some (e,T,d)) (he:e=.normal∨e=.ret):zN zi O 26 [b,c] S=some (T.getD 3 zh,d) :=
 jG rfl rfl Try.func26 (by decide) zJ.body (by exact h) he (jK (a:=T.getD 3 zh) ((show zI zi T d Try.f26.results.toList=zI zi T d [(ResultVar.tmp 3)] from by kernel_rfl).trans (by simp only [zI])) (by kernel_rfl))
end Go.Proofs.Ytacbgjhmkhjpoaa
namespace Go.Proofs.Ytacbgjhmkhjpoaa
open Go.Abs
abbrev slices_ContainsFunc.id:FuncId:=23
noncomputable def slices_ContainsFunc.code:Code:=(.seq (.region 0 (reg Try.f23 0) false) (.seq (.region 1 (reg Try.f23 1) false) Code.ret))
theorem slices_ContainsFunc.body:Try.f23.body=some slices_ContainsFunc.code:=by kernel_rfl
variable (b c f g m i j k l:Value) (S:zx)
theorem slices_ContainsFunc.r0 :jf zi ⟨false,false,false⟩ (zN zi O) (reg Try.f23 0) (reg Try.f23 0).toList ([b,c,f,g,m,i,j,k,l]) S =
  ( some ([b,c,f,g,Value.bool false,i,j,k,l],S)):=by
 kernel_rfl
theorem slices_ContainsFunc.r1 :jf zi ⟨false,false,false⟩ (zN zi O) (reg Try.f23 1) (reg Try.f23 1).toList ([b,c,f,g,m,i,j,k,l]) S =
  (zW ((zN zi O) 25 [(dem (dem b)),(dem (dem c))] S) (fun n d=>zW (yL zi BinOp.geq 3 n (.int .i64 0) d) (fun o p=>some ([b,c,f,g,o,dem b,dem c,n,dem o],p)) ()) ()):=by
 kernel_rfl
theorem slices_ContainsFunc.rs:type_of% (aeZ @slices_ContainsFunc.r0 (@slices_ContainsFunc.r1)):=aeZ @slices_ContainsFunc.r0 (@slices_ContainsFunc.r1)
theorem slices_ContainsFunc.runs {b c:Value} {S d:zx} {e:AEx} {T:List Value} (h:zF zi O false slices_ContainsFunc.code ([b,c,zh,zh,zh,zh,zh,zh,zh]) S=some (e,T,d)) (he:e=.normal∨e=.ret):zN zi O 23 [b,c] S=some (T.getD 4 zh,d) :=
 jG rfl rfl Try.func23 (by decide) slices_ContainsFunc.body (by exact h) he (jK (a:=T.getD 4 zh) ((show zI zi T d Try.f23.results.toList=zI zi T d [(ResultVar.tmp 4)] from by kernel_rfl).trans (by simp only [zI])) (by kernel_rfl))
end Go.Proofs.Ytacbgjhmkhjpoaa
