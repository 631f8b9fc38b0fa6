/-
The law GateSays returns true for every input, and leaves it as it was; no condition. Part 3 of 7 of the texts (put together by a program: own names are short, what isn't needed is left out).
-/
import Derived.Test.YtfjogganfjkckaaZGateSays2
import Derived.KernelRfl
import Derived.Test.YtfjogganfjkckaaChecked
set_option linter.unusedVariables false
set_option linter.unusedSimpArgs false
set_option maxRecDepth 100000
open Go renaming undef → zh
namespace Go.Abs
open Go.RowKit
def Qv (P:Program) (call:FuncId→List Value→M Value):Prop:=∀ g args aargs S v S',call g args S=some (v,S')→∀ μ H ω,GI μ S H→L0 μ H args aargs→Dom μ H ω→(∀ r s,ω r=some s→s=.ext) →
 ∃ a H' μ' ω',lim P g aargs H=some (a,H')∧GI μ' S' H'∧Later μ H μ' H'∧Kept ω H ω' H'∧Dom μ' H' ω'∧VV μ' H' ω' (some (.res none)) v a
section
variable {P:Program} {call:FuncId→List Value→M Value} {μ:Mu} {ω:Nat→Option kV} {S S' H:zn} {T A:List Value}
theorem ag3 (hc:Qv P call) {g:FuncId} {args aargs:List Value} {v:Value} (hG:GI μ S H) (hT:TI μ H ω T A) (h:call g args S=some (v,S')) (ha:L0 μ H args aargs):Out μ ω H A T S' v (lim P g aargs H):=by
 obtain ⟨a,H',μ',ω',h1,h2,h3,h4,h5,h6⟩:=hc g args aargs S v S' h μ H (fun r=>(ω r).map fun _=>.ext) hG ha (fun r s hs=>by
  cases hr:ω r with
  | none=>simp [hr] at hs
  | some s0=>exact hT.dom r s0 hr) (fun r s hs=>by
  cases hr:ω r with
  | none=>simp [hr] at hs
  | some s0=>simp [hr] at hs;exact hs.symm)
 have kept:∀ r s,ω r=some s→ω' r=some .ext∧H'.get r=H.get r:=fun r s hs=>h4 r (by dsimp only;rw [hs];rfl)
 refine ⟨a,H',μ',fun r=>match ω' r with | some .ext=>ω r | some (.slot _ _)=>none | x=>x,h1,h2,h3,fun r hr=>?_,fun r s hs=>?_,hT.len,fun i=>?_,?_⟩
 ·
  obtain ⟨k1,k2⟩:=kept r _ hr
  exact ⟨by (try dsimp only);rw [k1];exact hr,k2⟩
 ·
  dsimp only at hs
  cases hr:ω' r with
  | none=>rw [hr] at hs;cases hs
  | some s0 =>
   have:=h5 r s0 hr
   exact this
 ·
  refine (hT.slots i).later h3 (K:=fun _=>True) (fun _ _ _ _ _=>trivial) (fun r s _ hr=>?_) (fun _ _=>trivial)
  obtain ⟨k1,k2⟩:=kept r s hr
  exact ⟨by (try dsimp only);rw [k1];exact hr,k2⟩
 ·
  refine h6.later (Later.refl _ _) (K:=fun s=>∃ j,s=.res j) (fun s i t ⟨j,hj⟩ ht=>by subst hj;cases j <;> cases ht;exact ⟨_,rfl⟩) (fun r s ⟨j,hj⟩ hr=>?_) (fun s hs=>by cases hs;exact ⟨_,rfl⟩)
  subst hj
  exact ⟨by (try dsimp only);rw [hr],rfl⟩
def Yr (t:Nat):kV→Option kV
 | .slot i j=>if i=t then some (.res j) else some (.slot i j)
 | s=>some s
def QC (t k:Nat):kV→Option kV
 | .slot i (some j)=>if i=t∧j=k then some (.res none) else some (.slot i (some j))
 | s=>some s
theorem acM {x:Operand} (hG:GI μ S H) (hT:TI μ H ω T A) (hx:vg x=true):Out μ ω H A (qU T x) S (wE T x) (some (wE A x,H)):=by
 cases x with
 | const v=>exact Out.same hG hT (VV.ku hx)
 | global g=>cases hx
 | func f=>exact Out.same hG hT (hT.eval (x:=.func f) rfl)
 | tmp t =>
  refine ⟨_,H,μ,fun r=>(ω r).bind (Yr t),rfl,hG,Later.refl μ H,fun r hr=>⟨by dsimp only;rw [hr];rfl,rfl⟩,fun r s hs=>?_,by simp [qU,xW,hT.len],fun i=>?_,?_⟩
  ·
   dsimp only at hs
   cases hr:ω r with
   | none=>rw [hr] at hs;cases hs
   | some s0=>exact hT.dom r s0 hr
  ·
   dsimp only [qU,xW]
   rw [kU]
   by_cases hi:i=t
   ·
    subst hi
    by_cases hlt:i < T.length
    ·
     rw [if_pos ⟨rfl,hlt⟩]
     exact (hT.slots i).v0.at0
    ·
     rw [if_neg (fun h=>hlt h.2)]
     rw [List.getD_eq_getElem?_getD,List.getElem?_eq_none (Nat.le_of_not_lt hlt),List.getD_eq_getElem?_getD,List.getElem?_eq_none (by rw [← hT.len];omega)]
     exact .nores
   ·
    rw [if_neg (fun h=>hi h.1)]
    refine (hT.slots i).VB (fun _=>rfl) _ (fun s hs=>?_)
    cases hs
    refine ⟨_,rfl,by simp only [Yr];rw [if_neg hi],fun k t' ht=>?_⟩
    cases ht
    exact ⟨_,rfl,by simp only [Yr];rw [if_neg hi]⟩
  ·
   refine (hT.slots t).VB (fun _=>rfl) _ (fun s hs=>?_)
   cases hs
   refine ⟨_,rfl,by simp only [Yr,if_true],fun k t' ht=>?_⟩
   cases ht
   exact ⟨_,rfl,by simp only [Yr,if_true]⟩
theorem getD_modify (vs:Array Value) (i k:Nat) (f:Value→Value) (hf:f zh=zh):(vs.modify i f).getD k zh=if k=i then f (vs.getD k zh) else vs.getD k zh:=by
 rw [Array.getD_eq_getD_getElem?,Array.getD_eq_getD_getElem?,Array.getElem?_modify]
 by_cases h:i=k
 ·
  subst h
  rw [if_pos rfl,if_pos rfl]
  cases vs[i]? with
  | none=>exact hf.symm
  | some v=>rfl
 ·
  rw [if_neg h,if_neg (fun e=>h e.symm)]
theorem VV.part {ω':Nat→Option kV} {ℓ ℓ':Option kV} {v a:Value} (h:VV μ H ω ℓ v a) (hℓ:∀ s,ℓ=some s→∀ k,s.comp k=none):VV μ H ω' ℓ' (Go.Abs.vF v) a:=by
 by_cases ht:∃ x,v=.tuple x
 ·
  obtain ⟨x,rfl⟩:=ht
  show VV μ H ω' ℓ' (.tuple x) a
  cases h with
  | sg hs=>simp [Go.Abs.sg] at hs
  | nores=>exact .nores
  | tuple hx hh =>
   refine .tuple hx fun i=>?_
   have:=hh i
   cases ℓ with
   | none=>exact this.at0
   | some s =>
    have e:(some s).bind (·.comp i)=none:=hℓ s rfl i
    rw [e] at this
    exact this.at0
 ·
  have e:Go.Abs.dem v=Go.Abs.vF v:=by
   cases v <;> first | rfl | exact absurd ⟨_,rfl⟩ ht
  rw [← e]
  exact h.v0.at0
def Y6 (T:List Value) (i:Nat):Operand→List Value
 | .tmp t=>T.set t (zO i (T.getD t zh))
 | _=>T
theorem ab8 {x:Operand} {i:Nat} {v:Value} (hG:GI μ S H) (hT:TI μ H ω T A) (hx:vg x=true) (h:zU (wE T x) i S=some (v,S')) :
  Out μ ω H A (Y6 T i x) S' v (zU (wE A x) i H):=by
 cases x with
 | const w =>
  exfalso
  unfold zU at h
  split at h
  ·
   rename_i vs he
   simp only [wE] at he
   subst he
   simp [vg,ground,Go.Abs.sg] at hx
  ·
   cases h
 | global g=>cases hx
 | func f=>simp [wE,zU] at h
 | tmp t =>
  simp only [wE,Y6] at h ⊢
  unfold zU at h
  split at h
  ·
   rename_i vs hvs
   split at h <;> first | (cases h;done) | skip
   rename_i w hw
   cases h
   have hs:=hT.slots t
   rw [hvs] at hs
   have hil:i < vs.size:=(Array.getElem?_eq_some_iff.1 hw).1
   have hlt:t < T.length:=by
    rcases Nat.lt_or_ge t T.length with h | h
    ·
     exact h
    ·
     rw [List.getD_eq_getElem?_getD,List.getElem?_eq_none h] at hvs
     cases hvs
     simp at hil
   generalize hA:A.getD t zh=at' at hs
   cases hs with
   | sg hs=>simp [Go.Abs.sg] at hs
   | nores=>simp at hil
   | @tuple _ _ y hxs hxx =>
    have hiy:i < y.size:=by rw [← hxs];exact hil
    have hrun:zU (.tuple y) i H=some (y[i],H):=by simp only [zU,Array.getElem?_eq_getElem hiy]
    rw [hrun]
    have hcomp:=hxx i
    rw [Array.getD_eq_getD_getElem?,hw,Array.getD_eq_getD_getElem?,Array.getElem?_eq_getElem hiy] at hcomp
    simp only [Option.getD_some] at hcomp
    refine ⟨_,H,μ,fun r=>(ω r).bind (QC t i),rfl,hG,Later.refl μ H,fun r hr=>⟨by dsimp only;rw [hr];rfl,rfl⟩,fun r s hs=>?_,by simp [hT.len],fun k=>?_,?_⟩
    ·
     dsimp only at hs
     cases hr:ω r with
     | none=>rw [hr] at hs;cases hs
     | some s0=>exact hT.dom r s0 hr
    ·
     rw [kU]
     by_cases hk:k=t
     ·
      subst hk
      rw [if_pos ⟨rfl,hlt⟩,hA,hvs]
      simp only [zO]
      refine .tuple (by simpa using hxs) fun j=>?_
      rw [getD_modify _ _ _ _ rfl]
      by_cases hj:j=i
      ·
       subst hj
       rw [if_pos rfl]
       exact (hxx j).part (fun s hs k=>by cases hs;rfl)
      ·
       rw [if_neg hj]
       refine (hxx j).VB (fun _=>rfl) _ (fun s hs=>?_)
       cases hs
       refine ⟨_,rfl,by simp only [QC];rw [if_neg (fun e=>hj e.2)],fun a b hb=>by cases hb⟩
     ·
      rw [if_neg (fun e=>hk e.1)]
      refine (hT.slots k).VB (fun _=>rfl) _ (fun s hs=>?_)
      cases hs
      refine ⟨_,rfl,rfl,fun a b hb=>?_⟩
      cases hb
      exact ⟨_,rfl,by simp only [QC];rw [if_neg (fun e=>hk e.1)]⟩
    ·
     refine hcomp.VB (fun _=>rfl) _ (fun s hs=>?_)
     cases hs
     exact ⟨_,rfl,by simp [QC],fun a b hb=>by cases hb⟩
  ·
   cases h
theorem aiW (hT:TI μ H ω T A):∀ (xs:List Operand),xs.all vg=true→L0 μ H (xs.map fun x=>dem (wE T x)) (xs.map (wE A)):=by
 intro xs h
 exact LV.map fun x hx=>hT.eval (List.all_eq_true.1 h x hx)
theorem Q5 {xs:List Operand} (hT:TI μ H ω T A) (h:xs.all vg=true) (hg:(xs.map (wE T)).all ground=true):xs.map (wE A)=xs.map (wE T):=by
 apply List.map_congr_left
 intro x hx
 exact wW (hT.eval (List.all_eq_true.1 h x hx)) (List.all_eq_true.1 hg _ (List.mem_map.2 ⟨x,hx,rfl⟩))
theorem ahh {o:Oper} (h:hands o=false) (hc:∀ c,o.op≠.call c):moved o T=T:=by
 unfold moved
 unfold hands at h
 split <;> first | rfl | (rename_i he;exact absurd he (hc _)) | (rename_i he;rw [he] at h;cases h)
theorem agQ {fx:Fx} (hc:Qv P call) {o:Oper} {v:Value} (hG:GI μ S H) (hT:TI μ H ω T A) (h:qR P fx call T o S=some (v,S')):Out μ ω H A (moved o T) S' v (kC P (lim P) A o H):=by
 unfold qR at h
 split at h <;> first | (cases h;done) | skip
 rename_i hok
 unfold kC
 rw [if_pos hok]
 have hargs:o.op.operands.toList.all vg=true:=hok
 have hev:∀ x ∈ o.op.operands.toList,V0 μ H (dem (wE T x)) (wE A x):=fun x hx=>hT.eval (List.all_eq_true.1 hargs x hx)
 have hoka:∀ x ∈ o.op.operands.toList,vg x=true:=fun x hx=>List.all_eq_true.1 hargs x hx
 obtain ⟨dst,op,type,pos,after,guard⟩:=o
 by_cases hcall:∃ c,op=.call c
 ·
  obtain ⟨c,rfl⟩:=hcall
  dsimp only at h hev hoka hargs ⊢
  have hcargs:c.args.toList.all vg=true:=by
   rw [List.all_eq_true]
   intro x hx
   refine hoka x ?_
   simp only [Op.operands,Call.operands]
   cases c.callee <;> simp <;> first | exact .inr (by simpa using hx) | exact (by simpa using hx)
  cases hcal:c.callee with
  | value f =>
   rw [hcal] at h
   dsimp only at h ⊢
   have hf:=hev f (by simp [Op.operands,Call.operands,hcal])
   split at h <;> first | (cases h;done) | skip
   rename_i g first captured hfe
   rw [hfe] at hf
   have hf:V0 μ H (.func (.func g) first captured) (wE A f):=hf
   generalize hfa:wE A f=fa at hf
   cases hf with
   | sg hs=>simp [Go.Abs.sg] at hs
   | func _ hx hcs h1 h2 =>
    rename_i x' c'
    dsimp only
    have l1:L0 μ H first.toList x'.toList:=⟨by simpa using hx,fun i=>by rw [getD_toList,getD_toList];exact h1 i⟩
    have l2:L0 μ H captured.toList c'.toList:=⟨by simpa using hcs,fun i=>by rw [getD_toList,getD_toList];exact h2 i⟩
    have hm:moved ⟨dst,.call c,type,pos,after,guard⟩ T=T:=by simp only [moved,hcal]
    rw [hm]
    exact ag3 hc hG hT h ((l1.append (aiW hT _ hcargs)).append l2)
  | invoke r m=>rw [hcal] at h;cases h
  | builtin b =>
   rw [hcal] at h
   dsimp only at h ⊢
   unfold V5 at h
   unfold Zm
   cases b <;> dsimp only at h ⊢ <;> first | (cases h;done) | skip
   case len =>
    split at h <;> first | (cases h;done) | skip
    rename_i t x0 ht ha
    obtain ⟨x,hx,rfl⟩:∃ x,c.args.toList=[x]∧wE T x=x0:=by
     match hl:c.args.toList with
     | []=>rw [hl] at ha;cases ha
     | [y]=>rw [hl] at ha;simp at ha;exact ⟨y,rfl,ha⟩
     | y::z::w=>rw [hl] at ha;simp at ha
    have hm:moved ⟨dst,.call c,type,pos,after,guard⟩ T=T:=by simp only [moved,hcal]
    rw [hm,ht,hx]
    rw [hx] at hcargs
    obtain ⟨rfl,a,h1,h2⟩:=aeF h (hT.eval (List.all_eq_true.1 hcargs x (by simp)))
    simp only [List.map_cons,List.map_nil]
    rw [h1]
    exact Out.same hG hT h2
   case append =>
    split at h <;> first | (cases h;done) | skip
    rename_i t tx s0 x0 ht ha
    obtain ⟨so,x,hx,rfl,rfl⟩:∃ so x,c.args.toList=[so,x]∧wE T so=s0∧wE T x=x0:=by
     match hl:c.args.toList with
     | []=>rw [hl] at ha;cases ha
     | [y]=>rw [hl] at ha;simp at ha
     | [y,z]=>rw [hl] at ha;simp at ha;exact ⟨y,z,rfl,ha.1,ha.2⟩
     | y::z::w::u=>rw [hl] at ha;simp at ha
    rw [hx] at hcargs
    have hso:=List.all_eq_true.1 hcargs so (by simp)
    have hm:moved ⟨dst,.call c,type,pos,after,guard⟩ T=qU T so:=by
     simp only [moved,hcal,hx]
     cases so <;> rfl
    rw [hm,ht,hx]
    exact aeg hG hT hso h (hT.eval (List.all_eq_true.1 hcargs x (by simp)))
   case copy =>
    split at h <;> first | (cases h;done) | skip
    rename_i t tx s0 x0 ht ha
    obtain ⟨so,x,hx,rfl,rfl⟩:∃ so x,c.args.toList=[so,x]∧wE T so=s0∧wE T x=x0:=by
     match hl:c.args.toList with
     | []=>rw [hl] at ha;cases ha
     | [y]=>rw [hl] at ha;simp at ha
     | [y,z]=>rw [hl] at ha;simp at ha;exact ⟨y,z,rfl,ha.1,ha.2⟩
     | y::z::w::u=>rw [hl] at ha;simp at ha
    rw [hx] at hcargs
    have hm:moved ⟨dst,.call c,type,pos,after,guard⟩ T=T:=by simp only [moved,hcal]
    rw [hm,ht,hx]
    exact ahI hG hT h (hT.eval (List.all_eq_true.1 hcargs so (by simp))) (hT.eval (List.all_eq_true.1 hcargs x (by simp)))
   case clear =>
    split at h <;> first | (cases h;done) | skip
    rename_i t x0 ht ha
    obtain ⟨x,hx,rfl⟩:∃ x,c.args.toList=[x]∧wE T x=x0:=by
     match hl:c.args.toList with
     | []=>rw [hl] at ha;cases ha
     | [y]=>rw [hl] at ha;simp at ha;exact ⟨y,rfl,ha⟩
     | y::z::w=>rw [hl] at ha;simp at ha
    have hm:moved ⟨dst,.call c,type,pos,after,guard⟩ T=T:=by simp only [moved,hcal]
    rw [hm,ht,hx]
    rw [hx] at hcargs
    exact afi hG hT h (hT.eval (List.all_eq_true.1 hcargs x (by simp)))
   case min =>
    obtain ⟨rfl,hg,hga,hh⟩:=qJ (H:=H) h
    have hm:moved ⟨dst,.call c,type,pos,after,guard⟩ T=T:=by simp only [moved,hcal]
    rw [hm,Q5 hT hcargs hga,hh]
    exact Out.same hG hT (V0.ground hg)
   case max =>
    obtain ⟨rfl,hg,hga,hh⟩:=qJ (H:=H) h
    have hm:moved ⟨dst,.call c,type,pos,after,guard⟩ T=T:=by simp only [moved,hcal]
    rw [hm,Q5 hT hcargs hga,hh]
    exact Out.same hG hT (V0.ground hg)
 ·
  have hnc:∀ c,op≠.call c:=fun c hc=>hcall ⟨c,hc⟩
  have hV:vOp P fx (wE T) ⟨dst,op,type,pos,after,guard⟩ S=some (v,S'):=by
   cases op <;> first | exact h | exact absurd rfl (hnc _)
  suffices hs:Out μ ω H A (moved ⟨dst,op,type,pos,after,guard⟩ T) S' v (aOp P (wE A) ⟨dst,op,type,pos,after,guard⟩ H) by
   cases op <;> first | exact hs | exact absurd rfl (hnc _)
  by_cases hh:hands ⟨dst,op,type,pos,after,guard⟩=true
  ·
   cases op <;> first | (cases hh;done) | skip
   case move x =>
    cases hV
    have:=acM hG hT (hoka x (by simp [Op.operands]))
    have hm:moved ⟨dst,.move x,type,pos,after,guard⟩ T=qU T x:=by cases x <;> rfl
    rw [hm];exact this
   case assign x =>
    cases hV
    have:=acM hG hT (hoka x (by simp [Op.operands]))
    have hm:moved ⟨dst,.assign x,type,pos,after,guard⟩ T=qU T x:=by cases x <;> rfl
    rw [hm];exact this
   case extract x i =>
    have:=ab8 hG hT (hoka x (by simp [Op.operands])) hV
    have hm:moved ⟨dst,.extract x i,type,pos,after,guard⟩ T=(Y6 T i x):=by cases x <;> rfl
    rw [hm];exact this
  ·
   have hh:hands ⟨dst,op,type,pos,after,guard⟩=false:=by simpa using hh
   rw [ahh hh hnc]
   by_cases hch:JO P ⟨dst,op,type,pos,after,guard⟩=false
   ·
    obtain ⟨rfl,a,h1,h2,h3⟩:=aaD hV hch hev (.inr hG) (.inr hG)
    rw [h1]
    exact Out.same hG hT (h3 hh)
   ·
    unfold vOp at hV
    unfold aOp
    cases op <;> dsimp only at hV hev ⊢ <;> first | (cases hV;done) | (exact absurd rfl hch) | (cases hh;done) | skip
    case alloc e=>exact aeW hG hT hV
    case box x _=>exact aiG hG hT hV (hev x (by simp [Op.operands]))
    case buildSlice t len parts _ =>
     have hps:=aa6 (μ:=μ) (H:=H) (parts:=parts.toList) (ρ:=wE T) (ρA:=wE A) fun p hp=>hev p.2 (by simp [Op.operands];exact ⟨p.1,by simpa using hp⟩)
     split at hV
     ·
      exact abh hG hT hV hps
     ·
      exact Xo hG hT hV hps
    case makeMap t r _=>exact abW hG hT hV (fun h=>by cases r <;> simp at h ⊢)
    case mapUpdate t x k w _=>exact V9 hG hT hV (hev x (by simp [Op.operands])) (hev k (by simp [Op.operands])) (hev w (by simp [Op.operands]))
    case store a x _=>exact afj hG hT hV (hev a (by simp [Op.operands])) (hev x (by simp [Op.operands]))
    case makeSlice l c _ =>
     split at hV
     ·
      exact ab1 hG hT hV (hev l (by simp [Op.operands])) (hev c (by simp [Op.operands]))
     ·
      exact Vk hG hT hV (hev l (by simp [Op.operands])) (hev c (by simp [Op.operands]))
    case convert dst' x _ =>
     have hd:∃ e,P.underlying dst'=some (.slice e):=by
      unfold JO at hch
      dsimp only at hch
      split at hch
      ·
       exact ⟨_,by assumption⟩
      ·
       exact absurd rfl hch
     obtain ⟨e,hd⟩:=hd
     cases x with
     | tmp t=>exact QU hG hT hV (hT.slots t) hd
     | const w=>exact QU hG hT hV (VV.ku (ℓ:=none) (hoka (.const w) (by simp [Op.operands]))) hd
     | global g=>have:=hoka (.global g) (by simp [Op.operands]);cases this
     | func f=>exact QU hG hT hV (ℓ:=none) ((hT.eval (x:=.func f) rfl).at0) hd
theorem ae4 {ops:Array Oper} (hT:TI μ H ω T A) (j:Nat):ynd ops T j=ynd ops A j:=by
 unfold ynd
 cases hd:(ops[j]?).bind (·.dst) with
 | none=>rfl
 | some d =>
  simp only [Option.bind_some]
  have:=hT.slots d
  have e:=hT.len
  by_cases hlt:d < T.length
  ·
   have hlt':d < A.length:=by rw [← e];exact hlt
   simp only [List.getD_eq_getElem?_getD,List.getElem?_eq_getElem hlt,List.getElem?_eq_getElem hlt',Option.getD_some] at this
   rw [List.getElem?_eq_getElem hlt,List.getElem?_eq_getElem hlt']
   generalize T[d]=u at *
   generalize A[d]=u' at *
   cases this <;> rfl
  ·
   have hlt':A.length≤d:=by rw [← e];exact Nat.le_of_not_lt hlt
   rw [List.getElem?_eq_none (Nat.le_of_not_lt hlt),List.getElem?_eq_none hlt']
theorem TI.moved (hT:TI μ H ω T A) (o:Oper):TI μ H ω (moved o T) A:=by
 have slot:∀ t,TI μ H ω (xW T t) A:=by
  intro t
  refine ⟨by simp [xW,hT.len],fun i=>?_,hT.dom,hT.nores⟩
  rw [xW,kU]
  split
  ·
   rename_i h;rw [h.1];exact (hT.slots t).dem
  ·
   exact hT.slots i
 unfold Go.Abs.moved
 split
 ·
  exact slot _
 ·
  exact slot _
 ·
  rename_i t i _
  refine ⟨by simp [hT.len],fun k=>?_,hT.dom,hT.nores⟩
  rw [kU]
  split
  ·
   rename_i h
   rw [h.1]
   have:=hT.slots t
   generalize T.getD t zh=w at this
   cases w with
   | tuple vs =>
    simp only [zO]
    generalize A.getD t zh=a at this
    cases this with
    | sg hs=>simp [Go.Abs.sg] at hs
    | nores=>rw [show (#[]:Array Value).modify i Go.Abs.vF=#[] by simp];exact .nores
    | @tuple _ _ y hxs hxx =>
     refine .tuple (by simpa using hxs) fun j=>?_
     rw [getD_modify _ _ _ _ rfl]
     by_cases hj:j=i
     ·
      subst hj
      rw [if_pos rfl]
      exact (hxx j).part (fun s hs k=>by cases hs;rfl)
     ·
      rw [if_neg hj];exact hxx j
   | _=>exact this
  ·
   exact hT.slots k
 ·
  split
  ·
   exact slot _
  ·
   exact hT
 ·
  exact hT
def After (μ:Mu) (ω:Nat→Option kV) (H:zn) (T':List Value) (S':zn) (R:Option (List Value×zn)):Prop :=
 ∃ A' H' μ' ω',R=some (A',H')∧GI μ' S' H'∧Later μ H μ' H'∧Kept ω H ω' H'∧TI μ' H' ω' T' A'
theorem acO {fx:Fx} (hc:Qv P call) {o:Oper} {rest:List Oper} {v:Value} (hG:GI μ S H) (hT:TI μ H ω T A) (h:qR P fx call T o S=some (v,S')) :
  ∃ a H' μ' ω',kC P (lim P) A o H=some (a,H')∧GI μ' S' H'∧Later μ H μ' H'∧Kept ω H ω' H'∧TI μ' H' ω' (Jk o rest T v) (YQ A o.dst a):=by
 unfold Jk
 split
 ·
  rename_i hl
  have hm:∃ x,o.op=.move x:=by
   unfold akT at hl
   split at hl
   ·
    rename_i x _ he _;exact ⟨x,he⟩
   ·
    cases hl
  obtain ⟨x,hx⟩:=hm
  unfold qR at h
  split at h <;> first | (cases h;done) | skip
  rename_i hok
  have hox:vg x=true:=List.all_eq_true.1 (show o.op.operands.toList.all vg=true from hok) x (by rw [hx];simp [Op.operands])
  rw [hx] at h
  dsimp only at h
  unfold vOp at h
  rw [hx] at h
  cases h
  have ha:kC P (lim P) A o H=some (wE A x,H):=by
   unfold kC
   rw [if_pos hok,hx]
   dsimp only
   unfold aOp
   rw [hx]
   rfl
  rw [ha]
  exact (Out.same hG hT (hT.eval hox)).put o.dst
 ·
  exact (agQ hc hG hT h).put o.dst
theorem Qd {o:Oper} {rest:List Oper} (hG:GI μ S H) (hT:TI μ H ω T A):∃ μ' ω',GI μ' S H∧Later μ H μ' H∧Kept ω H ω' H∧TI μ' H ω' (Jk o rest T zh) (YQ A o.dst zh):=by
 unfold Jk
 split
 ·
  rw [show dem zh=zh from JV]
  obtain ⟨a,H1,μ1,ω1,h1,h2,h3,h4,h5⟩:=(Out.same hG hT (VV.zh)).put o.dst
  cases h1
  exact ⟨μ1,ω1,h2,h3,h4,h5⟩
 ·
  obtain ⟨a,H1,μ1,ω1,h1,h2,h3,h4,h5⟩:=(Out.same hG (hT.moved o) (VV.zh)).put o.dst
  cases h1
  exact ⟨μ1,ω1,h2,h3,h4,h5⟩
theorem aju {fx:Fx} (hc:Qv P call) {ops:Array Oper}:∀ (l:List Oper) (T T' A:List Value) (S S' H:zn) (μ:Mu) (ω:Nat→Option kV),jw P fx call ops l T S=some (T',S')→GI μ S H→TI μ H ω T A→After μ ω H T' S' (abq P (lim P) ops l A H):=by
 intro l
 induction l with
 | nil =>
  intro T T' A S S' H μ ω h hG hT
  simp only [jw,Option.some.injEq,Prod.mk.injEq] at h
  obtain ⟨rfl,rfl⟩:=h
  exact ⟨A,H,μ,ω,rfl,hG,Later.refl _ _,Kept.refl _ _,hT⟩
 | cons o l ih =>
  intro T T' A S S' H μ ω h hG hT
  have hy:(ynd ops T)=ynd ops A:=funext fun j=>ae4 hT j
  simp only [jw] at h
  simp only [abq,← hy]
  split at h
  ·
   rename_i hw
   split at h
   ·
    rename_i v S1 hs
    obtain ⟨a,H1,μ1,ω1,h1,h2,h3,h4,h5⟩:=acO (rest:=l) hc hG hT hs
    obtain ⟨A2,H2,μ2,ω2,k1,k2,k3,k4,k5⟩:=ih _ _ _ _ _ _ _ _ h h2 h5
    refine ⟨A2,H2,μ2,ω2,?_,k2,h3.trans k3,h4.trans k4,k5⟩
    rw [if_pos hw,h1]
    exact k1
   ·
    cases h
  ·
   rename_i hw
   obtain ⟨μ1,ω1,h2,h3,h4,h5⟩:=Qd (o:=o) (rest:=l) hG hT
   obtain ⟨A2,H2,μ2,ω2,k1,k2,k3,k4,k5⟩:=ih _ _ _ _ _ _ _ _ h h2 h5
   refine ⟨A2,H2,μ2,ω2,?_,k2,h3.trans k3,h4.trans k4,k5⟩
   rw [if_neg hw]
   exact k1
end
end Go.Abs
namespace Go.Abs
open Go.RowKit
section
variable {P:Program} {call:FuncId→List Value→M Value} {μ μ2:Mu} {S S' G H H2:zn} {T A:List Value}
theorem JQ.two {s:M Value} (hs:JQ s) {a:Value} {G':zn} (h:s G=some (a,G')):∀ H,s H=some (a,H):=by
 obtain ⟨o,ho⟩:=hs
 rw [ho] at h
 cases o with
 | none=>cases h
 | some w =>
  simp only [Option.map_some,Option.some.injEq,Prod.mk.injEq] at h
  intro H
  rw [ho,h.1];rfl
theorem abw {t:TypeId} {ps:List (Nat×Value)}:JQ (yg P t ps):=by
 refine ⟨(yg P t ps zn.empty).map (·.1),fun H=>?_⟩
 unfold yg
 split
 ·
  split
  ·
   split
   ·
    split
    ·
     split <;> rfl
    ·
     rfl
   ·
    split
    ·
     split <;> rfl
    ·
     rfl
   ·
    rfl
  ·
   rfl
 ·
  rfl
theorem Xq {x:Value}:JQ (Zu x):=by
 refine ⟨(Zu x zn.empty).map (·.1),fun H=>?_⟩
 unfold Zu
 split <;> rfl
theorem abS {t:TypeId} {x i:Value}:JQ (Ja P t x i):=by
 unfold Ja
 refine ⟨(Ja P t x i zn.empty).map (·.1),fun H=>?_⟩
 unfold Ja
 dsimp only
 split
 ·
  split
  ·
   split
   ·
    split <;> rfl
   ·
    rfl
  ·
   rfl
 ·
  obtain ⟨o,ho⟩:=kF (P:=P) _ _
  rw [ho,ho]
  cases o <;> rfl
 ·
  rfl
theorem ae7 {t:TypeId} {x:Value} (hx:∀ m,x≠.map m):JQ (abr P t x):=by
 refine ⟨(abr P t x zn.empty).map (·.1),fun H=>?_⟩
 unfold abr
 split <;> first | rfl | exact absurd rfl (hx _)
theorem Kz {d:Nat} {v:Value} (h:okq d v=true):okq d (dem v)=true:=by
 cases v with
 | iface k v=>cases d <;> rfl
 | tuple vs=>cases d <;> cases h
 | _=>exact h
theorem KT:∀ (d:Nat) {v a:Value},okq d v=true→V0 μ H v a→aek d a a=true:=by
 intro d
 induction d with
 | zero =>
  intro v a h hv
  cases hv <;> first | (cases h;done) | (simp [aek];done) | skip
  rename_i hs
  cases v <;> first | (simp [aek];done) | (simp [Go.Abs.sg] at hs;done) | skip
 | succ d ih =>
  intro v a h hv
  cases hv <;> first | (cases h;done) | (simp [aek];done) | skip
  ·
   rename_i hs
   cases v <;> first | (simp [aek];done) | (simp [Go.Abs.sg] at hs;done) | skip
  ·
   rename_i x x' hx hh
   unfold aek
   simp only [decide_true,Bool.true_and]
   rw [List.all_eq_true]
   intro p hp
   obtain ⟨i,hi,he⟩:=List.mem_iff_getElem.1 hp
   simp only [List.length_zip,Nat.min_self] at hi
   rw [List.getElem_zip] at he
   subst he
   have hi':i < x'.size:=by simpa using hi
   have hi2:i < x.size:=by rw [hx];exact hi'
   have h2:=hh i
   rw [Array.getD_eq_getD_getElem?,Array.getElem?_eq_getElem hi2,Array.getD_eq_getD_getElem?,Array.getElem?_eq_getElem hi'] at h2
   have h3:okq d x[i]=true:=List.all_eq_true.1 (show x.toList.all (okq d)=true from h) _ (by simp)
   have:=ih h3 h2
   simpa using this
theorem adg (x:Value):abn (dem x)=abn x:=by cases x <;> rfl
theorem aiC {fx:Fx} {o:Oper} {v:Value} (hdr:fx.dr=true) (h:qR P fx call T o S=some (v,S')) (hn:JO P o=false) (hr:Zp o=false) (ho:∀ x ∈ o.op.operands.toList,V0 μ G (dem (wE T x)) (wE A x)) :
  ∃ a,V0 μ G (dem v) a∧∀ H,aOp P (wE A) o H=some (a,H)∧kC P (lim P) A o H=some (a,H):=by
 have hrm:vS o=false:=by
  unfold Zp at hr
  unfold vS
  split <;> simp_all
 unfold qR at h
 split at h <;> first | (cases h;done) | skip
 rename_i hok
 obtain ⟨dst,op,type,pos,after,guard⟩:=o
 by_cases hcall:∃ c,op=.call c
 ·
  obtain ⟨c,rfl⟩:=hcall
  dsimp only at h ho
  unfold JO at hn
  dsimp only at hn
  have hcargs:∀ x ∈ c.args.toList,V0 μ G (dem (wE T x)) (wE A x):=by
   intro x hx
   refine ho x ?_
   simp only [Op.operands,Call.operands]
   cases c.callee <;> simp <;> first | exact .inr (by simpa using hx) | exact (by simpa using hx)
  have step:∀ {b:Builtin} (a:Value),c.callee=.builtin b→(∀ H,Zm P b c.argTypes type (c.args.toList.map (wE A)) H=some (a,H))→∀ H,aOp P (wE A) ⟨dst,.call c,type,pos,after,guard⟩ H=some (a,H)∧kC P (lim P) A ⟨dst,.call c,type,pos,after,guard⟩ H=some (a,H):=by
   intro b a hb hall H
   constructor
   ·
    unfold aOp;dsimp only;rw [hb];exact hall H
   ·
    unfold kC;rw [if_pos hok];dsimp only;rw [hb];exact hall H
  cases hcal:c.callee with
  | value f=>rw [hcal] at hn;cases hn
  | invoke r m=>rw [hcal] at hn;cases hn
  | builtin b =>
   rw [hcal] at h
   dsimp only at h
   unfold V5 at h
   rw [hcal] at hn
   have gargs:(c.args.toList.map (wE T)).all ground=true→c.args.toList.map (wE A)=c.args.toList.map (wE T):=by
    intro hg
    apply List.map_congr_left
    intro x hx
    exact wW (hcargs x hx) (List.all_eq_true.1 hg _ (List.mem_map.2 ⟨x,hx,rfl⟩))
   cases b <;> dsimp only at h hn <;> first | (cases h;done) | (cases hn;done) | skip
   case len =>
    split at h <;> first | (cases h;done) | skip
    rename_i t x0 ht ha
    obtain ⟨x,hx,rfl⟩:∃ x,c.args.toList=[x]∧wE T x=x0:=by
     match hl:c.args.toList with
     | []=>rw [hl] at ha;cases ha
     | [y]=>rw [hl] at ha;simp at ha;exact ⟨y,rfl,ha⟩
     | y::z::w=>rw [hl] at ha;simp at ha
    have hxv:=hcargs x (by rw [hx];simp)
    obtain ⟨rfl,a,h1,h2⟩:=aeF h hxv
    have hmap:∀ m,wE A x≠.map m:=by
     intro m hm
     rw [hm] at hxv
     generalize hu:dem (wE T x)=u at hxv
     have hum:∃ m',u=.map m':=by cases hxv <;> exact ⟨_,rfl⟩
     obtain ⟨m',rfl⟩:=hum
     have:wE T x=.map m':=by
      cases hv:wE T x <;> rw [hv] at hu <;> simp [dem,vF] at hu <;> rw [hu]
     rw [this] at h
     simp [Zz] at h
    refine ⟨a,h2.dem,step a hcal fun H=>?_⟩
    unfold Zm
    dsimp only
    rw [ht,hx]
    exact (ae7 hmap).two h1 H
   case min =>
    obtain ⟨rfl,hg,hga,hh⟩:=qJ (H:=G) h
    refine ⟨v,(V0.ground hg).dem,step v hcal fun H=>?_⟩
    unfold Zm
    dsimp only
    rw [gargs hga]
    exact (kF _ _).two hh H
   case max =>
    obtain ⟨rfl,hg,hga,hh⟩:=qJ (H:=G) h
    refine ⟨v,(V0.ground hg).dem,step v hcal fun H=>?_⟩
    unfold Zm
    dsimp only
    rw [gargs hga]
    exact (kF _ _).two hh H
 ·
  have hnc:∀ c,op≠.call c:=fun c hc=>hcall ⟨c,hc⟩
  have hV:vOp P fx (wE T) ⟨dst,op,type,pos,after,guard⟩ S=some (v,S'):=by
   cases op <;> first | exact h | exact absurd rfl (hnc _)
  obtain ⟨rfl,a,h1,h2,h3⟩:=aaD (ρA:=wE A) hV hn ho (.inl (Y8 hrm)) (.inl hdr)
  have hA:∀ H,kC P (lim P) A ⟨dst,op,type,pos,after,guard⟩ H=aOp P (wE A) ⟨dst,op,type,pos,after,guard⟩ H:=by
   intro H
   unfold kC
   rw [if_pos hok]
   cases op <;> first | rfl | exact absurd rfl (hnc _)
  refine ⟨a,h2,fun H=>?_⟩
  rw [hA]
  have key:aOp P (wE A) ⟨dst,op,type,pos,after,guard⟩ H=some (a,H):=by
   have hf:JQ (aOp P (wE A) ⟨dst,op,type,pos,after,guard⟩):=by
    unfold JO at hn
    unfold Zp at hr
    unfold aOp
    unfold vOp at hV
    cases op <;> dsimp only at hn hr hV ⊢ <;> first | (cases hn;done) | (cases hr;done) | (cases hV;done) | skip
    ·
     exact QZ _
    ·
     exact QZ _
    ·
     exact adE _ _ _
    ·
     exact abw
    ·
     exact Xq
    ·
     exact aaN _ _ _ _
    ·
     exact ahb _ _
    ·
     exact QZ _
    ·
     exact KU _ _ _
    ·
     exact abJ _ _ _
    ·
     exact Kw _ _ _
    ·
     exact abS
    ·
     exact aah _ _
   exact hf.two h1 H
  exact ⟨key,key⟩
theorem af7 {t:TypeId} {r o e:Nat} {l:List Value} {own own':Own} {a:Value} (hg:G.get r=some (.cells l own e)) (hg':H2.get r=some (.cells l own' e)) (h:xk P t (.pointer (some ⟨r,o,none⟩)) G=some (a,G)) :
  xk P t (.pointer (some ⟨r,o,none⟩)) H2=some (a,H2):=by
 simp only [xk,hg] at h
 simp only [xk,hg']
 (repeat' split at h) <;> first | (cases h;done) | skip
 all_goals simp_all
theorem VV.backed {v:Value} {r o n c:Nat} (h:V0 μ G v (.slice (some ⟨r,o,none⟩) n c)) (hv:abn v=false):∃ l own e,r < G.next∧Xf μ r∧G.get r=some (.cells l own e):=by
 cases h with
 | sg hs=>simp [Go.Abs.sg] at hs
 | slm hm=>simp [abn] at hv
 | sl hr hp hg _ _ _=>exact ⟨_,_,_,hr,hp,hg⟩
theorem adW {x:Value} {n:Nat} {cs:List Value} (hx:∀ r o n c,x=.slice (some ⟨r,o,none⟩) n c→∃ l own own' e,G.get r=some (.cells l own e)∧H2.get r=some (.cells l own' e)) (h:xw x n G=some cs):xw x n H2=some cs:=by
 unfold xw at h ⊢
 split at h
 ·
  rename_i r o k c
  obtain ⟨l,own,own',e,hg,hg'⟩:=hx _ _ _ _ rfl
  rw [hg] at h
  rw [hg']
  exact h
 ·
  exact h
 ·
  exact h
 ·
  cases h
theorem aeJ {src dst:TypeId} {x a:Value} (hd:∀ e,P.underlying dst≠some (.slice e)) (hx:∀ r o n c,x=.slice (some ⟨r,o,none⟩) n c→∃ l own own' e,G.get r=some (.cells l own e)∧H2.get r=some (.cells l own' e)) (h:qZ P src dst x G=some (a,G)) :
  qZ P src dst x H2=some (a,H2):=by
 unfold qZ at h ⊢
 split at h
 ·
  rename_i b n c
  (try dsimp only)
  split at h
  ·
   rename_i e hs hdd
   split at h <;> first | (cases h;done) | skip
   rename_i he
   split at h <;> first | (cases h;done) | skip
   rename_i cs hcs
   rw [adW hx hcs]
   (try dsimp only)
   split at h <;> first | (cases h;done) | skip
   rename_i bs hbs
   (try rw [hbs])
   cases h
   rfl
  ·
   rename_i e0 e hs hdd
   exact absurd hdd (hd e)
  ·
   cases h
 ·
  rename_i s
  (try dsimp only)
  split at h
  ·
   rename_i d e hs hdd
   exact absurd hdd (hd e)
  ·
   exact (kF _ _).two h H2
 ·
  exact (kF _ _).two h H2
theorem adG {t:TypeId} {x a:Value} {lo hi:Option Value} (hx:∀ r o n c,x=.slice (some ⟨r,o,none⟩) n c→∃ l own own' e,G.get r=some (.cells l own e)∧H2.get r=some (.cells l own' e)) (h:Zf P t x lo hi G=some (a,G)) :
  Zf P t x lo hi H2=some (a,H2):=by
 unfold Zf at h ⊢
 split at h
 ·
  rename_i s hu
  exact (kF _ _).two h H2
 ·
  rename_i e b n c hu
  (try dsimp only)
  split at h <;> first | (cases h;done) | skip
  rename_i size l hh hs hl hhi
  (try simp only [hs,hl,hhi])
  split at h <;> first | (cases h;done) | skip
  rename_i c0
  split at h <;> first | (cases h;done) | skip
  rename_i c1
  split at h <;> first | (cases h;done) | skip
  rename_i c2
  rw [if_pos c0,if_pos c1,if_pos c2]
  split at h
  ·
   split at h <;> first | (cases h;done) | skip
   rename_i hn
   cases h
   rw [if_pos hn]
  ·
   rename_i r o
   obtain ⟨l2,own,own',e2,hg,hg'⟩:=hx _ _ _ _ rfl
   rw [hg] at h
   rw [hg']
   dsimp only at h ⊢
   split at h <;> first | (cases h;done) | skip
   rename_i he
   rw [if_pos he]
   cases h
   rfl
  ·
   split at h <;> first | (cases h;done) | skip
   rename_i hn
   cases h
   rw [if_pos hn]
  ·
   cases h
 ·
  cases h
theorem adH {t:TypeId} {r o:Nat} {a:Value} {G':zn} (hg:H2.get r=G.get r) (h:xk P t (.pointer (some ⟨r,o,none⟩)) G=some (a,G')):xk P t (.pointer (some ⟨r,o,none⟩)) H2=some (a,H2):=by
 simp only [xk] at h ⊢
 rw [hg]
 (repeat' split at h) <;> first | (cases h;done) | skip
 all_goals simp_all
theorem aaX {t:TypeId} {x k:Value} {ok:Bool} {a:Value} {G':zn} (hg:∀ r,x=.map (some r)→H2.get r=G.get r) (h:qF P t x k ok G=some (a,G')):qF P t x k ok H2=some (a,H2):=by
 have e:∀ H:zn,qF P t x k ok H=(qF P t x k ok H).map (fun r=>(r.1,H)):=by
  intro H
  unfold qF
  (try dsimp only)
  (repeat' split) <;> rfl
 have e2:(qF P t x k ok H2).map (·.1)=(qF P t x k ok G).map (·.1):=by
  cases x with
  | map b =>
   cases b with
   | none=>unfold qF;dsimp only;(repeat' split) <;> rfl
   | some r =>
    unfold qF
    dsimp only
    rw [hg r rfl]
    (repeat' split) <;> rfl
  | _=>unfold qF;(try dsimp only) <;> (try ((repeat' split) <;> rfl))
 rw [h] at e2
 rw [e H2]
 cases hh:qF P t x k ok H2 with
 | none=>rw [hh] at e2;cases e2
 | some w =>
  rw [hh] at e2
  simp only [Option.map_some,Option.some.injEq] at e2 ⊢
  rw [e2]
theorem ai3 {fx:Fx} {o:Oper} {v:Value} (hdr:fx.dr=true) (h:qR P fx call T o S=some (v,S')) (hn:JO P o=false) (hm:Jv (wE T) o) (ho:∀ x ∈ o.op.operands.toList,V0 μ G (dem (wE T x)) (wE A x)) (hL:Later μ G μ2 H2) :
  ∃ a,V0 μ G (dem v) a∧aOp P (wE A) o G=some (a,G)∧aOp P (wE A) o H2=some (a,H2)∧kC P (lim P) A o G=some (a,G)∧kC P (lim P) A o H2=some (a,H2):=by
 by_cases hr:Zp o=false
 ·
  obtain ⟨a,h1,h2⟩:=aiC hdr h hn hr ho
  exact ⟨a,h1,(h2 G).1,(h2 H2).1,(h2 G).2,(h2 H2).2⟩
 ·
  unfold qR at h
  split at h <;> first | (cases h;done) | skip
  rename_i hok
  obtain ⟨dst,op,type,pos,after,guard⟩:=o
  unfold Zp at hr
  cases op <;> dsimp only at h hr <;> first | (exact absurd rfl hr) | skip
  case load t addr =>
   obtain ⟨rfl,a,h1,h2,h3⟩:=aaD (ρA:=wE A) h hn ho (.inl hm) (.inl hdr)
   have hA:∀ H,kC P (lim P) A ⟨dst,.load t addr,type,pos,after,guard⟩ H=aOp P (wE A) ⟨dst,.load t addr,type,pos,after,guard⟩ H:=fun H=>by unfold kC;rw [if_pos hok]
   have key:aOp P (wE A) ⟨dst,.load t addr,type,pos,after,guard⟩ H2=some (a,H2):=by
    have hx:=ho addr (by simp [Op.operands])
    have h:jf P fx.nm t (wE T addr) S'=some (v,S'):=h
    unfold aOp at h1 ⊢
    dsimp only at h1 ⊢
    unfold jf at h
    split at h
    ·
     rename_i k cs he
     split at h <;> first | (cases h;done) | skip
     rename_i hk
     subst hk
     rw [he] at hx
     have hx:V0 μ G (.iface 3 (.agg cs)) (wE A addr):=hx
     generalize hq:wE A addr=q at hx h1 ⊢
     cases hx with
     | sg hs=>simp [Go.Abs.sg] at hs
     | ep hr hp hg hl hc =>
      obtain ⟨own',hg'⟩:=hL.cells _ _ _ _ hr hp hg
      exact af7 hg hg' h1
    ·
     rename_i ad he
     exact absurd he (hm ad)
    ·
     cases h
   exact ⟨a,h2,h1,key,by rw [hA];exact h1,by rw [hA];exact key⟩
  case convert src d x =>
   obtain ⟨rfl,a,h1,h2,h3⟩:=aaD (ρA:=wE A) h hn ho (.inl hm) (.inl hdr)
   have hA:∀ H,kC P (lim P) A ⟨dst,.convert src d x,type,pos,after,guard⟩ H=aOp P (wE A) ⟨dst,.convert src d x,type,pos,after,guard⟩ H:=fun H=>by unfold kC;rw [if_pos hok]
   have key:aOp P (wE A) ⟨dst,.convert src d x,type,pos,after,guard⟩ H2=some (a,H2):=by
    have hx:=ho x (by simp [Op.operands])
    unfold aOp at h1 ⊢
    dsimp only at h1 ⊢
    refine aeJ (fun e he=>?_) (fun r o n c hq=>?_) h1
    ·
     unfold JO at hn
     dsimp only at hn
     rw [he] at hn;cases hn
    ·
     rw [hq] at hx
     have hh:abn (dem (wE T x))=false:=by
      rw [adg]
      have h:qA P fx.hp fx.dr src d (wE T x) S'=some (v,S'):=h
      unfold qA at h
      split at h
      ·
       first | (cases h;done) | (rw [hdr] at h;simp at h)
      ·
       rename_i hh;simpa using hh
     obtain ⟨l,own,e,hr,hp,hg⟩:=hx.backed hh
     obtain ⟨own',hg'⟩:=hL.cells _ _ _ _ hr hp hg
     exact ⟨l,own,own',e,hg,hg'⟩
   exact ⟨a,h2,h1,key,by rw [hA];exact h1,by rw [hA];exact key⟩
  case slice t x lo hi mx =>
   obtain ⟨rfl,a,h1,h2,h3⟩:=aaD (ρA:=wE A) h hn ho (.inl hm) (.inl hdr)
   have hA:∀ H,kC P (lim P) A ⟨dst,.slice t x lo hi mx,type,pos,after,guard⟩ H=aOp P (wE A) ⟨dst,.slice t x lo hi mx,type,pos,after,guard⟩ H:=fun H=>by unfold kC;rw [if_pos hok]
   have key:aOp P (wE A) ⟨dst,.slice t x lo hi mx,type,pos,after,guard⟩ H2=some (a,H2):=by
    have hx:=ho x (by simp [Op.operands])
    unfold aOp at h1 ⊢
    cases mx with
    | some m=>cases h1
    | none =>
     dsimp only at h1 ⊢
     refine adG (fun r o n c hq=>?_) h1
     rw [hq] at hx
     have hh:abn (dem (wE T x))=false:=by
      rw [adg]
      have h:ZC P fx.dr t (wE T x) (lo.map (wE T)) (hi.map (wE T)) S'=some (v,S'):=h
      unfold ZC at h
      split at h
      ·
       first | (cases h;done) | (rw [hdr] at h;simp at h)
      ·
       rename_i hh;simpa using hh
     obtain ⟨l,own,e,hr,hp,hg⟩:=hx.backed hh
     obtain ⟨own',hg'⟩:=hL.cells _ _ _ _ hr hp hg
     exact ⟨l,own,own',e,hg,hg'⟩
   exact ⟨a,h2,h1,key,by rw [hA];exact h1,by rw [hA];exact key⟩
  case lookup t x k ok =>
   exact hm.elim
end
end Go.Abs
namespace Go.Abs
open Go.RowKit
structure Line (P : Program) (fx : Fx) (chk : List Nat) (call : FuncId → List Value → M Value) (ops : Array Oper) (k0 : Nat) (l : List Oper) (Ts As : Nat → List Value) (Ss Hs : Nat → zn) (μs : Nat → Mu) (ωs : Nat → Nat → Option kV) (vs zf : Nat → Value) : Prop where
  inv : ∀ k, k ≤ l.length → GI (μs k) (Ss k) (Hs k) ∧ TI (μs k) (Hs k) (ωs k) (Ts k) (As k)
  step : ∀ k o, l[k]? = some o → Later (μs k) (Hs k) (μs (k + 1)) (Hs (k + 1)) ∧ Kept (ωs k) (Hs k) (ωs (k + 1)) (Hs (k + 1)) ∧
    ((Region.wanted o (ynd ops (As k)) = true ∧ qR P fx call (Ts k) o (Ss k) = some (vs k, Ss (k + 1)) ∧ kC P (lim P) (As k) o (Hs k) = some (zf k, Hs (k + 1)) ∧
        Ts (k + 1) = Jk o (l.drop (k + 1)) (Ts k) (vs k) ∧ As (k + 1) = YQ (As k) o.dst (zf k) ∧ (chk.contains (k0 + k) = true → okq 3 (vs k) = true)) ∨
     (Region.wanted o (ynd ops (As k)) = false ∧ zf k = zh ∧ Ts (k + 1) = Jk o (l.drop (k + 1)) (Ts k) zh ∧ As (k + 1) = YQ (As k) o.dst zh ∧ Hs (k + 1) = Hs k))
section
variable {P:Program} {call:FuncId→List Value→M Value}
theorem line_of {fx : Fx} {chk : List Nat} {nl : List (Nat × Nat)} (hc : Qv P call) {ops : Array Oper} : ∀ (l : List Oper) (k0 : Nat) (hist : List (Value × zn)) (T T' A : List Value) (S S' H : zn) (μ : Mu) (ω : Nat → Option kV), qg P fx chk nl call ops k0 hist l T S = some (T', S') → GI μ S H → TI μ H ω T A →
    ∃ Ts As Ss Hs μs ωs vs zf tr, Line P fx chk call ops k0 l Ts As Ss Hs μs ωs vs zf ∧ Ts 0 = T ∧ As 0 = A ∧ Ss 0 = S ∧ Hs 0 = H ∧ μs 0 = μ ∧ ωs 0 = ω ∧ Ts l.length = T' ∧ Ss l.length = S' ∧
      xU P (lim P) ops l A H = some (tr, As l.length, Hs l.length) ∧ (∀ k, k < l.length → tr[k]? = some (As k, Hs k, zf k)) ∧ (∀ k, k ≤ l.length → (tr.map (·.2.1) ++ [Hs l.length])[k]? = some (Hs k)) ∧
      ∃ hs : List (Value × zn), hs.length = l.length ∧ (∀ k o, l[k]? = some o → hs[k]? = some (ZX (Ts k) o, Ss k)) ∧ (nl.isEmpty = false → nl.all (acE (hist ++ hs ++ [(zh, S')])) = true) := by
  intro l
  induction l with
  | nil =>
    intro k0 hist T T' A S S' H μ ω h hG hT
    simp only [qg] at h
    split at h <;> first | (cases h; done) | skip
    rename_i hst
    cases h
    refine ⟨fun _ => T, fun _ => A, fun _ => S, fun _ => H, fun _ => μ, fun _ => ω, fun _ => zh, fun _ => zh, [], ⟨fun k _ => ⟨hG, hT⟩, fun k o ho => by simp at ho⟩, rfl, rfl, rfl, rfl, rfl, rfl, rfl, rfl, rfl, fun k hk => by simp at hk, fun k hk => ?_, [], rfl, fun k o ho => by simp at ho, fun he => ?_⟩
    · have : k = 0 := by simpa using hk
      subst this
      rfl
    · simpa [Zv, he] using hst
  | cons o l ih =>
    intro k0 hist T T' A S S' H μ ω h hG hT
    have hy : (ynd ops T) = ynd ops A := funext fun j => ae4 hT j
    simp only [qg] at h
    have glue : ∀ (T1 A1 : List Value) (S1 H1 : zn) (μ1 : Mu) (ω1 : Nat → Option kV) (v a : Value), qg P fx chk nl call ops (k0 + 1) (Zv nl hist (ZX T o) S) l T1 S1 = some (T', S') → GI μ1 S1 H1 → TI μ1 H1 ω1 T1 A1 → Later μ H μ1 H1 → Kept ω H ω1 H1 →
        ((Region.wanted o (ynd ops A) = true ∧ qR P fx call T o S = some (v, S1) ∧ kC P (lim P) A o H = some (a, H1) ∧ T1 = Jk o l T v ∧ A1 = YQ A o.dst a ∧ (chk.contains k0 = true → okq 3 v = true)) ∨
         (Region.wanted o (ynd ops A) = false ∧ a = zh ∧ T1 = Jk o l T zh ∧ A1 = YQ A o.dst zh ∧ H1 = H)) →
        (∀ tr A2 H2, xU P (lim P) ops l A1 H1 = some (tr, A2, H2) → xU P (lim P) ops (o :: l) A H = some ((A, H, a) :: tr, A2, H2)) →
        ∃ Ts As Ss Hs μs ωs vs zf tr, Line P fx chk call ops k0 (o :: l) Ts As Ss Hs μs ωs vs zf ∧ Ts 0 = T ∧ As 0 = A ∧ Ss 0 = S ∧ Hs 0 = H ∧ μs 0 = μ ∧ ωs 0 = ω ∧ Ts (o :: l).length = T' ∧ Ss (o :: l).length = S' ∧
          xU P (lim P) ops (o :: l) A H = some (tr, As (o :: l).length, Hs (o :: l).length) ∧ (∀ k, k < (o :: l).length → tr[k]? = some (As k, Hs k, zf k)) ∧ (∀ k, k ≤ (o :: l).length → (tr.map (·.2.1) ++ [Hs (o :: l).length])[k]? = some (Hs k)) ∧
          ∃ hs : List (Value × zn), hs.length = (o :: l).length ∧ (∀ k o', (o :: l)[k]? = some o' → hs[k]? = some (ZX (Ts k) o', Ss k)) ∧ (nl.isEmpty = false → nl.all (acE (hist ++ hs ++ [(zh, S')])) = true) := by
      intro T1 A1 S1 H1 μ1 ω1 v a hrest hG1 hT1 hL hK hstep htr
      obtain ⟨Ts, As, Ss, Hs, μs, ωs, vs, zf, tr, hline, e1, e2, e3, e4, e5, e6, e7, e8, e9, e10, e11, hs, e12, e13, e14⟩ := ih _ _ _ _ _ _ _ _ _ _ hrest hG1 hT1
      refine ⟨fun k => match k with | 0 => T | k + 1 => Ts k, fun k => match k with | 0 => A | k + 1 => As k, fun k => match k with | 0 => S | k + 1 => Ss k, fun k => match k with | 0 => H | k + 1 => Hs k,
        fun k => match k with | 0 => μ | k + 1 => μs k, fun k => match k with | 0 => ω | k + 1 => ωs k, fun k => match k with | 0 => v | k + 1 => vs k, fun k => match k with | 0 => a | k + 1 => zf k, (A, H, a) :: tr,
        ⟨fun k hk => ?_, fun k o' ho => ?_⟩, rfl, rfl, rfl, rfl, rfl, rfl, e7, e8, htr _ _ _ e9, fun k hk => ?_, fun k hk => ?_, (ZX T o, S) :: hs, by simp [e12], fun k o' ho => ?_, fun he => ?_⟩
      · cases k with
        | zero => exact ⟨hG, hT⟩
        | succ k => exact hline.inv k (by simpa using hk)
      · cases k with
        | zero =>
          simp only [List.getElem?_cons_zero, Option.some.injEq] at ho
          subst ho
          dsimp only
          rw [e1, e2, e3, e4, e5, e6]
          exact ⟨hL, hK, hstep⟩
        | succ k =>
          have := hline.step k o' (by simpa using ho)
          rw [show k0 + 1 + k = k0 + (k + 1) by omega] at this
          exact this
      · cases k with
        | zero => rfl
        | succ k => simpa using e10 k (by simpa using hk)
      · cases k with
        | zero => rfl
        | succ k => simpa using e11 k (by simpa using hk)
      · cases k with
        | zero =>
          simp only [List.getElem?_cons_zero, Option.some.injEq] at ho
          subst ho
          rfl
        | succ k => simpa using e13 k o' (by simpa using ho)
      · have := e14 he
        rw [show Zv nl hist (ZX T o) S = hist ++ [(ZX T o, S)] by simp [Zv, he]] at this
        simpa using this
    split at h
    · rename_i hw
      split at h
      · rename_i v S1 hs
        split at h <;> first | (cases h; done) | skip
        rename_i hchk
        obtain ⟨a, H1, μ1, ω1, h1, h2, h3, h4, h5⟩ := acO (rest := l) hc hG hT hs
        have hw' : Region.wanted o (ynd ops A) = true := by rw [← hy]; exact hw
        refine glue _ _ _ H1 μ1 ω1 v a h h2 h5 h3 h4 (.inl ⟨hw', hs, h1, rfl, rfl, fun hk => ?_⟩) (fun tr A2 H2 ht => ?_)
        · rw [hk] at hchk; simpa using hchk
        · simp only [xU, hw', if_true, h1, ht]
      · cases h
    · rename_i hw
      obtain ⟨μ1, ω1, h2, h3, h4, h5⟩ := Qd (o := o) (rest := l) hG hT
      have hw' : Region.wanted o (ynd ops A) = false := by rw [← hy]; simpa using hw
      refine glue _ _ _ H μ1 ω1 zh zh h h2 h5 h3 h4 (.inr ⟨hw', rfl, rfl, rfl, rfl⟩) (fun tr A2 H2 ht => ?_)
      simp only [xU, hw', ht]
      rfl
variable {fx:Fx} {chk:List Nat} {ops:Array Oper} {k0:Nat} {l:List Oper} {Ts As:Nat→List Value} {Ss Hs:Nat→zn} {μs:Nat→Mu} {ωs:Nat→Nat→Option kV} {vs zf:Nat→Value}
theorem Line.later (hl:Line P fx chk call ops k0 l Ts As Ss Hs μs ωs vs zf) {i:Nat}:∀ (d:Nat),i+d≤l.length→Later (μs i) (Hs i) (μs (i+d)) (Hs (i+d)):=by
 intro d
 induction d with
 | zero=>intro _;exact Later.refl _ _
 | succ d ih =>
  intro hd
  have ho:l[i+d]?=some l[i+d]:=List.getElem?_eq_getElem (by omega)
  exact (ih (by omega)).trans (hl.step (i+d) _ ho).1
theorem Line.kept (hl:Line P fx chk call ops k0 l Ts As Ss Hs μs ωs vs zf):∀ (d:Nat),d≤l.length→Kept (ωs 0) (Hs 0) (ωs d) (Hs d):=by
 intro d
 induction d with
 | zero=>intro _;exact Kept.refl _ _
 | succ d ih =>
  intro hd
  have ho:l[d]?=some l[d]:=List.getElem?_eq_getElem (by omega)
  exact (ih (by omega)).trans (hl.step d _ ho).2.1
theorem abA (i:Nat) (w:Value):dem (zO i w)=dem w:=by
 cases w with
 | tuple vs =>
  simp only [zO,dem]
  congr 1
  apply Array.ext (by simp)
  intro k h1 h2
  rw [Array.getElem_map,Array.getElem_map,Array.getElem_modify]
  split
  ·
   have:∀ v,vF (vF v)=vF v:=by
    intro v
    cases v with
    | iface k v =>
     simp only [vF]
     by_cases h:k=2
     ·
      rw [if_pos h,if_neg (by decide)]
     ·
      rw [if_neg h,if_neg h]
    | _=>rfl
   exact this _
  ·
   rfl
 | _=>rfl
theorem aa4 (o:Oper) (T:List Value) (t:Nat):dem ((moved o T).getD t zh)=dem (T.getD t zh):=by
 have slot:∀ t',dem ((xW T t').getD t zh)=dem (T.getD t zh):=by
  intro t'
  rw [xW,kU]
  split
  ·
   rename_i h;rw [h.1,Vw]
  ·
   rfl
 unfold moved
 split
 ·
  exact slot _
 ·
  exact slot _
 ·
  rw [kU]
  split
  ·
   rename_i h;rw [h.1,abA]
  ·
   rfl
 ·
  split
  ·
   exact slot _
  ·
   rfl
 ·
  rfl
theorem moved_length (o:Oper) (T:List Value):(moved o T).length=T.length:=by
 unfold moved
 split <;> first | simp [xW] | rfl | skip
 split <;> first | simp [xW] | rfl
theorem aaE {o:Oper} {rest:List Oper} {T:List Value} {v:Value} (hd:o.dst=none) (t:Nat):dem ((Jk o rest T v).getD t zh)=dem (T.getD t zh):=by
 unfold Jk
 rw [hd]
 split
 ·
  rfl
 ·
  exact aa4 o T t
theorem abp {o:Oper} {rest:List Oper} {T:List Value} {v:Value} {d:Nat} (hd:o.dst=some d) (t:Nat):dem ((Jk o rest T v).getD t zh)=if t=d∧d < T.length then dem v else dem (T.getD t zh):=by
 unfold Jk
 rw [hd]
 split
 ·
  simp only [YQ]
  rw [kU]
  split
  ·
   exact Vw v
  ·
   rfl
 ·
  simp only [YQ]
  rw [kU,moved_length]
  split
  ·
   rfl
  ·
   exact aa4 o T t
def Clear (μ:Mu) (G:zn) (bad:List Nat) (T A:List Value):Prop:=∀ t,bad.contains t=false→V0 μ G (dem (T.getD t zh)) (A.getD t zh)
theorem Clear.operands {μ:Mu} {G:zn} {bad:List Nat} {T A:List Value} (h:Clear μ G bad T A) {o:Oper} (hok:ahB o=true) (hc:xM bad o=true):∀ x ∈ o.op.operands.toList,V0 μ G (dem (wE T x)) (wE A x):=by
 intro x hx
 have h1:=List.all_eq_true.1 (show o.op.operands.toList.all vg=true from hok) x hx
 have h2:=List.all_eq_true.1 hc x hx
 cases x with
 | tmp t=>exact h t (by simpa using h2)
 | const v=>exact (VV.ku (μ:=μ) (H:=G) (ω:=W0) (ℓ:=none) h1).v0
 | global g=>cases h1
 | func f =>
  have:V0 μ G (.func (.func f) #[] #[]) (.func (.func f) #[] #[]):=.func _ rfl rfl (fun i=>by simpa using VV.zh) (fun i=>by simpa using VV.zh)
  exact this
theorem Ws {T:List Value} {o:Oper} {S S':zn} {v:Value} (h:qR P fx call T o S=some (v,S')):ahB o=true:=by
 unfold qR at h
 split at h
 ·
  assumption
 ·
  cases h
theorem adT {fx:Fx} {o:Oper} {T A:List Value} {v:Value} {S S' H:zn} {μ:Mu} (h:qR P fx call T o S=some (v,S')) (hnm:fx.nm=true) (hm:¬ Jv (wE T) o) (hG:GI μ S H) (ho:∀ x ∈ o.op.operands.toList,V0 μ H (dem (wE T x)) (wE A x)) :
  ground v=true∧∃ a,kC P (lim P) A o H=some (a,H)∧a=v:=by
 have hok:=Ws h
 unfold qR at h
 rw [if_pos hok] at h
 obtain ⟨dst,op,type,pos,after,guard⟩:=o
 unfold Jv at hm
 cases op <;> dsimp only at h hm <;> first | (exact absurd True.intro hm) | skip
 case load t a =>
  have h:jf P fx.nm t (wE T a) S=some (v,S'):=h
  obtain ⟨q,hq⟩:∃ q,wE T a=.pointer q:=Classical.byContradiction fun hn=>hm fun q hq=>hn ⟨q,hq⟩
  obtain ⟨rfl,w,k1,k2⟩:=Qy h (ho a (by simp [Op.operands])) (.inr hG)
  rw [hnm] at h
  have hgr:ground v=true:=by
   unfold jf at h
   rw [hq] at h
   dsimp only at h
   split at h <;> first | (cases h;done) | skip
   ·
    split at h
    ·
     split at h <;> first | (cases h;done) | skip
     rename_i hg
     cases h
     exact hg
    ·
     rename_i hf;exact absurd rfl hf
   ·
    split at h
    ·
     split at h <;> first | (cases h;done) | skip
     rename_i hg
     cases h
     exact hg
    ·
     rename_i hf;exact absurd rfl hf
  refine ⟨hgr,w,?_,k2.Zr hgr⟩
  unfold kC
  rw [if_pos hok]
  exact k1
 case lookup t x k ok =>
  have h:vI P fx.nm t (wE T x) (wE T k) ok S=some (v,S'):=h
  unfold vI at h
  rw [hnm] at h
  simp at h
theorem Line.clear (hdr:fx.dr=true) (hl:Line P fx chk call ops k0 l Ts As Ss Hs μs ωs vs zf) {j:Nat} (hj:j≤l.length):∀ (rest:List Oper) (bad:List Nat) (k:Nat),j≤k→l.drop k=rest→Clear (μs j) (Hs j) bad (Ts k) (As k) →
  ∀ d,d≤rest.length→Clear (μs j) (Hs j) ((afT P fx.nm rest bad).getD d []) (Ts (k+d)) (As (k+d)):=by
 intro rest
 induction rest with
 | nil =>
  intro bad k hjk hr hC d hd
  have:d=0:=by simpa using hd
  subst this
  exact hC
 | cons o rest ih =>
  intro bad k hjk hr hC d hd
  have hkl:k < l.length:=by
   have:=congrArg List.length hr
   simp at this;omega
  have ho:l[k]?=some o:=by
   have:=congrArg (·[0]?) hr
   simpa [List.getElem?_drop] using this
  cases d with
  | zero=>exact hC
  | succ d =>
   simp only [afT,List.getD_cons_succ]
   rw [show k+(d+1)=k+1+d by omega]
   refine ih _ (k+1) (by omega) ?_ ?_ d (by simpa using hd)
   ·
    rw [← List.drop_drop,hr];rfl
   ·
    obtain ⟨hL,_,hor⟩:=hl.step k o ho
    obtain ⟨hG,hT⟩:=hl.inv k (by omega)
    have hlen:=hT.len
    intro t ht
    cases hd:o.dst with
    | none =>
     rw [hd] at ht
     rcases hor with ⟨_,_,_,e1,e2,_⟩ | ⟨_,_,e1,e2,_⟩
     ·
      rw [e1,aaE hd,e2,hd];exact hC t ht
     ·
      rw [e1,aaE hd,e2,hd];exact hC t ht
    | some dd =>
     rw [hd] at ht
     dsimp only at ht
     have htb:bad.contains t=false:=by
      split at ht
      ·
       simp only [List.contains_cons,Bool.or_eq_false_iff] at ht;exact ht.2
      ·
       exact ht
     rcases hor with ⟨hw,hv,ha,e1,e2,_⟩ | ⟨_,_,e1,e2,_⟩
     ·
      rw [e1,abp hd,e2,hd]
      simp only [YQ]
      rw [kU,hlen]
      by_cases hc:t=dd∧dd < (As k).length
      ·
       rw [if_pos hc,if_pos hc]
       have hcond:¬ (JO P o || !xM bad o || (vS o && !fx.nm))=true:=by
        intro hh
        rw [if_pos hh] at ht
        simp [hc.1] at ht
       simp only [Bool.or_eq_true,not_or,Bool.not_eq_true,Bool.not_eq_eq_eq_not,Bool.not_true,Bool.and_eq_true,not_and] at hcond
       obtain ⟨⟨q1,q2⟩,q3⟩:=hcond
       have q2':xM bad o=true:=by simpa using q2
       have hLj:Later (μs j) (Hs j) (μs k) (Hs k):=by
        have:=hl.later (i:=j) (k - j) (by omega)
        rwa [show j+(k - j)=k by omega] at this
       by_cases hm:Jv (wE (Ts k)) o
       ·
        obtain ⟨a,h1,_,_,_,h5⟩:=ai3 hdr hv q1 hm (hC.operands (Ws hv) q2') hLj
        rw [ha] at h5
        have e:zf k=a:=by simpa using congrArg (Option.map Prod.fst) h5
        subst e
        exact h1
       ·
        have hrm:vS o=true:=by
         cases hrm:vS o with
         | true=>rfl
         | false=>exact absurd (Y8 hrm) hm
        have hnm:fx.nm=true:=by have:=q3 hrm;simpa using this
        obtain ⟨g1,a,g2,g3⟩:=adT hv hnm hm hG (fun x hx=>hT.eval (List.all_eq_true.1 (show o.op.operands.toList.all vg=true from Ws hv) x hx))
        rw [ha] at g2
        have e:zf k=a:=by simpa using congrArg (Option.map Prod.fst) g2
        subst e
        rw [g3,XQ g1]
        exact V0.ground g1
      ·
       rw [if_neg hc,if_neg hc]
       exact hC t htb
     ·
      rw [e1,abp hd,e2,hd]
      simp only [YQ]
      rw [kU,hlen]
      by_cases hc:t=dd∧dd < (As k).length
      ·
       rw [if_pos hc,if_pos hc,show dem zh=zh from JV]
       exact .nores
      ·
       rw [if_neg hc,if_neg hc]
       exact hC t htb
theorem agl {hp0:Bool} (hc:Qv P call) {T T' A:List Value} {S S' H:zn} {μ:Mu} {ω:Nat→Option kV} (hd:qW P ops=true) (h:qg P ⟨hp0,!(checked P ops).isEmpty,fixed P ops⟩ (checked P ops) (again P ops) call ops 0 [] ops.toList T S=some (T',S')) (hG:GI μ S H) (hT:TI μ H ω T A) :
  After μ ω H T' S' (JH P (lim P) ops A H):=by
 obtain ⟨Ts,As,Ss,Hs,μs,ωs,vs,zf,tr,hline,rfl,rfl,rfl,rfl,rfl,rfl,rfl,rfl,e9,e10,e11,hs,e12,e13,e14⟩:=line_of hc _ _ _ _ _ _ _ _ _ _ _ h hG hT
 obtain ⟨hGn,hTn⟩:=hline.inv ops.toList.length (Nat.le_refl _)
 have hLn:=hline.later (i:=0) ops.toList.length (by omega)
 rw [Nat.zero_add] at hLn
 refine ⟨As ops.toList.length,Hs ops.toList.length,μs ops.toList.length,ωs ops.toList.length,?_,hGn,hLn,hline.kept _ (Nat.le_refl _),hTn⟩
 simp only [qW,V3,Bool.and_eq_true] at hd
 refine ag6 hd.1 e9 fun p hp=>?_
 have hchk:(checked P ops).contains p.1=true:=by
  unfold checked
  simp only [List.contains_eq_mem,decide_eq_true_eq]
  exact List.mem_map.2 ⟨p,hp,rfl⟩
 have hdr:(Fx.mk hp0 (!(checked P ops).isEmpty) (fixed P ops)).dr=true:=by
  show (!(checked P ops).isEmpty)=true
  cases hl:checked P ops with
  | nil=>rw [hl] at hchk;cases hchk
  | cons a b=>rfl
 have hp2:=List.all_eq_true.1 hd.2 p hp
 have hp0:=hp
 unfold need at hp
 obtain ⟨i,hi,hp⟩:=List.mem_flatMap.1 hp
 obtain ⟨j,hj,hp⟩:=List.mem_filterMap.1 hp
 have hi:i < ops.toList.length:=List.mem_range.1 hi
 have hj:j < ops.toList.length:=List.mem_range.1 hj
 split at hp <;> first | (cases hp;done) | skip
 rename_i oi oj hoi hoj
 split at hp <;> first | (cases hp;done) | skip
 rename_i hcond
 cases hp
 simp only [Bool.and_eq_true,Bool.not_eq_true'] at hcond
 obtain ⟨⟨hni,hcj⟩,_⟩:=hcond
 dsimp only at hp2 hchk ⊢
 rw [hoi] at hp2
 dsimp only at hp2
 have hij:i≠j:=by
  intro e;subst e
  rw [hoi] at hoj;cases hoj
  rw [hni] at hcj;cases hcj
 have hGj:(tr.map (·.2.1)++[Hs ops.toList.length])[if j < i then j else j+1]?=some (Hs (if j < i then j else j+1)):=e11 _ (by split <;> omega)
 unfold Q7
 rw [hoi,e10 i hi,hGj]
 dsimp only
 obtain ⟨_,_,hor⟩:=hline.step i oi hoi
 rcases hor with ⟨hw,hv,ha,heT,heA,hq⟩ | ⟨hw,_⟩
 ·
  rw [hw]
  simp only [Bool.not_true,Bool.false_or]
  obtain ⟨hGi,hTi⟩:=hline.inv i (by omega)
  have hops:∀ x ∈ oi.op.operands.toList,V0 (μs i) (Hs i) (dem (wE (Ts i) x)) (wE (As i) x):=fun x hx=>hTi.eval (List.all_eq_true.1 (show oi.op.operands.toList.all vg=true from Ws hv) x hx)
  have hq3:okq 3 (vs i)=true:=hq (by rw [Nat.zero_add];exact hchk)
  have same:∃ G',aOp P (wE (As i)) oi (Hs (if j < i then j else j+1))=some (zf i,G')∧aek 3 (zf i) (zf i)=true:=by
   by_cases hm:Jv (wE (Ts i)) oi
   case neg =>
    have hrm:vS oi=true:=by
     cases hrm:vS oi with
     | true=>rfl
     | false=>exact absurd (Y8 hrm) hm
    have hin:(i,j) ∈ again P ops:=List.mem_filter.2 ⟨hp0,by dsimp only;rw [hoi];exact hrm⟩
    have hne:(again P ops).isEmpty=false:=by
     cases hl:again P ops with
     | nil=>rw [hl] at hin;cases hin
     | cons a b=>rfl
    have hst:=List.all_eq_true.1 (e14 hne) _ hin
    rw [List.nil_append] at hst
    have hi1:(hs++[(zh,Ss ops.toList.length)])[i]?=some (ZX (Ts i) oi,Ss i):=by
     rw [List.getElem?_append_left (by omega)];exact e13 i oi hoi
    have hj1:∃ p2,(hs++[(zh,Ss ops.toList.length)])[if j < i then j else j+1]?=some (p2,Ss (if j < i then j else j+1)):=by
     by_cases hjl:(if j < i then j else j+1) < ops.toList.length
     ·
      rw [List.getElem?_append_left (by omega)]
      exact ⟨_,e13 _ _ (List.getElem?_eq_getElem hjl)⟩
     ·
      have:(if j < i then j else j+1)=ops.toList.length:=by split at hjl <;> (rename_i hh;simp only [hh,if_true,if_false];omega)
      rw [this,List.getElem?_append_right (by omega),e12,Nat.sub_self]
      exact ⟨_,rfl⟩
    obtain ⟨p2,hj1⟩:=hj1
    unfold acE at hst
    dsimp only at hst
    rw [hi1,hj1] at hst
    dsimp only at hst
    have obj:∀ q r b,μs i q=some (r,b)→(∀ Sa Sb,qK (ZX (Ts i) oi) Sa Sb=true→(∃ o,Sa.get q=some o∧o.alive=true)∧q ∉ Sb.log.take (Sb.log.length - Sa.log.length))→(Hs (if j < i then j else j+1)).get r=(Hs i).get r:=by
     intro q r b hq hQ
     by_cases hji:j < i
     ·
      rw [if_pos hji] at hst ⊢
      rw [if_pos hji] at hst
      obtain ⟨⟨o1,g1,g2⟩,g3⟩:=hQ _ _ hst
      obtain ⟨hGj3,_⟩:=hline.inv j (by omega)
      obtain ⟨r0,_,g4,_⟩:=hGj3.obj q o1 g1 g2
      have hL:=hline.later (i:=j) (i - j) (by omega)
      rw [show j+(i - j)=i by omega] at hL
      obtain ⟨b',hb'⟩:=hL.mu q r0 true g4
      rw [hq] at hb'
      cases hb'
      obtain ⟨new,n1,n2⟩:=hL.still
      rw [hGj3.log,hGi.log] at n1
      rw [n1] at g3
      simp only [List.length_append,Nat.add_sub_cancel,List.take_left] at g3
      exact (n2 q r g4 g3).2.symm
     ·
      rw [if_neg hji] at hst ⊢
      rw [if_neg hji] at hst
      obtain ⟨⟨o1,g1,g2⟩,g3⟩:=hQ _ _ hst
      have hb:=hGi.at hq g1 g2
      subst hb
      have hL:=hline.later (i:=i) (j+1 - i) (by omega)
      rw [show i+(j+1 - i)=j+1 by omega] at hL
      obtain ⟨hGj3,_⟩:=hline.inv (j+1) (by omega)
      obtain ⟨new,n1,n2⟩:=hL.still
      rw [hGj3.log,hGi.log] at n1
      rw [n1] at g3
      simp only [List.length_append,Nat.add_sub_cancel,List.take_left] at g3
      exact (n2 q r hq g3).2
    clear hst hi1 hj1
    have hok:=Ws hv
    have hvo:=hv
    unfold qR at hv
    rw [if_pos hok] at hv
    obtain ⟨dst,op,type,pos,after,guard⟩:=oi
    unfold Jv at hm
    cases op <;> dsimp only at hv hm <;> first | (exact absurd True.intro hm) | skip
    case load t a =>
     have hv:jf P (fixed P ops) t (wE (Ts i) a) (Ss i)=some (vs i,Ss (i+1)):=hv
     obtain ⟨ad,hq⟩:∃ q,wE (Ts i) a=.pointer q:=Classical.byContradiction fun hn=>hm fun q hq=>hn ⟨q,hq⟩
     have hx:=hops a (by simp [Op.operands])
     obtain ⟨_,w,k1,k2⟩:=Qy hv hx (.inr hGi)
     have hA:kC P (lim P) (As i) ⟨dst,.load t a,type,pos,after,guard⟩ (Hs i)=xk P t (wE (As i) a) (Hs i):=by unfold kC;rw [if_pos hok];rfl
     rw [hA,k1] at ha
     have e:w=zf i:=by simpa using congrArg (Option.map Prod.fst) ha
     subst e
     rw [hq] at hx
     have hx:V0 (μs i) (Hs i) (.pointer ad) (wE (As i) a):=hx
     generalize hpa:wE (As i) a=pa at hx k1
     have hres:xk P t pa (Hs (if j < i then j else j+1))=some (zf i,Hs (if j < i then j else j+1)):=by
      cases hx with
      | sg hs =>
       cases ad with
       | none=>simp [xk] at k1
       | some ad=>simp [Go.Abs.sg] at hs
      | @ptr _ q o r b hmq =>
       refine adH (obj q r b hmq fun Sa Sb hQ=>?_) k1
       have hQ:qK (wE (Ts i) a) Sa Sb=true:=hQ
       rw [hq] at hQ
       simp only [qK,Bool.and_eq_true,Bool.not_eq_true',List.contains_eq_mem,decide_eq_false_iff_not] at hQ
       refine ⟨?_,hQ.2⟩
       have h1:=hQ.1
       split at h1 <;> first | (cases h1;done) | skip
       rename_i hsa
       exact ⟨_,hsa,rfl⟩
     rw [← hpa] at hres
     exact ⟨_,hres,KT 3 (Kz hq3) k2.dem⟩
    case lookup t x k ok =>
     have hv:vI P (fixed P ops) t (wE (Ts i) x) (wE (Ts i) k) ok (Ss i)=some (vs i,Ss (i+1)):=hv
     have hx:=hops x (by simp [Op.operands])
     obtain ⟨_,w,k1,k2⟩:=X5 hv hx (hops k (by simp [Op.operands])) (.inr hGi)
     have hA:kC P (lim P) (As i) ⟨dst,.lookup t x k ok,type,pos,after,guard⟩ (Hs i)=qF P t (wE (As i) x) (wE (As i) k) ok (Hs i):=by unfold kC;rw [if_pos hok];rfl
     rw [hA,k1] at ha
     have e:w=zf i:=by simpa using congrArg (Option.map Prod.fst) ha
     subst e
     have hres:qF P t (wE (As i) x) (wE (As i) k) ok (Hs (if j < i then j else j+1))=some (zf i,Hs (if j < i then j else j+1)):=by
      refine aaX (fun r hr=>?_) k1
      rw [hr] at hx
      generalize hu:dem (wE (Ts i) x)=u at hx
      have hum:∃ q b,u=.map (some q)∧μs i q=some (r,b):=by
       cases hx with
       | sg hs=>simp [Go.Abs.sg] at hs
       | map hmq=>exact ⟨_,_,rfl,hmq⟩
      obtain ⟨q,b,rfl,hmq⟩:=hum
      have hxe:wE (Ts i) x=.map (some q):=by
       cases hvx:wE (Ts i) x <;> rw [hvx] at hu <;> simp [dem,vF] at hu <;> rw [hu]
      refine obj q r b hmq fun Sa Sb hQ=>?_
      have hQ:qK (wE (Ts i) x) Sa Sb=true:=hQ
      rw [hxe] at hQ
      simp only [qK,Bool.and_eq_true,Bool.not_eq_true',List.contains_eq_mem,decide_eq_false_iff_not] at hQ
      refine ⟨?_,hQ.2⟩
      have h1:=hQ.1
      split at h1 <;> first | (cases h1;done) | skip
      rename_i hsa
      exact ⟨_,hsa,rfl⟩
     exact ⟨_,hres,KT 3 (Kz hq3) k2.dem⟩
   by_cases hrd:Zp oi=false
   ·
    obtain ⟨a,h1,h2⟩:=aiC hdr hv hni hrd hops
    have h3:=(h2 (Hs i)).2
    rw [ha] at h3
    have e:zf i=a:=by simpa using congrArg (Option.map Prod.fst) h3
    subst e
    exact ⟨_,(h2 _).1,KT 3 (Kz hq3) h1⟩
   ·
    have hrd:Zp oi=true:=by simpa using hrd
    by_cases hlt:i < j
    ·
     rw [if_neg (by omega)]
     have hL:=hline.later (i:=i) (j+1 - i) (by omega)
     rw [show i+(j+1 - i)=j+1 by omega] at hL
     obtain ⟨a,h1,_,h3,h4,_⟩:=ai3 hdr hv hni hm hops hL
     rw [ha] at h4
     have e:zf i=a:=by simpa using congrArg (Option.map Prod.fst) h4
     subst e
     exact ⟨_,h3,KT 3 (Kz hq3) h1⟩
    ·
     rw [if_pos (by omega)]
     rw [hrd] at hp2
     have hcl:xM ((afT P (fixed P ops) (ops.toList.drop j) []).getD (i - j) []) oi=true:=by
      simpa [hlt] using hp2
     obtain ⟨hGj2,hTj⟩:=hline.inv j (by omega)
     have hC0:Clear (μs j) (Hs j) [] (Ts j) (As j):=fun t _=>(hTj.slots t).v0
     have hC:=hline.clear hdr (j:=j) (by omega) _ [] j (Nat.le_refl _) rfl hC0 (i - j) (by rw [List.length_drop];omega)
     rw [show j+(i - j)=i by omega] at hC
     have hL:=hline.later (i:=j) (i - j) (by omega)
     rw [show j+(i - j)=i by omega] at hL
     obtain ⟨a,h1,h2,_,_,h5⟩:=ai3 hdr hv hni hm (hC.operands (Ws hv) hcl) hL
     rw [ha] at h5
     have e:zf i=a:=by simpa using congrArg (Option.map Prod.fst) h5
     subst e
     exact ⟨_,h2,KT 3 (Kz hq3) h1⟩
  obtain ⟨G',h1,h2⟩:=same
  unfold recheck
  rw [h1]
  exact h2
 ·
  rw [hw]
  rfl
end
end Go.Abs
namespace Go.Abs
open Go.RowKit
section
variable {P:Program} {call:FuncId→List Value→M Value}
def ah6 (μ:Mu) (ω:Nat→Option kV) (H:zn) (e:AEx) (T':List Value) (S':zn) (R:St):Prop :=
 ∃ A' H' μ' ω',R=some (e,A',H')∧GI μ' S' H'∧Later μ H μ' H'∧Kept ω H ω' H'∧TI μ' H' ω' T' A'
theorem ag8 {hp:Bool} (hc:Qv P call) (fuel:Nat):∀ (c:Code) (T T' A:List Value) (S S' H:zn) (μ:Mu) (ω:Nat→Option kV) (e:AEx),kH P hp call fuel c T S=some (e,T',S')→GI μ S H→TI μ H ω T A→ah6 μ ω H e T' S' (kJ P c A H):=by
 intro c
 induction c with
 | skip =>
  intro T T' A S S' H μ ω e h hG hT
  simp only [kH,Option.some.injEq,Prod.mk.injEq] at h
  obtain ⟨rfl,rfl,rfl⟩:=h
  exact ⟨A,H,μ,ω,rfl,hG,Later.refl _ _,Kept.refl _ _,hT⟩
 | exit id =>
  intro T T' A S S' H μ ω e h hG hT
  simp only [kH,Option.some.injEq,Prod.mk.injEq] at h
  obtain ⟨rfl,rfl,rfl⟩:=h
  exact ⟨A,H,μ,ω,rfl,hG,Later.refl _ _,Kept.refl _ _,hT⟩
 | ret =>
  intro T T' A S S' H μ ω e h hG hT
  simp only [kH,Option.some.injEq,Prod.mk.injEq] at h
  obtain ⟨rfl,rfl,rfl⟩:=h
  exact ⟨A,H,μ,ω,rfl,hG,Later.refl _ _,Kept.refl _ _,hT⟩
 | region i ops d =>
  intro T T' A S S' H μ ω e h hG hT
  cases d with
  | false =>
   simp only [kH] at h
   split at h <;> first | (cases h;done) | skip
   rename_i T1 S1 ho
   cases h
   obtain ⟨A',H',μ',ω',h1,h2,h3,h4,h5⟩:=aju hc _ _ _ _ _ _ _ _ _ ho hG hT
   exact ⟨A',H',μ',ω',by simp only [kJ,h1],h2,h3,h4,h5⟩
  | true =>
   simp only [kH] at h
   split at h <;> first | (cases h;done) | skip
   rename_i hd
   split at h <;> first | (cases h;done) | skip
   rename_i T1 S1 ho
   cases h
   obtain ⟨A',H',μ',ω',h1,h2,h3,h4,h5⟩:=agl hc hd ho hG hT
   exact ⟨A',H',μ',ω',by simp only [kJ,h1],h2,h3,h4,h5⟩
 | seq x y ihx ihy =>
  intro T T' A S S' H μ ω e h hG hT
  simp only [kH] at h
  split at h
  ·
   rename_i T1 S1 hx
   obtain ⟨A1,H1,μ1,ω1,h1,h2,h3,h4,h5⟩:=ihx _ _ _ _ _ _ _ _ _ hx hG hT
   obtain ⟨A2,H2,μ2,ω2,k1,k2,k3,k4,k5⟩:=ihy _ _ _ _ _ _ _ _ _ h h2 h5
   exact ⟨A2,H2,μ2,ω2,by simp only [kJ,h1];exact k1,k2,h3.trans k3,h4.trans k4,k5⟩
  ·
   rename_i hne
   obtain ⟨A1,H1,μ1,ω1,h1,h2,h3,h4,h5⟩:=ihx _ _ _ _ _ _ _ _ _ h hG hT
   refine ⟨A1,H1,μ1,ω1,?_,h2,h3,h4,h5⟩
   simp only [kJ,h1]
   cases e with
   | normal=>exact absurd h (hne _ _)
   | exit id=>rfl
   | ret=>rfl
 | cond c x y ihx ihy =>
  intro T T' A S S' H μ ω e h hG hT
  simp only [kH] at h
  split at h <;> first | (cases h;done) | skip
  rename_i hok
  have hv:=hT.eval hok
  split at h
  ·
   rename_i hb
   have:wE A c=.bool true:=wW hv (by rw [hb];rfl) |>.trans hb
   obtain ⟨A1,H1,μ1,ω1,h1,h2,h3,h4,h5⟩:=ihx _ _ _ _ _ _ _ _ _ h hG hT
   exact ⟨A1,H1,μ1,ω1,by simp only [kJ,hok,if_true,this];exact h1,h2,h3,h4,h5⟩
  ·
   rename_i hb
   have:wE A c=.bool false:=wW hv (by rw [hb];rfl) |>.trans hb
   obtain ⟨A1,H1,μ1,ω1,h1,h2,h3,h4,h5⟩:=ihy _ _ _ _ _ _ _ _ _ h hG hT
   exact ⟨A1,H1,μ1,ω1,by simp only [kJ,hok,if_true,this];exact h1,h2,h3,h4,h5⟩
  ·
   cases h
 | block id c ih =>
  intro T T' A S S' H μ ω e h hG hT
  simp only [kH] at h
  split at h
  ·
   rename_i id' T1 S1 hx
   obtain ⟨A1,H1,μ1,ω1,h1,h2,h3,h4,h5⟩:=ih _ _ _ _ _ _ _ _ _ hx hG hT
   by_cases hid:id'=id
   ·
    rw [if_pos hid] at h
    cases h
    exact ⟨A1,H1,μ1,ω1,by simp only [kJ,h1,if_pos hid],h2,h3,h4,h5⟩
   ·
    rw [if_neg hid] at h
    cases h
    exact ⟨A1,H1,μ1,ω1,by simp only [kJ,h1,if_neg hid],h2,h3,h4,h5⟩
  ·
   rename_i hne
   obtain ⟨A1,H1,μ1,ω1,h1,h2,h3,h4,h5⟩:=ih _ _ _ _ _ _ _ _ _ h hG hT
   refine ⟨A1,H1,μ1,ω1,?_,h2,h3,h4,h5⟩
   simp only [kJ,h1]
   cases e with
   | normal=>rfl
   | exit id'=>exact absurd h (hne _ _ _)
   | ret=>rfl
 | loop c ih =>
  have key:∀ (n:Nat) (T T' A:List Value) (S S' H:zn) (μ:Mu) (ω:Nat→Option kV) (e:AEx),xE n (kH P hp call fuel c) T S=some (e,T',S')→GI μ S H→TI μ H ω T A→ah6 μ ω H e T' S' (qw (kJ P c) A H):=by
   intro n
   induction n with
   | zero=>intro T T' A S S' H μ ω e h;cases h
   | succ n ihn =>
    intro T T' A S S' H μ ω e h hG hT
    simp only [xE] at h
    split at h
    ·
     rename_i T1 S1 hx
     obtain ⟨A1,H1,μ1,ω1,h1,h2,h3,h4,h5⟩:=ih _ _ _ _ _ _ _ _ _ hx hG hT
     obtain ⟨A2,H2,μ2,ω2,k1,k2,k3,k4,k5⟩:=ihn _ _ _ _ _ _ _ _ _ h h2 h5
     exact ⟨A2,H2,μ2,ω2,by rw [wY h1];exact k1,k2,h3.trans k3,h4.trans k4,k5⟩
    ·
     rename_i hne
     obtain ⟨A1,H1,μ1,ω1,h1,h2,h3,h4,h5⟩:=ih _ _ _ _ _ _ _ _ _ h hG hT
     exact ⟨A1,H1,μ1,ω1,jZ h1 (fun he=>by subst he;exact hne _ _ h),h2,h3,h4,h5⟩
  intro T T' A S S' H μ ω e h hG hT
  simp only [kH] at h
  obtain ⟨A1,H1,μ1,ω1,h1,h2⟩:=key fuel _ _ _ _ _ _ _ _ _ h hG hT
  exact ⟨A1,H1,μ1,ω1,by simp only [kJ];exact h1,h2⟩
 | _=>intro T T' A S S' H μ ω e h;simp only [kH] at h;cases h
theorem VV.akk {μ:Mu} {H:zn} {ω ω':Nat→Option kV} {f:kV→Option kV} (hω:∀ r,ω' r=(ω r).bind f) {s s':kV} (hs:f s=some s') {v a:Value} (h:VV μ H ω (some s) v a) (hv:wu v=true):VV μ H ω' (some s') v a:=by
 cases h with
 | sg h=>exact .sg h
 | ptr h=>exact .ptr h
 | map h=>exact .map h
 | slm h=>exact .slm h
 | slE=>exact .slE
 | sl hr hp hg hl hl' hc=>exact .sl hr hp hg hl hl' (fun i hi=>(hc i hi).at0)
 | so h hr hp hg hl hl' hc=>exact .so (by rw [hω,h];exact hs) hr hp hg hl hl' (fun i hi=>(hc i hi).at0)
 | ep hr hp hg hl hc=>exact .ep hr hp hg hl (fun i hi=>(hc i hi).at0)
 | func fn hx hc h1 h2=>exact .func fn hx hc (fun i=>(h1 i).at0) (fun i=>(h2 i).at0)
 | agg hx hh=>exact .agg hx (fun i=>(hh i).at0)
 | nores=>exact .nores
 | @tuple _ x x' hx hh =>
  have h0:x.size=0:=by simpa [wu] using hv
  have e1:x=#[]:=Array.eq_empty_of_size_eq_zero h0
  have e2:x'=#[]:=Array.eq_empty_of_size_eq_zero (by rw [← hx];exact h0)
  subst e1 e2
  exact .nores
def place (rs:List ResultVar):kV→Option kV
 | .ext=>some .ext
 | .res _=>none
 | .slot i j=>match rs with
  | [.tmp t]=>if i=t then some (.res j) else none
  | _=>match j with
   | none=>(rs.findIdx? (ahe i)).map fun k=>.res (some k)
   | some _=>none
theorem adw {rs:List ResultVar} {i:Nat} (h:∀ t,rs≠[.tmp t]):place rs (.slot i none)=(rs.findIdx? (ahe i)).map fun k=>.res (some k):=by
 match rs,h with
 | [],_=>rfl
 | [.tmp t],h=>exact absurd rfl (h t)
 | [.cell _ _],_=>rfl
 | .tmp _::_::_,_=>rfl
 | .cell _ _::_::_,_=>rfl
theorem aco {μ:Mu} {ω:Nat→Option kV} {S H:zn} {T A:List Value} (hG:GI μ S H) (hT:TI μ H ω T A):∀ (l:List ResultVar) (vs:List Value),zK P T S l=some vs →
  ∃ zf,Ji P A H l=some zf∧vs.length=l.length∧zf.length=l.length∧∀ i:Nat,match (l[i]?:Option ResultVar) with
   | some (.tmp t)=>vs.getD i zh=T.getD t zh∧zf.getD i zh=A.getD t zh
   | _=>V0 μ H (vs.getD i zh) (zf.getD i zh):=by
 intro l
 induction l with
 | nil =>
  intro vs h
  simp only [zK,Option.some.injEq] at h
  subst h
  exact ⟨[],rfl,rfl,rfl,fun i=>by simpa using VV.zh⟩
 | cons x l ih =>
  intro vs h
  cases x with
  | tmp t =>
   simp only [zK] at h
   split at h <;> first | (cases h;done) | skip
   rename_i vs' hr
   cases h
   obtain ⟨zf,h1,h2,h3,h4⟩:=ih _ hr
   refine ⟨A.getD t zh::zf,by simp only [Ji,h1],by simp [h2],by simp [h3],fun i=>?_⟩
   cases i with
   | zero=>exact ⟨rfl,rfl⟩
   | succ i=>simpa using h4 i
  | cell a t =>
   simp only [zK] at h
   split at h <;> first | (cases h;done) | skip
   rename_i v S1 vs' hl hr
   cases h
   obtain ⟨zf,h1,h2,h3,h4⟩:=ih _ hr
   obtain ⟨_,w,k1,k2⟩:=Qy hl (hT.slots a).v0 (.inr hG)
   refine ⟨w::zf,by simp only [Ji,k1,h1],by simp [h2],by simp [h3],fun i=>?_⟩
   cases i with
   | zero=>exact k2
   | succ i=>simpa using h4 i
theorem ajj {μ:Mu} {ω:Nat→Option kV} {S S' H:zn} {T A:List Value} {fn:Func} {v:Value} (hG:GI μ S H) (hT:TI μ H ω T A) (h:aeo P fn T S=some (v,S')) :
  S'=S∧∃ a,agJ P fn A H=some (a,H)∧VV μ H (fun r=>(ω r).bind (place fn.results.toList)) (some (.res none)) v a:=by
 unfold aeo at h
 split at h <;> first | (cases h;done) | skip
 rename_i vs hvs
 split at h <;> first | (cases h;done) | skip
 rename_i hok
 obtain ⟨zf,h1,h2,h3,h4⟩:=aco hG hT _ _ hvs
 generalize hrs:fn.results.toList=rs at *
 split at h
 ·
  rename_i v1
  cases h
  obtain ⟨a,rfl⟩:∃ a,zf=[a]:=by
   match zf,h3.trans h2.symm with
   | [a],_=>exact ⟨a,rfl⟩
  refine ⟨rfl,a,by simp only [agJ,hrs,h1],?_⟩
  match rs,h2 with
  | [x],_ =>
   have:=h4 0
   cases x with
   | tmp t =>
    simp only [List.getElem?_cons_zero,List.getD_cons_zero] at this
    obtain ⟨rfl,rfl⟩:=this
    refine (hT.slots t).VB (fun _=>rfl) _ (fun s hs=>?_)
    cases hs
    refine ⟨_,rfl,by simp only [place,if_true],fun k t' ht=>?_⟩
    cases ht
    exact ⟨_,rfl,by simp only [place,if_true]⟩
   | cell b t=>exact (show V0 μ H v a from this).at0
 ·
  rename_i hne
  split at h <;> first | (cases h;done) | skip
  rename_i hnt
  cases h
  refine ⟨rfl,.tuple zf.toArray,?_,.tuple (by simp [h2,h3]) fun i=>?_⟩
  ·
   simp only [agJ,hrs,h1]
   match zf,vs,h3.trans h2.symm,hne with
   | [],_,_,_=>rfl
   | [a],[v],_,hne=>exact absurd rfl (hne v)
   | a::b::c,_,_,_=>rfl
  ·
   have e1:vs.toArray.getD i zh=vs.getD i zh:=by rw [← getD_toList,List.toList_toArray]
   have e2:zf.toArray.getD i zh=zf.getD i zh:=by rw [← getD_toList,List.toList_toArray]
   rw [e1,e2]
   have h5:=h4 i
   cases hx:rs[i]? with
   | none=>rw [hx] at h5;exact (show V0 μ H _ _ from h5).at0
   | some x =>
    rw [hx] at h5
    cases x with
    | cell b t=>exact (show V0 μ H _ _ from h5).at0
    | tmp t =>
     dsimp only at h5
     have hi:i < rs.length:=(List.getElem?_eq_some_iff.1 hx).1
     have hid:rs.findIdx? (ahe t)=some i:=by
      have:=List.all_eq_true.1 hok i (List.mem_range.2 hi)
      rw [hx] at this
      simpa using this
     have hnt2:wu (T.getD t zh)=true:=by
      rw [← h5.1,List.getD_eq_getElem?_getD,List.getElem?_eq_getElem (by omega)]
      exact List.all_eq_true.1 hnt _ (List.getElem_mem _)
     rw [h5.1,h5.2]
     refine (hT.slots t).akk (fun _=>rfl) (s':=.res (some i)) ?_ hnt2
     have hne1:∀ t',rs≠[.tmp t']:=by
      intro t' e
      rw [e] at h2
      match vs,h2 with
      | [v],_=>exact hne v rfl
     rw [adw hne1,hid];rfl
def aes (P:Program) (O:Ora):Prop:=∀ f q,O.fn f=some q→Qv P (fun g args=>if g=f then q args else fun _=>none)
open Classical in
noncomputable def abG (μ μ1:Mu) (ω:Nat→Option kV):Nat→Option kV:=fun r=>if ∃ q,μ q=some (r,true)∧¬ μ1 q=some (r,true) then some .ext else ω r
theorem ahy {call:FuncId→List Value→M Value} (hc:Qv P call) {hps:FuncId→Bool} {hp:Bool}:Qv P (Jh hps hp call):=by
 cases hp with
 | false=>exact hc
 | true =>
  intro g args aargs S v S' h μ H ω hG hA hD hE
  unfold Jh at h
  dsimp only at h
  split at h
  ·
   exact hc g args aargs S v S' h μ H ω hG hA hD hE
  ·
   split at h <;> first | (cases h;done) | skip
   rename_i m S1 hf
   obtain ⟨μ1,h1,h2,h3⟩:=ach _ _ _ _ _ _ hf hG hA
   split at h <;> first | (cases h;done) | skip
   rename_i r0 hr0
   obtain ⟨v0,S2⟩:=r0
   simp only [Option.some.injEq] at h
   unfold aga at h
   dsimp only at h
   split at h
   ·
    rename_i hb
    cases h
    simp only [Bool.and_eq_true,beq_iff_eq] at hb
    obtain ⟨⟨_,hgr⟩,hlog⟩:=hb
    have hlent:∀ q r,μ q=some (r,true)→¬ μ1 q=some (r,true)→r < H.next∧Xf μ1 r:=fun q r hq hn =>
     ⟨hG.lt q r _ hq,fun q' hq'=>by
      rcases h2.new q' r hq' with h5 | h5
      ·
       have:=hG.inj q q' r hq h5
       subst this
       exact hn hq'
      ·
       have:=hG.lt q r _ hq;omega,by rw [h2.hid];exact hG.vis q r hq⟩
    have hDL:Dom μ1 H (abG μ μ1 ω):=fun r s hs=>by
     unfold abG at hs
     split at hs
     ·
      rename_i hx
      obtain ⟨q,hq,hn⟩:=hx
      exact hlent q r hq hn
     ·
      exact ⟨(hD r s hs).1,h2.priv (hD r s hs).1 (hD r s hs).2⟩
    have hEL:∀ r s,abG μ μ1 ω r=some s→s=.ext:=fun r s hs=>by
     unfold abG at hs
     split at hs
     ·
      cases hs;rfl
     ·
      exact hE r s hs
    obtain ⟨a,H',μ',ω',k1,k2,k3,k4,k5,k6⟩:=hc g m aargs S1 v S2 hr0 μ1 H (abG μ μ1 ω) h1 h3 hDL hEL
    have hsame:∀ q r,μ q=some (r,true)→H'.get r=H.get r:=fun q r hq=>by
     by_cases hn:μ1 q=some (r,true)
     ·
      obtain ⟨new,e1,e2⟩:=k3.still
      have:new=[]:=by
       rw [k2.log,h1.log,hlog] at e1
       exact List.append_cancel_right (bs:=S1.log) (by rw [← e1];rfl)
      subst this
      exact (e2 q r hn (by simp)).2
     ·
      exact (k4 r (by unfold abG;rw [if_pos ⟨q,hq,hn⟩])).2
    have hL:Later μ H μ H':=⟨fun _ _ b h=>⟨b,h⟩,k3.next,fun _ _ h=>.inl h,rfl,fun r hr hh=>k3.same r hr (by rw [h2.hid];exact hh),⟨[],rfl,fun q r hq _=>⟨hq,hsame q r hq⟩⟩,
     fun r l own e hr hp hg=>k3.cells r l own e hr (h2.priv hr hp) hg⟩
    refine ⟨a,H',μ,ω,k1,hG.later hL rfl hsame,hL,fun r hr=>⟨hr,(k4 r ?_).2⟩,fun r s hs=>⟨Nat.lt_of_lt_of_le (hD r s hs).1 k3.next,(hD r s hs).2⟩,?_⟩
    ·
     unfold abG
     split
     ·
      rfl
     ·
      exact hr
    ·
     rw [VV.Zr hgr k6]
     exact VV.ku hgr
   ·
    cases h
    obtain ⟨a,H',μ',ω',k1,k2,k3,k4,k5,k6⟩:=hc g m aargs S1 v S' hr0 μ1 H ω h1 h3 (fun r s hs=>⟨(hD r s hs).1,h2.priv (hD r s hs).1 (hD r s hs).2⟩) hE
    exact ⟨a,H',μ',ω',k1,k2,h2.trans k3,k4,k5,k6⟩
theorem VV.clean {μ μ':Mu} {H:zn} {ω:Nat→Option kV} (hp:∀ r,Xf μ r→Xf μ' r) {ℓ:Option kV} {v a:Value} (h:VV μ H ω ℓ v a):∀ d,jP d v=true→VV μ' H ω ℓ v a:=by
 induction h with
 | sg h=>exact fun _ _=>.sg h
 | ptr h=>intro d hc;cases d <;> simp [jP] at hc
 | map h=>intro d hc;cases d <;> simp [jP] at hc
 | slm h=>intro d hc;cases d <;> simp [jP] at hc
 | slE=>exact fun _ _=>.slE
 | sl hr hpr hg hl hn hc ih =>
  intro d hcl
  obtain ⟨d,rfl⟩:∃ k,d=k+4:=by
   match d,hcl with
   | 0,h=>cases h
   | 1,h=>simp [jP] at h
   | 2,h=>simp [jP] at h
   | 3,h=>simp [jP] at h
   | k+4,_=>exact ⟨k,rfl⟩
  simp only [jP] at hcl
  refine .sl hr (hp _ hpr) hg hl hn (fun i hi=>ih i hi d ?_)
  rw [List.getD_eq_getElem?_getD,List.getElem?_eq_getElem (by omega)]
  exact List.all_eq_true.1 hcl _ (List.getElem_mem _)
 | so hω hr hpr hg hl hn hc ih =>
  intro d hcl
  obtain ⟨d,rfl⟩:∃ k,d=k+4:=by
   match d,hcl with
   | 0,h=>cases h
   | 1,h=>simp [jP] at h
   | 2,h=>simp [jP] at h
   | 3,h=>simp [jP] at h
   | k+4,_=>exact ⟨k,rfl⟩
  simp only [jP] at hcl
  refine .so hω hr (hp _ hpr) hg hl hn (fun i hi=>ih i hi d ?_)
  rw [List.getD_eq_getElem?_getD,List.getElem?_eq_getElem (by omega)]
  exact List.all_eq_true.1 hcl _ (List.getElem_mem _)
 | ep hr hpr hg hl hc ih =>
  intro d hcl
  obtain ⟨d,rfl⟩:∃ k,d=k+2:=by
   match d,hcl with
   | 0,h=>cases h
   | 1,h=>simp [jP] at h
   | k+2,_=>exact ⟨k,rfl⟩
  simp only [jP] at hcl
  refine .ep hr (hp _ hpr) hg hl (fun i hi=>ih i hi d ?_)
  rw [List.getD_eq_getElem?_getD,List.getElem?_eq_getElem hi]
  exact List.all_eq_true.1 hcl _ (List.getElem_mem _)
 | func fn hx hc h1 h2=>intro d hc;cases d <;> simp [jP] at hc
 | @agg ℓ x x' hx hh ih =>
  intro d hcl
  obtain ⟨d,rfl⟩:∃ k,d=k+1:=by
   match d,hcl with
   | 0,h=>cases h
   | k+1,_=>exact ⟨k,rfl⟩
  simp only [jP] at hcl
  refine .agg hx (fun i=>?_)
  by_cases hi:i < x.size
  ·
   refine ih i d ?_
   rw [Array.getD_eq_getD_getElem?,Array.getElem?_eq_getElem hi]
   exact List.all_eq_true.1 hcl _ (by simp)
  ·
   rw [Array.getD_eq_getD_getElem?,Array.getElem?_eq_none (Nat.le_of_not_lt hi),Array.getD_eq_getD_getElem?,Array.getElem?_eq_none (by omega)]
   exact .nores
 | nores=>exact fun _ _=>.nores
 | @tuple ℓ x x' hx hh ih =>
  intro d hcl
  obtain ⟨d,rfl⟩:∃ k,d=k+1:=by
   match d,hcl with
   | 0,h=>cases h
   | k+1,_=>exact ⟨k,rfl⟩
  simp only [jP] at hcl
  refine .tuple hx (fun i=>?_)
  by_cases hi:i < x.size
  ·
   refine ih i d ?_
   rw [Array.getD_eq_getD_getElem?,Array.getElem?_eq_getElem hi]
   exact List.all_eq_true.1 hcl _ (by simp)
  ·
   rw [Array.getD_eq_getD_getElem?,Array.getElem?_eq_none (Nat.le_of_not_lt hi),Array.getD_eq_getD_getElem?,Array.getElem?_eq_none (by omega)]
   exact .nores
open Classical in
noncomputable def JU (μ:Mu):Mu:=⟨fun _=>none,fun r=>μ.hid r || decide (∃ q,μ q=some (r,true)),[]⟩
theorem KO {μ:Mu} {r:Nat} (h:Xf μ r):Xf (JU μ) r:=⟨fun q hq=>(by cases hq),by
 simp only [JU,h.2,Bool.false_or,decide_eq_false_iff_not]
 rintro ⟨q,hq⟩
 exact h.1 q hq⟩
theorem agf {μ:Mu} {r:Nat} (h:(JU μ).hid r=false):Xf μ r:=by
 simp only [JU,Bool.or_eq_false_iff,decide_eq_false_iff_not] at h
 exact ⟨fun q hq=>h.2 ⟨q,hq⟩,h.1⟩
def akE (P:Program) (g:FuncId) (args:List Value) (run:M Value):Prop:=∀ aargs S v S',run S=some (v,S')→∀ μ H ω,GI μ S H→L0 μ H args aargs→Dom μ H ω→(∀ r s,ω r=some s→s=.ext) →
 ∃ a H' μ' ω',lim P g aargs H=some (a,H')∧GI μ' S' H'∧Later μ H μ' H'∧Kept ω H ω' H'∧Dom μ' H' ω'∧VV μ' H' ω' (some (.res none)) v a
theorem agF {g:FuncId} {args:List Value} {run:M Value} (hr:akE P g args run):akE P g args (afn run args):=by
 intro aargs S v S' h μ H ω hG hA hD hE
 unfold afn at h
 split at h <;> first | (cases h;done) | skip
 rename_i hca
 split at h <;> first | (cases h;done) | skip
 rename_i w S1 hrun
 split at h <;> first | (cases h;done) | skip
 rename_i hcw
 cases h
 have hG0:GI (JU μ) zn.empty H:=⟨fun q o h=>(by cases h),fun q q' r h=>(by cases h),fun q r b h=>(by cases h),fun q _=>rfl,fun q r h=>(by cases h),fun r h=>by
  simp only [JU,Bool.or_eq_true,decide_eq_true_eq] at h
  rcases h with h | ⟨q,hq⟩
  ·
   exact hG.hlt r h
  ·
   exact hG.lt q r _ hq,rfl,fun q cs anc e h=>(by cases h)⟩
 have hA0:L0 (JU μ) H args aargs:=⟨hA.1,fun i=>by
  by_cases hi:i < args.length
  ·
   refine (hA.2 i).clean (fun r h=>KO h) 16 ?_
   rw [List.getD_eq_getElem?_getD,List.getElem?_eq_getElem hi]
   exact List.all_eq_true.1 hca _ (List.getElem_mem _)
  ·
   rw [List.getD_eq_getElem?_getD,List.getElem?_eq_none (Nat.le_of_not_lt hi),List.getD_eq_getElem?_getD,List.getElem?_eq_none (by rw [← hA.1];omega)]
   exact .nores⟩
 obtain ⟨a,H1,μ1,ω1,k1,k2,k3,k4,k5,k6⟩:=hr aargs _ _ _ hrun (JU μ) H ω hG0 hA0 (fun r s h=>⟨(hD r s h).1,KO (hD r s h).2⟩) hE
 have hp1:∀ r,Xf μ1 r→Xf μ r:=fun r h=>agf (by rw [← k3.hid];exact h.2)
 have hL:Later μ H μ H1:=⟨fun _ _ b h=>⟨b,h⟩,k3.next,fun _ _ h=>.inl h,rfl,fun r hr hh=>k3.same r hr (by simp only [JU,hh,Bool.true_or]),⟨[],rfl,fun q r hq _=>⟨hq,k3.same r (hG.lt q r _ hq) (by
  simp only [JU,Bool.or_eq_true,decide_eq_true_eq]
  exact .inr ⟨q,hq⟩)⟩⟩,fun r l own e hr hp hg=>k3.cells r l own e hr (KO hp) hg⟩
 refine ⟨a,H1,μ,ω1,k1,?_,hL,k4,fun r s h=>⟨(k5 r s h).1,hp1 r (k5 r s h).2⟩,k6.clean hp1 16 hcw⟩
 exact hG.later hL rfl fun q r hq=>k3.same r (hG.lt q r _ hq) (by
  simp only [JU,Bool.or_eq_true,decide_eq_true_eq]
  exact .inr ⟨q,hq⟩)
theorem ag7 {O:Ora} (hO:aes P O):∀ n,Qv P (Js P O n):=by
 intro n
 induction n with
 | zero=>intro g args aargs S v S' h;cases h
 | succ n ih =>
  intro g args aargs S v S' h μ H ω hG hA hD hE
  simp only [Js] at h
  cases ho:O.fn g with
  | some q =>
   rw [ho] at h
   exact hO g q ho g args aargs S v S' (by simpa using h) μ H ω hG hA hD hE
  | none =>
   rw [ho] at h
   dsimp only at h
   cases hf:P.funcs[g]? with
   | none=>rw [hf] at h;cases h
   | some fn =>
    rw [hf] at h
    dsimp only at h
    split at h <;> first | (cases h;done) | skip
    rename_i hn
    cases hb:fn.body with
    | none=>rw [hb] at h;cases h
    | some c =>
     rw [hb] at h
     dsimp only at h
     have hrun:akE P g args (agx P (O.hp g) (Jh O.hp (O.hp g) (Js P O n)) n fn c args):=by
      intro aargs S v S' h μ H ω hG hA hD hE
      have hT0:TI μ H ω (args++List.replicate (fn.ntmps - args.length) zh) (aargs++List.replicate (fn.ntmps - aargs.length) zh):=by
       have hl:L0 μ H (args++List.replicate (fn.ntmps - args.length) zh) (aargs++List.replicate (fn.ntmps - aargs.length) zh):=by
        refine hA.append (VL.ofRange (by rw [hA.1]) fun i hi=>?_)
        have hi2:i < fn.ntmps - args.length:=by simpa using hi
        rw [List.getD_eq_getElem?_getD,List.getElem?_replicate,if_pos hi2,List.getD_eq_getElem?_getD,List.getElem?_replicate,if_pos (by rw [← hA.1];exact hi2)]
        exact .nores
       exact ⟨hl.1,fun i=>(hl.2 i).at0,hD,fun r j hr=>by have:=hE r _ hr;cases this⟩
      have fin:∀ (e:AEx) (T1:List Value) (S1:zn),(e=.normal∨e=.ret)→kH P (O.hp g) (Jh O.hp (O.hp g) (Js P O n)) n c (args++List.replicate (fn.ntmps - args.length) zh) S=some (e,T1,S1)→aeo P fn T1 S1=some (v,S') →
        ∃ a H' μ' ω',lim P g aargs H=some (a,H')∧GI μ' S' H'∧Later μ H μ' H'∧Kept ω H ω' H'∧Dom μ' H' ω'∧VV μ' H' ω' (some (.res none)) v a:=by
       intro e T1 S1 he hcode hres
       obtain ⟨A1,H1,μ1,ω1,h1,h2,h3,h4,h5⟩:=ag8 (ahy ih) n c _ _ _ _ _ _ _ _ _ hcode hG hT0
       obtain ⟨rfl,a,k1,k2⟩:=ajj (P:=P) h2 h5 hres
       refine ⟨a,H1,μ1,fun r=>(ω1 r).bind (place fn.results.toList),ahv hf hn hb h1 he k1,h2,h3,fun r hr=>?_,fun r s hs=>?_,k2⟩
       ·
        obtain ⟨q1,q2⟩:=h4 r hr
        exact ⟨by simp [q1,place],q2⟩
       ·
        cases hr:ω1 r with
        | none=>simp [hr] at hs
        | some s0=>exact h5.dom r s0 hr
      unfold agx at h
      split at h
      ·
       rename_i T1 S1 hx;exact fin .normal _ _ (.inl rfl) hx h
      ·
       rename_i T1 S1 hx;exact fin .ret _ _ (.inr rfl) hx h
      ·
       cases h
     split at h
     ·
      exact agF hrun aargs S v S' h μ H ω hG hA hD hE
     ·
      exact hrun aargs S v S' h μ H ω hG hA hD hE
end
end Go.Abs
namespace Go.Abs
open Go.RowKit
open Classical
noncomputable def zW (P:Program) (O:Ora) (g:FuncId) (args:List Value):M Value:=fun S =>
 if h:∃ r,∃ k0,∀ k,k0≤k→Js P O k g args S=some r then some (Classical.choose h) else none
section
variable {P:Program} {O:Ora}
theorem aaY {g:FuncId} {args:List Value} {S:zn} {r:Value×zn} (h:zW P O g args S=some r):∃ k0,∀ k,k0≤k→Js P O k g args S=some r:=by
 unfold zW at h
 split at h
 ·
  rename_i hx
  have:=Classical.choose_spec hx
  cases h
  exact this
 ·
  cases h
theorem abC {g:FuncId} {args:List Value} {S:zn} {r:Value×zn} (h:∃ k0,∀ k,k0≤k→Js P O k g args S=some r):zW P O g args S=some r:=by
 have hx:∃ r,∃ k0,∀ k,k0≤k→Js P O k g args S=some r:=⟨r,h⟩
 unfold zW
 rw [dif_pos hx]
 obtain ⟨k0,h0⟩:=h
 obtain ⟨k1,h1⟩:=Classical.choose_spec hx
 have e0:=h0 (max k0 k1) (Nat.le_max_left _ _)
 have e1:=h1 (max k0 k1) (Nat.le_max_right _ _)
 rw [e0] at e1
 exact e1.symm
theorem ajl (hO:aes P O):Qv P (zW P O):=by
 intro g args aargs S v S' h
 obtain ⟨k,hk⟩:=aaY h
 exact ag7 hO k g args aargs S v S' (hk k (Nat.le_refl k))
def ajH (c:FuncId→List Value→M Value) (ck:Nat→FuncId→List Value→M Value):Prop:=∀ g args S r,c g args S=some r→∃ k0,∀ k,k0≤k→ck k g args S=some r
theorem aaI:ajH (zW P O) (fun k=>Js P O k):=fun g args S r h=>aaY h
theorem XC {c:FuncId→List Value→M Value} {ck:Nat→FuncId→List Value→M Value} (hl:ajH c ck) {hps:FuncId→Bool} {hp:Bool}:ajH (Jh hps hp c) (fun k=>Jh hps hp (ck k)):=by
 cases hp with
 | false=>exact hl
 | true =>
  intro g args S r h
  unfold Jh at h
  dsimp only at h
  split at h
  ·
   rename_i hg
   obtain ⟨k0,h0⟩:=hl _ _ _ _ h
   exact ⟨k0,fun k hk=>by unfold Jh;dsimp only;rw [if_pos hg];exact h0 k hk⟩
  ·
   rename_i hg
   split at h <;> first | (cases h;done) | skip
   rename_i m S1 hf
   split at h <;> first | (cases h;done) | skip
   rename_i r0 hr0
   obtain ⟨k0,h0⟩:=hl _ _ _ _ hr0
   exact ⟨k0,fun k hk=>by unfold Jh;dsimp only;rw [if_neg hg,hf];dsimp only;rw [h0 k hk];exact h⟩
section
variable {c:FuncId→List Value→M Value} {ck:Nat→FuncId→List Value→M Value}
theorem aa0 (hl:ajH c ck) {fx:Fx} {T:List Value} {o:Oper} {S:zn} {r:Value×zn} (h:qR P fx c T o S=some r):∃ k0,∀ k,k0≤k→qR P fx (ck k) T o S=some r:=by
 unfold qR at h
 split at h
 ·
  rename_i hok
  split at h
  ·
   rename_i q0 hop
   split at h
   ·
    rename_i f hf
    split at h
    ·
     rename_i g first captured hev
     obtain ⟨k0,hk⟩:=hl _ _ _ _ h
     refine ⟨k0,fun k hkk=>?_⟩
     unfold qR
     rw [if_pos hok]
     simp only [hop,hf,hev]
     exact hk k hkk
    ·
     cases h
   ·
    rename_i b hb
    refine ⟨0,fun k _=>?_⟩
    unfold qR
    rw [if_pos hok]
    simp only [hop,hb]
    exact h
   ·
    cases h
  ·
   rename_i hop
   refine ⟨0,fun k _=>?_⟩
   unfold qR
   rw [if_pos hok]
   split
   ·
    rename_i q0 hc;exact absurd hc (hop q0)
   ·
    exact h
 ·
  cases h
theorem agH (hl:ajH c ck) {fx:Fx} {ops:Array Oper}:∀ (l:List Oper) (T:List Value) (S:zn) (r:List Value×zn),jw P fx c ops l T S=some r→∃ k0,∀ k,k0≤k→jw P fx (ck k) ops l T S=some r:=by
 intro l
 induction l with
 | nil=>intro T S r h;exact ⟨0,fun k _=>h⟩
 | cons o l ih =>
  intro T S r h
  simp only [jw] at h
  split at h
  ·
   rename_i hw
   split at h
   ·
    rename_i v S' hs
    obtain ⟨k1,h1⟩:=aa0 hl hs
    obtain ⟨k2,h2⟩:=ih _ _ _ h
    refine ⟨max k1 k2,fun k hk=>?_⟩
    simp only [jw,hw,if_true,h1 k (by omega)]
    exact h2 k (by omega)
   ·
    cases h
  ·
   rename_i hw
   obtain ⟨k2,h2⟩:=ih _ _ _ h
   refine ⟨k2,fun k hk=>?_⟩
   simp only [jw,hw,if_false]
   exact h2 k hk
theorem aeY (hl:ajH c ck) {fx:Fx} {chk:List Nat} {nl:List (Nat×Nat)} {ops:Array Oper}:∀ (l:List Oper) (i:Nat) (hist:List (Value×zn)) (T:List Value) (S:zn) (r:List Value×zn),qg P fx chk nl c ops i hist l T S=some r→∃ k0,∀ k,k0≤k→qg P fx chk nl (ck k) ops i hist l T S=some r:=by
 intro l
 induction l with
 | nil=>intro i hist T S r h;exact ⟨0,fun k _=>h⟩
 | cons o l ih =>
  intro i hist T S r h
  simp only [qg] at h
  split at h
  ·
   rename_i hw
   split at h
   ·
    rename_i v S' hs
    split at h
    ·
     rename_i hq
     obtain ⟨k1,h1⟩:=aa0 hl hs
     obtain ⟨k2,h2⟩:=ih _ _ _ _ _ h
     refine ⟨max k1 k2,fun k hk=>?_⟩
     simp only [qg,hw,if_true,h1 k (by omega),hq]
     exact h2 k (by omega)
    ·
     cases h
   ·
    cases h
  ·
   rename_i hw
   obtain ⟨k2,h2⟩:=ih _ _ _ _ _ h
   refine ⟨k2,fun k hk=>?_⟩
   simp only [qg,hw,if_false]
   exact h2 k hk
end
noncomputable def zG (P:Program) (O:Ora) (hp:Bool):Code→List Value→zn→St
 | .skip,T,H=>some (.normal,T,H)
 | .region _ ops false,T,H=>match jw P ⟨hp,false,false⟩ (Jh O.hp hp (zW P O)) ops ops.toList T H with
  | some (T1,H1)=>some (.normal,T1,H1)
  | none=>none
 | .region _ ops true,T,H=>if qW P ops then match qg P ⟨hp,!(checked P ops).isEmpty,fixed P ops⟩ (checked P ops) (again P ops) (Jh O.hp hp (zW P O)) ops 0 [] ops.toList T H with
  | some (T1,H1)=>some (.normal,T1,H1)
  | none=>none
  else none
 | .seq x y,T,H=>match zG P O hp x T H with
  | some (.normal,T1,H1)=>zG P O hp y T1 H1
  | r=>r
 | .cond c x y,T,H=>if vg c then
   match wE T c with
   | .bool true=>zG P O hp x T H
   | .bool false=>zG P O hp y T H
   | _=>none
  else none
 | .block id c,T,H=>match zG P O hp c T H with
  | some (.exit id',T1,H1)=>if id'=id then some (.normal,T1,H1) else some (.exit id',T1,H1)
  | r=>r
 | .loop c,T,H=>qw (zG P O hp c) T H
 | .exit id,T,H=>some (.exit id,T,H)
 | .ret,T,H=>some (.ret,T,H)
 | _,_,_=>none
theorem XF {hp:Bool}:∀ (c:Code) (T:List Value) (H:zn) (r),zG P O hp c T H=some r→∃ k0,∀ k fuel,k0≤k→k0≤fuel→kH P hp (Jh O.hp hp (Js P O k)) fuel c T H=some r:=by
 intro c
 induction c with
 | skip=>intro T H r h;exact ⟨0,fun k fuel _ _=>h⟩
 | region i ops d =>
  intro T H r h
  cases d with
  | false =>
   simp only [zG] at h
   split at h
   ·
    rename_i T1 H1 ho
    obtain ⟨k0,h0⟩:=agH (XC aaI) _ _ _ _ ho
    exact ⟨k0,fun k fuel hk _=>by simp only [kH,h0 k hk];exact h⟩
   ·
    cases h
  | true =>
   simp only [zG] at h
   split at h
   ·
    rename_i hd
    split at h
    ·
     rename_i T1 H1 ho
     obtain ⟨k0,h0⟩:=aeY (XC aaI) _ _ _ _ _ _ ho
     exact ⟨k0,fun k fuel hk _=>by simp only [kH,hd,if_true,h0 k hk];exact h⟩
    ·
     cases h
   ·
    cases h
 | seq x y ihx ihy =>
  intro T H r h
  simp only [zG] at h
  split at h
  ·
   rename_i T1 H1 hx
   obtain ⟨k1,h1⟩:=ihx _ _ _ hx
   obtain ⟨k2,h2⟩:=ihy _ _ _ h
   exact ⟨max k1 k2,fun k fuel hk hf=>by simp only [kH,h1 k fuel (by omega) (by omega)];exact h2 k fuel (by omega) (by omega)⟩
  ·
   rename_i hne
   obtain ⟨k1,h1⟩:=ihx _ _ _ h
   refine ⟨k1,fun k fuel hk hf=>?_⟩
   simp only [kH,h1 k fuel hk hf]
   split
   ·
    rename_i T1 H1 he;exact absurd (h.trans he) (hne T1 H1)
   ·
    rfl
 | cond c x y ihx ihy =>
  intro T H r h
  simp only [zG] at h
  split at h
  ·
   rename_i hok
   split at h
   ·
    rename_i hb
    obtain ⟨k1,h1⟩:=ihx _ _ _ h
    exact ⟨k1,fun k fuel hk hf=>by simp only [kH,hok,if_true,hb];exact h1 k fuel hk hf⟩
   ·
    rename_i hb
    obtain ⟨k1,h1⟩:=ihy _ _ _ h
    exact ⟨k1,fun k fuel hk hf=>by simp only [kH,hok,if_true,hb];exact h1 k fuel hk hf⟩
   ·
    cases h
  ·
   cases h
 | block id c ih =>
  intro T H r h
  simp only [zG] at h
  split at h
  ·
   rename_i id' T1 H1 hc
   obtain ⟨k1,h1⟩:=ih _ _ _ hc
   exact ⟨k1,fun k fuel hk hf=>by simp only [kH,h1 k fuel hk hf];exact h⟩
  ·
   rename_i hne
   obtain ⟨k1,h1⟩:=ih _ _ _ h
   refine ⟨k1,fun k fuel hk hf=>?_⟩
   simp only [kH,h1 k fuel hk hf]
   split
   ·
    rename_i id' T1 H1 he;exact absurd (h.trans he) (hne id' T1 H1)
   ·
    rfl
 | loop c ih =>
  intro T H r h
  simp only [zG] at h
  obtain ⟨n,hn⟩:=Wq h
  have key:∀ (n:Nat) (T:List Value) (H:zn),xE n (zG P O hp c) T H=some r→∃ k0,∀ k fuel,k0≤k→k0≤fuel→∀ j,n≤j→xE j (kH P hp (Jh O.hp hp (Js P O k)) fuel c) T H=some r:=by
   intro n
   induction n with
   | zero=>intro T H h;cases h
   | succ n ihn =>
    intro T H h
    simp only [xE] at h
    split at h
    ·
     rename_i T1 H1 hf
     obtain ⟨k1,h1⟩:=ih _ _ _ hf
     obtain ⟨k2,h2⟩:=ihn _ _ h
     refine ⟨max k1 k2,fun k fuel hk hfu j hj=>?_⟩
     obtain ⟨j,rfl⟩:∃ i,j=i+1:=⟨j - 1,by omega⟩
     simp only [xE,h1 k fuel (by omega) (by omega)]
     exact h2 k fuel (by omega) (by omega) j (by omega)
    ·
     rename_i hne
     obtain ⟨k1,h1⟩:=ih _ _ _ h
     refine ⟨k1,fun k fuel hk hfu j hj=>?_⟩
     obtain ⟨j,rfl⟩:∃ i,j=i+1:=⟨j - 1,by omega⟩
     simp only [xE,h1 k fuel hk hfu]
     split
     ·
      rename_i T1 H1 he;exact absurd (h.trans he) (hne T1 H1)
     ·
      rfl
  obtain ⟨k0,h0⟩:=key n T H hn
  exact ⟨max k0 n,fun k fuel hk hf=>by simp only [kH];exact h0 k fuel (by omega) (by omega) fuel (by omega)⟩
 | exit id=>intro T H r h;exact ⟨0,fun k fuel _ _=>h⟩
 | ret=>intro T H r h;exact ⟨0,fun k fuel _ _=>h⟩
 | _=>intro T H r h;simp only [zG] at h;cases h
theorem yD {f:FuncId} {fn:Func} {c:Code} {args:List Value} {H H1 H':zn} {e:AEx} {T:List Value} {v:Value} (ho:O.fn f=none) (hpu:O.pu f=false) (hf:P.funcs[f]?=some fn) (hn:fn.name≠ "runtime.NumGoroutine") (hb:fn.body=some c)
  (h:zG P O (O.hp f) c (args++List.replicate (fn.ntmps - args.length) zh) H=some (e,T,H1)) (he:e=.normal∨e=.ret) (hres:aeo P fn T H1=some (v,H')):zW P O f args H=some (v,H'):=by
 obtain ⟨k0,h0⟩:=XF _ _ _ _ h
 refine abC ⟨k0+1,fun k hk=>?_⟩
 obtain ⟨k,rfl⟩:∃ i,k=i+1:=⟨k - 1,by omega⟩
 simp only [Js,ho,hf,if_neg hn,hb,hpu,Bool.false_eq_true,if_false,agx,h0 k k (by omega) (by omega)]
 rcases he with rfl | rfl <;> exact hres
theorem yu {f:FuncId} {fn:Func} {c:Code} {args:List Value} {S H1 H':zn} {e:AEx} {T:List Value} {v:Value} (ho:O.fn f=none) (hpu:O.pu f=true) (hf:P.funcs[f]?=some fn) (hn:fn.name≠ "runtime.NumGoroutine") (hb:fn.body=some c)
  (h:zG P O (O.hp f) c (args++List.replicate (fn.ntmps - args.length) zh) zn.empty=some (e,T,H1)) (he:e=.normal∨e=.ret) (hres:aeo P fn T H1=some (v,H')) (hca:args.all (jP 16)=true) (hcv:jP 16 v=true):zW P O f args S=some (v,S):=by
 obtain ⟨k0,h0⟩:=XF _ _ _ _ h
 refine abC ⟨k0+1,fun k hk=>?_⟩
 obtain ⟨k,rfl⟩:∃ i,k=i+1:=⟨k - 1,by omega⟩
 have hr:agx P (O.hp f) (Jh O.hp (O.hp f) (Js P O k)) k fn c args zn.empty=some (v,H'):=by
  simp only [agx,h0 k k (by omega) (by omega)]
  rcases he with rfl | rfl <;> exact hres
 simp only [Js,ho,hf,if_neg hn,hb,hpu,if_true,afn,if_pos hca,hr,if_pos hcv]
def Ty.WO:(t:Ty)→t.Val→List Value
 | .int k,n=>[.int k n]
 | .bool,b=>[.bool b]
 | .str,s=>[.string s]
 | .slc _ e,l=>match l with
  | none=>[.slice none 0 0]
  | some l=>[SL 1 e.sz l.length (l.flatMap e.WO)]
 | .pair a b,(x,y)=>a.WO x++b.WO y
 | .unit,_=>[]
theorem Ty.abv:∀ (t:Ty) (x:t.Val),(t.WO x).length=t.sz:=by
 intro t
 induction t with
 | pair a b iha ihb=>rintro ⟨x,y⟩;simp [Ty.WO,Ty.sz,iha,ihb]
 | slc bytes e ih=>intro x;cases x <;> rfl
 | _=>intro x;rfl
theorem Qm {e:Ty} (l:List e.Val):(l.flatMap e.WO).length=l.length * e.sz:=by
 induction l with
 | nil=>simp
 | cons x l ih=>simp [List.flatMap_cons,Ty.abv,ih,Nat.add_mul];omega
def M0:Mu:=⟨fun _=>none,fun _=>false,[]⟩
theorem GI.none {H:zn}:GI M0 zn.empty H:=⟨(fun q o h=>by cases h),(fun q q' r h=>by cases h),(fun q r b h=>by cases h),(fun q _=>rfl),(fun q r h=>by cases h),(fun r h=>by cases h),rfl,(fun q cs anc e h=>by cases h)⟩
theorem Ty.Vu:∀ (t:Ty) (x:t.Val) (H:zn),Later M0 H M0 (t.place x H).2∧L0 M0 (t.place x H).2 (t.WO x) (t.place x H).1:=by
 intro t
 induction t with
 | int k=>intro x H;exact ⟨Later.refl _ _,VL.cons (.sg rfl) VL.nil⟩
 | bool=>intro x H;exact ⟨Later.refl _ _,VL.cons (.sg rfl) VL.nil⟩
 | str=>intro x H;exact ⟨Later.refl _ _,VL.cons (.sg rfl) VL.nil⟩
 | unit=>intro x H;exact ⟨Later.refl _ _,VL.nil⟩
 | pair a b iha ihb =>
  rintro ⟨x,y⟩ H
  obtain ⟨h1,h2⟩:=iha x H
  obtain ⟨h3,h4⟩:=ihb y (a.place x H).2
  exact ⟨h1.trans h3,(h2.later h3).append h4⟩
 | slc bytes e ih =>
  intro x H
  match x with
  | none=>exact ⟨Later.refl _ _,VL.cons (.sg rfl) VL.nil⟩
  | some []=>exact ⟨Later.refl _ _,VL.cons (.slE (e:=e.sz)) VL.nil⟩
  | some (x::l) =>
   have key:∀ (l:List e.Val) (H:zn),Later M0 H M0 (qM e.place l H).2∧L0 M0 (qM e.place l H).2 (l.flatMap e.WO) (qM e.place l H).1:=by
    intro l
    induction l with
    | nil=>intro H;exact ⟨Later.refl _ _,VL.nil⟩
    | cons x l ihl =>
     intro H
     obtain ⟨h1,h2⟩:=ih x H
     obtain ⟨h3,h4⟩:=ihl (e.place x H).2
     exact ⟨h1.trans h3,(h2.later h3).append h4⟩
   obtain ⟨h1,h2⟩:=key (x::l) H
   have hL:Later M0 (qM e.place (x::l) H).2 M0 ((qM e.place (x::l) H).2.push (.cells (qM e.place (x::l) H).1 .ro e.sz)):=Va (fun q r h=>by cases h) _
   refine ⟨h1.trans hL,VL.cons ?_ VL.nil⟩
   have hlen:(qM e.place (x::l) H).1.length=(l.length+1) * e.sz:=by rw [← h2.1,Qm];rfl
   show V0 M0 ((qM e.place (x::l) H).2.push (.cells (qM e.place (x::l) H).1 .ro e.sz)) (SL 1 e.sz (l.length+1) ((x::l).flatMap e.WO)) (.slice (some ⟨(qM e.place (x::l) H).2.next,0,none⟩) (l.length+1) (l.length+1))
   refine VV.sl (o:=0) (l:=(qM e.place (x::l) H).1) (own:=.ro) (by simp) ⟨fun q h=>(by cases h),rfl⟩ (by rw [zn.yJ,if_pos rfl]) (by omega) (by rw [List.toList_toArray,Qm];rfl) (fun i hi=>?_)
   rw [Nat.zero_add,List.toList_toArray]
   exact (h2.2 i).Jl hL
def Args.WO:(l:List (Bool×Ty))→Args l→List Value
 | [],_=>[]
 | (b,c)::l,(x,xs)=>JL b (c.WO x)::Args.WO l xs
theorem ahi {H:zn} {b:Bool} {cs cs':List Value} (h:L0 M0 H cs cs'):V0 M0 H (JL b cs) (JL b cs'):=by
 unfold JL
 split
 ·
  exact KX h
 ·
  rw [WE,WE];exact h.2 0
theorem Args.Vu:∀ (l:List (Bool×Ty)) (x:Args l) (H:zn),Later M0 H M0 (Args.place l x H).2∧L0 M0 (Args.place l x H).2 (Args.WO l x) (Args.place l x H).1:=by
 intro l
 induction l with
 | nil=>intro x H;exact ⟨Later.refl _ _,VL.nil⟩
 | cons p l ih =>
  obtain ⟨b,c⟩:=p
  rintro ⟨x,xs⟩ H
  obtain ⟨h1,h2⟩:=c.Vu x H
  obtain ⟨h3,h4⟩:=ih xs (c.place x H).2
  exact ⟨h1.trans h3,VL.cons ((ahi h2).Jl h3) h4⟩
theorem abH (hO:aes P O) {f:FuncId} {codes:List (Bool×Ty)} {x:Args codes} {S':zn} (h:zW P O f (Args.WO codes x) zn.empty=some (.bool true,S')) :
  ∃ k,(Jo P k f (Args.place codes x zn.empty).1 (Args.place codes x zn.empty).2).map (·.1)=some (.bool true):=by
 obtain ⟨h1,h2⟩:=Args.Vu codes x zn.empty
 obtain ⟨a,H',μ',ω',k1,k2,k3,k4,k5,k6⟩:=ajl hO f _ _ _ _ _ h M0 _ W0 GI.none h2 (fun r s hs=>by cases hs) (fun r s hs=>by cases hs)
 have:a=.bool true:=wW (k6.v0) rfl
 subst this
 exact adC k1
theorem ag1 {hps pus:FuncId→Bool}:aes P ⟨fun _=>none,hps,pus⟩:=fun f q h=>by cases h
end
end Go.Abs
namespace Go.Abs
open Go.RowKit
section
variable {R:Type} {P:Program} {O:Ora} {fx:Fx} {hp nm:Bool} {chk:List Nat} {call:FuncId→List Value→M Value} {ops:Array Oper}
def okC (v:Value) (r:Option R):Option R:=if okq 3 v=true then r else none
@[simp] theorem ac5 (b:Bool) (r:Option R):okC (.bool b) r=r:=Eq.trans rfl rfl
@[simp] theorem ae2 (k:IntKind) (n:Int) (r:Option R):okC (.int k n) r=r:=Eq.trans rfl rfl
@[simp] theorem XM (s:ByteArray) (r:Option R):okC (.string s) r=r:=Eq.trans rfl rfl
@[simp] theorem abe (a:Option Addr) (n c:Nat) (r:Option R):okC (.slice a n c) r=r:=Eq.trans rfl rfl
@[simp] theorem aaO (k:Nat) (v:Value) (r:Option R):okC (.iface k v) r=r:=Eq.trans rfl rfl
@[simp] theorem aiH (a:Option Addr) (r:Option R):okC (.pointer a) r=r:=Eq.trans rfl rfl
def gdC (v:Value) (b:Bool) (s:M Value) (S:zn) (K:Value→zn→Option R):Option R :=
 if (vb v == some b)=true then andThen (s S) (fun v S1=>okC v (K v S1)) else K zh S
@[simp] theorem ais (s:M Value) (H:zn) (K:Value→zn→Option R):gdC (.bool true) true s H K=andThen (s H) (fun v S1=>okC v (K v S1)):=Eq.trans rfl rfl
@[simp] theorem ahY (s:M Value) (H:zn) (K:Value→zn→Option R):gdC (.bool false) false s H K=andThen (s H) (fun v S1=>okC v (K v S1)):=Eq.trans rfl rfl
@[simp] theorem ahQ (s:M Value) (H:zn) (K:Value→zn→Option R):gdC (.bool true) false s H K=K zh H:=Eq.trans rfl rfl
@[simp] theorem ah9 (s:M Value) (H:zn) (K:Value→zn→Option R):gdC (.bool false) true s H K=K zh H:=Eq.trans rfl rfl
@[simp] theorem ahT (s:M Value) (b:Bool) (H:zn) (K:Value→zn→Option R):gdC zh b s H K=K zh H:=Eq.trans rfl rfl
abbrev vG {α:Type} (a:α):Type:=Unit
def zI (s:Option (Value×zn)) (K:Value→zn→Option R) (p:vG K):Option R:=andThen s K
def gdK (v:Value) (b:Bool) (s:M Value) (S:zn) (K:Value→zn→Option R) (p:vG K):Option R:=gd v b s S K
def agX (v:Value) (b:Bool) (s:M Value) (S:zn) (K:Value→zn→Option R) (p:vG K):Option R:=gdC v b s S K
def okK (v:Value) (r:Option R) (p:vG r):Option R:=okC v r
@[simp] theorem Kq (v:Value) (H:zn) (K:Value→zn→Option R) (p:vG K):zI (some (v,H)) K p=K v H:=Eq.trans rfl rfl
@[simp] theorem ah1 (s:M Value) (H:zn) (K:Value→zn→Option R) (p:vG K):gdK (.bool true) true s H K p=zI (s H) K p:=Eq.trans rfl rfl
@[simp] theorem ahR (s:M Value) (H:zn) (K:Value→zn→Option R) (p:vG K):gdK (.bool false) false s H K p=zI (s H) K p:=Eq.trans rfl rfl
@[simp] theorem aiz (s:M Value) (H:zn) (K:Value→zn→Option R) (p:vG K):gdK (.bool true) false s H K p=K zh H:=Eq.trans rfl rfl
@[simp] theorem ahW (s:M Value) (H:zn) (K:Value→zn→Option R) (p:vG K):gdK (.bool false) true s H K p=K zh H:=Eq.trans rfl rfl
@[simp] theorem aiB (s:M Value) (b:Bool) (H:zn) (K:Value→zn→Option R) (p:vG K):gdK zh b s H K p=K zh H:=Eq.trans rfl rfl
@[simp] theorem abM (s:M Value) (H:zn) (K:Value→zn→Option R) (p:vG K):agX (.bool true) true s H K p=zI (s H) (fun v S1=>okK v (K v S1) ()) ():=Eq.trans rfl rfl
@[simp] theorem acj (s:M Value) (H:zn) (K:Value→zn→Option R) (p:vG K):agX (.bool false) false s H K p=zI (s H) (fun v S1=>okK v (K v S1) ()) ():=Eq.trans rfl rfl
@[simp] theorem afO (s:M Value) (H:zn) (K:Value→zn→Option R) (p:vG K):agX (.bool true) false s H K p=K zh H:=Eq.trans rfl rfl
@[simp] theorem afo (s:M Value) (H:zn) (K:Value→zn→Option R) (p:vG K):agX (.bool false) true s H K p=K zh H:=Eq.trans rfl rfl
@[simp] theorem agt (s:M Value) (b:Bool) (H:zn) (K:Value→zn→Option R) (p:vG K):agX zh b s H K p=K zh H:=Eq.trans rfl rfl
@[simp] theorem acG (b:Bool) (r:Option R) (p:vG r):okK (.bool b) r p=r:=Eq.trans rfl rfl
@[simp] theorem ZN (k:IntKind) (n:Int) (r:Option R) (p:vG r):okK (.int k n) r p=r:=Eq.trans rfl rfl
@[simp] theorem Xw (s:ByteArray) (r:Option R) (p:vG r):okK (.string s) r p=r:=Eq.trans rfl rfl
@[simp] theorem aa3 (a:Option Addr) (n c:Nat) (r:Option R) (p:vG r):okK (.slice a n c) r p=r:=Eq.trans rfl rfl
@[simp] theorem KZ (a:Option Addr) (r:Option R) (p:vG r):okK (.pointer a) r p=r:=Eq.trans rfl rfl
theorem kM {v:Value} (h:okq 3 v=true) (r:Option R) (p:vG r):okK v r p=r:=if_pos h
theorem aez {l rest:List Oper} {o:Oper} {T:List Value} {T1:Value→List Value} {S:zn} {v:Value} {r:Option (List Value×zn)} (hl:l=o::rest) (hg:o.guard=none) (hm:∀ v,Jk o rest T v=T1 v)
  (hs:qR P fx call T o S=some (v,S)) (hK:jw P fx call ops rest (T1 v) S=r):jw P fx call ops l T S=r:=by
 subst hl
 simp only [jw,Region.wanted,hg,if_true,hs,hm]
 exact hK
theorem aiM {l rest:List Oper} {o:Oper} {T:List Value} {T1:Value→List Value} {S:zn} {s:Option (Value×zn)} {K:Value→zn→Option (List Value×zn)} (hl:l=o::rest) (hg:o.guard=none) (hm:∀ v,Jk o rest T v=T1 v)
  (hs:qR P fx call T o S=s) (hK:∀ v S1,jw P fx call ops rest (T1 v) S1=K v S1):jw P fx call ops l T S=zI s K ():=by
 show _=andThen s K
 subst hl hs
 simp only [jw,Region.wanted,hg,if_true,hm,hK]
 rfl
theorem aiE {l rest:List Oper} {o:Oper} {T:List Value} {T1:Value→List Value} {S:zn} {j:Nat} {b:Bool} {g:Value} {s:M Value} {K:Value→zn→Option (List Value×zn)} (hl:l=o::rest) (hg:o.guard=some (j,b)) (hm:∀ v,Jk o rest T v=T1 v)
  (hy:ynd ops T j=vb g) (hs:qR P fx call T o S=s S) (hK:∀ v S1,jw P fx call ops rest (T1 v) S1=K v S1):jw P fx call ops l T S=gdK g b s S K ():=by
 show _=gd g b s S K
 subst hl
 simp only [jw,Region.wanted,hg,hy,hs,hm,hK,gd]
 rfl
theorem ag4 {l rest:List Oper} {o:Oper} {T:List Value} {T1:Value→List Value} {S:zn} {k:Nat} {s:Option (Value×zn)} {K:Value→zn→Option (List Value×zn)} (hc:chk.contains k=false) (hl:l=o::rest) (hg:o.guard=none) (hm:∀ v,Jk o rest T v=T1 v)
  (hs:qR P fx call T o S=s) (hK:∀ v S1,qg P fx chk [] call ops (k+1) [] rest (T1 v) S1=K v S1):qg P fx chk [] call ops k [] l T S=zI s K ():=by
 show _=andThen s K
 subst hl hs
 simp only [qg,Zv,List.isEmpty_nil,if_true,Region.wanted,hg,if_true,hm,hK,hc,Bool.not_false,Bool.true_or]
 rfl
theorem aee {l rest:List Oper} {o:Oper} {T:List Value} {T1:Value→List Value} {S:zn} {k:Nat} {v:Value} {r:Option (List Value×zn)} (hc:chk.contains k=false) (hl:l=o::rest) (hg:o.guard=none) (hm:∀ v,Jk o rest T v=T1 v)
  (hs:qR P fx call T o S=some (v,S)) (hK:qg P fx chk [] call ops (k+1) [] rest (T1 v) S=r):qg P fx chk [] call ops k [] l T S=r:=by
 subst hl
 simp only [qg,Zv,List.isEmpty_nil,if_true,Region.wanted,hg,if_true,hs,hm,hc,Bool.not_false,Bool.true_or]
 exact hK
theorem abt {l rest:List Oper} {o:Oper} {T:List Value} {T1:Value→List Value} {S:zn} {k:Nat} {v:Value} {r:Option (List Value×zn)} (hc:chk.contains k=true) (hl:l=o::rest) (hg:o.guard=none) (hm:∀ v,Jk o rest T v=T1 v)
  (hs:qR P fx call T o S=some (v,S)) (hK:qg P fx chk [] call ops (k+1) [] rest (T1 v) S=r):qg P fx chk [] call ops k [] l T S=okK v r ():=by
 show _=okC v r
 subst hl
 simp only [qg,Zv,List.isEmpty_nil,if_true,Region.wanted,hg,if_true,hs,hm,hc,Bool.not_true,Bool.false_or]
 rw [← hK]
 rfl
theorem ahH {l rest:List Oper} {o:Oper} {T:List Value} {T1:Value→List Value} {S:zn} {j k:Nat} {b:Bool} {g:Value} {s:M Value} {K:Value→zn→Option (List Value×zn)} (hc:chk.contains k=false) (hl:l=o::rest) (hg:o.guard=some (j,b)) (hm:∀ v,Jk o rest T v=T1 v)
  (hy:ynd ops T j=vb g) (hs:qR P fx call T o S=s S) (hK:∀ v S1,qg P fx chk [] call ops (k+1) [] rest (T1 v) S1=K v S1):qg P fx chk [] call ops k [] l T S=gdK g b s S K ():=by
 show _=gd g b s S K
 subst hl
 simp only [qg,Zv,List.isEmpty_nil,if_true,Region.wanted,hg,hy,hs,hm,hK,gd,hc,Bool.not_false,Bool.true_or,if_true]
 rfl
theorem ahr {l rest:List Oper} {o:Oper} {T:List Value} {T1:Value→List Value} {S:zn} {k:Nat} {s:Option (Value×zn)} {K:Value→zn→Option (List Value×zn)} (hc:chk.contains k=false) {x:Nat×Nat} {nl:List (Nat×Nat)} {hist:List (Value×zn)} {pe:Value} (hpe:ZX T o=pe) (hl:l=o::rest) (hg:o.guard=none) (hm:∀ v,Jk o rest T v=T1 v)
  (hs:qR P fx call T o S=s) (hK:∀ v S1,qg P fx chk (x::nl) call ops (k+1) (hist++[(pe,S)]) rest (T1 v) S1=K v S1):qg P fx chk (x::nl) call ops k hist l T S=zI s K ():=by
 show _=andThen s K
 subst hl hs
 simp only [qg,Zv,List.isEmpty_cons,Bool.false_eq_true,if_false,hpe,Region.wanted,hg,if_true,hm,hK,hc,Bool.not_false,Bool.true_or]
 rfl
theorem af5 {l rest:List Oper} {o:Oper} {T:List Value} {T1:Value→List Value} {S:zn} {k:Nat} {s:Option (Value×zn)} {K:Value→zn→Option (List Value×zn)} (hc:chk.contains k=true) {x:Nat×Nat} {nl:List (Nat×Nat)} {hist:List (Value×zn)} {pe:Value} (hpe:ZX T o=pe) (hl:l=o::rest) (hg:o.guard=none) (hm:∀ v,Jk o rest T v=T1 v)
  (hs:qR P fx call T o S=s) (hK:∀ v S1,qg P fx chk (x::nl) call ops (k+1) (hist++[(pe,S)]) rest (T1 v) S1=K v S1):qg P fx chk (x::nl) call ops k hist l T S=zI s (fun v S1=>okK v (K v S1) ()) ():=by
 show _=andThen s (fun v S1=>okC v (K v S1))
 subst hl hs
 simp only [qg,Zv,List.isEmpty_cons,Bool.false_eq_true,if_false,hpe,Region.wanted,hg,if_true,hm,hK,hc,Bool.not_true,Bool.false_or]
 rfl
theorem adP {l rest:List Oper} {o:Oper} {T:List Value} {T1:Value→List Value} {S:zn} {k:Nat} {v:Value} {r:Option (List Value×zn)} (hc:chk.contains k=false) {x:Nat×Nat} {nl:List (Nat×Nat)} {hist:List (Value×zn)} {pe:Value} (hpe:ZX T o=pe) (hl:l=o::rest) (hg:o.guard=none) (hm:∀ v,Jk o rest T v=T1 v)
  (hs:qR P fx call T o S=some (v,S)) (hK:qg P fx chk (x::nl) call ops (k+1) (hist++[(pe,S)]) rest (T1 v) S=r):qg P fx chk (x::nl) call ops k hist l T S=r:=by
 subst hl
 simp only [qg,Zv,List.isEmpty_cons,Bool.false_eq_true,if_false,hpe,Region.wanted,hg,if_true,hs,hm,hc,Bool.not_false,Bool.true_or]
 exact hK
theorem acg {l rest:List Oper} {o:Oper} {T:List Value} {T1:Value→List Value} {S:zn} {k:Nat} {v:Value} {r:Option (List Value×zn)} (hc:chk.contains k=true) {x:Nat×Nat} {nl:List (Nat×Nat)} {hist:List (Value×zn)} {pe:Value} (hpe:ZX T o=pe) (hl:l=o::rest) (hg:o.guard=none) (hm:∀ v,Jk o rest T v=T1 v)
  (hs:qR P fx call T o S=some (v,S)) (hK:qg P fx chk (x::nl) call ops (k+1) (hist++[(pe,S)]) rest (T1 v) S=r):qg P fx chk (x::nl) call ops k hist l T S=okK v r ():=by
 show _=okC v r
 subst hl
 simp only [qg,Zv,List.isEmpty_cons,Bool.false_eq_true,if_false,hpe,Region.wanted,hg,if_true,hs,hm,hc,Bool.not_true,Bool.false_or]
 rw [← hK]
 rfl
theorem ahj {l rest:List Oper} {o:Oper} {T:List Value} {T1:Value→List Value} {S:zn} {j k:Nat} {b:Bool} {g:Value} {s:M Value} {K:Value→zn→Option (List Value×zn)} (hc:chk.contains k=false) {x:Nat×Nat} {nl:List (Nat×Nat)} {hist:List (Value×zn)} {pe:Value} (hpe:ZX T o=pe) (hl:l=o::rest) (hg:o.guard=some (j,b)) (hm:∀ v,Jk o rest T v=T1 v)
  (hy:ynd ops T j=vb g) (hs:qR P fx call T o S=s S) (hK:∀ v S1,qg P fx chk (x::nl) call ops (k+1) (hist++[(pe,S)]) rest (T1 v) S1=K v S1):qg P fx chk (x::nl) call ops k hist l T S=gdK g b s S K ():=by
 show _=gd g b s S K
 subst hl
 simp only [qg,Zv,List.isEmpty_cons,Bool.false_eq_true,if_false,hpe,Region.wanted,hg,hy,hs,hm,hK,gd,hc,Bool.not_false,Bool.true_or,if_true]
 rfl
theorem aeA {l rest:List Oper} {o:Oper} {T:List Value} {T1:Value→List Value} {S:zn} {j k:Nat} {b:Bool} {g:Value} {s:M Value} {K:Value→zn→Option (List Value×zn)} (hc:chk.contains k=true) {x:Nat×Nat} {nl:List (Nat×Nat)} {hist:List (Value×zn)} {pe:Value} (hpe:ZX T o=pe) (hl:l=o::rest) (hg:o.guard=some (j,b)) (hm:∀ v,Jk o rest T v=T1 v)
  (hy:ynd ops T j=vb g) (hs:qR P fx call T o S=s S) (hK:∀ v S1,qg P fx chk (x::nl) call ops (k+1) (hist++[(pe,S)]) rest (T1 v) S1=K v S1):qg P fx chk (x::nl) call ops k hist l T S=agX g b s S K ():=by
 show _=gdC g b s S K
 subst hl
 simp only [qg,Zv,List.isEmpty_cons,Bool.false_eq_true,if_false,hpe,Region.wanted,hg,hy,hs,hm,hK,gdC,hc,Bool.not_true,Bool.false_or]
 rfl
def ckK (c:Bool) (r:Option R) (p:vG r):Option R:=if c then r else none
@[simp] theorem ac6 (r:Option R) (p:vG r):ckK true r p=r:=Eq.trans rfl rfl
noncomputable def aiU (P:Program) (O:Ora) (hp:Bool) (v:Value) (x y:Code) (T:List Value) (S:zn):St:=agS v (zG P O hp x T S) (zG P O hp y T S)
@[simp] theorem X7 (x y:Code) (T:List Value) (S:zn):aiU P O hp (.bool true) x y T S=zG P O hp x T S:=Eq.trans rfl rfl
@[simp] theorem Kr (x y:Code) (T:List Value) (S:zn):aiU P O hp (.bool false) x y T S=zG P O hp y T S:=Eq.trans rfl rfl
@[simp] theorem Ky (T:List Value) (H:zn):zG P O hp .skip T H=some (.normal,T,H):=Eq.trans rfl rfl
@[simp] theorem XU (T:List Value) (H:zn):zG P O hp .ret T H=some (.ret,T,H):=Eq.trans rfl rfl
@[simp] theorem KC (i:Nat) (T:List Value) (H:zn):zG P O hp (.exit i) T H=some (.exit i,T,H):=Eq.trans rfl rfl
@[simp] theorem YK (i:Nat) (ops:Array Oper) (T:List Value) (H:zn):zG P O false (.region i ops false) T H=Jb (jw P ⟨false,false,false⟩ (zW P O) ops ops.toList T H):=Eq.trans rfl rfl
@[simp] theorem WT (i:Nat) (ops:Array Oper) (T:List Value) (H:zn):zG P O true (.region i ops false) T H=Jb (jw P ⟨true,false,false⟩ (Jh O.hp true (zW P O)) ops ops.toList T H):=Eq.trans rfl rfl
theorem yF {i:Nat} {ops:Array Oper} (hd:qW P ops=true) (hf:fixed P ops=nm) (hc:checked P ops=chk) {nl:List (Nat×Nat)} (hn:again P ops=nl) (T:List Value) (H:zn):zG P O false (.region i ops true) T H=Jb (qg P ⟨false,!chk.isEmpty,nm⟩ chk nl (zW P O) ops 0 [] ops.toList T H):=by
 subst hf hc hn
 simp only [zG,hd,if_true,Jh]
 rfl
@[simp] theorem XD (x y:Code) (T:List Value) (H:zn):zG P O hp (.seq x y) T H=akh (zG P O hp x T H) (zG P O hp y):=Eq.trans rfl rfl
@[simp] theorem Qn (i:Nat) (c:Code) (T:List Value) (H:zn):zG P O hp (.block i c) T H=aaR i (zG P O hp c T H):=Eq.trans rfl rfl
@[simp] theorem QX (c:Code) (T:List Value) (H:zn):zG P O hp (.loop c) T H=qw (zG P O hp c) T H:=Eq.trans rfl rfl
@[simp] theorem QS (t:Tmp) (x y:Code) (T:List Value) (H:zn):zG P O hp (.cond (.tmp t) x y) T H=aiU P O hp (T.getD t zh) x y T H:=by
 simp only [zG,vg,if_true,wE]
 rfl
@[simp] theorem KE:dem zh=zh:=JV
@[simp] theorem aff (k:IntKind) (n:Int):dem (.int k n)=.int k n:=Eq.trans rfl rfl
@[simp] theorem ac0 (b:Bool):dem (.bool b)=.bool b:=Eq.trans rfl rfl
@[simp] theorem XP (s:ByteArray):dem (.string s)=.string s:=Eq.trans rfl rfl
@[simp] theorem agk:dem (.slice none 0 0)=.slice none 0 0:=Eq.trans rfl rfl
@[simp] theorem afk (x:Array Value):dem (.agg x)=.agg x:=Eq.trans rfl rfl
@[simp] theorem acF (f:Fn) (x c:Array Value):dem (.func f x c)=.func f x c:=Eq.trans rfl rfl
@[simp] theorem QI (a:Option Addr):dem (.pointer a)=.pointer a:=Eq.trans rfl rfl
@[simp] theorem akw (e n:Nat) (cs:List Value):dem (SL 1 e n cs)=SL 1 e n cs:=Eq.trans rfl rfl
@[simp] theorem akz (e n:Nat) (cs:List Value):dem (SL 2 e n cs)=SL 1 e n cs:=Eq.trans rfl rfl
@[simp] theorem ain (k e n:Nat) (cs:List Value) (r:Option R) (p:vG r):okK (SL k e n cs) r p=r:=Eq.trans rfl rfl
@[simp] theorem aiy (cs:List Value) (r:Option R) (p:vG r):okK (EP cs) r p=r:=Eq.trans rfl rfl
@[simp] theorem akV (k e n:Nat) (cs:List Value) (r:Option R):okC (SL k e n cs) r=r:=Eq.trans rfl rfl
@[simp] theorem aie (cs:List Value) (r:Option R):okC (EP cs) r=r:=Eq.trans rfl rfl
def sv (k e n:Nat) (cs:List Value):Value:=if k=0 then .slice none 0 0 else SL k e n cs
structure Okv (k n:Nat) (cs:List Value):Prop where
 le:k≤2
 nil:k=0→n=0∧cs=[]
theorem sv0 {e n:Nat} {cs:List Value}:sv 0 e n cs=.slice none 0 0:=rfl
theorem sv1 {e n:Nat} {cs:List Value}:sv 1 e n cs=SL 1 e n cs:=rfl
theorem sv2 {e n:Nat} {cs:List Value}:sv 2 e n cs=SL 2 e n cs:=rfl
@[simp] theorem acQ (k e n:Nat) (cs:List Value):dem (sv k e n cs)=sv (if k=2 then 1 else k) e n cs:=by
 unfold sv
 by_cases h0:k=0
 ·
  subst h0;rfl
 ·
  by_cases h2:k=2
  ·
   subst h2;rfl
  ·
   rw [if_neg h0,if_neg h2,if_neg h0]
   simp only [SL,dem,vF,if_neg h2]
@[simp] theorem aaW (k e n:Nat) (cs:List Value) (r:Option R):okC (sv k e n cs) r=r:=by
 unfold sv;split <;> rfl
@[simp] theorem ahX (k e n:Nat) (cs:List Value) (r:Option R) (p:vG r):okK (sv k e n cs) r p=r:=aaW k e n cs r
theorem af2 {k e n:Nat} {cs:List Value} (h:Okv k n cs):∃ e',vSl (sv k e n cs)=some (e',n,cs)∧(e'=e∨n=0∧cs=[]):=by
 unfold sv
 by_cases h0:k=0
 ·
  obtain ⟨rfl,rfl⟩:=h.nil h0
  rw [if_pos h0]
  exact ⟨0,rfl,.inr ⟨rfl,rfl⟩⟩
 ·
  rw [if_neg h0]
  have:k=1∨k=2:=by have:=h.le;omega
  exact ⟨e,by simp [SL,vSl,this],.inl rfl⟩
theorem ai4 {t te:TypeId} {k e n:Nat} {cs:List Value} {S:zn} (ht:P.underlying t=some (.slice te)) (h:Okv k n cs):Zz P t (sv k e n cs) S=some (goInt n,S):=by
 by_cases h0:k=0
 ·
  obtain ⟨rfl,rfl⟩:=h.nil h0
  subst h0
  simp only [sv0,Zz,abr,ht]
 ·
  obtain ⟨e',h1,_⟩:=af2 (e:=e) h
  simp only [sv,if_neg h0] at h1 ⊢
  simp only [SL] at h1 ⊢
  simp only [Zz,ht,h1]
theorem YT {t te:TypeId} {k e n:Nat} {cs:List Value} {S:zn} {ki:IntKind} {i:Int} (ht:P.underlying t=some (.slice te)) (he:ZV P te=some e) (h:Okv k n cs) (h0:0≤i) (hi:i < n) :
  jo P t (sv k e n cs) (.int ki i) S=some (EP ((cs.drop (i.toNat * e)).take e),S):=by
 have hk:k≠0:=fun e=>by have:=(h.nil e).1;omega
 have hk2:k=1∨k=2:=by have:=h.le;omega
 have h1:vSl (SL k e n cs)=some (e,n,cs):=by simp [SL,vSl,hk2]
 simp only [sv,if_neg hk]
 simp only [SL] at h1 ⊢
 simp only [jo,ht,h1,he,if_true]
 rw [if_pos ⟨h0,hi⟩]
@[simp] theorem Jr {t:TypeId} {v:Value} {S:zn} (ht:xA P t=some false):jf P nm t (EP [v]) S=some (v,S):=by
 simp [EP,jf,ht]
theorem agi {t:TypeId} {n:Nat} {cs:List Value} {S:zn} (ht:xA P t=some true) (hn:ZV P t=some n) (hc:cs.length=n):jf P nm t (EP cs) S=some (.agg cs.toArray,S):=by
 simp only [EP,jf,ht,hn,if_true,List.toList_toArray]
 rw [if_pos (by omega),← hc,List.take_length]
theorem afu {t te:TypeId} {k e n:Nat} {cs:List Value} {S:zn} {lo hi:Option Value} {i j:Int} (ht:P.underlying t=some (.slice te)) (he:ZV P te=some e) (h:Okv k n cs) (hlo:Zk 0 lo=some i) (hhi:Zk n hi=some j)
  (h0:0≤i) (hij:i≤j) (hj:j≤n):ZL P t (sv k e n cs) lo hi S=some (sv (if k=2 then 1 else k) e (j.toNat - i.toNat) ((cs.drop (i.toNat * e)).take ((j.toNat - i.toNat) * e)),S):=by
 by_cases hk:k=0
 ·
  obtain ⟨rfl,rfl⟩:=h.nil hk
  subst hk
  simp only [sv0,ZL,ht,vSl,he,hlo,hhi,if_pos h0,if_pos hij,if_pos hj]
  rfl
 ·
  have hk2:k=1∨k=2:=by have:=h.le;omega
  have h1:vSl (SL k e n cs)=some (e,n,cs):=by simp [SL,vSl,hk2]
  have h3:(if k=2 then 1 else k)=1:=by rcases hk2 with rfl | rfl <;> rfl
  rw [h3]
  simp only [sv,if_neg hk]
  simp only [SL] at h1 ⊢
  simp only [ZL,ht,h1,he,hlo,hhi,if_pos h0,if_pos hij,if_pos hj,if_true]
  rfl
theorem agU {t te:TypeId} {k e n:Nat} {cs:List Value} {S:zn} (ht:P.underlying t=some (.slice te)) (h:Okv k n cs):wB P .eql t (sv k e n cs) (.slice none 0 0) S=some (.bool (decide (k=0)),S):=by
 by_cases hk:k=0
 ·
  subst hk
  simp only [sv0,wB,JF,xX,ht,JM]
  rfl
 ·
  have hk2:k=1∨k=2:=by have:=h.le;omega
  have h1:vSl (SL k e n cs)=some (e,n,cs):=by simp [SL,vSl,hk2]
  simp only [sv,if_neg hk]
  simp only [SL] at h1 ⊢
  simp only [wB,ht,h1]
  simp [hk]
@[simp] theorem aai (k e n:Nat) (cs:List Value):abn (sv k e n cs)=false:=by unfold sv;split <;> rfl
@[simp] theorem YZ (dr:Bool) (t:TypeId) (k e n:Nat) (cs:List Value) (lo hi:Option Value) (S:zn):ZC P dr t (sv k e n cs) lo hi S=ZL P t (sv k e n cs) lo hi S:=by
 unfold ZC;rw [aai];rfl
@[simp] theorem WU (dr:Bool) (t:TypeId) (s:ByteArray) (lo hi:Option Value) (S:zn):ZC P dr t (.string s) lo hi S=ZL P t (.string s) lo hi S:=Eq.trans rfl rfl
@[simp] theorem KY (hp dr:Bool) (src dst:TypeId) (k e n:Nat) (cs:List Value) (S:zn):qA P hp dr src dst (sv k e n cs) S=ZO P src dst (sv k e n cs) S:=by
 unfold qA
 rw [aai]
 have:∀ s,sv k e n cs≠.string s:=by intro s;unfold sv;split <;> (intro h;cases h)
 cases hp <;> simp only [Bool.false_eq_true,if_false] <;> (split <;> first | rfl | (rename_i h;exact absurd h (this _)) | skip)
@[simp] theorem Xy (hp dr:Bool) (src dst:TypeId) (k:IntKind) (n:Int) (S:zn):qA P hp dr src dst (.int k n) S=ZO P src dst (.int k n) S:=by cases hp <;> rfl
@[simp] theorem YE (dr:Bool) (src dst:TypeId) (s:ByteArray) (S:zn):qA P false dr src dst (.string s) S=ZO P src dst (.string s) S:=Eq.trans rfl rfl
@[simp] theorem WV (dr:Bool) (src dst:TypeId) (s:ByteArray) (S:zn):qA P true dr src dst (.string s) S=qZ P src dst (.string s) S:=Eq.trans rfl rfl
theorem adS {t te tx tex:TypeId} {k e n j m bytes:Nat} {cs ds:List Value} {z:Value} {S:zn} (ht:P.underlying t=some (.slice te)) (he:ZV P te=some e) (hz:zeroOf P te=some z) (hzs:z.cells.size=e) (hb:bytesOf P te=some bytes) (hp:0 < e)
  (htx:P.underlying tx=some (.slice tex)) (h:Okv k n cs) (hk:k≠1) (hx:Okv j m ds) (hn:cs.length=n * e) (hm:ds.length=m * e) (h1:cs.all (·.oneCell')=true) (h2:ds.all (·.oneCell')=true) (hl:(n+m) * bytes≤140737488355328) (hmax:n+m≤4611686018427387903) :
  wP P t tx (sv k e n cs) (sv j e m ds) S=some (sv (if k=0∧m=0 then 0 else 2) e (n+m) (cs++ds),S):=by
 have hel:ZB P t=some te:=by simp only [ZB,ht]
 have hsrc:ajJ P tx e (sv j e m ds)=some (m,ds):=by
  obtain ⟨e',q1,q2⟩:=af2 (e:=e) hx
  have hns:∀ s,sv j e m ds≠.string s:=by intro s;unfold sv;split <;> (intro h;cases h)
  have hcond:m=0∨e'=e:=q2.elim .inr fun h=>.inl h.1
  unfold ajJ
  split
  ·
   rename_i s hs;exact absurd hs (hns s)
  ·
   simp only [htx,q1,if_pos hcond,if_pos hm,h2,if_true]
 have hsrc:afm P tx e (sv j e m ds) S=some (m,ds):=by
  unfold afm
  rw [aai]
  exact hsrc
 by_cases hk0:k=0
 ·
  obtain ⟨rfl,rfl⟩:=h.nil hk0
  subst hk0
  simp only [sv0,wP,WC,hel,he,hz,hb,if_pos hp,if_pos hzs,hsrc]
  by_cases hm0:m=0
  ·
   subst hm0
   simp [sv0]
  ·
   rw [Nat.zero_add] at hl hmax
   rw [if_neg hm0,if_pos hl,if_pos hmax,if_neg Bool.false_ne_true,if_neg (fun h=>hm0 h.2),sv2,Nat.zero_add,List.nil_append]
 ·
  have hk2:k=2:=by have:=h.le;omega
  subst hk2
  rw [if_neg (fun h=>hk0 h.1)]
  have h1':cs.toArray.toList.all (·.oneCell')=true:=by simpa using h1
  simp only [sv2,SL,wP,WC,hel,he,hz,hb,if_pos hp,if_pos hzs,hsrc,if_true,if_pos hl,if_pos hmax,h1']
@[simp] theorem adi (op:BinOp) (t:TypeId) (k k':IntKind) (a b:Int) (S:zn):wB P op t (.int k a) (.int k' b) S=JF P op t (.int k a) (.int k' b) S:=Eq.trans rfl rfl
@[simp] theorem KW (op:BinOp) (t:TypeId) (a b:ByteArray) (S:zn):wB P op t (.string a) (.string b) S=JF P op t (.string a) (.string b) S:=Eq.trans rfl rfl
@[simp] theorem aaL (op:BinOp) (t:TypeId) (a b:Bool) (S:zn):wB P op t (.bool a) (.bool b) S=JF P op t (.bool a) (.bool b) S:=Eq.trans rfl rfl
@[simp] theorem acV (op:BinOp) (t:TypeId) (a b:Array Value) (S:zn):wB P op t (.agg a) (.agg b) S=JF P op t (.agg a) (.agg b) S:=Eq.trans rfl rfl
@[simp] theorem Xx (b:Bool) (x y:Value) (S:zn):wR (.bool b) x y S=some (if b then dem x else dem y,S):=Eq.trans rfl rfl
@[simp] theorem abl {src dst:TypeId} (k:IntKind) (n:Int) (S:zn):ZO P src dst (.int k n) S=qZ P src dst (.int k n) S:=Eq.trans rfl rfl
@[simp] theorem W9 (vs:List Value) (i:Nat) (S:zn):zU (.tuple vs.toArray) i S=(vs[i]?).map (·,S):=by
 simp only [zU,List.getElem?_toArray]
 cases vs[i]? <;> rfl
end
end Go.Abs
namespace Go.Abs
theorem yY {P:Program} {fn:Func} {a b:Value} {r:List Value} {T:List Value} {S:zn} (h:zK P T S fn.results.toList=some (a::b::r)) (hn:ajw fn.results.toList=true) (hall:(a::b::r).all wu=true) :
  aeo P fn T S=some (.tuple (a::b::r).toArray,S):=by
 unfold aeo
 rw [h]
 dsimp only
 rw [if_pos hn,if_pos hall]
theorem yA {P:Program} {fn:Func} {a:Value} {T:List Value} {S:zn} (h:zK P T S fn.results.toList=some [a]) (hn:ajw fn.results.toList=true):aeo P fn T S=some (a,S):=by
 unfold aeo
 rw [h]
 dsimp only
 rw [if_pos hn]
@[simp] theorem jW (k:IntKind) (n:Int):wu (.int k n)=true:=rfl
@[simp] theorem jO (b:Bool):wu (.bool b)=true:=rfl
@[simp] theorem abB (k e n:Nat) (cs:List Value):wu (sv k e n cs)=true:=by unfold sv;split <;> rfl
@[simp] theorem jX (x:Array Value):wu (.agg x)=true:=rfl
@[simp] theorem jK (a:Option Addr) (n c:Nat):wu (.slice a n c)=true:=rfl
end Go.Abs
namespace Go.Abs
open Go.RowKit
def vs {α:Type} (f:α→List Value) (e k:Nat) (l:List α):Value:=sv k e l.length (l.flatMap f)
structure Okl {α:Type} (k:Nat) (l:List α):Prop where
 le:k≤2
 nil:k=0→l=[]
theorem Okl.own {α:Type} {l:List α}:Okl 2 l:=⟨Nat.le_refl 2,(fun h=>by cases h)⟩
theorem Okl.read {α:Type} {l:List α}:Okl 1 l:=⟨by omega,(fun h=>by cases h)⟩
theorem Okl.none {α:Type}:Okl 0 ([]:List α):=⟨by omega,fun _=>rfl⟩
theorem Okl.dem {α:Type} {k:Nat} {l:List α} (h:Okl k l):Okl (if k=2 then 1 else k) l:=⟨by have:=h.le;split <;> omega,fun hk=>h.nil (by split at hk <;> omega)⟩
def cb (b:UInt8):List Value:=[.int .u8 b.toNat]
def ci (n:Int):List Value:=[.int .i64 n]
section
variable {R α:Type} {P:Program} {f:α→List Value} {e k j:Nat} {l m:List α} {t te tx tex:TypeId} {S:zn}
theorem Okl.okv (h:Okl k l):Okv k l.length (l.flatMap f):=⟨h.le,fun h0=>by rw [h.nil h0];exact ⟨rfl,rfl⟩⟩
theorem Ya (hf:∀ x,(f x).length=e) (l:List α):(l.flatMap f).length=l.length * e:=by
 induction l with
 | nil=>simp
 | cons x l ih=>simp only [List.flatMap_cons,List.length_append,hf,ih,List.length_cons,Nat.add_mul];omega
theorem Qk (hf:∀ x,(f x).length=e) (l:List α):∀ (i:Nat),(l.flatMap f).drop (i * e)=(l.drop i).flatMap f:=by
 induction l with
 | nil=>intro i;simp
 | cons x l ih =>
  intro i
  cases i with
  | zero=>simp
  | succ i =>
   rw [List.flatMap_cons,List.drop_succ_cons,← ih i,List.drop_append,List.drop_eq_nil_of_le (by rw [hf,Nat.add_mul];omega),List.nil_append,hf]
   congr 1
   rw [Nat.add_mul];omega
theorem Qh (hf:∀ x,(f x).length=e) (l:List α):∀ (i:Nat),(l.flatMap f).take (i * e)=(l.take i).flatMap f:=by
 induction l with
 | nil=>intro i;simp
 | cons x l ih =>
  intro i
  cases i with
  | zero=>simp
  | succ i =>
   rw [List.flatMap_cons,List.take_succ_cons,List.flatMap_cons,← ih i,List.take_append,List.take_of_length_le (by rw [hf,Nat.add_mul];omega),hf]
   congr 2
   rw [Nat.add_mul];omega
@[simp] theorem XE:dem (vs f e k l)=vs f e (if k=2 then 1 else k) l:=acQ _ _ _ _
@[simp] theorem ahZ (r:Option R):okC (vs f e k l) r=r:=aaW _ _ _ _ _
@[simp] theorem aii (r:Option R) (p:vG r):okK (vs f e k l) r p=r:=aaW _ _ _ _ _
@[simp] theorem aky:abn (vs f e k l)=false:=aai _ _ _ _
@[simp] theorem XA (dr:Bool) (lo hi:Option Value):ZC P dr t (vs f e k l) lo hi S=ZL P t (vs f e k l) lo hi S:=YZ _ _ _ _ _ _ _ _ _
@[simp] theorem Jp (hp dr:Bool) (src dst:TypeId):qA P hp dr src dst (vs f e k l) S=ZO P src dst (vs f e k l) S:=KY _ _ _ _ _ _ _ _ _
@[simp] theorem wC:wu (vs f e k l)=true:=abB _ _ _ _
theorem acs (ht:P.underlying t=some (.slice te)) (h:Okl k l):Zz P t (vs f e k l) S=some (goInt l.length,S):=ai4 ht h.okv
theorem acv (ht:P.underlying t=some (.slice te)) (h:Okl k l):wB P .eql t (vs f e k l) (.slice none 0 0) S=some (.bool (decide (k=0)),S):=agU ht h.okv
theorem adV {ki:IntKind} {i:Int} (ht:P.underlying t=some (.slice te)) (he:ZV P te=some e) (hf:∀ x,(f x).length=e) (h:Okl k l) (h0:0≤i) (hi:i < l.length) :
  jo P t (vs f e k l) (.int ki i) S=some (EP (f (l[i.toNat]'(by omega))),S):=by
 unfold vs
 rw [YT ht he h.okv h0 hi,Qk hf]
 have hlt:i.toNat < l.length:=by omega
 have:=Qh hf (l.drop i.toNat) 1
 rw [Nat.one_mul] at this
 rw [this,List.drop_eq_getElem_cons hlt,List.take_succ_cons,List.take_zero,List.flatMap_cons,List.flatMap_nil,List.append_nil]
theorem acw {lo hi:Option Value} {i j:Int} (ht:P.underlying t=some (.slice te)) (he:ZV P te=some e) (hf:∀ x,(f x).length=e) (h:Okl k l) (hlo:Zk 0 lo=some i) (hhi:Zk l.length hi=some j) (h0:0≤i) (hij:i≤j) (hj:j≤l.length) :
  ZL P t (vs f e k l) lo hi S=some (vs f e (if k=2 then 1 else k) ((l.drop i.toNat).take (j.toNat - i.toNat)),S):=by
 unfold vs
 rw [afu ht he h.okv hlo hhi h0 hij hj,Qk hf,Qh hf]
 congr 3
 simp;omega
theorem KN {bytes:Nat} {z:Value} (ht:P.underlying t=some (.slice te)) (he:ZV P te=some e) (hz:zeroOf P te=some z) (hzs:z.cells.size=e) (hb:bytesOf P te=some bytes) (hp:0 < e) (htx:P.underlying tx=some (.slice tex))
  (hf:∀ x,(f x).length=e) (h1:∀ x,(f x).all (·.oneCell')=true) (h:Okl k l) (hk:k≠1) (hm:Okl j m) (hl:(l.length+m.length) * bytes≤140737488355328) (hmax:l.length+m.length≤4611686018427387903) :
  wP P t tx (vs f e k l) (vs f e j m) S=some (vs f e (if k=0∧m.length=0 then 0 else 2) (l++m),S):=by
 have hone:∀ l:List α,(l.flatMap f).all (·.oneCell')=true:=by
  intro l
  rw [List.all_flatMap,List.all_eq_true]
  exact fun x _=>h1 x
 unfold vs
 rw [adS ht he hz hzs hb hp htx h.okv hk hm.okv (Ya hf l) (Ya hf m) (hone l) (hone m) hl hmax,List.flatMap_append,List.length_append]
theorem adf (x:UInt8):(cb x).length=1:=rfl
theorem ake (x:UInt8):(cb x).all (·.oneCell')=true:=rfl
theorem ahN (x:Int):(ci x).length=1:=rfl
theorem ajL (x:Int):(ci x).all (·.oneCell')=true:=rfl
theorem aho (l:List UInt8):kG (l.flatMap cb)=some l:=by
 induction l with
 | nil=>rfl
 | cons b l ih =>
  have:(b::l).flatMap cb=.int .u8 b.toNat::l.flatMap cb:=rfl
  rw [this]
  simp only [kG,KG,ih]
  simp
theorem yh {v:Value} {i j:Nat} {S:zn} (h:j≠i):zU (zO j v) i S=zU v i S:=by
 cases v with
 | tuple vs=>simp only [zO,zU,Array.getElem?_modify,if_neg h]
 | _=>rfl
theorem aeO {v:Value} {S:zn}:zU (zO 0 v) 1 S=zU v 1 S:=yh (by decide)
theorem aeR {v:Value} {S:zn}:zU (zO 0 v) 2 S=zU v 2 S:=yh (by decide)
theorem afd {v:Value} {S:zn}:zU (zO 1 v) 2 S=zU v 2 S:=yh (by decide)
theorem afs {v:Value} {S:zn}:zU (zO 0 v) 3 S=zU v 3 S:=yh (by decide)
theorem agd {v:Value} {S:zn}:zU (zO 1 v) 3 S=zU v 3 S:=yh (by decide)
theorem agc {v:Value} {S:zn}:zU (zO 2 v) 3 S=zU v 3 S:=yh (by decide)
theorem afA {v:Value} {S:zn}:zU (zO 0 v) 4 S=zU v 4 S:=yh (by decide)
theorem ae6 {v:Value} {S:zn}:zU (zO 1 v) 4 S=zU v 4 S:=yh (by decide)
theorem aeZ {v:Value} {S:zn}:zU (zO 2 v) 4 S=zU v 4 S:=yh (by decide)
theorem afc {v:Value} {S:zn}:zU (zO 3 v) 4 S=zU v 4 S:=yh (by decide)
theorem aen {v:Value} {S:zn}:zU (zO 0 v) 5 S=zU v 5 S:=yh (by decide)
theorem afr {v:Value} {S:zn}:zU (zO 1 v) 5 S=zU v 5 S:=yh (by decide)
theorem afE {v:Value} {S:zn}:zU (zO 2 v) 5 S=zU v 5 S:=yh (by decide)
theorem afY {v:Value} {S:zn}:zU (zO 3 v) 5 S=zU v 5 S:=yh (by decide)
theorem ae0 {v:Value} {S:zn}:zU (zO 4 v) 5 S=zU v 5 S:=yh (by decide)
abbrev by_ (k:Nat) (l:List UInt8):Value:=vs cb 1 k l
abbrev iz (k:Nat) (l:List Int):Value:=vs ci 1 k l
theorem afp {src dst:TypeId} {k:Nat} {l:List UInt8} (hs:P.underlying src=some (.slice te)) (he:P.underlying te=some (.int .u8)) (hd:P.underlying dst=some .string) (h:Okl k l):ZO P src dst (by_ k l) S=some (.string ⟨l.toArray⟩,S):=by
 obtain ⟨e',h1,_⟩:=af2 (e:=1) (h.okv (f:=cb))
 have hlen:(l.flatMap cb).length=l.length:=by rw [Ya adf];omega
 have hns:∀ s,by_ k l≠.string s:=by intro s;unfold by_ vs sv;split <;> (intro h;cases h)
 unfold ZO
 split
 ·
  rename_i s hs;exact absurd hs (hns s)
 ·
  unfold by_ vs
  rw [h1]
  simp only [hs,hd,he,if_pos hlen,aho]
end
end Go.Abs
namespace Go.Abs
open Go.RowKit
def CLe (c d:FuncId→List Value→M Value):Prop:=∀ g a S r,c g a S=some r→d g a S=some r
section
variable {P:Program} {O:Ora} {c d:FuncId→List Value→M Value}
theorem XB (h:CLe c d) {fx:Fx} {T:List Value} {o:Oper} {S:zn} {r:Value×zn} (hs:qR P fx c T o S=some r):qR P fx d T o S=some r:=by
 unfold qR at hs ⊢
 split at hs
 ·
  rename_i hok
  rw [if_pos hok]
  cases hop:o.op with
  | call q =>
   rw [hop] at hs
   dsimp only at hs ⊢
   cases hcal:q.callee with
   | value f =>
    rw [hcal] at hs
    dsimp only at hs ⊢
    split at hs
    ·
     rename_i g first captured hev
     exact h _ _ _ _ hs
    ·
     cases hs
   | builtin b=>rw [hcal] at hs;exact hs
   | invoke a b=>rw [hcal] at hs;cases hs
  | _=>rw [hop] at hs;exact hs
 ·
  cases hs
theorem aev (h:CLe c d) {fx:Fx} {ops:Array Oper}:∀ (l:List Oper) (T:List Value) (S:zn) (r:List Value×zn),jw P fx c ops l T S=some r→jw P fx d ops l T S=some r:=by
 intro l
 induction l with
 | nil=>intro T S r hs;exact hs
 | cons o l ih =>
  intro T S r hs
  simp only [jw] at hs ⊢
  split at hs
  ·
   rename_i hw
   rw [if_pos hw]
   split at hs
   ·
    rename_i v S' he
    rw [XB h he]
    exact ih _ _ _ hs
   ·
    cases hs
  ·
   rename_i hw
   rw [if_neg hw]
   exact ih _ _ _ hs
theorem ad3 (h:CLe c d) {fx:Fx} {chk:List Nat} {nl:List (Nat×Nat)} {ops:Array Oper}:∀ (l:List Oper) (i:Nat) (hist:List (Value×zn)) (T:List Value) (S:zn) (r:List Value×zn),qg P fx chk nl c ops i hist l T S=some r→qg P fx chk nl d ops i hist l T S=some r:=by
 intro l
 induction l with
 | nil=>intro i hist T S r hs;exact hs
 | cons o l ih =>
  intro i hist T S r hs
  simp only [qg] at hs ⊢
  split at hs
  ·
   rename_i hw
   rw [if_pos hw]
   split at hs
   ·
    rename_i v S' he
    rw [XB h he]
    dsimp only
    split at hs
    ·
     rename_i hq
     rw [if_pos hq]
     exact ih _ _ _ _ _ hs
    ·
     cases hs
   ·
    cases hs
  ·
   rename_i hw
   rw [if_neg hw]
   exact ih _ _ _ _ _ hs
theorem X6 (h:CLe c d) {hp:Bool} {n m:Nat} (hn:n≤m):∀ (q:Code) (T:List Value) (S:zn) (r),kH P hp c n q T S=some r→kH P hp d m q T S=some r:=by
 intro q
 induction q with
 | skip=>intro T S r hs;exact hs
 | exit id=>intro T S r hs;exact hs
 | ret=>intro T S r hs;exact hs
 | region i ops dr =>
  intro T S r hs
  cases dr with
  | false =>
   simp only [kH] at hs ⊢
   split at hs
   ·
    rename_i T1 S1 ho
    rw [aev h _ _ _ _ ho];exact hs
   ·
    cases hs
  | true =>
   simp only [kH] at hs ⊢
   split at hs
   ·
    rename_i hd
    rw [if_pos hd]
    split at hs
    ·
     rename_i T1 S1 ho
     rw [ad3 h _ _ _ _ _ _ ho];exact hs
    ·
     cases hs
   ·
    cases hs
 | seq x y ihx ihy =>
  intro T S r hs
  simp only [kH] at hs ⊢
  split at hs
  ·
   rename_i T1 S1 hx
   rw [ihx _ _ _ hx]
   exact ihy _ _ _ hs
  ·
   rename_i hne
   rw [ihx _ _ _ hs]
   split
   ·
    rename_i T1 S1 he;exact absurd (hs.trans he) (hne T1 S1)
   ·
    rfl
 | cond x y z ihy ihz =>
  intro T S r hs
  simp only [kH] at hs ⊢
  split at hs
  ·
   rename_i hok
   rw [if_pos hok]
   split at hs
   ·
    rename_i hb;exact ihy _ _ _ hs
   ·
    rename_i hb;exact ihz _ _ _ hs
   ·
    cases hs
  ·
   cases hs
 | block id x ih =>
  intro T S r hs
  simp only [kH] at hs ⊢
  split at hs
  ·
   rename_i id' T1 S1 hx
   rw [ih _ _ _ hx];exact hs
  ·
   rename_i hne
   rw [ih _ _ _ hs]
   split
   ·
    rename_i id' T1 S1 he;exact absurd (hs.trans he) (hne id' T1 S1)
   ·
    rfl
 | loop x ih =>
  intro T S r hs
  simp only [kH] at hs ⊢
  have key:∀ (n:Nat) (T:List Value) (S:zn),∀ k,xE k (kH P hp c n x) T S=some r→(∀ T S r,kH P hp c n x T S=some r→kH P hp d m x T S=some r)→xE k (kH P hp d m x) T S=some r:=by
   intro n T S k hk hx
   induction k generalizing T S with
   | zero=>cases hk
   | succ k ihk =>
    simp only [xE] at hk ⊢
    split at hk
    ·
     rename_i T1 S1 h1
     rw [hx _ _ _ h1]
     exact ihk _ _ hk
    ·
     rename_i hne
     rw [hx _ _ _ hk]
     split
     ·
      rename_i T1 S1 he;exact absurd (hk.trans he) (hne T1 S1)
     ·
      rfl
  exact aap hn (key n T S n hs ih)
 | _=>intro T S r hs;simp only [kH] at hs;cases hs
theorem adp {hps:FuncId→Bool} {hp:Bool} (h:CLe c d):CLe (Jh hps hp c) (Jh hps hp d):=by
 cases hp with
 | false=>exact h
 | true =>
  intro g a S r hs
  unfold Jh at hs ⊢
  dsimp only at hs ⊢
  split at hs
  ·
   rename_i hg;rw [if_pos hg];exact h _ _ _ _ hs
  ·
   rename_i hg
   rw [if_neg hg]
   split at hs <;> first | (cases hs;done) | skip
   rename_i m S1 hf
   split at hs <;> first | (cases hs;done) | skip
   rename_i r0 hr0
   (try rw [hf])
   (try dsimp only)
   rw [h _ _ _ _ hr0]
   exact hs
theorem aaK (h:CLe c d) {hp:Bool} {n m:Nat} (hn:n≤m) {fn:Func} {q:Code} {a:List Value} {S:zn} {r:Value×zn} (hs:agx P hp c n fn q a S=some r):agx P hp d m fn q a S=some r:=by
 unfold agx at hs ⊢
 split at hs
 ·
  rename_i T1 S1 hx
  rw [X6 h hn _ _ _ _ hx];exact hs
 ·
  rename_i T1 S1 hx
  rw [X6 h hn _ _ _ _ hx];exact hs
 ·
  cases hs
theorem aha:∀ (n m:Nat),n≤m→CLe (Js P O n) (Js P O m):=by
 intro n
 induction n with
 | zero=>intro m _ g a S r h;cases h
 | succ n ih =>
  intro m hm g a S r h
  obtain ⟨m,rfl⟩:∃ k,m=k+1:=⟨m - 1,by omega⟩
  simp only [Js] at h ⊢
  cases ho:O.fn g with
  | some q=>rw [ho] at h;exact h
  | none =>
   rw [ho] at h
   dsimp only at h ⊢
   cases hf:P.funcs[g]? with
   | none=>rw [hf] at h;cases h
   | some fn =>
    rw [hf] at h
    dsimp only at h ⊢
    split at h
    ·
     cases h
    ·
     rename_i hn
     rw [if_neg hn]
     cases hb:fn.body with
     | none=>rw [hb] at h;cases h
     | some q =>
      rw [hb] at h
      dsimp only at h ⊢
      have hc:=adp (hps:=O.hp) (hp:=O.hp g) (ih m (by omega))
      split at h
      ·
       rename_i hpu
       rw [if_pos hpu]
       unfold afn at h ⊢
       split at h <;> first | (cases h;done) | skip
       rename_i hca
       rw [if_pos hca]
       split at h <;> first | (cases h;done) | skip
       rename_i v1 S1 hr
       rw [aaK hc (by omega) hr]
       exact h
      ·
       rename_i hpu
       rw [if_neg hpu]
       exact aaK hc (by omega) h
theorem JA {n:Nat} {g:FuncId} {args:List Value} {S:zn} {r:Value×zn} (h:Js P O n g args S=some r):zW P O g args S=some r :=
 abC ⟨n,fun k hk=>aha n k hk _ _ _ _ h⟩
end
end Go.Abs
namespace Go.Abs
open Go.RowKit
theorem agY (x:(Ty.slc 1 (.int .u8)).Val) (hg:(Ty.slc 1 (.int .u8)).Good x):∃ k l,Okl k l∧k≠2∧(Ty.slc 1 (.int .u8)).WO x=[by_ k l]∧l.length≤140737488351232:=by
 match x,hg with
 | none,_=>exact ⟨0,[],Okl.none,by decide,rfl,by simp⟩
 | some xs,hg =>
  obtain ⟨h1,h2,h3⟩:=hg
  have key:∀ xs:List Int,(∀ n ∈ xs,(Lit.int .u8 n).wf=true)→(xs.flatMap fun n=>[Value.int .u8 n])=(xs.map fun n=>UInt8.ofNat n.toNat).flatMap cb:=by
   intro xs
   induction xs with
   | nil=>intro _;rfl
   | cons n xs ih =>
    intro h
    have hw:=h n (by simp)
    simp [Lit.wf,IntKind.min,IntKind.max,IntKind.signed,IntKind.bits] at hw
    have e:(Value.int .u8 n)=.int .u8 ((UInt8.ofNat n.toNat).toNat:Int):=by
     simp only [UInt8.toNat_ofNat']
     congr 1
     omega
    rw [List.flatMap_cons,ih (fun m hm=>h m (by simp [hm])),List.map_cons,List.flatMap_cons,e]
    rfl
  refine ⟨1,(show List Int from xs).map fun n=>UInt8.ofNat n.toNat,Okl.read,by decide,?_,?_⟩
  ·
   have e:=key (show List Int from xs) h3
   show [SL 1 1 (show List Int from xs).length ((show List Int from xs).flatMap fun n=>[Value.int .u8 n])]=[_]
   unfold by_ vs
   rw [sv1,List.length_map,← e]
  ·
   have:(show List Int from xs).length * 1≤140737488351232:=h1
   rw [List.length_map];omega
theorem ai8 (x:(Ty.slc 8 (.int .i64)).Val) (hg:(Ty.slc 8 (.int .i64)).Good x):∃ k l,Okl k l∧k≠2∧(Ty.slc 8 (.int .i64)).WO x=[iz k l]∧l.length≤17592186043904∧∀ n ∈ l,-9223372036854775808≤n∧n < 9223372036854775808:=by
 match x,hg with
 | none,_=>exact ⟨0,[],Okl.none,by decide,rfl,by simp,fun n h=>by cases h⟩
 | some xs,hg =>
  obtain ⟨h1,h2,h3⟩:=hg
  refine ⟨1,(xs:List Int),Okl.read,by decide,rfl,?_,fun n hn=>?_⟩
  ·
   have:List.length (α:=Int) xs * 8≤140737488351232:=h1
   show List.length (α:=Int) xs≤17592186043904
   omega
  ·
   have hw:=h3 n hn
   simp [Ty.Good,Lit.wf,IntKind.min,IntKind.max,IntKind.signed,IntKind.bits] at hw
   omega
theorem Yw {n:Int} (h:(Lit.int .i64 n).wf=true):-9223372036854775808≤n∧n < 9223372036854775808:=by
 simp [Lit.wf,IntKind.min,IntKind.max,IntKind.signed,IntKind.bits] at h
 omega
def ahJ (call:FuncId→List Value→M Value) (g:FuncId) (args:List Value):M Value:=fun S=>match Y3 args S with
 | some (m,S1)=>match call g m S1 with
  | some r=>some (aga S S1 args r)
  | none=>none
 | none=>none
end Go.Abs
namespace Go.Abs
open Go.RowKit
section
variable {P:Program} {μ μ1:Mu} {S S1 H H1:zn} {ω ω1:Nat→Option kV}
structure Ext (S S1:zn):Prop where
 next:S.next≤S1.next
 get:∀ k,k < S.next→S1.get k=S.get k
 log:∃ new,S1.log=new++S.log∧∀ k ∈ new,S.next≤k
theorem Ext.refl (S:zn):Ext S S:=⟨Nat.le_refl _,fun _ _=>rfl,[],rfl,fun k h=>by cases h⟩
theorem Ext.trans {S2:zn} (h:Ext S S1) (k:Ext S1 S2):Ext S S2:=⟨Nat.le_trans h.1 k.1,fun q hq=>(k.2 q (Nat.lt_of_lt_of_le hq h.1)).trans (h.2 q hq),by
 obtain ⟨n1,e1,f1⟩:=h.log
 obtain ⟨n2,e2,f2⟩:=k.log
 refine ⟨n2++n1,by rw [e2,e1,List.append_assoc],fun q hq=>?_⟩
 rcases List.mem_append.1 hq with hq | hq
 ·
  exact Nat.le_trans h.1 (f2 q hq)
 ·
  exact f1 q hq⟩
theorem Ext.push (S:zn) (o:xR):Ext S (S.push o):=⟨by simp,fun k hk=>by rw [zn.yJ,if_neg (by omega)],[],rfl,fun k h=>by cases h⟩
theorem Ext.set {S S1:zn} (h:Ext S S1) {r:Nat} (hr:S.next≤r) (o:xR):Ext S (S1.set r o):=⟨by simpa using h.1,fun k hk=>by rw [zn.qo,if_neg (by omega)];exact h.2 k hk,by
 obtain ⟨n1,e1,f1⟩:=h.log
 refine ⟨r::n1,by rw [zn.aao,e1];rfl,fun q hq=>?_⟩
 rcases List.mem_cons.1 hq with rfl | hq
 ·
  exact hr
 ·
  exact f1 q hq⟩
inductive Lower (S:zn) (v1:Value) (S1:zn):Value→Prop
 | same (h:ground v1=true):Lower S v1 S1 v1
 | own {r n e:Nat} {cs:List Value} (hv:v1=.slice (some ⟨r,0,none⟩) n n) (hr:S.next≤r) (hg:S1.get r=some (.cells cs (.own []) e)) (hn:cs.length=n * e) (hs:cs.all sg=true):Lower S v1 S1 (SL 2 e n cs)
end
end Go.Abs
namespace Go.Abs
open Go.RowKit
section
variable {P:Program} {S:zn} {t te tx tex:TypeId} {q o n c e i r:Nat} {cs:List Value} {own:Own} {anc:List Nat} {v x:Value} {hp:Bool}
theorem qO (a:Addr) (S:zn):kN (.pointer (some a)) S=some (.pointer (some a),S):=Eq.trans rfl rfl
theorem QA (h:S.get q=some (.cells cs own e)) (ha:xA P t=some false) (hv:cs[o]?=some v) (hn:∀ l,v≠.agg l):jf P false t (.pointer (some ⟨q,o,none⟩)) S=some (dem v,S):=by
 unfold jf
 simp only [Bool.false_eq_true,if_false]
 have:xk P t (.pointer (some ⟨q,o,none⟩)) S=some (v,S):=by simp only [xk,h,ha,hv]
 rw [this]
 split
 ·
  rename_i l S2 he;cases he;exact absurd rfl (hn _)
 ·
  rename_i v2 S2 _ he;cases he;rfl
 ·
  rename_i he;cases he
theorem qL {k:IntKind} {m:Int} (h:S.get q=some (.cells cs own e)) (ha:xA P t=some false) (hv:cs[o]?=some (.int k m)):jf P false t (.pointer (some ⟨q,o,none⟩)) S=some (.int k m,S) :=
 QA h ha hv (fun l h=>by cases h)
theorem Qz {a:Option Nat} (h:S.get q=some (.cells cs own e)) (ha:xA P t=some false) (hv:cs[o]?=some (.map a)):jf P false t (.pointer (some ⟨q,o,none⟩)) S=some (.map a,S) :=
 QA h ha hv (fun l h=>by cases h)
theorem Yt (h:S.get q=some (.cells cs own e)) (ha:xA P t=some true) (hs:ZV P t=some n) (hle:o+n≤cs.length):jf P false t (.pointer (some ⟨q,o,none⟩)) S=some (.agg (((cs.drop o).take n).toArray.map vF),S):=by
 unfold jf
 simp only [Bool.false_eq_true,if_false]
 have:xk P t (.pointer (some ⟨q,o,none⟩)) S=some (.agg ((cs.drop o).take n).toArray,S):=by simp only [xk,h,ha,hs,if_pos hle]
 rw [this]
theorem Za (h:S.get q=some (.cells cs (.own anc) e)) (hs:ZV P t=some n) (hx:x.cells.size=n) (h1:x.cells.toList.all (·.oneCell')=true) (hle:o+n≤cs.length) :
  wM P t (.pointer (some ⟨q,o,none⟩)) x S=some (zh,(S.kills anc).set q (.cells (splice cs o x.cells.toList) (.own []) e)):=by
 simp only [wM,WZ,h,hs,if_pos hx,if_pos h1,if_pos hle]
end
theorem Jc {α:Type} {f:α→List Value} {e k d:Nat} {l:List α} (hk:k≤2) (h:∀ x ∈ l,(f x).all (jP d)=true):jP (d+4) (vs f e k l)=true:=by
 unfold vs sv
 split
 ·
  rfl
 ·
  show ((l.flatMap f).toArray.toList.all (jP d))=true
  rw [List.toList_toArray,List.all_flatMap,List.all_eq_true]
  exact h
theorem qx {k d:Nat} {l:List UInt8} (hk:k≤2):jP (d+5) (by_ k l)=true:=Jc hk (fun _ _=>rfl)
theorem aaC {l:List Value} {d:Nat} (h:l.all (jP d)=true):jP (d+1) (.agg l.toArray)=true:=by
 show l.toArray.toList.all (jP d)=true
 simpa using h
theorem yO {l:List Value} {d:Nat} (h:l.all (jP d)=true):jP (d+1) (.tuple l.toArray)=true:=by
 show l.toArray.toList.all (jP d)=true
 simpa using h
theorem all1 {p:Value→Bool} {a:Value} (h:p a=true):[a].all p=true:=by simp [h]
theorem all2 {p:Value→Bool} {a b:Value} (h:p a=true) (k:p b=true):[a,b].all p=true:=by simp [h,k]
theorem akZ {p:Value→Bool} {a b c:Value} (h:p a=true) (k:p b=true) (j:p c=true):[a,b,c].all p=true:=by simp [h,k,j]
theorem agO {k e n:Nat} {cs:List Value}:(sv k e n cs).cells=#[sv k e n cs]:=by unfold sv;split <;> rfl
theorem YG {α:Type} {f:α→List Value} {e k:Nat} {l:List α}:(vs f e k l).cells=#[vs f e k l]:=agO
theorem ai9 {k e n:Nat} {cs:List Value}:vF (sv k e n cs)=sv (if k=2 then 1 else k) e n cs:=by rw [← acQ];unfold sv;split <;> rfl
theorem abE {α:Type} {f:α→List Value} {e k:Nat} {l:List α}:vF (vs f e k l)=vs f e (if k=2 then 1 else k) l:=ai9
theorem vX {k:IntKind} {n:Int}:vF (.int k n)=.int k n:=rfl
theorem qI {x:Array Value}:(Value.agg x).cells=x:=rfl
theorem yL {k:IntKind} {n:Int}:(Value.int k n).cells=#[.int k n]:=rfl
@[simp] theorem abm (a:Option Addr) (n c:Nat):dem (.slice a n c)=.slice a n c:=Eq.trans rfl rfl
@[simp] theorem aeV (a:Option Nat):dem (.map a)=.map a:=Eq.trans rfl rfl
theorem wrap_i64 {n:Int} (h0:-9223372036854775808≤n) (h:n < 9223372036854775808):IntKind.i64.wrap n=n:=by
 simp [IntKind.wrap,IntKind.bits,IntKind.signed]
 split <;> omega
theorem QL {l pre suf:List Int} {n:Int} (hl:l=pre++n::suf) (h:Int.toNat (pre.length:Int) < l.length):l[Int.toNat (pre.length:Int)]=n:=by
 subst hl;simp
theorem Qr {α:Type} {l pre suf:List α} {n:α} (hl:l=pre++n::suf) (h:Int.toNat (pre.length:Int) < l.length):l[Int.toNat (pre.length:Int)]=n:=by
 subst hl;simp
theorem ac3 (k:Nat):(if (if k=2 then 1 else k)=2 then 1 else if k=2 then 1 else k)=if k=2 then 1 else k:=by split <;> simp_all
theorem J5 (k:Nat):(if k=2 then 1 else k)≠2:=by split <;> omega
theorem Qo (Sa Sb:zn):qK zh Sa Sb=true:=rfl
theorem xC (cs:List Value) (Sa Sb:zn):qK (EP cs) Sa Sb=true:=rfl
theorem qj {q o e:Nat} {cs:List Value} {own:Own} {S:zn} (h:S.get q=some (.cells cs own e)):qK (.pointer (some ⟨q,o,none⟩)) S S=true:=by
 simp only [qK,h,Nat.sub_self,List.take_zero,List.contains_nil,Bool.not_false,Bool.and_self]
end Go.Abs
namespace Go.Abs
open Go.RowKit
section
variable {P:Program} {fx:Fx} {chk:List Nat} {call:FuncId→List Value→M Value} {ops:Array Oper}
theorem sP (f:Func) (i n:Nat) {l:List Oper} {T:List Value} {T1:Value→List Value} {S:zn} {v:Value} {r:Option (List Value×zn)} (hK:jw P fx call ops ((reg f i).toList.drop (n+1)) (T1 v) S=r) (hl:l=(opAt f i n)::((reg f i).toList.drop (n+1)):=by kernel_rfl) (hg:(opAt f i n).guard=none:=by kernel_rfl) (hm:∀ v,Jk (opAt f i n) ((reg f i).toList.drop (n+1)) T v=T1 v:=by exact fun _=>rfl) (hs:qR P fx call T (opAt f i n) S=some (v,S):=by kernel_rfl):jw P fx call ops l T S=r :=
 aez hl hg hm hs hK
theorem sD (f:Func) (i n:Nat) {l:List Oper} {T:List Value} {T1:Value→List Value} {S:zn} {s:Option (Value×zn)} {K:Value→zn→Option (List Value×zn)} (hK:∀ v S1,jw P fx call ops ((reg f i).toList.drop (n+1)) (T1 v) S1=K v S1) (hl:l=(opAt f i n)::((reg f i).toList.drop (n+1)):=by kernel_rfl) (hg:(opAt f i n).guard=none:=by kernel_rfl) (hm:∀ v,Jk (opAt f i n) ((reg f i).toList.drop (n+1)) T v=T1 v:=by exact fun _=>rfl) (hs:qR P fx call T (opAt f i n) S=s:=by kernel_rfl):jw P fx call ops l T S=zI s K () :=
 aiM hl hg hm hs hK
theorem sG (f:Func) (i n:Nat) {l:List Oper} {T:List Value} {T1:Value→List Value} {S:zn} {j:Nat} {b:Bool} {g:Value} {s:M Value} {K:Value→zn→Option (List Value×zn)} (hK:∀ v S1,jw P fx call ops ((reg f i).toList.drop (n+1)) (T1 v) S1=K v S1) (hl:l=(opAt f i n)::((reg f i).toList.drop (n+1)):=by kernel_rfl) (hg:(opAt f i n).guard=some (j,b):=by kernel_rfl) (hm:∀ v,Jk (opAt f i n) ((reg f i).toList.drop (n+1)) T v=T1 v:=by exact fun _=>rfl) (hy:ynd ops T j=vb g:=by kernel_rfl) (hs:qR P fx call T (opAt f i n) S=s S:=by kernel_rfl):jw P fx call ops l T S=gdK g b s S K () :=
 aiE hl hg hm hy hs hK
theorem tD (f:Func) (i n:Nat) {l:List Oper} {T:List Value} {T1:Value→List Value} {S:zn} {k:Nat} {s:Option (Value×zn)} {K:Value→zn→Option (List Value×zn)} (hK:∀ v S1,qg P fx chk [] call ops (k+1) [] ((reg f i).toList.drop (n+1)) (T1 v) S1=K v S1) (hc:chk.contains k=false:=by kernel_rfl) (hl:l=(opAt f i n)::((reg f i).toList.drop (n+1)):=by kernel_rfl) (hg:(opAt f i n).guard=none:=by kernel_rfl) (hm:∀ v,Jk (opAt f i n) ((reg f i).toList.drop (n+1)) T v=T1 v:=by exact fun _=>rfl) (hs:qR P fx call T (opAt f i n) S=s:=by kernel_rfl):qg P fx chk [] call ops k [] l T S=zI s K () :=
 ag4 hc hl hg hm hs hK
theorem tP (f:Func) (i n:Nat) {l:List Oper} {T:List Value} {T1:Value→List Value} {S:zn} {k:Nat} {v:Value} {r:Option (List Value×zn)} (hK:qg P fx chk [] call ops (k+1) [] ((reg f i).toList.drop (n+1)) (T1 v) S=r) (hc:chk.contains k=false:=by kernel_rfl) (hl:l=(opAt f i n)::((reg f i).toList.drop (n+1)):=by kernel_rfl) (hg:(opAt f i n).guard=none:=by kernel_rfl) (hm:∀ v,Jk (opAt f i n) ((reg f i).toList.drop (n+1)) T v=T1 v:=by exact fun _=>rfl) (hs:qR P fx call T (opAt f i n) S=some (v,S):=by kernel_rfl):qg P fx chk [] call ops k [] l T S=r :=
 aee hc hl hg hm hs hK
theorem tPC (f:Func) (i n:Nat) {l:List Oper} {T:List Value} {T1:Value→List Value} {S:zn} {k:Nat} {v:Value} {r:Option (List Value×zn)} (hK:qg P fx chk [] call ops (k+1) [] ((reg f i).toList.drop (n+1)) (T1 v) S=r) (hc:chk.contains k=true:=by kernel_rfl) (hl:l=(opAt f i n)::((reg f i).toList.drop (n+1)):=by kernel_rfl) (hg:(opAt f i n).guard=none:=by kernel_rfl) (hm:∀ v,Jk (opAt f i n) ((reg f i).toList.drop (n+1)) T v=T1 v:=by exact fun _=>rfl) (hs:qR P fx call T (opAt f i n) S=some (v,S):=by kernel_rfl):qg P fx chk [] call ops k [] l T S=okK v r () :=
 abt hc hl hg hm hs hK
theorem tG (f:Func) (i n:Nat) {l:List Oper} {T:List Value} {T1:Value→List Value} {S:zn} {j k:Nat} {b:Bool} {g:Value} {s:M Value} {K:Value→zn→Option (List Value×zn)} (hK:∀ v S1,qg P fx chk [] call ops (k+1) [] ((reg f i).toList.drop (n+1)) (T1 v) S1=K v S1) (hc:chk.contains k=false:=by kernel_rfl) (hl:l=(opAt f i n)::((reg f i).toList.drop (n+1)):=by kernel_rfl) (hg:(opAt f i n).guard=some (j,b):=by kernel_rfl) (hm:∀ v,Jk (opAt f i n) ((reg f i).toList.drop (n+1)) T v=T1 v:=by exact fun _=>rfl) (hy:ynd ops T j=vb g:=by kernel_rfl) (hs:qR P fx call T (opAt f i n) S=s S:=by kernel_rfl):qg P fx chk [] call ops k [] l T S=gdK g b s S K () :=
 ahH hc hl hg hm hy hs hK
theorem uD (f:Func) (i n:Nat) {l:List Oper} {T:List Value} {T1:Value→List Value} {S:zn} {k:Nat} {s:Option (Value×zn)} {K:Value→zn→Option (List Value×zn)} {x:Nat×Nat} {nl:List (Nat×Nat)} {hist:List (Value×zn)} {pe:Value} (hK:∀ v S1,qg P fx chk (x::nl) call ops (k+1) (hist++[(pe,S)]) ((reg f i).toList.drop (n+1)) (T1 v) S1=K v S1) (hc:chk.contains k=false:=by kernel_rfl) (hpe:ZX T (opAt f i n)=pe:=by kernel_rfl) (hl:l=(opAt f i n)::((reg f i).toList.drop (n+1)):=by kernel_rfl) (hg:(opAt f i n).guard=none:=by kernel_rfl) (hm:∀ v,Jk (opAt f i n) ((reg f i).toList.drop (n+1)) T v=T1 v:=by exact fun _=>rfl) (hs:qR P fx call T (opAt f i n) S=s:=by kernel_rfl):qg P fx chk (x::nl) call ops k hist l T S=zI s K () :=
 ahr hc hpe hl hg hm hs hK
theorem uDC (f:Func) (i n:Nat) {l:List Oper} {T:List Value} {T1:Value→List Value} {S:zn} {k:Nat} {s:Option (Value×zn)} {K:Value→zn→Option (List Value×zn)} {x:Nat×Nat} {nl:List (Nat×Nat)} {hist:List (Value×zn)} {pe:Value} (hK:∀ v S1,qg P fx chk (x::nl) call ops (k+1) (hist++[(pe,S)]) ((reg f i).toList.drop (n+1)) (T1 v) S1=K v S1) (hc:chk.contains k=true:=by kernel_rfl) (hpe:ZX T (opAt f i n)=pe:=by kernel_rfl) (hl:l=(opAt f i n)::((reg f i).toList.drop (n+1)):=by kernel_rfl) (hg:(opAt f i n).guard=none:=by kernel_rfl) (hm:∀ v,Jk (opAt f i n) ((reg f i).toList.drop (n+1)) T v=T1 v:=by exact fun _=>rfl) (hs:qR P fx call T (opAt f i n) S=s:=by kernel_rfl):qg P fx chk (x::nl) call ops k hist l T S=zI s (fun v S1=>okK v (K v S1) ()) () :=
 af5 hc hpe hl hg hm hs hK
theorem uP (f:Func) (i n:Nat) {l:List Oper} {T:List Value} {T1:Value→List Value} {S:zn} {k:Nat} {v:Value} {r:Option (List Value×zn)} {x:Nat×Nat} {nl:List (Nat×Nat)} {hist:List (Value×zn)} {pe:Value} (hK:qg P fx chk (x::nl) call ops (k+1) (hist++[(pe,S)]) ((reg f i).toList.drop (n+1)) (T1 v) S=r) (hc:chk.contains k=false:=by kernel_rfl) (hpe:ZX T (opAt f i n)=pe:=by kernel_rfl) (hl:l=(opAt f i n)::((reg f i).toList.drop (n+1)):=by kernel_rfl) (hg:(opAt f i n).guard=none:=by kernel_rfl) (hm:∀ v,Jk (opAt f i n) ((reg f i).toList.drop (n+1)) T v=T1 v:=by exact fun _=>rfl) (hs:qR P fx call T (opAt f i n) S=some (v,S):=by kernel_rfl):qg P fx chk (x::nl) call ops k hist l T S=r :=
 adP hc hpe hl hg hm hs hK
theorem uPC (f:Func) (i n:Nat) {l:List Oper} {T:List Value} {T1:Value→List Value} {S:zn} {k:Nat} {v:Value} {r:Option (List Value×zn)} {x:Nat×Nat} {nl:List (Nat×Nat)} {hist:List (Value×zn)} {pe:Value} (hK:qg P fx chk (x::nl) call ops (k+1) (hist++[(pe,S)]) ((reg f i).toList.drop (n+1)) (T1 v) S=r) (hc:chk.contains k=true:=by kernel_rfl) (hpe:ZX T (opAt f i n)=pe:=by kernel_rfl) (hl:l=(opAt f i n)::((reg f i).toList.drop (n+1)):=by kernel_rfl) (hg:(opAt f i n).guard=none:=by kernel_rfl) (hm:∀ v,Jk (opAt f i n) ((reg f i).toList.drop (n+1)) T v=T1 v:=by exact fun _=>rfl) (hs:qR P fx call T (opAt f i n) S=some (v,S):=by kernel_rfl):qg P fx chk (x::nl) call ops k hist l T S=okK v r () :=
 acg hc hpe hl hg hm hs hK
theorem uG (f:Func) (i n:Nat) {l:List Oper} {T:List Value} {T1:Value→List Value} {S:zn} {j k:Nat} {b:Bool} {g:Value} {s:M Value} {K:Value→zn→Option (List Value×zn)} {x:Nat×Nat} {nl:List (Nat×Nat)} {hist:List (Value×zn)} {pe:Value} (hK:∀ v S1,qg P fx chk (x::nl) call ops (k+1) (hist++[(pe,S)]) ((reg f i).toList.drop (n+1)) (T1 v) S1=K v S1) (hc:chk.contains k=false:=by kernel_rfl) (hpe:ZX T (opAt f i n)=pe:=by kernel_rfl) (hl:l=(opAt f i n)::((reg f i).toList.drop (n+1)):=by kernel_rfl) (hg:(opAt f i n).guard=some (j,b):=by kernel_rfl) (hm:∀ v,Jk (opAt f i n) ((reg f i).toList.drop (n+1)) T v=T1 v:=by exact fun _=>rfl) (hy:ynd ops T j=vb g:=by kernel_rfl) (hs:qR P fx call T (opAt f i n) S=s S:=by kernel_rfl):qg P fx chk (x::nl) call ops k hist l T S=gdK g b s S K () :=
 ahj hc hpe hl hg hm hy hs hK
theorem uGC (f:Func) (i n:Nat) {l:List Oper} {T:List Value} {T1:Value→List Value} {S:zn} {j k:Nat} {b:Bool} {g:Value} {s:M Value} {K:Value→zn→Option (List Value×zn)} {x:Nat×Nat} {nl:List (Nat×Nat)} {hist:List (Value×zn)} {pe:Value} (hK:∀ v S1,qg P fx chk (x::nl) call ops (k+1) (hist++[(pe,S)]) ((reg f i).toList.drop (n+1)) (T1 v) S1=K v S1) (hc:chk.contains k=true:=by kernel_rfl) (hpe:ZX T (opAt f i n)=pe:=by kernel_rfl) (hl:l=(opAt f i n)::((reg f i).toList.drop (n+1)):=by kernel_rfl) (hg:(opAt f i n).guard=some (j,b):=by kernel_rfl) (hm:∀ v,Jk (opAt f i n) ((reg f i).toList.drop (n+1)) T v=T1 v:=by exact fun _=>rfl) (hy:ynd ops T j=vb g:=by kernel_rfl) (hs:qR P fx call T (opAt f i n) S=s S:=by kernel_rfl):qg P fx chk (x::nl) call ops k hist l T S=agX g b s S K () :=
 aeA hc hpe hl hg hm hy hs hK
end
end Go.Abs
namespace Go.Proofs.Ytfjogganfjkckaa
open Go.Abs
def O:Ora:=⟨fun _=>none,fun f=>([]:List Nat).contains f,fun f=>([9,13,14,15,16,17,18,19,22,23,24,26,27,30,31,32,34,36,37,42,45,46,48,50,52,56,57,58,62,64,65,66,67,68,69,70,71,73]:List Nat).contains f⟩
theorem ajV:aes Try.prog O:=ag1
end Go.Proofs.Ytfjogganfjkckaa
namespace Go.Proofs.Ytfjogganfjkckaa
open Go.Abs
noncomputable def zi.jL:Code:=(Code.seq (Code.region 7 (reg Try.f6 7) false) (Code.seq (Code.cond (Operand.tmp 37) Code.skip (Code.exit 0)) (Code.seq (Code.block 1 (Code.seq (Code.region 8 (reg Try.f6 8) false) (Code.region 9 (reg Try.f6 9) false))) (Code.region 10 (reg Try.f6 10) false))))
noncomputable def zi.kP:Code:=(Code.seq (Code.region 12 (reg Try.f6 12) false) (Code.seq (Code.cond (Operand.tmp 49) Code.skip (Code.exit 2)) (Code.seq (Code.block 3 (Code.seq (Code.region 13 (reg Try.f6 13) false) (Code.seq (Code.region 14 (reg Try.f6 14) false) (Code.seq (Code.region 15 (reg Try.f6 15) false) (Code.cond (Operand.tmp 74) (Code.seq (Code.region 16 (reg Try.f6 16) false) Code.ret) Code.skip))))) (Code.region 17 (reg Try.f6 17) false))))
noncomputable def zi.Xh:Code:=(Code.seq (Code.region 23 (reg Try.f6 23) false) (Code.seq (Code.cond (Operand.tmp 86) Code.skip (Code.exit 4)) (Code.seq (Code.block 5 (Code.seq (Code.region 24 (reg Try.f6 24) false) (Code.region 25 (reg Try.f6 25) false))) (Code.region 26 (reg Try.f6 26) false))))
noncomputable def zi.code:Code:=(Code.seq (Code.region 0 (reg Try.f6 0) false) (Code.seq (Code.seq (Code.region 1 (reg Try.f6 1) false) (Code.cond (Operand.tmp 21) (Code.seq (Code.region 2 (reg Try.f6 2) false) Code.ret) Code.skip)) (Code.seq (Code.seq (Code.region 3 (reg Try.f6 3) false) (Code.cond (Operand.tmp 29) (Code.seq (Code.region 4 (reg Try.f6 4) false) Code.ret) Code.skip)) (Code.seq (Code.region 5 (reg Try.f6 5) false) (Code.seq (Code.seq (Code.region 6 (reg Try.f6 6) false) (Code.block 0 (Code.loop zi.jL))) (Code.seq (Code.seq (Code.region 11 (reg Try.f6 11) false) (Code.block 2 (Code.loop zi.kP))) (Code.seq (Code.region 18 (reg Try.f6 18) false) (Code.seq (Code.seq (Code.region 19 (reg Try.f6 19) false) (Code.cond (Operand.tmp 82) (Code.seq (Code.region 20 (reg Try.f6 20) false) Code.ret) Code.skip)) (Code.seq (Code.region 21 (reg Try.f6 21) false) (Code.seq (Code.seq (Code.region 22 (reg Try.f6 22) false) (Code.block 4 (Code.loop zi.Xh))) (Code.seq (Code.region 27 (reg Try.f6 27) false) (Code.seq (Code.seq (Code.region 28 (reg Try.f6 28) false) (Code.cond (Operand.tmp 105) (Code.seq (Code.region 29 (reg Try.f6 29) false) Code.ret) Code.skip)) (Code.seq (Code.region 30 (reg Try.f6 30) false) Code.ret)))))))))))))
theorem zi.body:Try.f6.body=some zi.code:=by kernel_rfl
theorem zi.eta {T:List Value} (h:T.length=120):T=[T.getD 0 zh,T.getD 1 zh,T.getD 2 zh,T.getD 3 zh,T.getD 4 zh,T.getD 5 zh,T.getD 6 zh,T.getD 7 zh,T.getD 8 zh,T.getD 9 zh,T.getD 10 zh,T.getD 11 zh,T.getD 12 zh,T.getD 13 zh,T.getD 14 zh,T.getD 15 zh,T.getD 16 zh,T.getD 17 zh,T.getD 18 zh,T.getD 19 zh,T.getD 20 zh,T.getD 21 zh,T.getD 22 zh,T.getD 23 zh,T.getD 24 zh,T.getD 25 zh,T.getD 26 zh,T.getD 27 zh,T.getD 28 zh,T.getD 29 zh,T.getD 30 zh,T.getD 31 zh,T.getD 32 zh,T.getD 33 zh,T.getD 34 zh,T.getD 35 zh,T.getD 36 zh,T.getD 37 zh,T.getD 38 zh,T.getD 39 zh,T.getD 40 zh,T.getD 41 zh,T.getD 42 zh,T.getD 43 zh,T.getD 44 zh,T.getD 45 zh,T.getD 46 zh,T.getD 47 zh,T.getD 48 zh,T.getD 49 zh,T.getD 50 zh,T.getD 51 zh,T.getD 52 zh,T.getD 53 zh,T.getD 54 zh,T.getD 55 zh,T.getD 56 zh,T.getD 57 zh,T.getD 58 zh,T.getD 59 zh,T.getD 60 zh,T.getD 61 zh,T.getD 62 zh,T.getD 63 zh,T.getD 64 zh,T.getD 65 zh,T.getD 66 zh,T.getD 67 zh,T.getD 68 zh,T.getD 69 zh,T.getD 70 zh,T.getD 71 zh,T.getD 72 zh,T.getD 73 zh,T.getD 74 zh,T.getD 75 zh,T.getD 76 zh,T.getD 77 zh,T.getD 78 zh,T.getD 79 zh,T.getD 80 zh,T.getD 81 zh,T.getD 82 zh,T.getD 83 zh,T.getD 84 zh,T.getD 85 zh,T.getD 86 zh,T.getD 87 zh,T.getD 88 zh,T.getD 89 zh,T.getD 90 zh,T.getD 91 zh,T.getD 92 zh,T.getD 93 zh,T.getD 94 zh,T.getD 95 zh,T.getD 96 zh,T.getD 97 zh,T.getD 98 zh,T.getD 99 zh,T.getD 100 zh,T.getD 101 zh,T.getD 102 zh,T.getD 103 zh,T.getD 104 zh,T.getD 105 zh,T.getD 106 zh,T.getD 107 zh,T.getD 108 zh,T.getD 109 zh,T.getD 110 zh,T.getD 111 zh,T.getD 112 zh,T.getD 113 zh,T.getD 114 zh,T.getD 115 zh,T.getD 116 zh,T.getD 117 zh,T.getD 118 zh,T.getD 119 zh]:=(qC T 120 h).trans (by kernel_rfl)
variable (x0 x1 x2 x3 x4 x5 x6 x7 x8 x9 I A U B D E b J K C V W X Y Z a0 a1 a2 a3 a4 a5 a6 a7 a8 L M F a9 b0 b1 b2 b3 b4 b5 b6 b7 N P G b8 b9 c0 c1 c2 c3 c4 c5 c6 c7 c8 c9 d0 d1 d2 d3 d4 d5 d6 d7 d8 d9 f0 f1 f2 f3 f4 f5 f7 f8 f9 g0 g1 g2 Q R H g3 g4 g5 g6 g7 g8 g9 i0 i1 i2 i3 i4 i5 i6 c d f g i k l m n o p q r s t u w x y z:Value) (S:zn)
theorem zi.r0 :jw Try.prog ⟨false,false,false⟩ (zW Try.prog O) (reg Try.f6 0) (reg Try.f6 0).toList ([x0,x1,x2,x3,x4,x5,x6,x7,x8,x9,I,A,U,B,D,E,b,J,K,C,V,W,X,Y,Z,a0,a1,a2,a3,a4,a5,a6,a7,a8,L,M,F,a9,b0,b1,b2,b3,b4,b5,b6,b7,N,P,G,b8,b9,c0,c1,c2,c3,c4,c5,c6,c7,c8,c9,d0,d1,d2,d3,d4,d5,d6,d7,d8,d9,f0,f1,f2,f3,f4,f5,f7,f8,f9,g0,g1,g2,Q,R,H,g3,g4,g5,g6,g7,g8,g9,i0,i1,i2,i3,i4,i5,i6,c,d,f,g,i,k,l,m,n,o,p,q,r,s,t,u,w,x,y,z]) S =
  (zI (JJ (dem x2) S) (fun v0 S1=>some ([x0,x1,x2,x3,x4,v0,Value.bool false,x7,x8,x9,I,A,U,B,D,E,b,J,K,C,V,W,X,Y,Z,a0,a1,a2,a3,a4,a5,a6,a7,a8,L,M,F,a9,b0,b1,b2,b3,b4,b5,b6,b7,N,P,G,b8,b9,c0,c1,c2,c3,c4,c5,c6,c7,c8,c9,d0,d1,d2,d3,d4,d5,d6,d7,d8,d9,f0,f1,f2,f3,f4,f5,f7,f8,f9,g0,g1,g2,Q,R,H,g3,g4,g5,g6,g7,g8,g9,i0,i1,i2,i3,i4,i5,i6,c,d,f,g,i,k,l,m,n,o,p,q,r,s,t,u,w,x,y,z],S1)) ()):=by
 kernel_rfl
theorem zi.r1 :jw Try.prog ⟨false,false,false⟩ (zW Try.prog O) (reg Try.f6 1) (reg Try.f6 1).toList ([x0,x1,x2,x3,x4,x5,x6,x7,x8,x9,I,A,U,B,D,E,b,J,K,C,V,W,X,Y,Z,a0,a1,a2,a3,a4,a5,a6,a7,a8,L,M,F,a9,b0,b1,b2,b3,b4,b5,b6,b7,N,P,G,b8,b9,c0,c1,c2,c3,c4,c5,c6,c7,c8,c9,d0,d1,d2,d3,d4,d5,d6,d7,d8,d9,f0,f1,f2,f3,f4,f5,f7,f8,f9,g0,g1,g2,Q,R,H,g3,g4,g5,g6,g7,g8,g9,i0,i1,i2,i3,i4,i5,i6,c,d,f,g,i,k,l,m,n,o,p,q,r,s,t,u,w,x,y,z]) S =
  (zI ((zW Try.prog O) 9 [] S) (fun v0 S1=>zI (aUn Try.prog UnOp.not v0 S1) (fun v1 S2=>some ([x0,x1,x2,x3,x4,x5,x6,x7,x8,x9,I,A,U,B,D,E,b,J,K,C,v0,v1,X,Y,Z,a0,a1,a2,a3,a4,a5,a6,a7,a8,L,M,F,a9,b0,b1,b2,b3,b4,b5,b6,b7,N,P,G,b8,b9,c0,c1,c2,c3,c4,c5,c6,c7,c8,c9,d0,d1,d2,d3,d4,d5,d6,d7,d8,d9,f0,f1,f2,f3,f4,f5,f7,f8,f9,g0,g1,g2,Q,R,H,g3,g4,g5,g6,g7,g8,g9,i0,i1,i2,i3,i4,i5,i6,c,d,f,g,i,k,l,m,n,o,p,q,r,s,t,u,w,x,y,z],S2)) ()) ()):=by
 kernel_rfl
theorem zi.r2 :jw Try.prog ⟨false,false,false⟩ (zW Try.prog O) (reg Try.f6 2) (reg Try.f6 2).toList ([x0,x1,x2,x3,x4,x5,x6,x7,x8,x9,I,A,U,B,D,E,b,J,K,C,V,W,X,Y,Z,a0,a1,a2,a3,a4,a5,a6,a7,a8,L,M,F,a9,b0,b1,b2,b3,b4,b5,b6,b7,N,P,G,b8,b9,c0,c1,c2,c3,c4,c5,c6,c7,c8,c9,d0,d1,d2,d3,d4,d5,d6,d7,d8,d9,f0,f1,f2,f3,f4,f5,f7,f8,f9,g0,g1,g2,Q,R,H,g3,g4,g5,g6,g7,g8,g9,i0,i1,i2,i3,i4,i5,i6,c,d,f,g,i,k,l,m,n,o,p,q,r,s,t,u,w,x,y,z]) S =
  ( some ([x0,x1,x2,x3,x4,x5,Value.bool false,x7,x8,x9,I,A,U,B,D,E,b,J,K,C,V,W,X,Y,Z,a0,a1,a2,a3,a4,a5,a6,a7,a8,L,M,F,a9,b0,b1,b2,b3,b4,b5,b6,b7,N,P,G,b8,b9,c0,c1,c2,c3,c4,c5,c6,c7,c8,c9,d0,d1,d2,d3,d4,d5,d6,d7,d8,d9,f0,f1,f2,f3,f4,f5,f7,f8,f9,g0,g1,g2,Q,R,H,g3,g4,g5,g6,g7,g8,g9,i0,i1,i2,i3,i4,i5,i6,c,d,f,g,i,k,l,m,n,o,p,q,r,s,t,u,w,x,y,z],S)):=by
 kernel_rfl
theorem zi.r3 :jw Try.prog ⟨false,false,false⟩ (zW Try.prog O) (reg Try.f6 3) (reg Try.f6 3).toList ([x0,x1,x2,x3,x4,x5,x6,x7,x8,x9,I,A,U,B,D,E,b,J,K,C,V,W,X,Y,Z,a0,a1,a2,a3,a4,a5,a6,a7,a8,L,M,F,a9,b0,b1,b2,b3,b4,b5,b6,b7,N,P,G,b8,b9,c0,c1,c2,c3,c4,c5,c6,c7,c8,c9,d0,d1,d2,d3,d4,d5,d6,d7,d8,d9,f0,f1,f2,f3,f4,f5,f7,f8,f9,g0,g1,g2,Q,R,H,g3,g4,g5,g6,g7,g8,g9,i0,i1,i2,i3,i4,i5,i6,c,d,f,g,i,k,l,m,n,o,p,q,r,s,t,u,w,x,y,z]) S =
  (zI (Zz Try.prog 29 (dem x1) S) (fun v1 S1=>zI (wB Try.prog BinOp.gtr 3 v1 (Value.int IntKind.i64 40) S1) (fun v2 S2=>gdK (dem v2) false (ret x0) S2 (fun v4 S3=>gdK (dem v2) false (Zz Try.prog 24 (dem v4)) S3 (fun v5 S4=>gdK (dem v2) false (wB Try.prog BinOp.gtr 3 v5 (Value.int IntKind.i64 20)) S4 (fun v6 S5=>zI (wR (dem v2) (Value.bool true) v6 S5) (fun v7 S6=>some ([x0,x1,x2,x3,x4,x5,x6,x7,x8,x9,I,A,U,B,D,E,b,J,K,C,V,W,dem x1,v1,v2,dem v2,dem v4,v5,v6,v7,a5,a6,a7,a8,L,M,F,a9,b0,b1,b2,b3,b4,b5,b6,b7,N,P,G,b8,b9,c0,c1,c2,c3,c4,c5,c6,c7,c8,c9,d0,d1,d2,d3,d4,d5,d6,d7,d8,d9,f0,f1,f2,f3,f4,f5,f7,f8,f9,g0,g1,g2,Q,R,H,g3,g4,g5,g6,g7,g8,g9,i0,i1,i2,i3,i4,i5,i6,c,d,f,g,i,k,l,m,n,o,p,q,r,s,t,u,w,x,y,z],S6)) ()) ()) ()) ()) ()) ()):=by
 refine sP Try.f6 3 0 (v:=x1) ?_
 refine sD Try.f6 3 1 (fun v1 S1=>?_)
 refine sD Try.f6 3 2 (fun v2 S2=>?_)
 refine sP Try.f6 3 3 (v:=v2) ?_
 refine sG Try.f6 3 4 (j:=3) (fun v4 S3=>?_)
 refine sG Try.f6 3 5 (j:=3) (fun v5 S4=>?_)
 refine sG Try.f6 3 6 (j:=3) (fun v6 S5=>?_)
 refine sD Try.f6 3 7 (fun v7 S6=>?_)
 kernel_rfl
theorem zi.r4 :jw Try.prog ⟨false,false,false⟩ (zW Try.prog O) (reg Try.f6 4) (reg Try.f6 4).toList ([x0,x1,x2,x3,x4,x5,x6,x7,x8,x9,I,A,U,B,D,E,b,J,K,C,V,W,X,Y,Z,a0,a1,a2,a3,a4,a5,a6,a7,a8,L,M,F,a9,b0,b1,b2,b3,b4,b5,b6,b7,N,P,G,b8,b9,c0,c1,c2,c3,c4,c5,c6,c7,c8,c9,d0,d1,d2,d3,d4,d5,d6,d7,d8,d9,f0,f1,f2,f3,f4,f5,f7,f8,f9,g0,g1,g2,Q,R,H,g3,g4,g5,g6,g7,g8,g9,i0,i1,i2,i3,i4,i5,i6,c,d,f,g,i,k,l,m,n,o,p,q,r,s,t,u,w,x,y,z]) S =
  ( some ([x0,x1,x2,x3,x4,x5,Value.bool true,x7,x8,x9,I,A,U,B,D,E,b,J,K,C,V,W,X,Y,Z,a0,a1,a2,a3,a4,a5,a6,a7,a8,L,M,F,a9,b0,b1,b2,b3,b4,b5,b6,b7,N,P,G,b8,b9,c0,c1,c2,c3,c4,c5,c6,c7,c8,c9,d0,d1,d2,d3,d4,d5,d6,d7,d8,d9,f0,f1,f2,f3,f4,f5,f7,f8,f9,g0,g1,g2,Q,R,H,g3,g4,g5,g6,g7,g8,g9,i0,i1,i2,i3,i4,i5,i6,c,d,f,g,i,k,l,m,n,o,p,q,r,s,t,u,w,x,y,z],S)):=by
 kernel_rfl
theorem zi.r5 :jw Try.prog ⟨false,false,false⟩ (zW Try.prog O) (reg Try.f6 5) (reg Try.f6 5).toList ([x0,x1,x2,x3,x4,x5,x6,x7,x8,x9,I,A,U,B,D,E,b,J,K,C,V,W,X,Y,Z,a0,a1,a2,a3,a4,a5,a6,a7,a8,L,M,F,a9,b0,b1,b2,b3,b4,b5,b6,b7,N,P,G,b8,b9,c0,c1,c2,c3,c4,c5,c6,c7,c8,c9,d0,d1,d2,d3,d4,d5,d6,d7,d8,d9,f0,f1,f2,f3,f4,f5,f7,f8,f9,g0,g1,g2,Q,R,H,g3,g4,g5,g6,g7,g8,g9,i0,i1,i2,i3,i4,i5,i6,c,d,f,g,i,k,l,m,n,o,p,q,r,s,t,u,w,x,y,z]) S =
  (zI (jH Try.prog 24 0 [] S) (fun v0 S1=>zI (wP Try.prog 24 24 v0 (dem x0) S1) (fun v2 S2=>zI ((zW Try.prog O) 8 [(dem v2)] S2) (fun v3 S3=>some ([x0,x1,x2,x3,x4,x5,x6,v3,x8,x9,I,A,U,B,D,E,b,J,K,C,V,W,X,Y,Z,a0,a1,a2,a3,a4,dem v0,dem x0,v2,dem v3,L,M,F,a9,b0,b1,b2,b3,b4,b5,b6,b7,N,P,G,b8,b9,c0,c1,c2,c3,c4,c5,c6,c7,c8,c9,d0,d1,d2,d3,d4,d5,d6,d7,d8,d9,f0,f1,f2,f3,f4,f5,f7,f8,f9,g0,g1,g2,Q,R,H,g3,g4,g5,g6,g7,g8,g9,i0,i1,i2,i3,i4,i5,i6,c,d,f,g,i,k,l,m,n,o,p,q,r,s,t,u,w,x,y,z],S3)) ()) ()) ()):=by
 kernel_rfl
theorem zi.r6 :jw Try.prog ⟨false,false,false⟩ (zW Try.prog O) (reg Try.f6 6) (reg Try.f6 6).toList ([x0,x1,x2,x3,x4,x5,x6,x7,x8,x9,I,A,U,B,D,E,b,J,K,C,V,W,X,Y,Z,a0,a1,a2,a3,a4,a5,a6,a7,a8,L,M,F,a9,b0,b1,b2,b3,b4,b5,b6,b7,N,P,G,b8,b9,c0,c1,c2,c3,c4,c5,c6,c7,c8,c9,d0,d1,d2,d3,d4,d5,d6,d7,d8,d9,f0,f1,f2,f3,f4,f5,f7,f8,f9,g0,g1,g2,Q,R,H,g3,g4,g5,g6,g7,g8,g9,i0,i1,i2,i3,i4,i5,i6,c,d,f,g,i,k,l,m,n,o,p,q,r,s,t,u,w,x,y,z]) S =
  (zI (Zz Try.prog 29 (dem x1) S) (fun v1 S1=>some ([x0,x1,x2,x3,x4,x5,x6,x7,x8,x9,I,A,U,B,D,E,b,J,K,C,V,W,X,Y,Z,a0,a1,a2,a3,a4,a5,a6,a7,a8,dem x1,v1,Value.int IntKind.i64 0,a9,b0,b1,b2,b3,b4,b5,b6,b7,N,P,G,b8,b9,c0,c1,c2,c3,c4,c5,c6,c7,c8,c9,d0,d1,d2,d3,d4,d5,d6,d7,d8,d9,f0,f1,f2,f3,f4,f5,f7,f8,f9,g0,g1,g2,Q,R,H,g3,g4,g5,g6,g7,g8,g9,i0,i1,i2,i3,i4,i5,i6,c,d,f,g,i,k,l,m,n,o,p,q,r,s,t,u,w,x,y,z],S1)) ()):=by
 kernel_rfl
theorem zi.r7 :jw Try.prog ⟨false,false,false⟩ (zW Try.prog O) (reg Try.f6 7) (reg Try.f6 7).toList ([x0,x1,x2,x3,x4,x5,x6,x7,x8,x9,I,A,U,B,D,E,b,J,K,C,V,W,X,Y,Z,a0,a1,a2,a3,a4,a5,a6,a7,a8,L,M,F,a9,b0,b1,b2,b3,b4,b5,b6,b7,N,P,G,b8,b9,c0,c1,c2,c3,c4,c5,c6,c7,c8,c9,d0,d1,d2,d3,d4,d5,d6,d7,d8,d9,f0,f1,f2,f3,f4,f5,f7,f8,f9,g0,g1,g2,Q,R,H,g3,g4,g5,g6,g7,g8,g9,i0,i1,i2,i3,i4,i5,i6,c,d,f,g,i,k,l,m,n,o,p,q,r,s,t,u,w,x,y,z]) S =
  (zI (wB Try.prog BinOp.lss 3 F M S) (fun v0 S1=>some ([x0,x1,x2,x3,x4,x5,x6,x7,x8,x9,I,A,U,B,D,E,b,J,K,C,V,W,X,Y,Z,a0,a1,a2,a3,a4,a5,a6,a7,a8,L,M,F,v0,b0,b1,b2,b3,b4,b5,b6,b7,N,P,G,b8,b9,c0,c1,c2,c3,c4,c5,c6,c7,c8,c9,d0,d1,d2,d3,d4,d5,d6,d7,d8,d9,f0,f1,f2,f3,f4,f5,f7,f8,f9,g0,g1,g2,Q,R,H,g3,g4,g5,g6,g7,g8,g9,i0,i1,i2,i3,i4,i5,i6,c,d,f,g,i,k,l,m,n,o,p,q,r,s,t,u,w,x,y,z],S1)) ()):=by
 kernel_rfl
theorem zi.r8 :jw Try.prog ⟨false,false,false⟩ (zW Try.prog O) (reg Try.f6 8) (reg Try.f6 8).toList ([x0,x1,x2,x3,x4,x5,x6,x7,x8,x9,I,A,U,B,D,E,b,J,K,C,V,W,X,Y,Z,a0,a1,a2,a3,a4,a5,a6,a7,a8,L,M,F,a9,b0,b1,b2,b3,b4,b5,b6,b7,N,P,G,b8,b9,c0,c1,c2,c3,c4,c5,c6,c7,c8,c9,d0,d1,d2,d3,d4,d5,d6,d7,d8,d9,f0,f1,f2,f3,f4,f5,f7,f8,f9,g0,g1,g2,Q,R,H,g3,g4,g5,g6,g7,g8,g9,i0,i1,i2,i3,i4,i5,i6,c,d,f,g,i,k,l,m,n,o,p,q,r,s,t,u,w,x,y,z]) S =
  (zI (jo Try.prog 29 L F S) (fun v0 S1=>zI (jf Try.prog false 33 v0 S1) (fun v1 S2=>some ([x0,x1,x2,x3,x4,x5,x6,x7,x8,v1,I,A,U,B,D,E,b,J,K,C,V,W,X,Y,Z,a0,a1,a2,a3,a4,a5,a6,a7,a8,L,M,F,a9,v0,dem v1,b2,b3,b4,b5,b6,b7,N,P,G,b8,b9,c0,c1,c2,c3,c4,c5,c6,c7,c8,c9,d0,d1,d2,d3,d4,d5,d6,d7,d8,d9,f0,f1,f2,f3,f4,f5,f7,f8,f9,g0,g1,g2,Q,R,H,g3,g4,g5,g6,g7,g8,g9,i0,i1,i2,i3,i4,i5,i6,c,d,f,g,i,k,l,m,n,o,p,q,r,s,t,u,w,x,y,z],S2)) ()) ()):=by
 kernel_rfl
theorem zi.r9 :jw Try.prog ⟨false,false,false⟩ (zW Try.prog O) (reg Try.f6 9) (reg Try.f6 9).toList ([x0,x1,x2,x3,x4,x5,x6,x7,x8,x9,I,A,U,B,D,E,b,J,K,C,V,W,X,Y,Z,a0,a1,a2,a3,a4,a5,a6,a7,a8,L,M,F,a9,b0,b1,b2,b3,b4,b5,b6,b7,N,P,G,b8,b9,c0,c1,c2,c3,c4,c5,c6,c7,c8,c9,d0,d1,d2,d3,d4,d5,d6,d7,d8,d9,f0,f1,f2,f3,f4,f5,f7,f8,f9,g0,g1,g2,Q,R,H,g3,g4,g5,g6,g7,g8,g9,i0,i1,i2,i3,i4,i5,i6,c,d,f,g,i,k,l,m,n,o,p,q,r,s,t,u,w,x,y,z]) S =
  (zI (jH Try.prog 33 0 [] S) (fun v1 S1=>zI (wP Try.prog 33 33 v1 (dem x9) S1) (fun v3 S2=>zI ((zW Try.prog O) 12 [(dem (dem x7)),(dem v3)] S2) (fun v4 S3=>some ([x0,x1,x2,x3,x4,x5,x6,x7,x8,x9,I,A,U,B,D,E,b,J,K,C,V,W,X,Y,Z,a0,a1,a2,a3,a4,a5,a6,a7,a8,L,M,F,a9,b0,b1,dem x7,dem v1,dem x9,v3,v4,b7,N,P,G,b8,b9,c0,c1,c2,c3,c4,c5,c6,c7,c8,c9,d0,d1,d2,d3,d4,d5,d6,d7,d8,d9,f0,f1,f2,f3,f4,f5,f7,f8,f9,g0,g1,g2,Q,R,H,g3,g4,g5,g6,g7,g8,g9,i0,i1,i2,i3,i4,i5,i6,c,d,f,g,i,k,l,m,n,o,p,q,r,s,t,u,w,x,y,z],S3)) ()) ()) ()):=by
 kernel_rfl
theorem zi.r10 :jw Try.prog ⟨false,false,false⟩ (zW Try.prog O) (reg Try.f6 10) (reg Try.f6 10).toList ([x0,x1,x2,x3,x4,x5,x6,x7,x8,x9,I,A,U,B,D,E,b,J,K,C,V,W,X,Y,Z,a0,a1,a2,a3,a4,a5,a6,a7,a8,L,M,F,a9,b0,b1,b2,b3,b4,b5,b6,b7,N,P,G,b8,b9,c0,c1,c2,c3,c4,c5,c6,c7,c8,c9,d0,d1,d2,d3,d4,d5,d6,d7,d8,d9,f0,f1,f2,f3,f4,f5,f7,f8,f9,g0,g1,g2,Q,R,H,g3,g4,g5,g6,g7,g8,g9,i0,i1,i2,i3,i4,i5,i6,c,d,f,g,i,k,l,m,n,o,p,q,r,s,t,u,w,x,y,z]) S =
  (zI (wB Try.prog BinOp.add 3 F (Value.int IntKind.i64 1) S) (fun v0 S1=>some ([x0,x1,x2,x3,x4,x5,x6,x7,x8,x9,I,A,U,B,D,E,b,J,K,C,V,W,X,Y,Z,a0,a1,a2,a3,a4,a5,a6,a7,a8,L,M,dem v0,a9,b0,b1,b2,b3,b4,b5,b6,v0,N,P,G,b8,b9,c0,c1,c2,c3,c4,c5,c6,c7,c8,c9,d0,d1,d2,d3,d4,d5,d6,d7,d8,d9,f0,f1,f2,f3,f4,f5,f7,f8,f9,g0,g1,g2,Q,R,H,g3,g4,g5,g6,g7,g8,g9,i0,i1,i2,i3,i4,i5,i6,c,d,f,g,i,k,l,m,n,o,p,q,r,s,t,u,w,x,y,z],S1)) ()):=by
 kernel_rfl
theorem zi.r11 :jw Try.prog ⟨false,false,false⟩ (zW Try.prog O) (reg Try.f6 11) (reg Try.f6 11).toList ([x0,x1,x2,x3,x4,x5,x6,x7,x8,x9,I,A,U,B,D,E,b,J,K,C,V,W,X,Y,Z,a0,a1,a2,a3,a4,a5,a6,a7,a8,L,M,F,a9,b0,b1,b2,b3,b4,b5,b6,b7,N,P,G,b8,b9,c0,c1,c2,c3,c4,c5,c6,c7,c8,c9,d0,d1,d2,d3,d4,d5,d6,d7,d8,d9,f0,f1,f2,f3,f4,f5,f7,f8,f9,g0,g1,g2,Q,R,H,g3,g4,g5,g6,g7,g8,g9,i0,i1,i2,i3,i4,i5,i6,c,d,f,g,i,k,l,m,n,o,p,q,r,s,t,u,w,x,y,z]) S =
  (zI (Zz Try.prog 29 (dem x1) S) (fun v1 S1=>some ([x0,x1,x2,x3,x4,x5,x6,x7,x8,x9,I,A,U,B,D,E,b,J,K,C,V,W,X,Y,Z,a0,a1,a2,a3,a4,a5,a6,a7,a8,L,M,F,a9,b0,b1,b2,b3,b4,b5,b6,b7,dem x1,v1,Value.int IntKind.i64 0,b8,b9,c0,c1,c2,c3,c4,c5,c6,c7,c8,c9,d0,d1,d2,d3,d4,d5,d6,d7,d8,d9,f0,f1,f2,f3,f4,f5,f7,f8,f9,g0,g1,g2,Q,R,H,g3,g4,g5,g6,g7,g8,g9,i0,i1,i2,i3,i4,i5,i6,c,d,f,g,i,k,l,m,n,o,p,q,r,s,t,u,w,x,y,z],S1)) ()):=by
 kernel_rfl
theorem zi.r12 :jw Try.prog ⟨false,false,false⟩ (zW Try.prog O) (reg Try.f6 12) (reg Try.f6 12).toList ([x0,x1,x2,x3,x4,x5,x6,x7,x8,x9,I,A,U,B,D,E,b,J,K,C,V,W,X,Y,Z,a0,a1,a2,a3,a4,a5,a6,a7,a8,L,M,F,a9,b0,b1,b2,b3,b4,b5,b6,b7,N,P,G,b8,b9,c0,c1,c2,c3,c4,c5,c6,c7,c8,c9,d0,d1,d2,d3,d4,d5,d6,d7,d8,d9,f0,f1,f2,f3,f4,f5,f7,f8,f9,g0,g1,g2,Q,R,H,g3,g4,g5,g6,g7,g8,g9,i0,i1,i2,i3,i4,i5,i6,c,d,f,g,i,k,l,m,n,o,p,q,r,s,t,u,w,x,y,z]) S =
  (zI (wB Try.prog BinOp.lss 3 G P S) (fun v0 S1=>some ([x0,x1,x2,x3,x4,x5,x6,x7,x8,x9,I,A,U,B,D,E,b,J,K,C,V,W,X,Y,Z,a0,a1,a2,a3,a4,a5,a6,a7,a8,L,M,F,a9,b0,b1,b2,b3,b4,b5,b6,b7,N,P,G,v0,b9,c0,c1,c2,c3,c4,c5,c6,c7,c8,c9,d0,d1,d2,d3,d4,d5,d6,d7,d8,d9,f0,f1,f2,f3,f4,f5,f7,f8,f9,g0,g1,g2,Q,R,H,g3,g4,g5,g6,g7,g8,g9,i0,i1,i2,i3,i4,i5,i6,c,d,f,g,i,k,l,m,n,o,p,q,r,s,t,u,w,x,y,z],S1)) ()):=by
 kernel_rfl
theorem zi.r13 :jw Try.prog ⟨false,false,false⟩ (zW Try.prog O) (reg Try.f6 13) (reg Try.f6 13).toList ([x0,x1,x2,x3,x4,x5,x6,x7,x8,x9,I,A,U,B,D,E,b,J,K,C,V,W,X,Y,Z,a0,a1,a2,a3,a4,a5,a6,a7,a8,L,M,F,a9,b0,b1,b2,b3,b4,b5,b6,b7,N,P,G,b8,b9,c0,c1,c2,c3,c4,c5,c6,c7,c8,c9,d0,d1,d2,d3,d4,d5,d6,d7,d8,d9,f0,f1,f2,f3,f4,f5,f7,f8,f9,g0,g1,g2,Q,R,H,g3,g4,g5,g6,g7,g8,g9,i0,i1,i2,i3,i4,i5,i6,c,d,f,g,i,k,l,m,n,o,p,q,r,s,t,u,w,x,y,z]) S =
  (zI (jo Try.prog 29 N G S) (fun v0 S1=>zI (jf Try.prog false 33 v0 S1) (fun v1 S2=>some ([x0,x1,x2,x3,x4,x5,x6,x7,x8,x9,I,v1,U,B,D,E,b,J,K,C,V,W,X,Y,Z,a0,a1,a2,a3,a4,a5,a6,a7,a8,L,M,F,a9,b0,b1,b2,b3,b4,b5,b6,b7,N,P,G,b8,v0,dem v1,c1,c2,c3,c4,c5,c6,c7,c8,c9,d0,d1,d2,d3,d4,d5,d6,d7,d8,d9,f0,f1,f2,f3,f4,f5,f7,f8,f9,g0,g1,g2,Q,R,H,g3,g4,g5,g6,g7,g8,g9,i0,i1,i2,i3,i4,i5,i6,c,d,f,g,i,k,l,m,n,o,p,q,r,s,t,u,w,x,y,z],S2)) ()) ()):=by
 kernel_rfl
theorem zi.r14 :jw Try.prog ⟨false,false,false⟩ (zW Try.prog O) (reg Try.f6 14) (reg Try.f6 14).toList ([x0,x1,x2,x3,x4,x5,x6,x7,x8,x9,I,A,U,B,D,E,b,J,K,C,V,W,X,Y,Z,a0,a1,a2,a3,a4,a5,a6,a7,a8,L,M,F,a9,b0,b1,b2,b3,b4,b5,b6,b7,N,P,G,b8,b9,c0,c1,c2,c3,c4,c5,c6,c7,c8,c9,d0,d1,d2,d3,d4,d5,d6,d7,d8,d9,f0,f1,f2,f3,f4,f5,f7,f8,f9,g0,g1,g2,Q,R,H,g3,g4,g5,g6,g7,g8,g9,i0,i1,i2,i3,i4,i5,i6,c,d,f,g,i,k,l,m,n,o,p,q,r,s,t,u,w,x,y,z]) S =
  (zI ((zW Try.prog O) 16 [(dem (dem A))] S) (fun v1 S1=>zI (zU v1 0 S1) (fun v3 S2=>zI (zU (zO 0 v1) 1 S2) (fun v4 S3=>zI (yG Try.prog 48 S3) (fun v5 S4=>zI (wM Try.prog 48 v5 (dem v3) S4) (fun v6 S5=>some ([x0,x1,x2,x3,x4,x5,x6,x7,x8,x9,I,A,v5,v4,D,E,b,J,K,C,V,W,X,Y,Z,a0,a1,a2,a3,a4,a5,a6,a7,a8,L,M,F,a9,b0,b1,b2,b3,b4,b5,b6,b7,N,P,G,b8,b9,c0,zO 1 (zO 0 v1),dem A,dem v1,v3,dem v4,c6,c7,c8,c9,d0,d1,d2,d3,d4,d5,d6,d7,d8,d9,f0,f1,f2,f3,f4,f5,f7,f8,f9,g0,g1,g2,Q,R,H,g3,g4,g5,g6,g7,g8,g9,i0,i1,i2,i3,i4,i5,i6,c,d,f,g,i,k,l,m,n,o,p,q,r,s,t,u,w,x,y,z],S5)) ()) ()) ()) ()) ()):=by
 kernel_rfl
theorem zi.r15 :jw Try.prog ⟨false,false,false⟩ (zW Try.prog O) (reg Try.f6 15) (reg Try.f6 15).toList ([x0,x1,x2,x3,x4,x5,x6,x7,x8,x9,I,A,U,B,D,E,b,J,K,C,V,W,X,Y,Z,a0,a1,a2,a3,a4,a5,a6,a7,a8,L,M,F,a9,b0,b1,b2,b3,b4,b5,b6,b7,N,P,G,b8,b9,c0,c1,c2,c3,c4,c5,c6,c7,c8,c9,d0,d1,d2,d3,d4,d5,d6,d7,d8,d9,f0,f1,f2,f3,f4,f5,f7,f8,f9,g0,g1,g2,Q,R,H,g3,g4,g5,g6,g7,g8,g9,i0,i1,i2,i3,i4,i5,i6,c,d,f,g,i,k,l,m,n,o,p,q,r,s,t,u,w,x,y,z]) S =
  (zI (jH Try.prog 33 0 [] S) (fun v1 S1=>zI (wP Try.prog 33 33 v1 (dem A) S1) (fun v3 S2=>zI ((zW Try.prog O) 10 [(dem (dem x7)),(dem v3)] S2) (fun v4 S3=>zI (wB Try.prog BinOp.eql 3 (dem B) (Value.int IntKind.i64 0) S3) (fun v6 S4=>zI (wB Try.prog BinOp.neq 4 v4 v6 S4) (fun v7 S5=>gdK (dem v7) false (ret x7) S5 (fun v9 S6=>gdK (dem v7) false (jH Try.prog 33 0 []) S6 (fun i7 S7=>gdK (dem v7) false (ret A) S7 (fun i8 S8=>gdK (dem v7) false (wP Try.prog 33 33 i7 (dem i8)) S8 (fun i9 S9=>gdK (dem v7) false ((zW Try.prog O) 10 [(dem (dem v9)),(dem i9)]) S9 (fun j0 j4=>gdK (dem v7) false (ret B) j4 (fun j1 j5=>gdK (dem v7) false (wB Try.prog BinOp.eql 3 (dem j1) (Value.int IntKind.i64 0)) j5 (fun j2 j6=>gdK (dem v7) false (wB Try.prog BinOp.neq 4 j0 j2) j6 (fun j3 j7=>zI (wR (dem v7) (Value.bool true) j3 j7) (fun j8 j9=>some ([x0,x1,x2,x3,x4,x5,x6,x7,x8,x9,I,A,U,B,D,E,b,J,K,C,V,W,X,Y,Z,a0,a1,a2,a3,a4,a5,a6,a7,a8,L,M,F,a9,b0,b1,b2,b3,b4,b5,b6,b7,N,P,G,b8,b9,c0,c1,c2,c3,c4,c5,dem x7,dem v1,dem A,v3,v4,dem B,v6,v7,dem v7,dem v9,dem i7,dem i8,i9,j0,dem j1,j2,j3,j8,f4,f5,f7,f8,f9,g0,g1,g2,Q,R,H,g3,g4,g5,g6,g7,g8,g9,i0,i1,i2,i3,i4,i5,i6,c,d,f,g,i,k,l,m,n,o,p,q,r,s,t,u,w,x,y,z],j9)) ()) ()) ()) ()) ()) ()) ()) ()) ()) ()) ()) ()) ()) ()):=by
 refine sP Try.f6 15 0 (v:=x7) ?_
 refine sD Try.f6 15 1 (fun v1 S1=>?_)
 refine sP Try.f6 15 2 (v:=A) ?_
 refine sD Try.f6 15 3 (fun v3 S2=>?_)
 refine sD Try.f6 15 4 (fun v4 S3=>?_)
 refine sP Try.f6 15 5 (v:=B) ?_
 refine sD Try.f6 15 6 (fun v6 S4=>?_)
 refine sD Try.f6 15 7 (fun v7 S5=>?_)
 refine sP Try.f6 15 8 (v:=v7) ?_
 refine sG Try.f6 15 9 (j:=8) (fun v9 S6=>?_)
 refine sG Try.f6 15 10 (j:=8) (fun i7 S7=>?_)
 refine sG Try.f6 15 11 (j:=8) (fun i8 S8=>?_)
 refine sG Try.f6 15 12 (j:=8) (fun i9 S9=>?_)
 refine sG Try.f6 15 13 (j:=8) (fun j0 j4=>?_)
 refine sG Try.f6 15 14 (j:=8) (fun j1 j5=>?_)
 refine sG Try.f6 15 15 (j:=8) (fun j2 j6=>?_)
 refine sG Try.f6 15 16 (j:=8) (fun j3 j7=>?_)
 refine sD Try.f6 15 17 (fun j8 j9=>?_)
 kernel_rfl
theorem zi.r16 :jw Try.prog ⟨false,false,false⟩ (zW Try.prog O) (reg Try.f6 16) (reg Try.f6 16).toList ([x0,x1,x2,x3,x4,x5,x6,x7,x8,x9,I,A,U,B,D,E,b,J,K,C,V,W,X,Y,Z,a0,a1,a2,a3,a4,a5,a6,a7,a8,L,M,F,a9,b0,b1,b2,b3,b4,b5,b6,b7,N,P,G,b8,b9,c0,c1,c2,c3,c4,c5,c6,c7,c8,c9,d0,d1,d2,d3,d4,d5,d6,d7,d8,d9,f0,f1,f2,f3,f4,f5,f7,f8,f9,g0,g1,g2,Q,R,H,g3,g4,g5,g6,g7,g8,g9,i0,i1,i2,i3,i4,i5,i6,c,d,f,g,i,k,l,m,n,o,p,q,r,s,t,u,w,x,y,z]) S =
  ( some ([x0,x1,x2,x3,x4,x5,Value.bool false,x7,x8,x9,I,A,U,B,D,E,b,J,K,C,V,W,X,Y,Z,a0,a1,a2,a3,a4,a5,a6,a7,a8,L,M,F,a9,b0,b1,b2,b3,b4,b5,b6,b7,N,P,G,b8,b9,c0,c1,c2,c3,c4,c5,c6,c7,c8,c9,d0,d1,d2,d3,d4,d5,d6,d7,d8,d9,f0,f1,f2,f3,f4,f5,f7,f8,f9,g0,g1,g2,Q,R,H,g3,g4,g5,g6,g7,g8,g9,i0,i1,i2,i3,i4,i5,i6,c,d,f,g,i,k,l,m,n,o,p,q,r,s,t,u,w,x,y,z],S)):=by
 kernel_rfl
theorem zi.r17 :jw Try.prog ⟨false,false,false⟩ (zW Try.prog O) (reg Try.f6 17) (reg Try.f6 17).toList ([x0,x1,x2,x3,x4,x5,x6,x7,x8,x9,I,A,U,B,D,E,b,J,K,C,V,W,X,Y,Z,a0,a1,a2,a3,a4,a5,a6,a7,a8,L,M,F,a9,b0,b1,b2,b3,b4,b5,b6,b7,N,P,G,b8,b9,c0,c1,c2,c3,c4,c5,c6,c7,c8,c9,d0,d1,d2,d3,d4,d5,d6,d7,d8,d9,f0,f1,f2,f3,f4,f5,f7,f8,f9,g0,g1,g2,Q,R,H,g3,g4,g5,g6,g7,g8,g9,i0,i1,i2,i3,i4,i5,i6,c,d,f,g,i,k,l,m,n,o,p,q,r,s,t,u,w,x,y,z]) S =
  (zI (wB Try.prog BinOp.add 3 G (Value.int IntKind.i64 1) S) (fun v0 S1=>some ([x0,x1,x2,x3,x4,x5,x6,x7,x8,x9,I,A,U,B,D,E,b,J,K,C,V,W,X,Y,Z,a0,a1,a2,a3,a4,a5,a6,a7,a8,L,M,F,a9,b0,b1,b2,b3,b4,b5,b6,b7,N,P,dem v0,b8,b9,c0,c1,c2,c3,c4,c5,c6,c7,c8,c9,d0,d1,d2,d3,d4,d5,d6,d7,d8,d9,f0,f1,f2,f3,v0,f5,f7,f8,f9,g0,g1,g2,Q,R,H,g3,g4,g5,g6,g7,g8,g9,i0,i1,i2,i3,i4,i5,i6,c,d,f,g,i,k,l,m,n,o,p,q,r,s,t,u,w,x,y,z],S1)) ()):=by
 kernel_rfl
theorem zi.r18 :jw Try.prog ⟨false,false,false⟩ (zW Try.prog O) (reg Try.f6 18) (reg Try.f6 18).toList ([x0,x1,x2,x3,x4,x5,x6,x7,x8,x9,I,A,U,B,D,E,b,J,K,C,V,W,X,Y,Z,a0,a1,a2,a3,a4,a5,a6,a7,a8,L,M,F,a9,b0,b1,b2,b3,b4,b5,b6,b7,N,P,G,b8,b9,c0,c1,c2,c3,c4,c5,c6,c7,c8,c9,d0,d1,d2,d3,d4,d5,d6,d7,d8,d9,f0,f1,f2,f3,f4,f5,f7,f8,f9,g0,g1,g2,Q,R,H,g3,g4,g5,g6,g7,g8,g9,i0,i1,i2,i3,i4,i5,i6,c,d,f,g,i,k,l,m,n,o,p,q,r,s,t,u,w,x,y,z]) S =
  (zI (jf Try.prog false 48 x5 S) (fun v0 S1=>zI ((zW Try.prog O) 19 [(dem v0)] S1) (fun v1 S2=>zI (zU v1 0 S2) (fun v3 S3=>zI (zU (zO 0 v1) 1 S3) (fun v4 S4=>some ([x0,x1,x2,x3,x4,x5,x6,x7,x8,x9,I,A,U,B,v3,v4,b,J,K,C,V,W,X,Y,Z,a0,a1,a2,a3,a4,a5,a6,a7,a8,L,M,F,a9,b0,b1,b2,b3,b4,b5,b6,b7,N,P,G,b8,b9,c0,c1,c2,c3,c4,c5,c6,c7,c8,c9,d0,d1,d2,d3,d4,d5,d6,d7,d8,d9,f0,f1,f2,f3,f4,zO 1 (zO 0 v1),v0,dem v1,dem v3,dem v4,g1,g2,Q,R,H,g3,g4,g5,g6,g7,g8,g9,i0,i1,i2,i3,i4,i5,i6,c,d,f,g,i,k,l,m,n,o,p,q,r,s,t,u,w,x,y,z],S4)) ()) ()) ()) ()):=by
 kernel_rfl
theorem zi.r19 :jw Try.prog ⟨false,false,false⟩ (zW Try.prog O) (reg Try.f6 19) (reg Try.f6 19).toList ([x0,x1,x2,x3,x4,x5,x6,x7,x8,x9,I,A,U,B,D,E,b,J,K,C,V,W,X,Y,Z,a0,a1,a2,a3,a4,a5,a6,a7,a8,L,M,F,a9,b0,b1,b2,b3,b4,b5,b6,b7,N,P,G,b8,b9,c0,c1,c2,c3,c4,c5,c6,c7,c8,c9,d0,d1,d2,d3,d4,d5,d6,d7,d8,d9,f0,f1,f2,f3,f4,f5,f7,f8,f9,g0,g1,g2,Q,R,H,g3,g4,g5,g6,g7,g8,g9,i0,i1,i2,i3,i4,i5,i6,c,d,f,g,i,k,l,m,n,o,p,q,r,s,t,u,w,x,y,z]) S =
  (zI (wB Try.prog BinOp.neq 3 (dem E) (Value.int IntKind.i64 0) S) (fun v1 S1=>some ([x0,x1,x2,x3,x4,x5,x6,x7,x8,x9,I,A,U,B,D,E,b,J,K,C,V,W,X,Y,Z,a0,a1,a2,a3,a4,a5,a6,a7,a8,L,M,F,a9,b0,b1,b2,b3,b4,b5,b6,b7,N,P,G,b8,b9,c0,c1,c2,c3,c4,c5,c6,c7,c8,c9,d0,d1,d2,d3,d4,d5,d6,d7,d8,d9,f0,f1,f2,f3,f4,f5,f7,f8,f9,g0,dem E,v1,Q,R,H,g3,g4,g5,g6,g7,g8,g9,i0,i1,i2,i3,i4,i5,i6,c,d,f,g,i,k,l,m,n,o,p,q,r,s,t,u,w,x,y,z],S1)) ()):=by
 kernel_rfl
theorem zi.r20 :jw Try.prog ⟨false,false,false⟩ (zW Try.prog O) (reg Try.f6 20) (reg Try.f6 20).toList ([x0,x1,x2,x3,x4,x5,x6,x7,x8,x9,I,A,U,B,D,E,b,J,K,C,V,W,X,Y,Z,a0,a1,a2,a3,a4,a5,a6,a7,a8,L,M,F,a9,b0,b1,b2,b3,b4,b5,b6,b7,N,P,G,b8,b9,c0,c1,c2,c3,c4,c5,c6,c7,c8,c9,d0,d1,d2,d3,d4,d5,d6,d7,d8,d9,f0,f1,f2,f3,f4,f5,f7,f8,f9,g0,g1,g2,Q,R,H,g3,g4,g5,g6,g7,g8,g9,i0,i1,i2,i3,i4,i5,i6,c,d,f,g,i,k,l,m,n,o,p,q,r,s,t,u,w,x,y,z]) S =
  ( some ([x0,x1,x2,x3,x4,x5,Value.bool true,x7,x8,x9,I,A,U,B,D,E,b,J,K,C,V,W,X,Y,Z,a0,a1,a2,a3,a4,a5,a6,a7,a8,L,M,F,a9,b0,b1,b2,b3,b4,b5,b6,b7,N,P,G,b8,b9,c0,c1,c2,c3,c4,c5,c6,c7,c8,c9,d0,d1,d2,d3,d4,d5,d6,d7,d8,d9,f0,f1,f2,f3,f4,f5,f7,f8,f9,g0,g1,g2,Q,R,H,g3,g4,g5,g6,g7,g8,g9,i0,i1,i2,i3,i4,i5,i6,c,d,f,g,i,k,l,m,n,o,p,q,r,s,t,u,w,x,y,z],S)):=by
 kernel_rfl
theorem zi.r21 :jw Try.prog ⟨false,false,false⟩ (zW Try.prog O) (reg Try.f6 21) (reg Try.f6 21).toList ([x0,x1,x2,x3,x4,x5,x6,x7,x8,x9,I,A,U,B,D,E,b,J,K,C,V,W,X,Y,Z,a0,a1,a2,a3,a4,a5,a6,a7,a8,L,M,F,a9,b0,b1,b2,b3,b4,b5,b6,b7,N,P,G,b8,b9,c0,c1,c2,c3,c4,c5,c6,c7,c8,c9,d0,d1,d2,d3,d4,d5,d6,d7,d8,d9,f0,f1,f2,f3,f4,f5,f7,f8,f9,g0,g1,g2,Q,R,H,g3,g4,g5,g6,g7,g8,g9,i0,i1,i2,i3,i4,i5,i6,c,d,f,g,i,k,l,m,n,o,p,q,r,s,t,u,w,x,y,z]) S =
  ( some ([x0,x1,x2,x3,x4,x5,x6,x7,x8,x9,I,A,U,B,D,E,Value.bool false,J,K,C,V,W,X,Y,Z,a0,a1,a2,a3,a4,a5,a6,a7,a8,L,M,F,a9,b0,b1,b2,b3,b4,b5,b6,b7,N,P,G,b8,b9,c0,c1,c2,c3,c4,c5,c6,c7,c8,c9,d0,d1,d2,d3,d4,d5,d6,d7,d8,d9,f0,f1,f2,f3,f4,f5,f7,f8,f9,g0,g1,g2,Q,R,H,g3,g4,g5,g6,g7,g8,g9,i0,i1,i2,i3,i4,i5,i6,c,d,f,g,i,k,l,m,n,o,p,q,r,s,t,u,w,x,y,z],S)):=by
 kernel_rfl
theorem zi.r22 :jw Try.prog ⟨false,false,false⟩ (zW Try.prog O) (reg Try.f6 22) (reg Try.f6 22).toList ([x0,x1,x2,x3,x4,x5,x6,x7,x8,x9,I,A,U,B,D,E,b,J,K,C,V,W,X,Y,Z,a0,a1,a2,a3,a4,a5,a6,a7,a8,L,M,F,a9,b0,b1,b2,b3,b4,b5,b6,b7,N,P,G,b8,b9,c0,c1,c2,c3,c4,c5,c6,c7,c8,c9,d0,d1,d2,d3,d4,d5,d6,d7,d8,d9,f0,f1,f2,f3,f4,f5,f7,f8,f9,g0,g1,g2,Q,R,H,g3,g4,g5,g6,g7,g8,g9,i0,i1,i2,i3,i4,i5,i6,c,d,f,g,i,k,l,m,n,o,p,q,r,s,t,u,w,x,y,z]) S =
  (zI (Zz Try.prog 29 (dem x1) S) (fun v1 S1=>some ([x0,x1,x2,x3,x4,x5,x6,x7,x8,x9,I,A,U,B,D,E,b,J,K,C,V,W,X,Y,Z,a0,a1,a2,a3,a4,a5,a6,a7,a8,L,M,F,a9,b0,b1,b2,b3,b4,b5,b6,b7,N,P,G,b8,b9,c0,c1,c2,c3,c4,c5,c6,c7,c8,c9,d0,d1,d2,d3,d4,d5,d6,d7,d8,d9,f0,f1,f2,f3,f4,f5,f7,f8,f9,g0,g1,g2,dem x1,v1,Value.int IntKind.i64 0,g3,g4,g5,g6,g7,g8,g9,i0,i1,i2,i3,i4,i5,i6,c,d,f,g,i,k,l,m,n,o,p,q,r,s,t,u,w,x,y,z],S1)) ()):=by
 kernel_rfl
theorem zi.r23 :jw Try.prog ⟨false,false,false⟩ (zW Try.prog O) (reg Try.f6 23) (reg Try.f6 23).toList ([x0,x1,x2,x3,x4,x5,x6,x7,x8,x9,I,A,U,B,D,E,b,J,K,C,V,W,X,Y,Z,a0,a1,a2,a3,a4,a5,a6,a7,a8,L,M,F,a9,b0,b1,b2,b3,b4,b5,b6,b7,N,P,G,b8,b9,c0,c1,c2,c3,c4,c5,c6,c7,c8,c9,d0,d1,d2,d3,d4,d5,d6,d7,d8,d9,f0,f1,f2,f3,f4,f5,f7,f8,f9,g0,g1,g2,Q,R,H,g3,g4,g5,g6,g7,g8,g9,i0,i1,i2,i3,i4,i5,i6,c,d,f,g,i,k,l,m,n,o,p,q,r,s,t,u,w,x,y,z]) S =
  (zI (wB Try.prog BinOp.lss 3 H R S) (fun v0 S1=>some ([x0,x1,x2,x3,x4,x5,x6,x7,x8,x9,I,A,U,B,D,E,b,J,K,C,V,W,X,Y,Z,a0,a1,a2,a3,a4,a5,a6,a7,a8,L,M,F,a9,b0,b1,b2,b3,b4,b5,b6,b7,N,P,G,b8,b9,c0,c1,c2,c3,c4,c5,c6,c7,c8,c9,d0,d1,d2,d3,d4,d5,d6,d7,d8,d9,f0,f1,f2,f3,f4,f5,f7,f8,f9,g0,g1,g2,Q,R,H,v0,g4,g5,g6,g7,g8,g9,i0,i1,i2,i3,i4,i5,i6,c,d,f,g,i,k,l,m,n,o,p,q,r,s,t,u,w,x,y,z],S1)) ()):=by
 kernel_rfl
theorem zi.r24 :jw Try.prog ⟨false,false,false⟩ (zW Try.prog O) (reg Try.f6 24) (reg Try.f6 24).toList ([x0,x1,x2,x3,x4,x5,x6,x7,x8,x9,I,A,U,B,D,E,b,J,K,C,V,W,X,Y,Z,a0,a1,a2,a3,a4,a5,a6,a7,a8,L,M,F,a9,b0,b1,b2,b3,b4,b5,b6,b7,N,P,G,b8,b9,c0,c1,c2,c3,c4,c5,c6,c7,c8,c9,d0,d1,d2,d3,d4,d5,d6,d7,d8,d9,f0,f1,f2,f3,f4,f5,f7,f8,f9,g0,g1,g2,Q,R,H,g3,g4,g5,g6,g7,g8,g9,i0,i1,i2,i3,i4,i5,i6,c,d,f,g,i,k,l,m,n,o,p,q,r,s,t,u,w,x,y,z]) S =
  (zI (jo Try.prog 29 Q H S) (fun v0 S1=>zI (jf Try.prog false 33 v0 S1) (fun v1 S2=>some ([x0,x1,x2,x3,x4,x5,x6,x7,x8,x9,I,A,U,B,D,E,b,J,v1,C,V,W,X,Y,Z,a0,a1,a2,a3,a4,a5,a6,a7,a8,L,M,F,a9,b0,b1,b2,b3,b4,b5,b6,b7,N,P,G,b8,b9,c0,c1,c2,c3,c4,c5,c6,c7,c8,c9,d0,d1,d2,d3,d4,d5,d6,d7,d8,d9,f0,f1,f2,f3,f4,f5,f7,f8,f9,g0,g1,g2,Q,R,H,g3,v0,dem v1,g6,g7,g8,g9,i0,i1,i2,i3,i4,i5,i6,c,d,f,g,i,k,l,m,n,o,p,q,r,s,t,u,w,x,y,z],S2)) ()) ()):=by
 kernel_rfl
theorem zi.r25 :jw Try.prog ⟨false,false,false⟩ (zW Try.prog O) (reg Try.f6 25) (reg Try.f6 25).toList ([x0,x1,x2,x3,x4,x5,x6,x7,x8,x9,I,A,U,B,D,E,b,J,K,C,V,W,X,Y,Z,a0,a1,a2,a3,a4,a5,a6,a7,a8,L,M,F,a9,b0,b1,b2,b3,b4,b5,b6,b7,N,P,G,b8,b9,c0,c1,c2,c3,c4,c5,c6,c7,c8,c9,d0,d1,d2,d3,d4,d5,d6,d7,d8,d9,f0,f1,f2,f3,f4,f5,f7,f8,f9,g0,g1,g2,Q,R,H,g3,g4,g5,g6,g7,g8,g9,i0,i1,i2,i3,i4,i5,i6,c,d,f,g,i,k,l,m,n,o,p,q,r,s,t,u,w,x,y,z]) S =
  (gdK (dem b) false (ret K) S (fun v2 S1=>gdK (dem b) false (qA Try.prog false false 33 9 (dem v2)) S1 (fun v3 S2=>gdK (dem b) false (ret D) S2 (fun v4 S3=>gdK (dem b) false (qA Try.prog false false 33 9 (dem v4)) S3 (fun v5 S4=>gdK (dem b) false (wB Try.prog BinOp.eql 9 v3 v5) S4 (fun v6 S5=>zI (wR (dem b) (Value.bool true) v6 S5) (fun v7 S6=>some ([x0,x1,x2,x3,x4,x5,x6,x7,x8,x9,I,A,U,B,D,E,v7,J,K,C,V,W,X,Y,Z,a0,a1,a2,a3,a4,a5,a6,a7,a8,L,M,F,a9,b0,b1,b2,b3,b4,b5,b6,b7,N,P,G,b8,b9,c0,c1,c2,c3,c4,c5,c6,c7,c8,c9,d0,d1,d2,d3,d4,d5,d6,d7,d8,d9,f0,f1,f2,f3,f4,f5,f7,f8,f9,g0,g1,g2,Q,R,H,g3,g4,g5,b,dem b,dem v2,v3,dem v4,v5,v6,dem v7,i4,i5,i6,c,d,f,g,i,k,l,m,n,o,p,q,r,s,t,u,w,x,y,z],S6)) ()) ()) ()) ()) ()) ()):=by
 refine sP Try.f6 25 0 (v:=b) ?_
 refine sP Try.f6 25 1 (v:=b) ?_
 refine sG Try.f6 25 2 (j:=1) (fun v2 S1=>?_)
 refine sG Try.f6 25 3 (j:=1) (fun v3 S2=>?_)
 refine sG Try.f6 25 4 (j:=1) (fun v4 S3=>?_)
 refine sG Try.f6 25 5 (j:=1) (fun v5 S4=>?_)
 refine sG Try.f6 25 6 (j:=1) (fun v6 S5=>?_)
 refine sD Try.f6 25 7 (fun v7 S6=>?_)
 refine sP Try.f6 25 8 (v:=v7) ?_
 kernel_rfl
theorem zi.r26 :jw Try.prog ⟨false,false,false⟩ (zW Try.prog O) (reg Try.f6 26) (reg Try.f6 26).toList ([x0,x1,x2,x3,x4,x5,x6,x7,x8,x9,I,A,U,B,D,E,b,J,K,C,V,W,X,Y,Z,a0,a1,a2,a3,a4,a5,a6,a7,a8,L,M,F,a9,b0,b1,b2,b3,b4,b5,b6,b7,N,P,G,b8,b9,c0,c1,c2,c3,c4,c5,c6,c7,c8,c9,d0,d1,d2,d3,d4,d5,d6,d7,d8,d9,f0,f1,f2,f3,f4,f5,f7,f8,f9,g0,g1,g2,Q,R,H,g3,g4,g5,g6,g7,g8,g9,i0,i1,i2,i3,i4,i5,i6,c,d,f,g,i,k,l,m,n,o,p,q,r,s,t,u,w,x,y,z]) S =
  (zI (wB Try.prog BinOp.add 3 H (Value.int IntKind.i64 1) S) (fun v0 S1=>some ([x0,x1,x2,x3,x4,x5,x6,x7,x8,x9,I,A,U,B,D,E,b,J,K,C,V,W,X,Y,Z,a0,a1,a2,a3,a4,a5,a6,a7,a8,L,M,F,a9,b0,b1,b2,b3,b4,b5,b6,b7,N,P,G,b8,b9,c0,c1,c2,c3,c4,c5,c6,c7,c8,c9,d0,d1,d2,d3,d4,d5,d6,d7,d8,d9,f0,f1,f2,f3,f4,f5,f7,f8,f9,g0,g1,g2,Q,R,dem v0,g3,g4,g5,g6,g7,g8,g9,i0,i1,i2,i3,v0,i5,i6,c,d,f,g,i,k,l,m,n,o,p,q,r,s,t,u,w,x,y,z],S1)) ()):=by
 kernel_rfl
theorem zi.r27 :jw Try.prog ⟨false,false,false⟩ (zW Try.prog O) (reg Try.f6 27) (reg Try.f6 27).toList ([x0,x1,x2,x3,x4,x5,x6,x7,x8,x9,I,A,U,B,D,E,b,J,K,C,V,W,X,Y,Z,a0,a1,a2,a3,a4,a5,a6,a7,a8,L,M,F,a9,b0,b1,b2,b3,b4,b5,b6,b7,N,P,G,b8,b9,c0,c1,c2,c3,c4,c5,c6,c7,c8,c9,d0,d1,d2,d3,d4,d5,d6,d7,d8,d9,f0,f1,f2,f3,f4,f5,f7,f8,f9,g0,g1,g2,Q,R,H,g3,g4,g5,g6,g7,g8,g9,i0,i1,i2,i3,i4,i5,i6,c,d,f,g,i,k,l,m,n,o,p,q,r,s,t,u,w,x,y,z]) S =
  (zI (jH Try.prog 33 0 [] S) (fun v1 S1=>zI (wP Try.prog 33 33 v1 (dem D) S1) (fun v3 S2=>zI ((zW Try.prog O) 10 [(dem (dem x7)),(dem v3)] S2) (fun v4 S3=>some ([x0,x1,x2,x3,x4,x5,x6,x7,x8,x9,I,A,U,B,D,E,b,J,K,v4,V,W,X,Y,Z,a0,a1,a2,a3,a4,a5,a6,a7,a8,L,M,F,a9,b0,b1,b2,b3,b4,b5,b6,b7,N,P,G,b8,b9,c0,c1,c2,c3,c4,c5,c6,c7,c8,c9,d0,d1,d2,d3,d4,d5,d6,d7,d8,d9,f0,f1,f2,f3,f4,f5,f7,f8,f9,g0,g1,g2,Q,R,H,g3,g4,g5,g6,g7,g8,g9,i0,i1,i2,i3,i4,dem x7,dem v1,dem D,v3,dem v4,g,i,k,l,m,n,o,p,q,r,s,t,u,w,x,y,z],S3)) ()) ()) ()):=by
 kernel_rfl
theorem zi.r28 :jw Try.prog ⟨false,false,false⟩ (zW Try.prog O) (reg Try.f6 28) (reg Try.f6 28).toList ([x0,x1,x2,x3,x4,x5,x6,x7,x8,x9,I,A,U,B,D,E,b,J,K,C,V,W,X,Y,Z,a0,a1,a2,a3,a4,a5,a6,a7,a8,L,M,F,a9,b0,b1,b2,b3,b4,b5,b6,b7,N,P,G,b8,b9,c0,c1,c2,c3,c4,c5,c6,c7,c8,c9,d0,d1,d2,d3,d4,d5,d6,d7,d8,d9,f0,f1,f2,f3,f4,f5,f7,f8,f9,g0,g1,g2,Q,R,H,g3,g4,g5,g6,g7,g8,g9,i0,i1,i2,i3,i4,i5,i6,c,d,f,g,i,k,l,m,n,o,p,q,r,s,t,u,w,x,y,z]) S =
  (zI (zA Try.prog 48 x5 0 S) (fun v0 S1=>zI (jf Try.prog false 3 v0 S1) (fun v1 S2=>zI (wB Try.prog BinOp.eql 3 v1 (Value.int IntKind.i64 1) S2) (fun v2 S3=>some ([x0,x1,x2,x3,x4,x5,x6,x7,x8,x9,I,A,U,B,D,E,b,J,K,C,V,W,X,Y,Z,a0,a1,a2,a3,a4,a5,a6,a7,a8,L,M,F,a9,b0,b1,b2,b3,b4,b5,b6,b7,N,P,G,b8,b9,c0,c1,c2,c3,c4,c5,c6,c7,c8,c9,d0,d1,d2,d3,d4,d5,d6,d7,d8,d9,f0,f1,f2,f3,f4,f5,f7,f8,f9,g0,g1,g2,Q,R,H,g3,g4,g5,g6,g7,g8,g9,i0,i1,i2,i3,i4,i5,i6,c,d,f,v0,v1,v2,l,m,n,o,p,q,r,s,t,u,w,x,y,z],S3)) ()) ()) ()):=by
 kernel_rfl
theorem zi.r29 :jw Try.prog ⟨false,false,false⟩ (zW Try.prog O) (reg Try.f6 29) (reg Try.f6 29).toList ([x0,x1,x2,x3,x4,x5,x6,x7,x8,x9,I,A,U,B,D,E,b,J,K,C,V,W,X,Y,Z,a0,a1,a2,a3,a4,a5,a6,a7,a8,L,M,F,a9,b0,b1,b2,b3,b4,b5,b6,b7,N,P,G,b8,b9,c0,c1,c2,c3,c4,c5,c6,c7,c8,c9,d0,d1,d2,d3,d4,d5,d6,d7,d8,d9,f0,f1,f2,f3,f4,f5,f7,f8,f9,g0,g1,g2,Q,R,H,g3,g4,g5,g6,g7,g8,g9,i0,i1,i2,i3,i4,i5,i6,c,d,f,g,i,k,l,m,n,o,p,q,r,s,t,u,w,x,y,z]) S =
  (zI (aUn Try.prog UnOp.not (dem b) S) (fun v1 S1=>gdK (dem v1) false (ret C) S1 (fun v3 S2=>zI (wR (dem v1) (Value.bool true) (dem v3) S2) (fun v4 S3=>some ([x0,x1,x2,x3,x4,x5,v4,x7,x8,x9,I,A,U,B,D,E,b,J,K,C,V,W,X,Y,Z,a0,a1,a2,a3,a4,a5,a6,a7,a8,L,M,F,a9,b0,b1,b2,b3,b4,b5,b6,b7,N,P,G,b8,b9,c0,c1,c2,c3,c4,c5,c6,c7,c8,c9,d0,d1,d2,d3,d4,d5,d6,d7,d8,d9,f0,f1,f2,f3,f4,f5,f7,f8,f9,g0,g1,g2,Q,R,H,g3,g4,g5,g6,g7,g8,g9,i0,i1,i2,i3,i4,i5,i6,c,d,f,g,i,k,dem b,v1,dem v1,dem v3,dem v4,q,r,s,t,u,w,x,y,z],S3)) ()) ()) ()):=by
 refine sP Try.f6 29 0 (v:=b) ?_
 refine sD Try.f6 29 1 (fun v1 S1=>?_)
 refine sP Try.f6 29 2 (v:=v1) ?_
 refine sG Try.f6 29 3 (j:=2) (fun v3 S2=>?_)
 refine sD Try.f6 29 4 (fun v4 S3=>?_)
 refine sP Try.f6 29 5 (v:=v4) ?_
 kernel_rfl
theorem zi.r30 :jw Try.prog ⟨false,false,false⟩ (zW Try.prog O) (reg Try.f6 30) (reg Try.f6 30).toList ([x0,x1,x2,x3,x4,x5,x6,x7,x8,x9,I,A,U,B,D,E,b,J,K,C,V,W,X,Y,Z,a0,a1,a2,a3,a4,a5,a6,a7,a8,L,M,F,a9,b0,b1,b2,b3,b4,b5,b6,b7,N,P,G,b8,b9,c0,c1,c2,c3,c4,c5,c6,c7,c8,c9,d0,d1,d2,d3,d4,d5,d6,d7,d8,d9,f0,f1,f2,f3,f4,f5,f7,f8,f9,g0,g1,g2,Q,R,H,g3,g4,g5,g6,g7,g8,g9,i0,i1,i2,i3,i4,i5,i6,c,d,f,g,i,k,l,m,n,o,p,q,r,s,t,u,w,x,y,z]) S =
  (gdK (dem b) false (ret x7) S (fun v3 S1=>gdK (dem b) false (zA Try.prog 48 x5 1) S1 (fun v4 S2=>gdK (dem b) false (jf Try.prog false 3 v4) S2 (fun v5 S3=>gdK (dem b) false ((zW Try.prog O) 11 [(dem (dem v3)),(dem v5)]) S3 (fun v6 S4=>zI (wR (dem b) (Value.bool true) v6 S4) (fun v7 S5=>zI (wB Try.prog BinOp.eql 4 (dem C) v7 S5) (fun v8 S6=>some ([x0,x1,x2,x3,x4,x5,v8,x7,x8,x9,I,A,U,B,D,E,dem b,J,K,C,V,W,X,Y,Z,a0,a1,a2,a3,a4,a5,a6,a7,a8,L,M,F,a9,b0,b1,b2,b3,b4,b5,b6,b7,N,P,G,b8,b9,c0,c1,c2,c3,c4,c5,c6,c7,c8,c9,d0,d1,d2,d3,d4,d5,d6,d7,d8,d9,f0,f1,f2,f3,f4,f5,f7,f8,f9,g0,g1,g2,Q,R,H,g3,g4,g5,g6,g7,g8,g9,i0,i1,i2,i3,i4,i5,i6,c,d,f,g,i,k,l,m,n,o,p,dem C,b,dem b,dem v3,v4,v5,v6,v7,dem v8],S6)) ()) ()) ()) ()) ()) ()):=by
 refine sP Try.f6 30 0 (v:=C) ?_
 refine sP Try.f6 30 1 (v:=b) ?_
 refine sP Try.f6 30 2 (v:=b) ?_
 refine sG Try.f6 30 3 (j:=2) (fun v3 S1=>?_)
 refine sG Try.f6 30 4 (j:=2) (fun v4 S2=>?_)
 refine sG Try.f6 30 5 (j:=2) (fun v5 S3=>?_)
 refine sG Try.f6 30 6 (j:=2) (fun v6 S4=>?_)
 refine sD Try.f6 30 7 (fun v7 S5=>?_)
 refine sD Try.f6 30 8 (fun v8 S6=>?_)
 refine sP Try.f6 30 9 (v:=v8) ?_
 kernel_rfl
theorem zi.rs:type_of% (ak5 @zi.r0 (ak5 @zi.r1 (ak5 @zi.r2 (ak5 @zi.r3 (ak5 @zi.r4 (ak5 @zi.r5 (ak5 @zi.r6 (ak5 @zi.r7 (ak5 @zi.r8 (ak5 @zi.r9 (ak5 @zi.r10 (ak5 @zi.r11 (ak5 @zi.r12 (ak5 @zi.r13 (ak5 @zi.r14 (ak5 @zi.r15 (ak5 @zi.r16 (ak5 @zi.r17 (ak5 @zi.r18 (ak5 @zi.r19 (ak5 @zi.r20 (ak5 @zi.r21 (ak5 @zi.r22 (ak5 @zi.r23 (ak5 @zi.r24 (ak5 @zi.r25 (ak5 @zi.r26 (ak5 @zi.r27 (ak5 @zi.r28 (ak5 @zi.r29 (@zi.r30))))))))))))))))))))))))))))))):=ak5 @zi.r0 (ak5 @zi.r1 (ak5 @zi.r2 (ak5 @zi.r3 (ak5 @zi.r4 (ak5 @zi.r5 (ak5 @zi.r6 (ak5 @zi.r7 (ak5 @zi.r8 (ak5 @zi.r9 (ak5 @zi.r10 (ak5 @zi.r11 (ak5 @zi.r12 (ak5 @zi.r13 (ak5 @zi.r14 (ak5 @zi.r15 (ak5 @zi.r16 (ak5 @zi.r17 (ak5 @zi.r18 (ak5 @zi.r19 (ak5 @zi.r20 (ak5 @zi.r21 (ak5 @zi.r22 (ak5 @zi.r23 (ak5 @zi.r24 (ak5 @zi.r25 (ak5 @zi.r26 (ak5 @zi.r27 (ak5 @zi.r28 (ak5 @zi.r29 (@zi.r30))))))))))))))))))))))))))))))
theorem zi.runs {x0 x1 x2:Value} {S S1:zn} {e:AEx} {T:List Value} (h:zG Try.prog O false zi.code ([x0,x1,x2,zh,zh,zh,zh,zh,zh,zh,zh,zh,zh,zh,zh,zh,zh,zh,zh,zh,zh,zh,zh,zh,zh,zh,zh,zh,zh,zh,zh,zh,zh,zh,zh,zh,zh,zh,zh,zh,zh,zh,zh,zh,zh,zh,zh,zh,zh,zh,zh,zh,zh,zh,zh,zh,zh,zh,zh,zh,zh,zh,zh,zh,zh,zh,zh,zh,zh,zh,zh,zh,zh,zh,zh,zh,zh,zh,zh,zh,zh,zh,zh,zh,zh,zh,zh,zh,zh,zh,zh,zh,zh,zh,zh,zh,zh,zh,zh,zh,zh,zh,zh,zh,zh,zh,zh,zh,zh,zh,zh,zh,zh,zh,zh,zh,zh,zh,zh,zh]) S=some (e,T,S1)) (he:e=.normal∨e=.ret):zW Try.prog O 6 [x0,x1,x2] S=some (T.getD 6 zh,S1) :=
 yD rfl rfl Try.func6 (by decide) zi.body (by exact h) he (yA (a:=T.getD 6 zh) ((show zK Try.prog T S1 Try.f6.results.toList=zK Try.prog T S1 [(ResultVar.tmp 6)] from by kernel_rfl).trans (by simp only [zK])) (by kernel_rfl))
end Go.Proofs.Ytfjogganfjkckaa
namespace Go.Proofs.Ytfjogganfjkckaa
open Go.Abs
abbrev jI.id:FuncId:=21
noncomputable def jI.code:Code:=(Code.seq (Code.region 0 (reg Try.f21 0) false) (Code.seq (Code.region 1 (reg Try.f21 1) false) (Code.seq (Code.region 2 (reg Try.f21 2) false) Code.ret)))
theorem jI.body:Try.f21.body=some jI.code:=by kernel_rfl
variable (b c m n s l o p q r d f g i j:Value) (S:zn)
theorem jI.r0 :jw Try.prog ⟨false,false,false⟩ (zW Try.prog O) (reg Try.f21 0) (reg Try.f21 0).toList ([b,c,m,n,s,l,o,p,q,r,d,f,g,i,j]) S =
  (zI (JJ (dem c) S) (fun y k=>some ([b,c,m,y,Value.slice none 0 0,l,o,p,q,r,d,f,g,i,j],k)) ()):=by
 kernel_rfl
theorem jI.r1 :jw Try.prog ⟨false,false,false⟩ (zW Try.prog O) (reg Try.f21 1) (reg Try.f21 1).toList ([b,c,m,n,s,l,o,p,q,r,d,f,g,i,j]) S =
  (zI (jf Try.prog false 46 n S) (fun u k=>zI (yg Try.prog 48 [(0,(Value.int IntKind.i64 1)),(1,(dem (dem b))),(7,(dem u))] k) (fun v z=>zI ((zW Try.prog O) 19 [(dem v)] z) (fun t A=>zI (zU t 0 A) (fun w B=>zI (zU (zO 0 t) 1 B) (fun x C=>some ([b,c,m,n,s,w,x,zO 1 (zO 0 t),dem b,u,v,dem t,dem w,dem x,j],C)) ()) ()) ()) ()) ()):=by
 kernel_rfl
theorem jI.r2 :jw Try.prog ⟨false,false,false⟩ (zW Try.prog O) (reg Try.f21 2) (reg Try.f21 2).toList ([b,c,m,n,s,l,o,p,q,r,d,f,g,i,j]) S =
  ( some ([b,c,m,n,l,dem l,o,p,q,r,d,f,g,i,dem l],S)):=by
 kernel_rfl
theorem jI.rs:type_of% (ak5 @jI.r0 (ak5 @jI.r1 (@jI.r2))):=ak5 @jI.r0 (ak5 @jI.r1 (@jI.r2))
theorem jI.runs {b c:Value} {S k:zn} {e:AEx} {T:List Value} (h:zG Try.prog O false jI.code ([b,c,zh,zh,zh,zh,zh,zh,zh,zh,zh,zh,zh,zh,zh]) S=some (e,T,k)) (he:e=.normal∨e=.ret):zW Try.prog O 21 [b,c] S=some (T.getD 4 zh,k) :=
 yD rfl rfl Try.func21 (by decide) jI.body (by exact h) he (yA (a:=T.getD 4 zh) ((show zK Try.prog T k Try.f21.results.toList=zK Try.prog T k [(ResultVar.tmp 4)] from by kernel_rfl).trans (by simp only [zK])) (by kernel_rfl))
end Go.Proofs.Ytfjogganfjkckaa
namespace Go.Proofs.Ytfjogganfjkckaa
open Go.Abs
abbrev zY.id:FuncId:=9
noncomputable def zY.code:Code:=(Code.seq (Code.region 0 (reg Try.f9 0) false) (Code.seq (Code.region 1 (reg Try.f9 1) false) (Code.seq (Code.seq (Code.region 2 (reg Try.f9 2) false) (Code.cond (Operand.tmp 8) (Code.seq (Code.region 3 (reg Try.f9 3) false) Code.ret) Code.skip)) (Code.seq (Code.region 4 (reg Try.f9 4) false) (Code.seq (Code.region 5 (reg Try.f9 5) false) (Code.seq (Code.region 6 (reg Try.f9 6) false) (Code.seq (Code.region 7 (reg Try.f9 7) false) Code.ret)))))))
theorem zY.body:Try.f9.body=some zY.code:=by kernel_rfl
variable (x0 b x2 x3 x4 x5 x6 x7 x8 x9 c d f g i k l m n o p q r s t u w x y z A B C D E F G H I J K L M N P Q R U V W X Y Z a0 a1 a2 a3 a4:Value) (S:zn)
theorem zY.r0 :jw Try.prog ⟨false,false,false⟩ (zW Try.prog O) (reg Try.f9 0) (reg Try.f9 0).toList ([x0,b,x2,x3,x4,x5,x6,x7,x8,x9,c,d,f,g,i,k,l,m,n,o,p,q,r,s,t,u,w,x,y,z,A,B,C,D,E,F,G,H,I,J,K,L,M,N,P,Q,R,U,V,W,X,Y,Z,a0,a1,a2,a3,a4]) S =
  ( some ([Value.bool false,b,x2,x3,x4,x5,x6,x7,x8,x9,c,d,f,g,i,k,l,m,n,o,p,q,r,s,t,u,w,x,y,z,A,B,C,D,E,F,G,H,I,J,K,L,M,N,P,Q,R,U,V,W,X,Y,Z,a0,a1,a2,a3,a4],S)):=by
 kernel_rfl
theorem zY.r1 :jw Try.prog ⟨false,false,false⟩ (zW Try.prog O) (reg Try.f9 1) (reg Try.f9 1).toList ([x0,b,x2,x3,x4,x5,x6,x7,x8,x9,c,d,f,g,i,k,l,m,n,o,p,q,r,s,t,u,w,x,y,z,A,B,C,D,E,F,G,H,I,J,K,L,M,N,P,Q,R,U,V,W,X,Y,Z,a0,a1,a2,a3,a4]) S =
  (zI (jH Try.prog 24 1 [(0,(Value.int IntKind.i64 2))] S) (fun v0 S1=>zI ((zW Try.prog O) 8 [(dem v0)] S1) (fun v1 S2=>some ([x0,v1,x2,x3,x4,v0,dem v1,x7,x8,x9,c,d,f,g,i,k,l,m,n,o,p,q,r,s,t,u,w,x,y,z,A,B,C,D,E,F,G,H,I,J,K,L,M,N,P,Q,R,U,V,W,X,Y,Z,a0,a1,a2,a3,a4],S2)) ()) ()):=by
 kernel_rfl
theorem zY.r2 :jw Try.prog ⟨false,false,false⟩ (zW Try.prog O) (reg Try.f9 2) (reg Try.f9 2).toList ([x0,b,x2,x3,x4,x5,x6,x7,x8,x9,c,d,f,g,i,k,l,m,n,o,p,q,r,s,t,u,w,x,y,z,A,B,C,D,E,F,G,H,I,J,K,L,M,N,P,Q,R,U,V,W,X,Y,Z,a0,a1,a2,a3,a4]) S =
  (zI (wB Try.prog BinOp.eql 22 (dem b) (Value.pointer none) S) (fun v1 S1=>some ([x0,b,x2,x3,x4,x5,x6,dem b,v1,x9,c,d,f,g,i,k,l,m,n,o,p,q,r,s,t,u,w,x,y,z,A,B,C,D,E,F,G,H,I,J,K,L,M,N,P,Q,R,U,V,W,X,Y,Z,a0,a1,a2,a3,a4],S1)) ()):=by
 kernel_rfl
theorem zY.r3 :jw Try.prog ⟨false,false,false⟩ (zW Try.prog O) (reg Try.f9 3) (reg Try.f9 3).toList ([x0,b,x2,x3,x4,x5,x6,x7,x8,x9,c,d,f,g,i,k,l,m,n,o,p,q,r,s,t,u,w,x,y,z,A,B,C,D,E,F,G,H,I,J,K,L,M,N,P,Q,R,U,V,W,X,Y,Z,a0,a1,a2,a3,a4]) S =
  ( some ([Value.bool false,b,x2,x3,x4,x5,x6,x7,x8,x9,c,d,f,g,i,k,l,m,n,o,p,q,r,s,t,u,w,x,y,z,A,B,C,D,E,F,G,H,I,J,K,L,M,N,P,Q,R,U,V,W,X,Y,Z,a0,a1,a2,a3,a4],S)):=by
 kernel_rfl
theorem zY.r4 :jw Try.prog ⟨false,false,false⟩ (zW Try.prog O) (reg Try.f9 4) (reg Try.f9 4).toList ([x0,b,x2,x3,x4,x5,x6,x7,x8,x9,c,d,f,g,i,k,l,m,n,o,p,q,r,s,t,u,w,x,y,z,A,B,C,D,E,F,G,H,I,J,K,L,M,N,P,Q,R,U,V,W,X,Y,Z,a0,a1,a2,a3,a4]) S =
  (zI (yg Try.prog 46 [(0,(Value.int IntKind.i64 1)),(1,(Value.int IntKind.i64 1))] S) (fun v0 S1=>zI (yg Try.prog 43 [(0,(Value.int IntKind.i64 1))] S1) (fun v1 S2=>zI (jH Try.prog 44 1 [(0,v1)] S2) (fun v2 S3=>zI (yg Try.prog 46 [(0,(Value.int IntKind.i64 1)),(1,(Value.int IntKind.i64 1)),(4,(dem v2))] S3) (fun v3 S4=>zI (yG Try.prog 46 S4) (fun v4 S5=>zI (yG Try.prog 46 S5) (fun v5 S6=>zI (wM Try.prog 46 v4 (dem v0) S6) (fun v6 S7=>zI (wM Try.prog 46 v5 (dem v3) S7) (fun v7 S8=>some ([x0,b,v4,v5,x4,x5,x6,x7,x8,v0,v1,v2,v3,g,i,k,l,m,n,o,p,q,r,s,t,u,w,x,y,z,A,B,C,D,E,F,G,H,I,J,K,L,M,N,P,Q,R,U,V,W,X,Y,Z,a0,a1,a2,a3,a4],S8)) ()) ()) ()) ()) ()) ()) ()) ()):=by
 kernel_rfl
theorem zY.r5 :jw Try.prog ⟨false,false,false⟩ (zW Try.prog O) (reg Try.f9 5) (reg Try.f9 5).toList ([x0,b,x2,x3,x4,x5,x6,x7,x8,x9,c,d,f,g,i,k,l,m,n,o,p,q,r,s,t,u,w,x,y,z,A,B,C,D,E,F,G,H,I,J,K,L,M,N,P,Q,R,U,V,W,X,Y,Z,a0,a1,a2,a3,a4]) S =
  (zI (jf Try.prog false 46 x2 S) (fun v1 S1=>zI ((zW Try.prog O) 21 [(Value.int IntKind.i64 2),(dem v1)] S1) (fun v2 S2=>zI ((zW Try.prog O) 10 [(dem (dem b)),(dem v2)] S2) (fun v3 S3=>some ([x0,b,x2,x3,v3,x5,x6,x7,x8,x9,c,d,f,dem b,v1,v2,dem v3,m,n,o,p,q,r,s,t,u,w,x,y,z,A,B,C,D,E,F,G,H,I,J,K,L,M,N,P,Q,R,U,V,W,X,Y,Z,a0,a1,a2,a3,a4],S3)) ()) ()) ()):=by
 kernel_rfl
theorem zY.r6 :jw Try.prog ⟨false,false,false⟩ (zW Try.prog O) (reg Try.f9 6) (reg Try.f9 6).toList ([x0,b,x2,x3,x4,x5,x6,x7,x8,x9,c,d,f,g,i,k,l,m,n,o,p,q,r,s,t,u,w,x,y,z,A,B,C,D,E,F,G,H,I,J,K,L,M,N,P,Q,R,U,V,W,X,Y,Z,a0,a1,a2,a3,a4]) S =
  (zI (jf Try.prog false 46 x2 S) (fun v1 S1=>zI ((zW Try.prog O) 21 [(Value.int IntKind.i64 1),(dem v1)] S1) (fun v2 S2=>zI ((zW Try.prog O) 12 [(dem (dem b)),(dem v2)] S2) (fun v3 S3=>some ([x0,b,x2,x3,x4,x5,x6,x7,x8,x9,c,d,f,g,i,k,l,dem b,v1,v2,v3,q,r,s,t,u,w,x,y,z,A,B,C,D,E,F,G,H,I,J,K,L,M,N,P,Q,R,U,V,W,X,Y,Z,a0,a1,a2,a3,a4],S3)) ()) ()) ()):=by
 kernel_rfl
theorem zY.r7 :jw Try.prog ⟨false,false,false⟩ (zW Try.prog O) (reg Try.f9 7) (reg Try.f9 7).toList ([x0,b,x2,x3,x4,x5,x6,x7,x8,x9,c,d,f,g,i,k,l,m,n,o,p,q,r,s,t,u,w,x,y,z,A,B,C,D,E,F,G,H,I,J,K,L,M,N,P,Q,R,U,V,W,X,Y,Z,a0,a1,a2,a3,a4]) S =
  (zI (aUn Try.prog UnOp.not (dem x4) S) (fun v1 S1=>gdK (dem v1) true (ret b) S1 (fun v3 S2=>gdK (dem v1) true (jf Try.prog false 46 x2) S2 (fun v4 S3=>gdK (dem v1) true ((zW Try.prog O) 21 [(Value.int IntKind.i64 2),(dem v4)]) S3 (fun v5 S4=>gdK (dem v1) true ((zW Try.prog O) 10 [(dem (dem v3)),(dem v5)]) S4 (fun v6 S5=>zI (wR (dem v1) v6 (Value.bool false) S5) (fun v7 S6=>gdK (dem v7) true (ret b) S6 (fun v9 S7=>gdK (dem v7) true (jf Try.prog false 46 x3) S7 (fun b0 S8=>gdK (dem v7) true ((zW Try.prog O) 21 [(Value.int IntKind.i64 2),(dem b0)]) S8 (fun b1 S9=>gdK (dem v7) true ((zW Try.prog O) 10 [(dem (dem v9)),(dem b1)]) S9 (fun b2 c8=>gdK (dem v7) true (aUn Try.prog UnOp.not b2) c8 (fun b3 c9=>zI (wR (dem v7) b3 (Value.bool false) c9) (fun a5 d0=>gdK (dem a5) true (ret b) d0 (fun b4 d1=>gdK (dem a5) true (jf Try.prog false 46 x2) d1 (fun b5 d2=>gdK (dem a5) true ((zW Try.prog O) 21 [(Value.int IntKind.i64 3),(dem b5)]) d2 (fun b6 d3=>gdK (dem a5) true ((zW Try.prog O) 10 [(dem (dem b4)),(dem b6)]) d3 (fun b7 d4=>gdK (dem a5) true (aUn Try.prog UnOp.not b7) d4 (fun b8 d5=>zI (wR (dem a5) b8 (Value.bool false) d5) (fun a6 d6=>gdK (dem a6) true (ret b) d6 (fun b9 d7=>gdK (dem a6) true (jf Try.prog false 46 x2) d7 (fun c0 d8=>gdK (dem a6) true ((zW Try.prog O) 21 [(Value.int IntKind.i64 1),(dem c0)]) d8 (fun c1 d9=>gdK (dem a6) true ((zW Try.prog O) 10 [(dem (dem b9)),(dem c1)]) d9 (fun c2 f0=>zI (wR (dem a6) c2 (Value.bool false) f0) (fun a8 f1=>gdK (dem a8) true (ret b) f1 (fun c3 f2=>gdK (dem a8) true ((zW Try.prog O) 11 [(dem (dem c3)),(Value.int IntKind.i64 2)]) f2 (fun c4 f3=>zI (wR (dem a8) c4 (Value.bool false) f3) (fun a7 f4=>gdK (dem a7) true (ret b) f4 (fun c5 f5=>gdK (dem a7) true ((zW Try.prog O) 11 [(dem (dem c5)),(Value.int IntKind.i64 1)]) f5 (fun c6 f6=>gdK (dem a7) true (aUn Try.prog UnOp.not c6) f6 (fun c7 f7=>zI (wR (dem a7) c7 (Value.bool false) f7) (fun a9 f8=>some ([a9,b,x2,x3,x4,x5,x6,x7,x8,x9,c,d,f,g,i,k,l,m,n,o,p,dem x4,v1,dem v1,dem v3,v4,v5,v6,v7,dem v7,dem v9,b0,b1,b2,b3,a5,dem a5,dem b4,b5,b6,b7,b8,a6,dem a6,dem b9,c0,c1,c2,a8,dem a8,dem c3,c4,a7,dem a7,dem c5,c6,c7,dem a9],f8)) ()) ()) ()) ()) ()) ()) ()) ()) ()) ()) ()) ()) ()) ()) ()) ()) ()) ()) ()) ()) ()) ()) ()) ()) ()) ()) ()) ()) ()) ()):=by
 refine sP Try.f9 7 0 (v:=x4) ?_
 refine sD Try.f9 7 1 (fun v1 S1=>?_)
 refine sP Try.f9 7 2 (v:=v1) ?_
 refine sG Try.f9 7 3 (j:=2) (fun v3 S2=>?_)
 refine sG Try.f9 7 4 (j:=2) (fun v4 S3=>?_)
 refine sG Try.f9 7 5 (j:=2) (fun v5 S4=>?_)
 refine sG Try.f9 7 6 (j:=2) (fun v6 S5=>?_)
 refine sD Try.f9 7 7 (fun v7 S6=>?_)
 refine sP Try.f9 7 8 (v:=v7) ?_
 refine sG Try.f9 7 9 (j:=8) (fun v9 S7=>?_)
 refine sG Try.f9 7 10 (j:=8) (fun b0 S8=>?_)
 refine sG Try.f9 7 11 (j:=8) (fun b1 S9=>?_)
 refine sG Try.f9 7 12 (j:=8) (fun b2 c8=>?_)
 refine sG Try.f9 7 13 (j:=8) (fun b3 c9=>?_)
 refine sD Try.f9 7 14 (fun a5 d0=>?_)
 refine sP Try.f9 7 15 (v:=a5) ?_
 refine sG Try.f9 7 16 (j:=15) (fun b4 d1=>?_)
 refine sG Try.f9 7 17 (j:=15) (fun b5 d2=>?_)
 refine sG Try.f9 7 18 (j:=15) (fun b6 d3=>?_)
 refine sG Try.f9 7 19 (j:=15) (fun b7 d4=>?_)
 refine sG Try.f9 7 20 (j:=15) (fun b8 d5=>?_)
 refine sD Try.f9 7 21 (fun a6 d6=>?_)
 refine sP Try.f9 7 22 (v:=a6) ?_
 refine sG Try.f9 7 23 (j:=22) (fun b9 d7=>?_)
 refine sG Try.f9 7 24 (j:=22) (fun c0 d8=>?_)
 refine sG Try.f9 7 25 (j:=22) (fun c1 d9=>?_)
 refine sG Try.f9 7 26 (j:=22) (fun c2 f0=>?_)
 refine sD Try.f9 7 27 (fun a8 f1=>?_)
 refine sP Try.f9 7 28 (v:=a8) ?_
 refine sG Try.f9 7 29 (j:=28) (fun c3 f2=>?_)
 refine sG Try.f9 7 30 (j:=28) (fun c4 f3=>?_)
 refine sD Try.f9 7 31 (fun a7 f4=>?_)
 refine sP Try.f9 7 32 (v:=a7) ?_
 refine sG Try.f9 7 33 (j:=32) (fun c5 f5=>?_)
 refine sG Try.f9 7 34 (j:=32) (fun c6 f6=>?_)
 refine sG Try.f9 7 35 (j:=32) (fun c7 f7=>?_)
 refine sD Try.f9 7 36 (fun a9 f8=>?_)
 refine sP Try.f9 7 37 (v:=a9) ?_
 kernel_rfl
theorem zY.rs:type_of% (ak5 @zY.r0 (ak5 @zY.r1 (ak5 @zY.r2 (ak5 @zY.r3 (ak5 @zY.r4 (ak5 @zY.r5 (ak5 @zY.r6 (@zY.r7)))))))):=ak5 @zY.r0 (ak5 @zY.r1 (ak5 @zY.r2 (ak5 @zY.r3 (ak5 @zY.r4 (ak5 @zY.r5 (ak5 @zY.r6 (@zY.r7)))))))
theorem zY.runs {S S1:zn} {e:AEx} {T:List Value} (h:zG Try.prog O false zY.code ([zh,zh,zh,zh,zh,zh,zh,zh,zh,zh,zh,zh,zh,zh,zh,zh,zh,zh,zh,zh,zh,zh,zh,zh,zh,zh,zh,zh,zh,zh,zh,zh,zh,zh,zh,zh,zh,zh,zh,zh,zh,zh,zh,zh,zh,zh,zh,zh,zh,zh,zh,zh,zh,zh,zh,zh,zh,zh]) zn.empty=some (e,T,S1)) (he:e=.normal∨e=.ret) (hca:[].all (jP 16)=true) (hcv:jP 16 (T.getD 0 zh)=true):zW Try.prog O 9 [] S=some (T.getD 0 zh,S) :=
 yu rfl rfl Try.func9 (by decide) zY.body (by exact h) he (yA (a:=T.getD 0 zh) ((show zK Try.prog T S1 Try.f9.results.toList=zK Try.prog T S1 [(ResultVar.tmp 0)] from by kernel_rfl).trans (by simp only [zK])) (by kernel_rfl)) hca hcv
end Go.Proofs.Ytfjogganfjkckaa
namespace Go.Proofs.Ytfjogganfjkckaa
open Go.Abs
abbrev ji.id:FuncId:=12
noncomputable def ji.code:Code:=(Code.seq (Code.region 0 (reg Try.f12 0) true) (Code.seq (Code.region 1 (reg Try.f12 1) false) (Code.seq (Code.seq (Code.region 2 (reg Try.f12 2) false) (Code.cond (Operand.tmp 26) Code.ret Code.skip)) (Code.seq (Code.region 3 (reg Try.f12 3) false) (Code.seq (Code.region 4 (reg Try.f12 4) false) (Code.seq (Code.region 5 (reg Try.f12 5) false) (Code.cond (Operand.tmp 40) (Code.region 6 (reg Try.f12 6) true) Code.skip)))))))
theorem ji.body:Try.f12.body=some ji.code:=by kernel_rfl
variable (b c x2 x3 x4 x5 Y x7 x8 x9 d f g i k l m n o p q r s t u w x y z A B C D E F G H I J K L M N P Q R U V W:Value) (S:zn)
theorem ji.d0:qW Try.prog (reg Try.f12 0)=true:=by kernel_rfl
theorem ji.ff0:fixed Try.prog (reg Try.f12 0)=false:=by kernel_rfl
theorem ji.k0:checked Try.prog (reg Try.f12 0)=[]:=by kernel_rfl
theorem ji.g0:again Try.prog (reg Try.f12 0)=[]:=by kernel_rfl
theorem ji.r0 :zG Try.prog O false (.region 0 (reg Try.f12 0) true) ([b,c,x2,x3,x4,x5,Y,x7,x8,x9,d,f,g,i,k,l,m,n,o,p,q,r,s,t,u,w,x,y,z,A,B,C,D,E,F,G,H,I,J,K,L,M,N,P,Q,R,U,V,W]) S =
  Jb (zI (kN (dem b) S) (fun a Z=>zI (zA Try.prog 62 a 1 Z) (fun v2 S2=>zI (jf Try.prog false 59 v2 S2) (fun v3 S3=>zI (qA Try.prog false false 33 9 (dem c) S3) (fun X S4=>zI (y9 Try.prog 59 v3 X (Value.bool true) S4) (fun v6 S5=>some ([b,c,x2,x3,x4,x5,Y,x7,x8,dem b,a,v2,v3,dem c,X,l,m,n,o,p,q,r,s,t,u,w,x,y,z,A,B,C,D,E,F,G,H,I,J,K,L,M,N,P,Q,R,U,V,W],S5)) ()) ()) ()) ()) ()):=by
 rw [yF ji.d0 ji.ff0 ji.k0 ji.g0]
 refine congrArg Jb ?_
 refine tP Try.f12 0 0 (v:=b) ?_
 refine tD Try.f12 0 1 (fun a Z=>?_)
 refine tD Try.f12 0 2 (fun v2 S2=>?_)
 refine tD Try.f12 0 3 (fun v3 S3=>?_)
 refine tP Try.f12 0 4 (v:=c) ?_
 refine tD Try.f12 0 5 (fun X S4=>?_)
 refine tD Try.f12 0 6 (fun v6 S5=>?_)
 kernel_rfl
theorem ji.r1 :jw Try.prog ⟨false,false,false⟩ (zW Try.prog O) (reg Try.f12 1) (reg Try.f12 1).toList ([b,c,x2,x3,x4,x5,Y,x7,x8,x9,d,f,g,i,k,l,m,n,o,p,q,r,s,t,u,w,x,y,z,A,B,C,D,E,F,G,H,I,J,K,L,M,N,P,Q,R,U,V,W]) S =
  (zI ((zW Try.prog O) 22 [(dem (dem c))] S) (fun a Z=>zI (zU a 0 Z) (fun v3 S2=>zI (zU (zO 0 a) 1 S2) (fun v4 S3=>zI (yG Try.prog 48 S3) (fun X S4=>zI (wM Try.prog 48 X (dem v3) S4) (fun v6 S5=>some ([b,c,x2,x3,X,v4,Y,x7,x8,x9,d,f,g,i,k,zO 1 (zO 0 a),dem c,dem a,v3,dem v4,q,r,s,t,u,w,x,y,z,A,B,C,D,E,F,G,H,I,J,K,L,M,N,P,Q,R,U,V,W],S5)) ()) ()) ()) ()) ()):=by
 kernel_rfl
theorem ji.r2 :jw Try.prog ⟨false,false,false⟩ (zW Try.prog O) (reg Try.f12 2) (reg Try.f12 2).toList ([b,c,x2,x3,x4,x5,Y,x7,x8,x9,d,f,g,i,k,l,m,n,o,p,q,r,s,t,u,w,x,y,z,A,B,C,D,E,F,G,H,I,J,K,L,M,N,P,Q,R,U,V,W]) S =
  (zI (wB Try.prog BinOp.neq 64 (dem x5) (Value.int IntKind.i64 0) S) (fun a Z=>gdK (dem a) false (zA Try.prog 48 x4 0) Z (fun v3 S2=>gdK (dem a) false (jf Try.prog false 3 v3) S2 (fun v4 S3=>gdK (dem a) false (wB Try.prog BinOp.neq 3 v4 (Value.int IntKind.i64 1)) S3 (fun X S4=>zI (wR (dem a) (Value.bool true) X S4) (fun v6 S5=>some ([b,c,x2,x3,x4,x5,Y,x7,x8,x9,d,f,g,i,k,l,m,n,o,p,dem x5,a,dem a,v3,v4,X,v6,y,z,A,B,C,D,E,F,G,H,I,J,K,L,M,N,P,Q,R,U,V,W],S5)) ()) ()) ()) ()) ()):=by
 refine sP Try.f12 2 0 (v:=x5) ?_
 refine sD Try.f12 2 1 (fun a Z=>?_)
 refine sP Try.f12 2 2 (v:=a) ?_
 refine sG Try.f12 2 3 (j:=2) (fun v3 S2=>?_)
 refine sG Try.f12 2 4 (j:=2) (fun v4 S3=>?_)
 refine sG Try.f12 2 5 (j:=2) (fun X S4=>?_)
 refine sD Try.f12 2 6 (fun v6 S5=>?_)
 kernel_rfl
theorem ji.r3 :jw Try.prog ⟨false,false,false⟩ (zW Try.prog O) (reg Try.f12 3) (reg Try.f12 3).toList ([b,c,x2,x3,x4,x5,Y,x7,x8,x9,d,f,g,i,k,l,m,n,o,p,q,r,s,t,u,w,x,y,z,A,B,C,D,E,F,G,H,I,J,K,L,M,N,P,Q,R,U,V,W]) S =
  (zI (zA Try.prog 48 x4 7 S) (fun v0 Z=>zI (jf Try.prog false 46 v0 Z) (fun a S2=>zI ((zW Try.prog O) 23 [(dem a)] S2) (fun v2 S3=>some ([b,c,x2,x3,x4,x5,v2,x7,x8,x9,d,f,g,i,k,l,m,n,o,p,q,r,s,t,u,w,x,v0,a,dem v2,B,C,D,E,F,G,H,I,J,K,L,M,N,P,Q,R,U,V,W],S3)) ()) ()) ()):=by
 kernel_rfl
theorem ji.r4 :jw Try.prog ⟨false,false,false⟩ (zW Try.prog O) (reg Try.f12 4) (reg Try.f12 4).toList ([b,c,x2,x3,x4,x5,Y,x7,x8,x9,d,f,g,i,k,l,m,n,o,p,q,r,s,t,u,w,x,y,z,A,B,C,D,E,F,G,H,I,J,K,L,M,N,P,Q,R,U,V,W]) S =
  (zI (kN (dem b) S) (fun a Z=>zI (zA Try.prog 62 a 2 Z) (fun v2 S2=>zI (jf Try.prog false 60 v2 S2) (fun v3 S3=>zI (vI Try.prog false 60 v3 (dem Y) true S3) (fun X S4=>zI (zU X 0 S4) (fun v7 S5=>zI (zU (zO 0 X) 1 S5) (fun v8 S6=>some ([b,c,x2,x3,x4,x5,Y,v7,v8,x9,d,f,g,i,k,l,m,n,o,p,q,r,s,t,u,w,x,y,z,A,zO 1 (zO 0 X),dem b,a,v2,v3,dem Y,dem X,dem v7,dem v8,K,L,M,N,P,Q,R,U,V,W],S6)) ()) ()) ()) ()) ()) ()):=by
 kernel_rfl
theorem ji.r5 :jw Try.prog ⟨false,false,false⟩ (zW Try.prog O) (reg Try.f12 5) (reg Try.f12 5).toList ([b,c,x2,x3,x4,x5,Y,x7,x8,x9,d,f,g,i,k,l,m,n,o,p,q,r,s,t,u,w,x,y,z,A,B,C,D,E,F,G,H,I,J,K,L,M,N,P,Q,R,U,V,W]) S =
  (zI (aUn Try.prog UnOp.not (dem x8) S) (fun a Z=>some ([b,c,x2,x3,x4,x5,Y,x7,x8,x9,d,f,g,i,k,l,m,n,o,p,q,r,s,t,u,w,x,y,z,A,B,C,D,E,F,G,H,I,J,dem x8,a,M,N,P,Q,R,U,V,W],Z)) ()):=by
 kernel_rfl
theorem ji.d6:qW Try.prog (reg Try.f12 6)=true:=by kernel_rfl
theorem ji.ff6:fixed Try.prog (reg Try.f12 6)=false:=by kernel_rfl
theorem ji.k6:checked Try.prog (reg Try.f12 6)=[0,1,2,3,4]:=by kernel_rfl
theorem ji.g6:again Try.prog (reg Try.f12 6)=[(3,7)]:=by kernel_rfl
theorem ji.r6 :zG Try.prog O false (.region 6 (reg Try.f12 6) true) ([b,c,x2,x3,x4,x5,Y,x7,x8,x9,d,f,g,i,k,l,m,n,o,p,q,r,s,t,u,w,x,y,z,A,B,C,D,E,F,G,H,I,J,K,L,M,N,P,Q,R,U,V,W]) S =
  Jb (okK b ( zI (kN (dem b) S) (fun a Z=>okK a ( zI (zA Try.prog 62 a 2 Z) (fun v2 S2=>okK v2 ( zI (jf Try.prog false 60 v2 S2) (fun v3 S3=>okK v3 ( okK Y ( zI (zA Try.prog 48 x4 7 S3) (fun X S4=>zI (jf Try.prog false 46 X S4) (fun v6 S5=>zI ((zW Try.prog O) 24 [(dem v6)] S5) (fun v7 S6=>zI (y9 Try.prog 60 v3 (dem Y) (dem v7) S6) (fun v8 S7=>ckK (qK v2 S2 S6 && (true)) (some ([b,c,x2,x3,x4,x5,Y,x7,x8,x9,d,f,g,i,k,l,m,n,o,p,q,r,s,t,u,w,x,y,z,A,B,C,D,E,F,G,H,I,J,K,L,dem b,a,v2,v3,dem Y,X,v6,v7],S7)) ()) ()) ()) ()) ()) ()) ()) ()) ()) ()) ()) ()) ()):=by
 rw [yF ji.d6 ji.ff6 ji.k6 ji.g6]
 refine congrArg Jb ?_
 refine uPC Try.f12 6 0 (v:=b) (pe:=zh) ?_
 refine uDC Try.f12 6 1 (pe:=zh) (fun a Z=>?_)
 refine uDC Try.f12 6 2 (pe:=zh) (fun v2 S2=>?_)
 refine uDC Try.f12 6 3 (pe:=v2) (fun v3 S3=>?_)
 refine uPC Try.f12 6 4 (v:=Y) (pe:=zh) ?_
 refine uD Try.f12 6 5 (pe:=zh) (fun X S4=>?_)
 refine uD Try.f12 6 6 (pe:=X) (fun v6 S5=>?_)
 refine uD Try.f12 6 7 (pe:=zh) (fun v7 S6=>?_)
 refine uD Try.f12 6 8 (pe:=zh) (fun v8 S7=>?_)
 kernel_rfl
theorem ji.rs:type_of% (ak5 @ji.r0 (ak5 @ji.r1 (ak5 @ji.r2 (ak5 @ji.r3 (ak5 @ji.r4 (ak5 @ji.r5 (@ji.r6))))))):=ak5 @ji.r0 (ak5 @ji.r1 (ak5 @ji.r2 (ak5 @ji.r3 (ak5 @ji.r4 (ak5 @ji.r5 (@ji.r6))))))
theorem ji.runs {b c:Value} {S Z:zn} {e:AEx} {T:List Value} (h:zG Try.prog O false ji.code ([b,c,zh,zh,zh,zh,zh,zh,zh,zh,zh,zh,zh,zh,zh,zh,zh,zh,zh,zh,zh,zh,zh,zh,zh,zh,zh,zh,zh,zh,zh,zh,zh,zh,zh,zh,zh,zh,zh,zh,zh,zh,zh,zh,zh,zh,zh,zh,zh]) S=some (e,T,Z)) (he:e=.normal∨e=.ret):zW Try.prog O 12 [b,c] S=some (Value.tuple #[],Z) :=
 yD rfl rfl Try.func12 (by decide) ji.body (by exact h) he rfl
end Go.Proofs.Ytfjogganfjkckaa
namespace Go.Proofs.Ytfjogganfjkckaa
open Go.Abs
abbrev zH.id:FuncId:=10
noncomputable def zH.code:Code:=(Code.seq (Code.region 0 (reg Try.f10 0) false) (Code.seq (Code.region 1 (reg Try.f10 1) false) (Code.seq (Code.block 0 (Code.seq (Code.region 2 (reg Try.f10 2) false) (Code.cond (Operand.tmp 15) (Code.seq (Code.region 3 (reg Try.f10 3) false) Code.ret) (Code.seq (Code.region 4 (reg Try.f10 4) true) (Code.cond (Operand.tmp 18) (Code.seq (Code.region 5 (reg Try.f10 5) false) Code.ret) (Code.seq (Code.region 6 (reg Try.f10 6) false) (Code.cond (Operand.tmp 26) (Code.seq (Code.region 7 (reg Try.f10 7) false) Code.ret) (Code.seq (Code.region 8 (reg Try.f10 8) false) (Code.cond (Operand.tmp 32) (Code.seq (Code.region 9 (reg Try.f10 9) false) Code.ret) Code.skip))))))))) (Code.seq (Code.region 10 (reg Try.f10 10) false) (Code.seq (Code.region 11 (reg Try.f10 11) false) (Code.seq (Code.seq (Code.region 12 (reg Try.f10 12) false) (Code.cond (Operand.tmp 48) (Code.seq (Code.region 13 (reg Try.f10 13) false) Code.ret) Code.skip)) (Code.seq (Code.seq (Code.region 14 (reg Try.f10 14) false) (Code.cond (Operand.tmp 59) (Code.seq (Code.region 15 (reg Try.f10 15) false) Code.ret) Code.skip)) (Code.seq (Code.region 16 (reg Try.f10 16) true) (Code.seq (Code.region 17 (reg Try.f10 17) false) Code.ret)))))))))
theorem zH.body:Try.f10.body=some zH.code:=by kernel_rfl
variable (x0 x1 x2 x3 x4 x5 x6 x7 x8 x9 b c d f g i j k l m n o p q r s t u w x y z A B C D E F G H I J K L M N P Q R U V W X Y Z a0 a1 a2 a3 a4 a5 a6 a7 a8 a9 b0 b1 b2:Value) (S:zn)
theorem zH.r0 :jw Try.prog ⟨false,false,false⟩ (zW Try.prog O) (reg Try.f10 0) (reg Try.f10 0).toList ([x0,x1,x2,x3,x4,x5,x6,x7,x8,x9,b,c,d,f,g,i,j,k,l,m,n,o,p,q,r,s,t,u,w,x,y,z,A,B,C,D,E,F,G,H,I,J,K,L,M,N,P,Q,R,U,V,W,X,Y,Z,a0,a1,a2,a3,a4,a5,a6,a7,a8,a9,b0,b1,b2]) S =
  ( some ([x0,x1,x2,x3,Value.bool false,x5,x6,x7,x8,x9,b,c,d,f,g,i,j,k,l,m,n,o,p,q,r,s,t,u,w,x,y,z,A,B,C,D,E,F,G,H,I,J,K,L,M,N,P,Q,R,U,V,W,X,Y,Z,a0,a1,a2,a3,a4,a5,a6,a7,a8,a9,b0,b1,b2],S)):=by
 kernel_rfl
theorem zH.r1 :jw Try.prog ⟨false,false,false⟩ (zW Try.prog O) (reg Try.f10 1) (reg Try.f10 1).toList ([x0,x1,x2,x3,x4,x5,x6,x7,x8,x9,b,c,d,f,g,i,j,k,l,m,n,o,p,q,r,s,t,u,w,x,y,z,A,B,C,D,E,F,G,H,I,J,K,L,M,N,P,Q,R,U,V,W,X,Y,Z,a0,a1,a2,a3,a4,a5,a6,a7,a8,a9,b0,b1,b2]) S =
  (zI ((zW Try.prog O) 22 [(dem (dem x1))] S) (fun v1 S1=>zI (zU v1 0 S1) (fun v3 S2=>zI (zU (zO 0 v1) 1 S2) (fun v4 S3=>zI (yG Try.prog 48 S3) (fun v5 S4=>zI (wM Try.prog 48 v5 (dem v3) S4) (fun v6 S5=>some ([x0,x1,x2,x3,x4,v5,v4,x7,x8,x9,zO 1 (zO 0 v1),dem x1,dem v1,v3,dem v4,i,j,k,l,m,n,o,p,q,r,s,t,u,w,x,y,z,A,B,C,D,E,F,G,H,I,J,K,L,M,N,P,Q,R,U,V,W,X,Y,Z,a0,a1,a2,a3,a4,a5,a6,a7,a8,a9,b0,b1,b2],S5)) ()) ()) ()) ()) ()):=by
 kernel_rfl
theorem zH.r2 :jw Try.prog ⟨false,false,false⟩ (zW Try.prog O) (reg Try.f10 2) (reg Try.f10 2).toList ([x0,x1,x2,x3,x4,x5,x6,x7,x8,x9,b,c,d,f,g,i,j,k,l,m,n,o,p,q,r,s,t,u,w,x,y,z,A,B,C,D,E,F,G,H,I,J,K,L,M,N,P,Q,R,U,V,W,X,Y,Z,a0,a1,a2,a3,a4,a5,a6,a7,a8,a9,b0,b1,b2]) S =
  (zI (wB Try.prog BinOp.neq 64 (dem x6) (Value.int IntKind.i64 0) S) (fun v1 S1=>some ([x0,x1,x2,x3,x4,x5,x6,x7,x8,x9,b,c,d,f,g,v1,dem x6,dem v1,l,m,n,o,p,q,r,s,t,u,w,x,y,z,A,B,C,D,E,F,G,H,I,J,K,L,M,N,P,Q,R,U,V,W,X,Y,Z,a0,a1,a2,a3,a4,a5,a6,a7,a8,a9,b0,b1,b2],S1)) ()):=by
 kernel_rfl
theorem zH.r3 :jw Try.prog ⟨false,false,false⟩ (zW Try.prog O) (reg Try.f10 3) (reg Try.f10 3).toList ([x0,x1,x2,x3,x4,x5,x6,x7,x8,x9,b,c,d,f,g,i,j,k,l,m,n,o,p,q,r,s,t,u,w,x,y,z,A,B,C,D,E,F,G,H,I,J,K,L,M,N,P,Q,R,U,V,W,X,Y,Z,a0,a1,a2,a3,a4,a5,a6,a7,a8,a9,b0,b1,b2]) S =
  ( some ([x0,x1,x2,x3,Value.bool false,x5,x6,x7,x8,x9,b,c,d,f,g,i,j,k,l,m,n,o,p,q,r,s,t,u,w,x,y,z,A,B,C,D,E,F,G,H,I,J,K,L,M,N,P,Q,R,U,V,W,X,Y,Z,a0,a1,a2,a3,a4,a5,a6,a7,a8,a9,b0,b1,b2],S)):=by
 kernel_rfl
theorem zH.d4:qW Try.prog (reg Try.f10 4)=true:=by kernel_rfl
theorem zH.ff4:fixed Try.prog (reg Try.f10 4)=false:=by kernel_rfl
theorem zH.k4:checked Try.prog (reg Try.f10 4)=[]:=by kernel_rfl
theorem zH.g4:again Try.prog (reg Try.f10 4)=[]:=by kernel_rfl
theorem zH.r4 :zG Try.prog O false (.region 4 (reg Try.f10 4) true) ([x0,x1,x2,x3,x4,x5,x6,x7,x8,x9,b,c,d,f,g,i,j,k,l,m,n,o,p,q,r,s,t,u,w,x,y,z,A,B,C,D,E,F,G,H,I,J,K,L,M,N,P,Q,R,U,V,W,X,Y,Z,a0,a1,a2,a3,a4,a5,a6,a7,a8,a9,b0,b1,b2]) S =
  Jb (zI (kN (dem x0) S) (fun v1 S1=>zI (zA Try.prog 62 v1 1 S1) (fun v2 S2=>zI (jf Try.prog false 59 v2 S2) (fun v3 S3=>zI (qA Try.prog false false 33 9 (dem x1) S3) (fun v5 S4=>zI (vI Try.prog false 59 v3 v5 false S4) (fun v6 S5=>some ([x0,x1,x2,x3,x4,x5,x6,x7,x8,x9,b,c,d,f,g,i,j,k,v6,dem x0,v1,v2,v3,dem x1,v5,dem v6,t,u,w,x,y,z,A,B,C,D,E,F,G,H,I,J,K,L,M,N,P,Q,R,U,V,W,X,Y,Z,a0,a1,a2,a3,a4,a5,a6,a7,a8,a9,b0,b1,b2],S5)) ()) ()) ()) ()) ()):=by
 rw [yF zH.d4 zH.ff4 zH.k4 zH.g4]
 refine congrArg Jb ?_
 refine tP Try.f10 4 0 (v:=x0) ?_
 refine tD Try.f10 4 1 (fun v1 S1=>?_)
 refine tD Try.f10 4 2 (fun v2 S2=>?_)
 refine tD Try.f10 4 3 (fun v3 S3=>?_)
 refine tP Try.f10 4 4 (v:=x1) ?_
 refine tD Try.f10 4 5 (fun v5 S4=>?_)
 refine tD Try.f10 4 6 (fun v6 S5=>?_)
 refine tP Try.f10 4 7 (v:=v6) ?_
 kernel_rfl
theorem zH.r5 :jw Try.prog ⟨false,false,false⟩ (zW Try.prog O) (reg Try.f10 5) (reg Try.f10 5).toList ([x0,x1,x2,x3,x4,x5,x6,x7,x8,x9,b,c,d,f,g,i,j,k,l,m,n,o,p,q,r,s,t,u,w,x,y,z,A,B,C,D,E,F,G,H,I,J,K,L,M,N,P,Q,R,U,V,W,X,Y,Z,a0,a1,a2,a3,a4,a5,a6,a7,a8,a9,b0,b1,b2]) S =
  ( some ([x0,x1,x2,x3,Value.bool true,x5,x6,x7,x8,x9,b,c,d,f,g,i,j,k,l,m,n,o,p,q,r,s,t,u,w,x,y,z,A,B,C,D,E,F,G,H,I,J,K,L,M,N,P,Q,R,U,V,W,X,Y,Z,a0,a1,a2,a3,a4,a5,a6,a7,a8,a9,b0,b1,b2],S)):=by
 kernel_rfl
theorem zH.r6 :jw Try.prog ⟨false,false,false⟩ (zW Try.prog O) (reg Try.f10 6) (reg Try.f10 6).toList ([x0,x1,x2,x3,x4,x5,x6,x7,x8,x9,b,c,d,f,g,i,j,k,l,m,n,o,p,q,r,s,t,u,w,x,y,z,A,B,C,D,E,F,G,H,I,J,K,L,M,N,P,Q,R,U,V,W,X,Y,Z,a0,a1,a2,a3,a4,a5,a6,a7,a8,a9,b0,b1,b2]) S =
  (zI (zA Try.prog 48 x5 1 S) (fun v1 S1=>zI (jf Try.prog false 3 v1 S1) (fun v2 S2=>zI ((zW Try.prog O) 11 [(dem (dem x0)),(dem v2)] S2) (fun v3 S3=>zI (aUn Try.prog UnOp.not v3 S3) (fun v4 S4=>some ([x0,x1,x2,x3,x4,x5,x6,x7,x8,x9,b,c,d,f,g,i,j,k,l,m,n,o,p,q,r,s,v4,dem x0,v1,v2,v3,dem v4,A,B,C,D,E,F,G,H,I,J,K,L,M,N,P,Q,R,U,V,W,X,Y,Z,a0,a1,a2,a3,a4,a5,a6,a7,a8,a9,b0,b1,b2],S4)) ()) ()) ()) ()):=by
 kernel_rfl
theorem zH.r7 :jw Try.prog ⟨false,false,false⟩ (zW Try.prog O) (reg Try.f10 7) (reg Try.f10 7).toList ([x0,x1,x2,x3,x4,x5,x6,x7,x8,x9,b,c,d,f,g,i,j,k,l,m,n,o,p,q,r,s,t,u,w,x,y,z,A,B,C,D,E,F,G,H,I,J,K,L,M,N,P,Q,R,U,V,W,X,Y,Z,a0,a1,a2,a3,a4,a5,a6,a7,a8,a9,b0,b1,b2]) S =
  ( some ([x0,x1,x2,x3,Value.bool false,x5,x6,x7,x8,x9,b,c,d,f,g,i,j,k,l,m,n,o,p,q,r,s,t,u,w,x,y,z,A,B,C,D,E,F,G,H,I,J,K,L,M,N,P,Q,R,U,V,W,X,Y,Z,a0,a1,a2,a3,a4,a5,a6,a7,a8,a9,b0,b1,b2],S)):=by
 kernel_rfl
theorem zH.r8 :jw Try.prog ⟨false,false,false⟩ (zW Try.prog O) (reg Try.f10 8) (reg Try.f10 8).toList ([x0,x1,x2,x3,x4,x5,x6,x7,x8,x9,b,c,d,f,g,i,j,k,l,m,n,o,p,q,r,s,t,u,w,x,y,z,A,B,C,D,E,F,G,H,I,J,K,L,M,N,P,Q,R,U,V,W,X,Y,Z,a0,a1,a2,a3,a4,a5,a6,a7,a8,a9,b0,b1,b2]) S =
  (zI (zA Try.prog 48 x5 0 S) (fun v0 S1=>zI (jf Try.prog false 3 v0 S1) (fun v1 S2=>zI (wB Try.prog BinOp.neq 3 v1 (Value.int IntKind.i64 1) S2) (fun v2 S3=>some ([x0,x1,x2,x3,x4,x5,x6,x7,x8,x9,b,c,d,f,g,i,j,k,l,m,n,o,p,q,r,s,t,u,w,x,y,z,v2,v0,v1,dem v2,E,F,G,H,I,J,K,L,M,N,P,Q,R,U,V,W,X,Y,Z,a0,a1,a2,a3,a4,a5,a6,a7,a8,a9,b0,b1,b2],S3)) ()) ()) ()):=by
 kernel_rfl
theorem zH.r9 :jw Try.prog ⟨false,false,false⟩ (zW Try.prog O) (reg Try.f10 9) (reg Try.f10 9).toList ([x0,x1,x2,x3,x4,x5,x6,x7,x8,x9,b,c,d,f,g,i,j,k,l,m,n,o,p,q,r,s,t,u,w,x,y,z,A,B,C,D,E,F,G,H,I,J,K,L,M,N,P,Q,R,U,V,W,X,Y,Z,a0,a1,a2,a3,a4,a5,a6,a7,a8,a9,b0,b1,b2]) S =
  ( some ([x0,x1,x2,x3,Value.bool true,x5,x6,x7,x8,x9,b,c,d,f,g,i,j,k,l,m,n,o,p,q,r,s,t,u,w,x,y,z,A,B,C,D,E,F,G,H,I,J,K,L,M,N,P,Q,R,U,V,W,X,Y,Z,a0,a1,a2,a3,a4,a5,a6,a7,a8,a9,b0,b1,b2],S)):=by
 kernel_rfl
theorem zH.r10 :jw Try.prog ⟨false,false,false⟩ (zW Try.prog O) (reg Try.f10 10) (reg Try.f10 10).toList ([x0,x1,x2,x3,x4,x5,x6,x7,x8,x9,b,c,d,f,g,i,j,k,l,m,n,o,p,q,r,s,t,u,w,x,y,z,A,B,C,D,E,F,G,H,I,J,K,L,M,N,P,Q,R,U,V,W,X,Y,Z,a0,a1,a2,a3,a4,a5,a6,a7,a8,a9,b0,b1,b2]) S =
  (zI (zA Try.prog 48 x5 7 S) (fun v0 S1=>zI (jf Try.prog false 46 v0 S1) (fun v1 S2=>zI ((zW Try.prog O) 23 [(dem v1)] S2) (fun v2 S3=>some ([x0,x1,x2,x3,x4,x5,x6,v2,x8,x9,b,c,d,f,g,i,j,k,l,m,n,o,p,q,r,s,t,u,w,x,y,z,A,B,C,D,v0,v1,dem v2,H,I,J,K,L,M,N,P,Q,R,U,V,W,X,Y,Z,a0,a1,a2,a3,a4,a5,a6,a7,a8,a9,b0,b1,b2],S3)) ()) ()) ()):=by
 kernel_rfl
theorem zH.r11 :jw Try.prog ⟨false,false,false⟩ (zW Try.prog O) (reg Try.f10 11) (reg Try.f10 11).toList ([x0,x1,x2,x3,x4,x5,x6,x7,x8,x9,b,c,d,f,g,i,j,k,l,m,n,o,p,q,r,s,t,u,w,x,y,z,A,B,C,D,E,F,G,H,I,J,K,L,M,N,P,Q,R,U,V,W,X,Y,Z,a0,a1,a2,a3,a4,a5,a6,a7,a8,a9,b0,b1,b2]) S =
  (zI (kN (dem x0) S) (fun v1 S1=>zI (zA Try.prog 62 v1 2 S1) (fun v2 S2=>zI (jf Try.prog false 60 v2 S2) (fun v3 S3=>zI (vI Try.prog false 60 v3 (dem x7) true S3) (fun v5 S4=>zI (zU v5 0 S4) (fun v7 S5=>zI (zU (zO 0 v5) 1 S5) (fun v8 S6=>some ([x0,x1,x2,x3,x4,x5,x6,x7,v7,v8,b,c,d,f,g,i,j,k,l,m,n,o,p,q,r,s,t,u,w,x,y,z,A,B,C,D,E,F,G,zO 1 (zO 0 v5),dem x0,v1,v2,v3,dem x7,dem v5,dem v7,dem v8,R,U,V,W,X,Y,Z,a0,a1,a2,a3,a4,a5,a6,a7,a8,a9,b0,b1,b2],S6)) ()) ()) ()) ()) ()) ()):=by
 kernel_rfl
theorem zH.r12 :jw Try.prog ⟨false,false,false⟩ (zW Try.prog O) (reg Try.f10 12) (reg Try.f10 12).toList ([x0,x1,x2,x3,x4,x5,x6,x7,x8,x9,b,c,d,f,g,i,j,k,l,m,n,o,p,q,r,s,t,u,w,x,y,z,A,B,C,D,E,F,G,H,I,J,K,L,M,N,P,Q,R,U,V,W,X,Y,Z,a0,a1,a2,a3,a4,a5,a6,a7,a8,a9,b0,b1,b2]) S =
  ( some ([x0,x1,x2,x3,x4,x5,x6,x7,x8,x9,b,c,d,f,g,i,j,k,l,m,n,o,p,q,r,s,t,u,w,x,y,z,A,B,C,D,E,F,G,H,I,J,K,L,M,N,P,Q,dem x9,U,V,W,X,Y,Z,a0,a1,a2,a3,a4,a5,a6,a7,a8,a9,b0,b1,b2],S)):=by
 kernel_rfl
theorem zH.r13 :jw Try.prog ⟨false,false,false⟩ (zW Try.prog O) (reg Try.f10 13) (reg Try.f10 13).toList ([x0,x1,x2,x3,x4,x5,x6,x7,x8,x9,b,c,d,f,g,i,j,k,l,m,n,o,p,q,r,s,t,u,w,x,y,z,A,B,C,D,E,F,G,H,I,J,K,L,M,N,P,Q,R,U,V,W,X,Y,Z,a0,a1,a2,a3,a4,a5,a6,a7,a8,a9,b0,b1,b2]) S =
  (zI (zA Try.prog 48 x5 7 S) (fun v1 S1=>zI (jf Try.prog false 46 v1 S1) (fun v2 S2=>zI ((zW Try.prog O) 24 [(dem v2)] S2) (fun v3 S3=>zI (wB Try.prog BinOp.eql 9 (dem x8) v3 S3) (fun v4 S4=>some ([x0,x1,x2,x3,v4,x5,x6,x7,x8,x9,b,c,d,f,g,i,j,k,l,m,n,o,p,q,r,s,t,u,w,x,y,z,A,B,C,D,E,F,G,H,I,J,K,L,M,N,P,Q,R,dem x8,v1,v2,v3,dem v4,Z,a0,a1,a2,a3,a4,a5,a6,a7,a8,a9,b0,b1,b2],S4)) ()) ()) ()) ()):=by
 kernel_rfl
theorem zH.r14 :jw Try.prog ⟨false,false,false⟩ (zW Try.prog O) (reg Try.f10 14) (reg Try.f10 14).toList ([x0,x1,x2,x3,x4,x5,x6,x7,x8,x9,b,c,d,f,g,i,j,k,l,m,n,o,p,q,r,s,t,u,w,x,y,z,A,B,C,D,E,F,G,H,I,J,K,L,M,N,P,Q,R,U,V,W,X,Y,Z,a0,a1,a2,a3,a4,a5,a6,a7,a8,a9,b0,b1,b2]) S =
  (zI (zA Try.prog 48 x5 7 S) (fun v1 S1=>zI (zA Try.prog 46 v1 1 S1) (fun v2 S2=>zI (jf Try.prog false 3 v2 S2) (fun v3 S3=>zI ((zW Try.prog O) 11 [(dem (dem x0)),(dem v3)] S3) (fun v4 S4=>zI (aUn Try.prog UnOp.not v4 S4) (fun v5 S5=>some ([x0,x1,x2,x3,x4,x5,x6,x7,x8,x9,b,c,d,f,g,i,j,k,l,m,n,o,p,q,r,s,t,u,w,x,y,z,A,B,C,D,E,F,G,H,I,J,K,L,M,N,P,Q,R,U,V,W,X,Y,dem x0,v1,v2,v3,v4,v5,a5,a6,a7,a8,a9,b0,b1,b2],S5)) ()) ()) ()) ()) ()):=by
 kernel_rfl
theorem zH.r15 :jw Try.prog ⟨false,false,false⟩ (zW Try.prog O) (reg Try.f10 15) (reg Try.f10 15).toList ([x0,x1,x2,x3,x4,x5,x6,x7,x8,x9,b,c,d,f,g,i,j,k,l,m,n,o,p,q,r,s,t,u,w,x,y,z,A,B,C,D,E,F,G,H,I,J,K,L,M,N,P,Q,R,U,V,W,X,Y,Z,a0,a1,a2,a3,a4,a5,a6,a7,a8,a9,b0,b1,b2]) S =
  ( some ([x0,x1,x2,x3,Value.bool false,x5,x6,x7,x8,x9,b,c,d,f,g,i,j,k,l,m,n,o,p,q,r,s,t,u,w,x,y,z,A,B,C,D,E,F,G,H,I,J,K,L,M,N,P,Q,R,U,V,W,X,Y,Z,a0,a1,a2,a3,a4,a5,a6,a7,a8,a9,b0,b1,b2],S)):=by
 kernel_rfl
theorem zH.d16:qW Try.prog (reg Try.f10 16)=true:=by kernel_rfl
theorem zH.ak2:fixed Try.prog (reg Try.f10 16)=false:=by kernel_rfl
theorem zH.k16:checked Try.prog (reg Try.f10 16)=[0,1,2,3,4]:=by kernel_rfl
theorem zH.g16:again Try.prog (reg Try.f10 16)=[(3,7)]:=by kernel_rfl
theorem zH.r16 :zG Try.prog O false (.region 16 (reg Try.f10 16) true) ([x0,x1,x2,x3,x4,x5,x6,x7,x8,x9,b,c,d,f,g,i,j,k,l,m,n,o,p,q,r,s,t,u,w,x,y,z,A,B,C,D,E,F,G,H,I,J,K,L,M,N,P,Q,R,U,V,W,X,Y,Z,a0,a1,a2,a3,a4,a5,a6,a7,a8,a9,b0,b1,b2]) S =
  Jb (okK x0 ( zI (kN (dem x0) S) (fun v1 S1=>okK v1 ( zI (zA Try.prog 62 v1 2 S1) (fun v2 S2=>okK v2 ( zI (jf Try.prog false 60 v2 S2) (fun v3 S3=>okK v3 ( okK x7 ( zI (zA Try.prog 48 x5 7 S3) (fun v5 S4=>zI (jf Try.prog false 46 v5 S4) (fun v6 S5=>zI ((zW Try.prog O) 24 [(dem v6)] S5) (fun v7 S6=>zI (y9 Try.prog 60 v3 (dem x7) (dem v7) S6) (fun v8 S7=>ckK (qK v2 S2 S6 && (true)) (some ([x0,x1,x2,x3,x4,x5,x6,x7,x8,x9,b,c,d,f,g,i,j,k,l,m,n,o,p,q,r,s,t,u,w,x,y,z,A,B,C,D,E,F,G,H,I,J,K,L,M,N,P,Q,R,U,V,W,X,Y,Z,a0,a1,a2,a3,a4,dem x0,v1,v2,v3,dem x7,v5,v6,v7],S7)) ()) ()) ()) ()) ()) ()) ()) ()) ()) ()) ()) ()) ()):=by
 rw [yF zH.d16 zH.ak2 zH.k16 zH.g16]
 refine congrArg Jb ?_
 refine uPC Try.f10 16 0 (v:=x0) (pe:=zh) ?_
 refine uDC Try.f10 16 1 (pe:=zh) (fun v1 S1=>?_)
 refine uDC Try.f10 16 2 (pe:=zh) (fun v2 S2=>?_)
 refine uDC Try.f10 16 3 (pe:=v2) (fun v3 S3=>?_)
 refine uPC Try.f10 16 4 (v:=x7) (pe:=zh) ?_
 refine uD Try.f10 16 5 (pe:=zh) (fun v5 S4=>?_)
 refine uD Try.f10 16 6 (pe:=v5) (fun v6 S5=>?_)
 refine uD Try.f10 16 7 (pe:=zh) (fun v7 S6=>?_)
 refine uD Try.f10 16 8 (pe:=zh) (fun v8 S7=>?_)
 kernel_rfl
theorem zH.r17 :jw Try.prog ⟨false,false,false⟩ (zW Try.prog O) (reg Try.f10 17) (reg Try.f10 17).toList ([x0,x1,x2,x3,x4,x5,x6,x7,x8,x9,b,c,d,f,g,i,j,k,l,m,n,o,p,q,r,s,t,u,w,x,y,z,A,B,C,D,E,F,G,H,I,J,K,L,M,N,P,Q,R,U,V,W,X,Y,Z,a0,a1,a2,a3,a4,a5,a6,a7,a8,a9,b0,b1,b2]) S =
  ( some ([x0,x1,x2,x3,Value.bool true,x5,x6,x7,x8,x9,b,c,d,f,g,i,j,k,l,m,n,o,p,q,r,s,t,u,w,x,y,z,A,B,C,D,E,F,G,H,I,J,K,L,M,N,P,Q,R,U,V,W,X,Y,Z,a0,a1,a2,a3,a4,a5,a6,a7,a8,a9,b0,b1,b2],S)):=by
 kernel_rfl
theorem zH.rs:type_of% (ak5 @zH.r0 (ak5 @zH.r1 (ak5 @zH.r2 (ak5 @zH.r3 (ak5 @zH.r4 (ak5 @zH.r5 (ak5 @zH.r6 (ak5 @zH.r7 (ak5 @zH.r8 (ak5 @zH.r9 (ak5 @zH.r10 (ak5 @zH.r11 (ak5 @zH.r12 (ak5 @zH.r13 (ak5 @zH.r14 (ak5 @zH.r15 (ak5 @zH.r16 (@zH.r17)))))))))))))))))):=ak5 @zH.r0 (ak5 @zH.r1 (ak5 @zH.r2 (ak5 @zH.r3 (ak5 @zH.r4 (ak5 @zH.r5 (ak5 @zH.r6 (ak5 @zH.r7 (ak5 @zH.r8 (ak5 @zH.r9 (ak5 @zH.r10 (ak5 @zH.r11 (ak5 @zH.r12 (ak5 @zH.r13 (ak5 @zH.r14 (ak5 @zH.r15 (ak5 @zH.r16 (@zH.r17)))))))))))))))))
theorem zH.runs {x0 x1:Value} {S S1:zn} {e:AEx} {T:List Value} (h:zG Try.prog O false zH.code ([x0,x1,zh,zh,zh,zh,zh,zh,zh,zh,zh,zh,zh,zh,zh,zh,zh,zh,zh,zh,zh,zh,zh,zh,zh,zh,zh,zh,zh,zh,zh,zh,zh,zh,zh,zh,zh,zh,zh,zh,zh,zh,zh,zh,zh,zh,zh,zh,zh,zh,zh,zh,zh,zh,zh,zh,zh,zh,zh,zh,zh,zh,zh,zh,zh,zh,zh,zh]) S=some (e,T,S1)) (he:e=.normal∨e=.ret):zW Try.prog O 10 [x0,x1] S=some (T.getD 4 zh,S1) :=
 yD rfl rfl Try.func10 (by decide) zH.body (by exact h) he (yA (a:=T.getD 4 zh) ((show zK Try.prog T S1 Try.f10.results.toList=zK Try.prog T S1 [(ResultVar.tmp 4)] from by kernel_rfl).trans (by simp only [zK])) (by kernel_rfl))
end Go.Proofs.Ytfjogganfjkckaa
namespace Go.Proofs.Ytfjogganfjkckaa
open Go.Abs
abbrev qH.id:FuncId:=8
noncomputable def qH.code:Code:=(Code.seq (Code.region 0 (reg Try.f8 0) false) (Code.seq (Code.region 1 (reg Try.f8 1) false) Code.ret))
theorem qH.body:Try.f8.body=some qH.code:=by kernel_rfl
variable (b d m f g i j k l:Value) (S:zn)
theorem qH.r0 :jw Try.prog ⟨false,false,false⟩ (zW Try.prog O) (reg Try.f8 0) (reg Try.f8 0).toList ([b,d,m,f,g,i,j,k,l]) S =
  ( some ([b,d,Value.pointer none,f,g,i,j,k,l],S)):=by
 kernel_rfl
theorem qH.r1 :jw Try.prog ⟨false,false,false⟩ (zW Try.prog O) (reg Try.f8 1) (reg Try.f8 1).toList ([b,d,m,f,g,i,j,k,l]) S =
  (zI ((zW Try.prog O) 20 [(dem (dem b))] S) (fun n c=>zI (vW Try.prog 59 none c) (fun o s=>zI (vW Try.prog 60 none s) (fun p t=>zI (yg Try.prog 62 [(0,(dem n)),(1,(dem o)),(2,(dem p))] t) (fun q u=>zI (JJ (dem q) u) (fun r v=>some ([b,d,r,dem b,n,o,p,q,dem r],v)) ()) ()) ()) ()) ()):=by
 kernel_rfl
theorem qH.rs:type_of% (ak5 @qH.r0 (@qH.r1)):=ak5 @qH.r0 (@qH.r1)
theorem qH.runs {b:Value} {S c:zn} {e:AEx} {T:List Value} (h:zG Try.prog O false qH.code ([b,zh,zh,zh,zh,zh,zh,zh,zh]) S=some (e,T,c)) (he:e=.normal∨e=.ret):zW Try.prog O 8 [b] S=some (T.getD 2 zh,c) :=
 yD rfl rfl Try.func8 (by decide) qH.body (by exact h) he (yA (a:=T.getD 2 zh) ((show zK Try.prog T c Try.f8.results.toList=zK Try.prog T c [(ResultVar.tmp 2)] from by kernel_rfl).trans (by simp only [zK])) (by kernel_rfl))
end Go.Proofs.Ytfjogganfjkckaa
namespace Go.Proofs.Ytfjogganfjkckaa
open Go.Abs
abbrev wH.id:FuncId:=11
noncomputable def wH.code:Code:=(Code.seq (Code.region 0 (reg Try.f11 0) false) (Code.seq (Code.region 1 (reg Try.f11 1) false) Code.ret))
theorem wH.body:Try.f11.body=some wH.code:=by kernel_rfl
variable (b c g i o j k l m n f:Value) (S:zn)
theorem wH.r0 :jw Try.prog ⟨false,false,false⟩ (zW Try.prog O) (reg Try.f11 0) (reg Try.f11 0).toList ([b,c,g,i,o,j,k,l,m,n,f]) S =
  ( some ([b,c,g,i,Value.bool false,j,k,l,m,n,f],S)):=by
 kernel_rfl
theorem wH.r1 :jw Try.prog ⟨false,false,false⟩ (zW Try.prog O) (reg Try.f11 1) (reg Try.f11 1).toList ([b,c,g,i,o,j,k,l,m,n,f]) S =
  (zI (kN (dem b) S) (fun p d=>zI (zA Try.prog 62 p 0 d) (fun q t=>zI (jf Try.prog false 24 q t) (fun r u=>zI ((zW Try.prog O) 25 [(dem r),(dem (dem c))] u) (fun s v=>some ([b,c,g,i,s,dem b,p,q,r,dem c,dem s],v)) ()) ()) ()) ()):=by
 kernel_rfl
theorem wH.rs:type_of% (ak5 @wH.r0 (@wH.r1)):=ak5 @wH.r0 (@wH.r1)
theorem wH.runs {b c:Value} {S d:zn} {e:AEx} {T:List Value} (h:zG Try.prog O false wH.code ([b,c,zh,zh,zh,zh,zh,zh,zh,zh,zh]) S=some (e,T,d)) (he:e=.normal∨e=.ret):zW Try.prog O 11 [b,c] S=some (T.getD 4 zh,d) :=
 yD rfl rfl Try.func11 (by decide) wH.body (by exact h) he (yA (a:=T.getD 4 zh) ((show zK Try.prog T d Try.f11.results.toList=zK Try.prog T d [(ResultVar.tmp 4)] from by kernel_rfl).trans (by simp only [zK])) (by kernel_rfl))
end Go.Proofs.Ytfjogganfjkckaa
namespace Go.Proofs.Ytfjogganfjkckaa
open Go.Abs
abbrev yS.id:FuncId:=24
noncomputable def yS.code:Code:=(Code.seq (Code.region 0 (reg Try.f24 0) false) (Code.seq (Code.region 1 (reg Try.f24 1) false) (Code.seq (Code.region 2 (reg Try.f24 2) false) Code.ret)))
theorem yS.body:Try.f24.body=some yS.code:=by kernel_rfl
variable (b j q g k l m n o p d f:Value) (S:zn)
theorem yS.r0 :jw Try.prog ⟨false,false,false⟩ (zW Try.prog O) (reg Try.f24 0) (reg Try.f24 0).toList ([b,j,q,g,k,l,m,n,o,p,d,f]) S =
  (zI (JJ (dem b) S) (fun r c=>some ([b,r,Value.string { data:=#[] },g,k,l,m,n,o,p,d,f],c)) ()):=by
 kernel_rfl
theorem yS.r1 :jw Try.prog ⟨false,false,false⟩ (zW Try.prog O) (reg Try.f24 1) (reg Try.f24 1).toList ([b,j,q,g,k,l,m,n,o,p,d,f]) S =
  (zI (jf Try.prog false 46 j S) (fun r c=>zI ((zW Try.prog O) 46 [(dem r)] c) (fun i u=>zI (zU i 0 u) (fun s v=>zI (zU (zO 0 i) 1 v) (fun t w=>some ([b,j,q,s,t,zO 1 (zO 0 i),r,dem i,dem s,dem t,d,f],w)) ()) ()) ()) ()):=by
 kernel_rfl
theorem yS.r2 :jw Try.prog ⟨false,false,false⟩ (zW Try.prog O) (reg Try.f24 2) (reg Try.f24 2).toList ([b,j,q,g,k,l,m,n,o,p,d,f]) S =
  (zI (qA Try.prog false false 33 9 (dem g) S) (fun i c=>some ([b,j,i,g,k,l,m,n,o,p,dem g,dem i],c)) ()):=by
 kernel_rfl
theorem yS.rs:type_of% (ak5 @yS.r0 (ak5 @yS.r1 (@yS.r2))):=ak5 @yS.r0 (ak5 @yS.r1 (@yS.r2))
theorem yS.runs {b:Value} {S c:zn} {e:AEx} {T:List Value} (h:zG Try.prog O false yS.code ([b,zh,zh,zh,zh,zh,zh,zh,zh,zh,zh,zh]) zn.empty=some (e,T,c)) (he:e=.normal∨e=.ret) (hca:[b].all (jP 16)=true) (hcv:jP 16 (T.getD 2 zh)=true):zW Try.prog O 24 [b] S=some (T.getD 2 zh,S) :=
 yu rfl rfl Try.func24 (by decide) yS.body (by exact h) he (yA (a:=T.getD 2 zh) ((show zK Try.prog T c Try.f24.results.toList=zK Try.prog T c [(ResultVar.tmp 2)] from by kernel_rfl).trans (by simp only [zK])) (by kernel_rfl)) hca hcv
end Go.Proofs.Ytfjogganfjkckaa
namespace Go.Proofs.Ytfjogganfjkckaa
open Go.Abs
abbrev wF.id:FuncId:=20
noncomputable def wF.code:Code:=(Code.seq (Code.region 0 (reg Try.f20 0) false) (Code.seq (Code.seq (Code.region 1 (reg Try.f20 1) false) (Code.cond (Operand.tmp 4) (Code.seq (Code.region 2 (reg Try.f20 2) false) Code.ret) Code.skip)) (Code.seq (Code.region 3 (reg Try.f20 3) false) Code.ret)))
theorem wF.body:Try.f20.body=some wF.code:=by kernel_rfl
variable (b c l f g i j k:Value) (S:zn)
theorem wF.r0 :jw Try.prog ⟨false,false,false⟩ (zW Try.prog O) (reg Try.f20 0) (reg Try.f20 0).toList ([b,c,l,f,g,i,j,k]) S =
  ( some ([b,c,Value.slice none 0 0,f,g,i,j,k],S)):=by
 kernel_rfl
theorem wF.r1 :jw Try.prog ⟨false,false,false⟩ (zW Try.prog O) (reg Try.f20 1) (reg Try.f20 1).toList ([b,c,l,f,g,i,j,k]) S =
  (zI (wB Try.prog BinOp.eql 24 (dem b) (Value.slice none 0 0) S) (fun o d=>some ([b,c,l,dem b,o,i,j,k],d)) ()):=by
 kernel_rfl
theorem wF.r2 :jw Try.prog ⟨false,false,false⟩ (zW Try.prog O) (reg Try.f20 2) (reg Try.f20 2).toList ([b,c,l,f,g,i,j,k]) S =
  ( some ([b,c,Value.slice none 0 0,f,g,i,j,k],S)):=by
 kernel_rfl
theorem wF.r3 :jw Try.prog ⟨false,false,false⟩ (zW Try.prog O) (reg Try.f20 3) (reg Try.f20 3).toList ([b,c,l,f,g,i,j,k]) S =
  (zI (jH Try.prog 24 0 [] S) (fun m d=>zI (wP Try.prog 24 24 m (dem b) d) (fun n p=>some ([b,c,n,f,g,dem m,dem b,dem n],p)) ()) ()):=by
 kernel_rfl
theorem wF.rs:type_of% (ak5 @wF.r0 (ak5 @wF.r1 (ak5 @wF.r2 (@wF.r3)))):=ak5 @wF.r0 (ak5 @wF.r1 (ak5 @wF.r2 (@wF.r3)))
theorem wF.runs {b:Value} {S d:zn} {e:AEx} {T:List Value} (h:zG Try.prog O false wF.code ([b,zh,zh,zh,zh,zh,zh,zh]) S=some (e,T,d)) (he:e=.normal∨e=.ret):zW Try.prog O 20 [b] S=some (T.getD 2 zh,d) :=
 yD rfl rfl Try.func20 (by decide) wF.body (by exact h) he (yA (a:=T.getD 2 zh) ((show zK Try.prog T d Try.f20.results.toList=zK Try.prog T d [(ResultVar.tmp 2)] from by kernel_rfl).trans (by simp only [zK])) (by kernel_rfl))
end Go.Proofs.Ytfjogganfjkckaa
namespace Go.Abs
variable {K:Type}
def MapAt (enc:K→Value) (S:zn) (q:Nat) (m:List (K×Value)):Prop :=
 ∃ es c,S.get q=some (.map es c)∧es.map (fun e=>(e.key,e.val))=m.map fun p=>(enc p.1,p.2)
theorem abU {P:Program} {t:TypeId} (enc:K→Value) (S:zn):∃ S2,vW P t none S=some (.map (some S.next),S2)∧MapAt enc S2 S.next []∧S2.next=S.next+1∧(∀ j,j < S.next→S2.get j=S.get j)∧Ext S S2 :=
 ⟨_,rfl,⟨[],0,by rw [zn.yJ,if_pos rfl],rfl⟩,by simp,fun j hj=>by rw [zn.yJ,if_neg (by omega)],Ext.push _ _⟩
theorem MapAt.keep {enc:K→Value} {S:zn} {q:Nat} {m:List (K×Value)} {S2:zn} (h:MapAt enc S q m) (hg:S2.get q=S.get q):MapAt enc S2 q m:=by
 obtain ⟨es,c,h1,h2⟩:=h
 exact ⟨es,c,hg.trans h1,h2⟩
variable [DecidableEq K]
def Xz:List (K×Value)→K→Option Value
 | [],_=>none
 | (a,v)::m,k=>if a=k then some v else Xz m k
def midx:List (K×Value)→K→Nat
 | [],_=>0
 | (a,_)::m,k=>if a=k then 0 else midx m k+1
def ahs:List (K×Value)→K→Value→List (K×Value)
 | [],k,x=>[(k,x)]
 | (a,v)::m,k,x=>if a=k then (k,x)::m else (a,v)::ahs m k x
theorem VZ {m:List (K×Value)} {k:K} {x:Value} (h:Xz m k=none):ahs m k x=m++[(k,x)]:=by
 induction m with
 | nil=>rfl
 | cons p m ih =>
  obtain ⟨a,v⟩:=p
  unfold Xz at h
  split at h
  ·
   cases h
  ·
   rename_i hn
   simp only [ahs,if_neg hn,ih h,List.cons_append]
structure adF (enc:K→Value) (kd:TypeDesc):Prop where
 kind:∀ k,Yg kd (enc k)=true
 same:∀ a b,Instr.sameNow kd (enc a) (enc b)=some (decide (a=b))
theorem QK:adF (fun n:Int=>Value.int .i64 n) (.int .i64):=⟨fun _=>rfl,fun a b=>by
 show (if IntKind.i64=IntKind.i64 then some (a == b) else none)=_
 rw [if_pos rfl];by_cases h:a=b <;> simp [h]⟩
theorem Yh {enc:K→Value} {kd:TypeDesc} (hK:adF enc kd) (k:K):∀ (es:List MapEntry) (m:List (K×Value)) (i:Nat),es.map (fun e=>(e.key,e.val))=m.map (fun p=>(enc p.1,p.2)) →
  Instr.findNow kd (enc k) es i=some ((Xz m k).map fun v=>(i+midx m k,v)):=by
 intro es
 induction es with
 | nil =>
  intro m i h
  cases m with
  | nil=>rfl
  | cons p m=>simp at h
 | cons e es ih =>
  intro m i h
  cases m with
  | nil=>simp at h
  | cons p m =>
   obtain ⟨a,v⟩:=p
   simp only [List.map_cons,List.cons.injEq,Prod.mk.injEq] at h
   obtain ⟨⟨h1,h2⟩,h3⟩:=h
   simp only [Instr.findNow,h1,hK.same,Xz,midx]
   by_cases hk:k=a
   ·
    simp [hk,h2]
   ·
    rw [decide_eq_false hk,if_neg (fun h=>hk h.symm),if_neg (fun h=>hk h.symm)]
    simp only []
    rw [ih m (i+1) h3]
    congr 2
    funext x
    congr 1
    omega
theorem ae8 {enc:K→Value} {k:K} {x:Value}:∀ (es:List MapEntry) (m:List (K×Value)),es.map (fun e=>(e.key,e.val))=m.map (fun p=>(enc p.1,p.2))→Xz m k≠none →
  (es.modify (midx m k) fun e=>{ e with key:=enc k,val:=x }).map (fun e=>(e.key,e.val))=(ahs m k x).map fun p=>(enc p.1,p.2):=by
 intro es
 induction es with
 | nil =>
  intro m h hn
  cases m with
  | nil=>exact absurd rfl hn
  | cons p m=>simp at h
 | cons e es ih =>
  intro m h hn
  cases m with
  | nil=>simp at h
  | cons p m =>
   obtain ⟨a,v⟩:=p
   simp only [List.map_cons,List.cons.injEq,Prod.mk.injEq] at h
   obtain ⟨⟨h1,h2⟩,h3⟩:=h
   simp only [midx,ahs]
   by_cases hk:a=k
   ·
    simp [hk,h3]
   ·
    rw [if_neg hk,if_neg hk,List.modify_succ_cons]
    have hn':Xz m k≠none:=by unfold Xz at hn;rwa [if_neg hk] at hn
    simp only [List.map_cons,ih m h3 hn',h1,h2]
variable {P:Program} {t kt et:TypeId} {kd:TypeDesc} {z:Value} {enc:K→Value} {S S0:zn} {q:Nat} {m:List (K×Value)}
theorem aeN (hK:adF enc kd) (hm:MapAt enc S q m) (ht:P.underlying t=some (.map kt et)) (hk:P.underlying kt=some kd) (hz:zeroOf P et=some z) (hg:ground z=true) (k:K) :
  vI P false t (.map (some q)) (enc k) false S=some ((Xz m k).getD z,S):=by
 obtain ⟨es,c,h1,h2⟩:=hm
 unfold vI qF
 simp only [Bool.false_eq_true,if_false,ht,hk,hK.kind,if_true,h1,Yh hK k es m 0 h2]
 cases Xz m k with
 | none=>simp [hz,hg]
 | some v=>simp
theorem acD (hK:adF enc kd) (hm:MapAt enc S q m) (ht:P.underlying t=some (.map kt et)) (hk:P.underlying kt=some kd) (hz:zeroOf P et=some z) (hg:ground z=true) (k:K) :
  vI P false t (.map (some q)) (enc k) true S=some (.tuple #[(Xz m k).getD z,.bool (Xz m k).isSome],S):=by
 obtain ⟨es,c,h1,h2⟩:=hm
 unfold vI qF
 simp only [Bool.false_eq_true,if_false,ht,hk,hK.kind,if_true,h1,Yh hK k es m 0 h2]
 cases Xz m k with
 | none=>simp [hz,hg]
 | some v=>simp
theorem acp (hK:adF enc kd) (hm:MapAt enc S q m) (ht:P.underlying t=some (.map kt et)) (hk:P.underlying kt=some kd) (k:K) (x:Value) :
  ∃ S2,y9 P t (.map (some q)) (enc k) x S=some (zh,S2)∧MapAt enc S2 q (ahs m k x)∧S2.next=S.next∧(∀ j,j≠q→S2.get j=S.get j)∧(∀ S0,Ext S0 S→S0.next≤q→Ext S0 S2):=by
 obtain ⟨es,c,h1,h2⟩:=hm
 unfold y9
 simp only [ht,hk,hK.kind,if_true,h1,Yh hK k es m 0 h2]
 cases hg:Xz m k with
 | none =>
  refine ⟨_,rfl,⟨es++[{ key:=enc k,val:=x,born:=c }],c+1,by rw [zn.qo,if_pos rfl],?_⟩,by simp,fun j hj=>by rw [zn.qo,if_neg hj],fun S0 hE hq=>hE.set hq _⟩
  rw [VZ hg]
  simp [h2]
 | some v =>
  refine ⟨_,rfl,⟨_,c,by simp only [Option.map_some,Nat.zero_add,zn.qo,if_true],ae8 es m h2 (by rw [hg];simp)⟩,by simp,fun j hj=>by rw [zn.qo,if_neg hj],fun S0 hE hq=>hE.set hq _⟩
end Go.Abs
namespace Go.Proofs.Ytfjogganfjkckaa
open Go.Abs
abbrev slices_Index.id:FuncId:=47
noncomputable def slices_Index.jL:Code:=(Code.seq (Code.region 2 (reg Try.f47 2) false) (Code.seq (Code.cond (Operand.tmp 9) Code.skip (Code.exit 0)) (Code.seq (Code.block 1 (Code.seq (Code.region 3 (reg Try.f47 3) false) (Code.seq (Code.region 4 (reg Try.f47 4) false) (Code.cond (Operand.tmp 16) (Code.seq (Code.region 5 (reg Try.f47 5) false) Code.ret) Code.skip)))) (Code.region 6 (reg Try.f47 6) false))))
noncomputable def slices_Index.code:Code:=(Code.seq (Code.region 0 (reg Try.f47 0) false) (Code.seq (Code.seq (Code.region 1 (reg Try.f47 1) false) (Code.block 0 (Code.loop slices_Index.jL))) (Code.seq (Code.region 7 (reg Try.f47 7) false) Code.ret)))
theorem slices_Index.body:Try.f47.body=some slices_Index.code:=by kernel_rfl
theorem slices_Index.eta {T:List Value} (h:T.length=19):T=[T.getD 0 zh,T.getD 1 zh,T.getD 2 zh,T.getD 3 zh,T.getD 4 zh,T.getD 5 zh,T.getD 6 zh,T.getD 7 zh,T.getD 8 zh,T.getD 9 zh,T.getD 10 zh,T.getD 11 zh,T.getD 12 zh,T.getD 13 zh,T.getD 14 zh,T.getD 15 zh,T.getD 16 zh,T.getD 17 zh,T.getD 18 zh]:=(qC T 19 h).trans (by kernel_rfl)
variable (b n q r v o t s p u c d f g i j k l m:Value) (S:zn)
theorem slices_Index.r0 :jw Try.prog ⟨false,false,false⟩ (zW Try.prog O) (reg Try.f47 0) (reg Try.f47 0).toList ([b,n,q,r,v,o,t,s,p,u,c,d,f,g,i,j,k,l,m]) S =
  ( some ([b,n,q,r,Value.int IntKind.i64 0,o,t,s,p,u,c,d,f,g,i,j,k,l,m],S)):=by
 kernel_rfl
theorem slices_Index.r1 :jw Try.prog ⟨false,false,false⟩ (zW Try.prog O) (reg Try.f47 1) (reg Try.f47 1).toList ([b,n,q,r,v,o,t,s,p,u,c,d,f,g,i,j,k,l,m]) S =
  (zI (Zz Try.prog 24 (dem b) S) (fun A w=>some ([b,n,q,r,v,o,dem b,A,Value.int IntKind.i64 0,u,c,d,f,g,i,j,k,l,m],w)) ()):=by
 kernel_rfl
theorem slices_Index.r2 :jw Try.prog ⟨false,false,false⟩ (zW Try.prog O) (reg Try.f47 2) (reg Try.f47 2).toList ([b,n,q,r,v,o,t,s,p,u,c,d,f,g,i,j,k,l,m]) S =
  (zI (wB Try.prog BinOp.lss 3 p s S) (fun x w=>some ([b,n,q,r,v,o,t,s,p,x,c,d,f,g,i,j,k,l,m],w)) ()):=by
 kernel_rfl
theorem slices_Index.r3 :jw Try.prog ⟨false,false,false⟩ (zW Try.prog O) (reg Try.f47 3) (reg Try.f47 3).toList ([b,n,q,r,v,o,t,s,p,u,c,d,f,g,i,j,k,l,m]) S =
  ( some ([b,n,q,r,v,p,t,s,dem p,u,dem p,d,f,g,i,j,k,l,m],S)):=by
 kernel_rfl
theorem slices_Index.r4 :jw Try.prog ⟨false,false,false⟩ (zW Try.prog O) (reg Try.f47 4) (reg Try.f47 4).toList ([b,n,q,r,v,o,t,s,p,u,c,d,f,g,i,j,k,l,m]) S =
  (zI (jo Try.prog 24 (dem b) (dem o) S) (fun y w=>zI (jf Try.prog false 3 y w) (fun z B=>zI (wB Try.prog BinOp.eql 3 (dem n) z B) (fun C D=>some ([b,n,q,r,v,o,t,s,p,u,c,dem n,dem b,dem o,y,z,C,l,m],D)) ()) ()) ()):=by
 kernel_rfl
theorem slices_Index.r5 :jw Try.prog ⟨false,false,false⟩ (zW Try.prog O) (reg Try.f47 5) (reg Try.f47 5).toList ([b,n,q,r,v,o,t,s,p,u,c,d,f,g,i,j,k,l,m]) S =
  ( some ([b,n,q,r,o,dem o,t,s,p,u,c,d,f,g,i,j,k,dem o,m],S)):=by
 kernel_rfl
theorem slices_Index.r6 :jw Try.prog ⟨false,false,false⟩ (zW Try.prog O) (reg Try.f47 6) (reg Try.f47 6).toList ([b,n,q,r,v,o,t,s,p,u,c,d,f,g,i,j,k,l,m]) S =
  (zI (wB Try.prog BinOp.add 3 p (Value.int IntKind.i64 1) S) (fun x w=>some ([b,n,q,r,v,o,t,s,dem x,u,c,d,f,g,i,j,k,l,x],w)) ()):=by
 kernel_rfl
theorem slices_Index.r7 :jw Try.prog ⟨false,false,false⟩ (zW Try.prog O) (reg Try.f47 7) (reg Try.f47 7).toList ([b,n,q,r,v,o,t,s,p,u,c,d,f,g,i,j,k,l,m]) S =
  ( some ([b,n,q,r,Value.int IntKind.i64 (-1),o,t,s,p,u,c,d,f,g,i,j,k,l,m],S)):=by
 kernel_rfl
theorem slices_Index.rs:type_of% (ak5 @slices_Index.r0 (ak5 @slices_Index.r1 (ak5 @slices_Index.r2 (ak5 @slices_Index.r3 (ak5 @slices_Index.r4 (ak5 @slices_Index.r5 (ak5 @slices_Index.r6 (@slices_Index.r7)))))))):=ak5 @slices_Index.r0 (ak5 @slices_Index.r1 (ak5 @slices_Index.r2 (ak5 @slices_Index.r3 (ak5 @slices_Index.r4 (ak5 @slices_Index.r5 (ak5 @slices_Index.r6 (@slices_Index.r7)))))))
theorem slices_Index.runs {b n:Value} {S w:zn} {e:AEx} {T:List Value} (h:zG Try.prog O false slices_Index.code ([b,n,zh,zh,zh,zh,zh,zh,zh,zh,zh,zh,zh,zh,zh,zh,zh,zh,zh]) S=some (e,T,w)) (he:e=.normal∨e=.ret):zW Try.prog O 47 [b,n] S=some (T.getD 4 zh,w) :=
 yD rfl rfl Try.func47 (by decide) slices_Index.body (by exact h) he (yA (a:=T.getD 4 zh) ((show zK Try.prog T w Try.f47.results.toList=zK Try.prog T w [(ResultVar.tmp 4)] from by kernel_rfl).trans (by simp only [zK])) (by kernel_rfl))
end Go.Proofs.Ytfjogganfjkckaa
namespace Go.Proofs.Ytfjogganfjkckaa
open Go.Abs
abbrev slices_Contains.id:FuncId:=25
noncomputable def slices_Contains.code:Code:=(Code.seq (Code.region 0 (reg Try.f25 0) false) (Code.seq (Code.region 1 (reg Try.f25 1) false) Code.ret))
theorem slices_Contains.body:Try.f25.body=some slices_Contains.code:=by kernel_rfl
variable (b c f g m i j k l:Value) (S:zn)
theorem slices_Contains.r0 :jw Try.prog ⟨false,false,false⟩ (zW Try.prog O) (reg Try.f25 0) (reg Try.f25 0).toList ([b,c,f,g,m,i,j,k,l]) S =
  ( some ([b,c,f,g,Value.bool false,i,j,k,l],S)):=by
 kernel_rfl
theorem slices_Contains.r1 :jw Try.prog ⟨false,false,false⟩ (zW Try.prog O) (reg Try.f25 1) (reg Try.f25 1).toList ([b,c,f,g,m,i,j,k,l]) S =
  (zI ((zW Try.prog O) 47 [(dem (dem b)),(dem (dem c))] S) (fun n d=>zI (wB Try.prog BinOp.geq 3 n (Value.int IntKind.i64 0) d) (fun o p=>some ([b,c,f,g,o,dem b,dem c,n,dem o],p)) ()) ()):=by
 kernel_rfl
theorem slices_Contains.rs:type_of% (ak5 @slices_Contains.r0 (@slices_Contains.r1)):=ak5 @slices_Contains.r0 (@slices_Contains.r1)
theorem slices_Contains.runs {b c:Value} {S d:zn} {e:AEx} {T:List Value} (h:zG Try.prog O false slices_Contains.code ([b,c,zh,zh,zh,zh,zh,zh,zh]) S=some (e,T,d)) (he:e=.normal∨e=.ret):zW Try.prog O 25 [b,c] S=some (T.getD 4 zh,d) :=
 yD rfl rfl Try.func25 (by decide) slices_Contains.body (by exact h) he (yA (a:=T.getD 4 zh) ((show zK Try.prog T d Try.f25.results.toList=zK Try.prog T d [(ResultVar.tmp 4)] from by kernel_rfl).trans (by simp only [zK])) (by kernel_rfl))
end Go.Proofs.Ytfjogganfjkckaa
namespace Go.Proofs.Ytfjogganfjkckaa
open Go.Abs
theorem aaB:Try.prog.underlying 3=some (TypeDesc.int IntKind.i64):=by kernel_rfl
theorem adJ:ZV Try.prog 3=some 1:=by kernel_rfl
theorem akH:bytesOf Try.prog 3=some 8:=by kernel_rfl
theorem akx:zeroOf Try.prog 3=(some (Value.int IntKind.i64 0)):=by kernel_rfl
theorem ZY:xA Try.prog 3=some false:=by kernel_rfl
theorem aio:zeroOf Try.prog 4=(some (Value.bool false)):=by kernel_rfl
theorem aaq:Try.prog.underlying 5=some (TypeDesc.int IntKind.u8):=by kernel_rfl
theorem ab4:ZV Try.prog 5=some 1:=by kernel_rfl
theorem ajr:bytesOf Try.prog 5=some 1:=by kernel_rfl
theorem aiS:zeroOf Try.prog 5=(some (Value.int IntKind.u8 0)):=by kernel_rfl
theorem ajc:xA Try.prog 5=some false:=by kernel_rfl
theorem VI:Try.prog.underlying 9=some TypeDesc.string:=by kernel_rfl
theorem ada:zeroOf Try.prog 9=(some (Value.string { data:=#[] })):=by kernel_rfl
theorem QO:Try.prog.underlying 24=some (TypeDesc.slice 3):=by kernel_rfl
theorem aiO:xA Try.prog 24=some false:=by kernel_rfl
theorem ZM:Try.prog.underlying 29=some (TypeDesc.slice 33):=by kernel_rfl
theorem ZQ:Try.prog.underlying 33=some (TypeDesc.slice 5):=by kernel_rfl
theorem Yp:ZV Try.prog 33=some 1:=by kernel_rfl
theorem YO:xA Try.prog 33=some false:=by kernel_rfl
theorem ahf:Try.prog.underlying 43=some (TypeDesc.struct #[{ name:= "ID",type:=3,offset:=0,embedded:=false,tag:= "",pkgPath:= "",byteOffset:=0 },{ name:= "Fee",type:=3,offset:=1,embedded:=false,tag:= "",pkgPath:= "",byteOffset:=8 }]):=by kernel_rfl
theorem ZF:ZV Try.prog 43=some 2:=by kernel_rfl
theorem aht:bytesOf Try.prog 43=some 16:=by kernel_rfl
theorem ahd:zeroOf Try.prog 43=(some (Value.agg #[(Value.int IntKind.i64 0),(Value.int IntKind.i64 0)])):=by kernel_rfl
theorem aam:xA Try.prog 43=some true:=by kernel_rfl
theorem Jt:Try.prog.underlying 44=some (TypeDesc.slice 43):=by kernel_rfl
theorem adu:xA Try.prog 44=some false:=by kernel_rfl
theorem ZP:ZV Try.prog 46=some 5:=by kernel_rfl
theorem KL:xA Try.prog 46=some true:=by kernel_rfl
theorem Xa:ZV Try.prog 48=some 13:=by kernel_rfl
theorem afH:xA Try.prog 48=some true:=by kernel_rfl
theorem Wi:Try.prog.underlying 59=some (TypeDesc.map 9 4):=by kernel_rfl
theorem J4:xA Try.prog 59=some false:=by kernel_rfl
theorem Jg:Try.prog.underlying 60=some (TypeDesc.map 3 9):=by kernel_rfl
theorem WX:xA Try.prog 60=some false:=by kernel_rfl
theorem QE:Try.prog.underlying 73=some (TypeDesc.int IntKind.u64):=by kernel_rfl
theorem Qq:Try.prog.underlying 126=some (TypeDesc.map 3 4):=by kernel_rfl
theorem kS (q o:Nat) (S:zn):zA Try.prog 43 (.pointer (some ⟨q,o,none⟩)) 0 S=some (.pointer (some ⟨q,o+0,none⟩),S):=by kernel_rfl
theorem ZU (q o:Nat) (S:zn):zA Try.prog 43 (.pointer (some ⟨q,o,none⟩)) 1 S=some (.pointer (some ⟨q,o+1,none⟩),S):=by kernel_rfl
theorem jR (q o:Nat) (S:zn):zA Try.prog 46 (.pointer (some ⟨q,o,none⟩)) 0 S=some (.pointer (some ⟨q,o+0,none⟩),S):=by kernel_rfl
theorem jM (q o:Nat) (S:zn):zA Try.prog 46 (.pointer (some ⟨q,o,none⟩)) 1 S=some (.pointer (some ⟨q,o+1,none⟩),S):=by kernel_rfl
theorem jQ (q o:Nat) (S:zn):zA Try.prog 46 (.pointer (some ⟨q,o,none⟩)) 2 S=some (.pointer (some ⟨q,o+2,none⟩),S):=by kernel_rfl
theorem jS (q o:Nat) (S:zn):zA Try.prog 46 (.pointer (some ⟨q,o,none⟩)) 3 S=some (.pointer (some ⟨q,o+3,none⟩),S):=by kernel_rfl
theorem jT (q o:Nat) (S:zn):zA Try.prog 46 (.pointer (some ⟨q,o,none⟩)) 4 S=some (.pointer (some ⟨q,o+4,none⟩),S):=by kernel_rfl
theorem zJ (q o:Nat) (S:zn):zA Try.prog 48 (.pointer (some ⟨q,o,none⟩)) 0 S=some (.pointer (some ⟨q,o+0,none⟩),S):=by kernel_rfl
theorem zV (q o:Nat) (S:zn):zA Try.prog 48 (.pointer (some ⟨q,o,none⟩)) 1 S=some (.pointer (some ⟨q,o+1,none⟩),S):=by kernel_rfl
theorem jc (q o:Nat) (S:zn):zA Try.prog 48 (.pointer (some ⟨q,o,none⟩)) 2 S=some (.pointer (some ⟨q,o+2,none⟩),S):=by kernel_rfl
theorem jd (q o:Nat) (S:zn):zA Try.prog 48 (.pointer (some ⟨q,o,none⟩)) 3 S=some (.pointer (some ⟨q,o+3,none⟩),S):=by kernel_rfl
theorem zT (q o:Nat) (S:zn):zA Try.prog 48 (.pointer (some ⟨q,o,none⟩)) 4 S=some (.pointer (some ⟨q,o+4,none⟩),S):=by kernel_rfl
theorem jg (q o:Nat) (S:zn):zA Try.prog 48 (.pointer (some ⟨q,o,none⟩)) 5 S=some (.pointer (some ⟨q,o+5,none⟩),S):=by kernel_rfl
theorem je (q o:Nat) (S:zn):zA Try.prog 48 (.pointer (some ⟨q,o,none⟩)) 6 S=some (.pointer (some ⟨q,o+6,none⟩),S):=by kernel_rfl
theorem zZ (q o:Nat) (S:zn):zA Try.prog 48 (.pointer (some ⟨q,o,none⟩)) 7 S=some (.pointer (some ⟨q,o+8,none⟩),S):=by kernel_rfl
theorem Xm (q o:Nat) (S:zn):zA Try.prog 62 (.pointer (some ⟨q,o,none⟩)) 0 S=some (.pointer (some ⟨q,o+0,none⟩),S):=by kernel_rfl
theorem qB (q o:Nat) (S:zn):zA Try.prog 62 (.pointer (some ⟨q,o,none⟩)) 1 S=some (.pointer (some ⟨q,o+1,none⟩),S):=by kernel_rfl
theorem vw (q o:Nat) (S:zn):zA Try.prog 62 (.pointer (some ⟨q,o,none⟩)) 2 S=some (.pointer (some ⟨q,o+2,none⟩),S):=by kernel_rfl
theorem kY {fx:Bool} {x0 x1:Value} {S:zn}:jf Try.prog fx 43 (EP [x0,x1]) S=some (.agg [x0,x1].toArray,S):=agi aam ZF rfl
theorem QJ {q:Nat} {x0 x1:Value} {own:Own} {e:Nat} {S:zn} (h:S.get q=some (.cells [x0,x1] own e)):jf Try.prog false 43 (.pointer (some ⟨q,0,none⟩)) S=some (.agg [vF x0,vF x1].toArray,S):=(Yt (o:=0) h aam ZF (by simp)).trans (by simp)
theorem aa9 {q:Nat} {x0 x1 x2 x3 x4:Value} {own:Own} {e:Nat} {S:zn} (h:S.get q=some (.cells [x0,x1,x2,x3,x4] own e)):jf Try.prog false 46 (.pointer (some ⟨q,0,none⟩)) S=some (.agg [vF x0,vF x1,vF x2,vF x3,vF x4].toArray,S):=(Yt (o:=0) h KL ZP (by simp)).trans (by simp)
theorem ad9 {q:Nat} {x0 x1 x2 x3 x4 x5 x6 x7 x8 x9 x10 x11 x12:Value} {own:Own} {e:Nat} {S:zn} (h:S.get q=some (.cells [x0,x1,x2,x3,x4,x5,x6,x7,x8,x9,x10,x11,x12] own e)):jf Try.prog false 48 (.pointer (some ⟨q,0,none⟩)) S=some (.agg [vF x0,vF x1,vF x2,vF x3,vF x4,vF x5,vF x6,vF x7,vF x8,vF x9,vF x10,vF x11,vF x12].toArray,S):=(Yt (o:=0) h afH Xa (by simp)).trans (by simp)
theorem wo  (S:zn):yg Try.prog 43 [] S=some (.agg [(Value.int IntKind.i64 0),(Value.int IntKind.i64 0)].toArray,S):=by
 kernel_rfl
theorem abz {y0:Value} (h0:y0.cells=#[y0]) (S:zn):yg Try.prog 43 [(0,y0)] S=some (.agg [y0,(Value.int IntKind.i64 0)].toArray,S):=by
 rw [show yg Try.prog 43 [(0,y0)] S=(match vk ([(0,1),(1,1)][·]?) [(Value.int IntKind.i64 0),(Value.int IntKind.i64 0)] [(0,y0)] with | some l=>some (.agg l.toArray,S) | none=>none) from by kernel_rfl]
 simp [vk,splice,qI,h0]
theorem ZE {y0 y1:Value} (h0:y0.cells=#[y0]) (h1:y1.cells=#[y1]) (S:zn):yg Try.prog 43 [(0,y0),(1,y1)] S=some (.agg [y0,y1].toArray,S):=by
 rw [show yg Try.prog 43 [(0,y0),(1,y1)] S=(match vk ([(0,1),(1,1)][·]?) [(Value.int IntKind.i64 0),(Value.int IntKind.i64 0)] [(0,y0),(1,y1)] with | some l=>some (.agg l.toArray,S) | none=>none) from by kernel_rfl]
 simp [vk,splice,qI,h0,h1]
theorem Wj  (S:zn):yg Try.prog 46 [] S=some (.agg [(Value.int IntKind.i64 0),(Value.int IntKind.i64 0),(Value.int IntKind.i64 0),(Value.int IntKind.i64 0),(Value.slice none 0 0)].toArray,S):=by
 kernel_rfl
theorem Qw {y0 y1:Value} (h0:y0.cells=#[y0]) (h1:y1.cells=#[y1]) (S:zn):yg Try.prog 46 [(0,y0),(1,y1)] S=some (.agg [y0,y1,(Value.int IntKind.i64 0),(Value.int IntKind.i64 0),(Value.slice none 0 0)].toArray,S):=by
 rw [show yg Try.prog 46 [(0,y0),(1,y1)] S=(match vk ([(0,1),(1,1),(2,1),(3,1),(4,1)][·]?) [(Value.int IntKind.i64 0),(Value.int IntKind.i64 0),(Value.int IntKind.i64 0),(Value.int IntKind.i64 0),(Value.slice none 0 0)] [(0,y0),(1,y1)] with | some l=>some (.agg l.toArray,S) | none=>none) from by kernel_rfl]
 simp [vk,splice,qI,h0,h1]
theorem Ze {y0 y1 y2 y3 y4:Value} (h0:y0.cells=#[y0]) (h1:y1.cells=#[y1]) (h2:y2.cells=#[y2]) (h3:y3.cells=#[y3]) (h4:y4.cells=#[y4]) (S:zn):yg Try.prog 46 [(0,y0),(1,y1),(2,y2),(3,y3),(4,y4)] S=some (.agg [y0,y1,y2,y3,y4].toArray,S):=by
 rw [show yg Try.prog 46 [(0,y0),(1,y1),(2,y2),(3,y3),(4,y4)] S=(match vk ([(0,1),(1,1),(2,1),(3,1),(4,1)][·]?) [(Value.int IntKind.i64 0),(Value.int IntKind.i64 0),(Value.int IntKind.i64 0),(Value.int IntKind.i64 0),(Value.slice none 0 0)] [(0,y0),(1,y1),(2,y2),(3,y3),(4,y4)] with | some l=>some (.agg l.toArray,S) | none=>none) from by kernel_rfl]
 simp [vk,splice,qI,h0,h1,h2,h3,h4]
theorem YA {y0 y1 y4:Value} (h0:y0.cells=#[y0]) (h1:y1.cells=#[y1]) (h4:y4.cells=#[y4]) (S:zn):yg Try.prog 46 [(0,y0),(1,y1),(4,y4)] S=some (.agg [y0,y1,(Value.int IntKind.i64 0),(Value.int IntKind.i64 0),y4].toArray,S):=by
 rw [show yg Try.prog 46 [(0,y0),(1,y1),(4,y4)] S=(match vk ([(0,1),(1,1),(2,1),(3,1),(4,1)][·]?) [(Value.int IntKind.i64 0),(Value.int IntKind.i64 0),(Value.int IntKind.i64 0),(Value.int IntKind.i64 0),(Value.slice none 0 0)] [(0,y0),(1,y1),(4,y4)] with | some l=>some (.agg l.toArray,S) | none=>none) from by kernel_rfl]
 simp [vk,splice,qI,h0,h1,h4]
theorem XV  (S:zn):yg Try.prog 48 [] S=some (.agg [(Value.int IntKind.i64 0),(Value.int IntKind.i64 0),(Value.int IntKind.i64 0),(Value.int IntKind.i64 0),(Value.int IntKind.i64 0),(Value.int IntKind.i64 0),(Value.int IntKind.i64 0),(Value.int IntKind.i64 0),(Value.int IntKind.i64 0),(Value.int IntKind.i64 0),(Value.int IntKind.i64 0),(Value.int IntKind.i64 0),(Value.slice none 0 0)].toArray,S):=by
 kernel_rfl
theorem kK {y0 y1:Value} (h0:y0.cells=#[y0]) (h1:y1.cells=#[y1]) (S:zn):yg Try.prog 48 [(0,y0),(1,y1)] S=some (.agg [y0,y1,(Value.int IntKind.i64 0),(Value.int IntKind.i64 0),(Value.int IntKind.i64 0),(Value.int IntKind.i64 0),(Value.int IntKind.i64 0),(Value.int IntKind.i64 0),(Value.int IntKind.i64 0),(Value.int IntKind.i64 0),(Value.int IntKind.i64 0),(Value.int IntKind.i64 0),(Value.slice none 0 0)].toArray,S):=by
 rw [show yg Try.prog 48 [(0,y0),(1,y1)] S=(match vk ([(0,1),(1,1),(2,1),(3,1),(4,1),(5,1),(6,2),(8,5)][·]?) [(Value.int IntKind.i64 0),(Value.int IntKind.i64 0),(Value.int IntKind.i64 0),(Value.int IntKind.i64 0),(Value.int IntKind.i64 0),(Value.int IntKind.i64 0),(Value.int IntKind.i64 0),(Value.int IntKind.i64 0),(Value.int IntKind.i64 0),(Value.int IntKind.i64 0),(Value.int IntKind.i64 0),(Value.int IntKind.i64 0),(Value.slice none 0 0)] [(0,y0),(1,y1)] with | some l=>some (.agg l.toArray,S) | none=>none) from by kernel_rfl]
 simp [vk,splice,qI,h0,h1]
theorem Zd {y0 y1 y2 y3 y4 y5:Value} (h0:y0.cells=#[y0]) (h1:y1.cells=#[y1]) (h2:y2.cells=#[y2]) (h3:y3.cells=#[y3]) (h4:y4.cells=#[y4]) (h5:y5.cells=#[y5]) (S:zn):yg Try.prog 48 [(0,y0),(1,y1),(2,y2),(3,y3),(4,y4),(5,y5)] S=some (.agg [y0,y1,y2,y3,y4,y5,(Value.int IntKind.i64 0),(Value.int IntKind.i64 0),(Value.int IntKind.i64 0),(Value.int IntKind.i64 0),(Value.int IntKind.i64 0),(Value.int IntKind.i64 0),(Value.slice none 0 0)].toArray,S):=by
 rw [show yg Try.prog 48 [(0,y0),(1,y1),(2,y2),(3,y3),(4,y4),(5,y5)] S=(match vk ([(0,1),(1,1),(2,1),(3,1),(4,1),(5,1),(6,2),(8,5)][·]?) [(Value.int IntKind.i64 0),(Value.int IntKind.i64 0),(Value.int IntKind.i64 0),(Value.int IntKind.i64 0),(Value.int IntKind.i64 0),(Value.int IntKind.i64 0),(Value.int IntKind.i64 0),(Value.int IntKind.i64 0),(Value.int IntKind.i64 0),(Value.int IntKind.i64 0),(Value.int IntKind.i64 0),(Value.int IntKind.i64 0),(Value.slice none 0 0)] [(0,y0),(1,y1),(2,y2),(3,y3),(4,y4),(5,y5)] with | some l=>some (.agg l.toArray,S) | none=>none) from by kernel_rfl]
 simp [vk,splice,qI,h0,h1,h2,h3,h4,h5]
theorem Qu {y0 y1 y7_0 y7_1 y7_2 y7_3 y7_4:Value} (h0:y0.cells=#[y0]) (h1:y1.cells=#[y1]) (S:zn):yg Try.prog 48 [(0,y0),(1,y1),(7,.agg [y7_0,y7_1,y7_2,y7_3,y7_4].toArray)] S=some (.agg [y0,y1,(Value.int IntKind.i64 0),(Value.int IntKind.i64 0),(Value.int IntKind.i64 0),(Value.int IntKind.i64 0),(Value.int IntKind.i64 0),(Value.int IntKind.i64 0),y7_0,y7_1,y7_2,y7_3,y7_4].toArray,S):=by
 rw [show yg Try.prog 48 [(0,y0),(1,y1),(7,.agg [y7_0,y7_1,y7_2,y7_3,y7_4].toArray)] S=(match vk ([(0,1),(1,1),(2,1),(3,1),(4,1),(5,1),(6,2),(8,5)][·]?) [(Value.int IntKind.i64 0),(Value.int IntKind.i64 0),(Value.int IntKind.i64 0),(Value.int IntKind.i64 0),(Value.int IntKind.i64 0),(Value.int IntKind.i64 0),(Value.int IntKind.i64 0),(Value.int IntKind.i64 0),(Value.int IntKind.i64 0),(Value.int IntKind.i64 0),(Value.int IntKind.i64 0),(Value.int IntKind.i64 0),(Value.slice none 0 0)] [(0,y0),(1,y1),(7,.agg [y7_0,y7_1,y7_2,y7_3,y7_4].toArray)] with | some l=>some (.agg l.toArray,S) | none=>none) from by kernel_rfl]
 simp [vk,splice,qI,h0,h1]
theorem Z4 {y0 y1 y2:Value} (h0:y0.cells=#[y0]) (h1:y1.cells=#[y1]) (h2:y2.cells=#[y2]) (S:zn):yg Try.prog 62 [(0,y0),(1,y1),(2,y2)] S=some (.agg [y0,y1,y2].toArray,S):=by
 rw [show yg Try.prog 62 [(0,y0),(1,y1),(2,y2)] S=(match vk ([(0,1),(1,1),(2,1)][·]?) [(Value.slice none 0 0),(Value.map none),(Value.map none)] [(0,y0),(1,y1),(2,y2)] with | some l=>some (.agg l.toArray,S) | none=>none) from by kernel_rfl]
 simp [vk,splice,qI,h0,h1,h2]
@[simp] theorem ah8 (k:IntKind) (n:Int) (H:zn):qZ Try.prog 3 5 (.int k n) H=some (.int IntKind.u8 (IntKind.wrap IntKind.u8 n),H):=JY aaB aaq k n
@[simp] theorem Jy (k:IntKind) (n:Int) (H:zn):qZ Try.prog 3 73 (.int k n) H=some (.int IntKind.u64 (IntKind.wrap IntKind.u64 n),H):=JY aaB QE k n
@[simp] theorem Zb (k:IntKind) (n:Int) (H:zn):qZ Try.prog 5 73 (.int k n) H=some (.int IntKind.u64 (IntKind.wrap IntKind.u64 n),H):=JY aaq QE k n
@[simp] theorem Yq (k:IntKind) (n:Int) (H:zn):qZ Try.prog 73 3 (.int k n) H=some (.int IntKind.i64 (IntKind.wrap IntKind.i64 n),H):=JY QE aaB k n
@[simp] theorem ZT (k:IntKind) (n:Int) (H:zn):qZ Try.prog 73 5 (.int k n) H=some (.int IntKind.u8 (IntKind.wrap IntKind.u8 n),H):=JY QE aaq k n
theorem Y2 (S:zn):jH Try.prog 24 0 [] S=some (sv 2 1 0 [],S):=by kernel_rfl
theorem Wn (x0:Int) (S:zn):jH Try.prog 24 1 [(0,.int IntKind.i64 x0)] S=some (sv 2 1 1 [.int IntKind.i64 x0],S):=by kernel_rfl
theorem Y9 (x0 x1:Int) (S:zn):jH Try.prog 24 2 [(0,.int IntKind.i64 x0),(1,.int IntKind.i64 x1)] S=some (sv 2 1 2 [.int IntKind.i64 x0,.int IntKind.i64 x1],S):=by kernel_rfl
theorem vM (S:zn):jH Try.prog 33 0 [] S=some (sv 2 1 0 [],S):=by kernel_rfl
theorem Z8 (x0:Int) (S:zn):jH Try.prog 33 1 [(0,.int IntKind.u8 x0)] S=some (sv 2 1 1 [.int IntKind.u8 x0],S):=by kernel_rfl
theorem Vy (S:zn):jH Try.prog 44 0 [] S=some (sv 2 2 0 [],S):=by kernel_rfl
theorem Zy {k:Nat} {l:List UInt8} {S:zn} (h:Okl k l):Zz Try.prog 33 (by_ k l) S=some (goInt l.length,S):=acs ZQ h
theorem agC {k:Nat} {l:List UInt8} {S:zn} {ki:IntKind} {i:Int} (h:Okl k l) (h0:0≤i) (hi:i < l.length):jo Try.prog 33 (by_ k l) (.int ki i) S=some (EP [.int .u8 (l[i.toNat]'(by omega)).toNat],S):=adV ZQ ab4 adf h h0 hi
theorem KA {fx:Bool} {v:Value} {S:zn}:jf Try.prog fx 5 (EP [v]) S=some (v,S):=Jr ajc
theorem acU {k:Nat} {l:List UInt8} {S:zn} {lo hi:Option Value} {i j:Int} (h:Okl k l) (hlo:Zk 0 lo=some i) (hhi:Zk l.length hi=some j) (h0:0≤i) (hij:i≤j) (hj:j≤l.length):ZL Try.prog 33 (by_ k l) lo hi S=some (by_ (if k=2 then 1 else k) ((l.drop i.toNat).take (j.toNat - i.toNat)),S):=acw ZQ ab4 adf h hlo hhi h0 hij hj
theorem kX {k:Nat} {l:List UInt8} {S:zn} {j:Nat} {m:List UInt8} (h:Okl k l) (hk:k≠1) (hm:Okl j m) (hl:l.length+m.length≤140737488355328):wP Try.prog 33 33 (by_ k l) (by_ j m) S=some (by_ (if k=0∧m.length=0 then 0 else 2) (l++m),S):=KN ZQ ab4 aiS rfl ajr (by omega) ZQ adf ake h hk hm (by omega) (by omega)
theorem aaj {k:Nat} {l:List UInt8} {S:zn} (h:Okl k l) (hl:l.length≤140737488355328):wP Try.prog 33 33 (by_ 2 []) (by_ k l) S=some (by_ 2 l,S):=by
 rw [kX Okl.own (by decide) h (by simpa using hl)];rfl
theorem ahq {k:Nat} {l:List UInt8} {S:zn} (h:Okl k l):wB Try.prog .eql 33 (by_ k l) (.slice none 0 0) S=some (.bool (decide (k=0)),S):=acv ZQ h
theorem Yu {k:Nat} {l:List UInt8} {S:zn} (h:Okl k l):ZO Try.prog 33 9 (by_ k l) S=some (.string ⟨l.toArray⟩,S):=afp ZQ aaq VI h
theorem XL {k:Nat} {l:List Int} {S:zn} (h:Okl k l):Zz Try.prog 24 (iz k l) S=some (goInt l.length,S):=acs QO h
theorem abD {k:Nat} {l:List Int} {S:zn} {ki:IntKind} {i:Int} (h:Okl k l) (h0:0≤i) (hi:i < l.length):jo Try.prog 24 (iz k l) (.int ki i) S=some (EP [.int .i64 (l[i.toNat]'(by omega))],S):=adV QO adJ ahN h h0 hi
theorem ql {fx:Bool} {v:Value} {S:zn}:jf Try.prog fx 3 (EP [v]) S=some (v,S):=Jr ZY
theorem YJ {k:Nat} {l:List Int} {S:zn} {j:Nat} {m:List Int} (h:Okl k l) (hk:k≠1) (hm:Okl j m) (hl:l.length+m.length≤17592186044416):wP Try.prog 24 24 (iz k l) (iz j m) S=some (iz (if k=0∧m.length=0 then 0 else 2) (l++m),S):=KN QO adJ akx rfl akH (by omega) QO ahN ajL h hk hm (by omega) (by omega)
theorem ag0 {k:Nat} {l:List Int} {S:zn} (h:Okl k l):wB Try.prog .eql 24 (iz k l) (.slice none 0 0) S=some (.bool (decide (k=0)),S):=acv QO h
theorem wk:type_of% (ak5 @XD (ak5 @YK (ak5 @Qn (ak5 @Ky (ak5 @XU (ak5 @KC (ak5 @QS (ak5 @QX (ak5 @Qp (ak5 @aaA (ak5 @QT (ak5 @aaV (ak5 @acX (ak5 @Yx (ak5 @XW (ak5 @KJ (ak5 @X7 (ak5 @Kr (ak5 @Kq (ak5 @ah1 (ak5 @ahR (ak5 @aiz (ak5 @ahW (ak5 @aiB (ak5 @abM (ak5 @acj (ak5 @afO (ak5 @afo (ak5 @agt (ak5 @ac6 (ak5 @Qo (ak5 @xC (ak5 @Bool.and_true (ak5 @Bool.true_and (ak5 @Bool.and_self (ak5 @acG (ak5 @ZN (ak5 @Xw (ak5 @aa3 (ak5 @KZ (ak5 @ain (ak5 @aiy (ak5 @ahX (ak5 @aii (ak5 @akm (ak5 @akd (ak5 @ajW (ak5 @ajM (ak5 @ajT (ak5 @ais (ak5 @ahY (ak5 @ahQ (ak5 @ah9 (ak5 @ahT (ak5 @afW (ak5 @Xx (ak5 @Bool.false_eq_true (ak5 @ac5 (ak5 @ae2 (ak5 @XM (ak5 @abe (ak5 @aaO (ak5 @ahZ (ak5 @aaW (ak5 @aie (ak5 @KE (ak5 @aff (ak5 @ac0 (ak5 @XP (ak5 @agk (ak5 @afk (ak5 @acF (ak5 @QI (ak5 @abm (ak5 @aeV (ak5 @XE (ak5 @acQ (ak5 @Vw (ak5 @adi (ak5 @KW (ak5 @aaL (ak5 @abl (ak5 @Xy (ak5 @YE (ak5 @WV (ak5 @KY (ak5 @Jp (ak5 @YZ (ak5 @XA (ak5 @WU (ak5 @WT (ak5 @W9 (ak5 @VF (ak5 @Vl (ak5 @YH (ak5 @aar (ak5 @Vs (ak5 @VT (ak5 @VE (ak5 @Vb (ak5 @Vz (ak5 @agm (ak5 @Bool.not_true (ak5 @Bool.not_false (ak5 @Bool.true_eq_false (ak5 @decide_true (ak5 @decide_false (ak5 @aeO (ak5 @aeR (ak5 @afd (ak5 @afs (ak5 @agd (ak5 @agc (ak5 @afA (ak5 @ae6 (ak5 @aeZ (ak5 @afc (ak5 @aen (ak5 @afr (ak5 @afE (ak5 @afY (@ae0)))))))))))))))))))))))))))))))))))))))))))))))))))))))))))))))))))))))))))))))))))))))))))))))))))))))))))))))))))))))))):=ak5 @XD (ak5 @YK (ak5 @Qn (ak5 @Ky (ak5 @XU (ak5 @KC (ak5 @QS (ak5 @QX (ak5 @Qp (ak5 @aaA (ak5 @QT (ak5 @aaV (ak5 @acX (ak5 @Yx (ak5 @XW (ak5 @KJ (ak5 @X7 (ak5 @Kr (ak5 @Kq (ak5 @ah1 (ak5 @ahR (ak5 @aiz (ak5 @ahW (ak5 @aiB (ak5 @abM (ak5 @acj (ak5 @afO (ak5 @afo (ak5 @agt (ak5 @ac6 (ak5 @Qo (ak5 @xC (ak5 @Bool.and_true (ak5 @Bool.true_and (ak5 @Bool.and_self (ak5 @acG (ak5 @ZN (ak5 @Xw (ak5 @aa3 (ak5 @KZ (ak5 @ain (ak5 @aiy (ak5 @ahX (ak5 @aii (ak5 @akm (ak5 @akd (ak5 @ajW (ak5 @ajM (ak5 @ajT (ak5 @ais (ak5 @ahY (ak5 @ahQ (ak5 @ah9 (ak5 @ahT (ak5 @afW (ak5 @Xx (ak5 @Bool.false_eq_true (ak5 @ac5 (ak5 @ae2 (ak5 @XM (ak5 @abe (ak5 @aaO (ak5 @ahZ (ak5 @aaW (ak5 @aie (ak5 @KE (ak5 @aff (ak5 @ac0 (ak5 @XP (ak5 @agk (ak5 @afk (ak5 @acF (ak5 @QI (ak5 @abm (ak5 @aeV (ak5 @XE (ak5 @acQ (ak5 @Vw (ak5 @adi (ak5 @KW (ak5 @aaL (ak5 @abl (ak5 @Xy (ak5 @YE (ak5 @WV (ak5 @KY (ak5 @Jp (ak5 @YZ (ak5 @XA (ak5 @WU (ak5 @WT (ak5 @W9 (ak5 @VF (ak5 @Vl (ak5 @YH (ak5 @aar (ak5 @Vs (ak5 @VT (ak5 @VE (ak5 @Vb (ak5 @Vz (ak5 @agm (ak5 @Bool.not_true (ak5 @Bool.not_false (ak5 @Bool.true_eq_false (ak5 @decide_true (ak5 @decide_false (ak5 @aeO (ak5 @aeR (ak5 @afd (ak5 @afs (ak5 @agd (ak5 @agc (ak5 @afA (ak5 @ae6 (ak5 @aeZ (ak5 @afc (ak5 @aen (ak5 @afr (ak5 @afE (ak5 @afY (@ae0)))))))))))))))))))))))))))))))))))))))))))))))))))))))))))))))))))))))))))))))))))))))))))))))))))))))))))))))))))))))))
theorem zSs:type_of% (ak5 wk (ak5 (@List.getD_cons_succ Value) (ak5 (@List.getD_cons_zero Value) (ak5 @if_true.{1} (ak5 @if_false.{1} (ak5 (@List.getElem?_cons_succ Value) (ak5 (@List.getElem?_cons_zero Value) (ak5 @Option.map_some.{0,0} @eq_self.{1})))))))):=ak5 wk (ak5 (@List.getD_cons_succ Value) (ak5 (@List.getD_cons_zero Value) (ak5 @if_true.{1} (ak5 @if_false.{1} (ak5 (@List.getElem?_cons_succ Value) (ak5 (@List.getElem?_cons_zero Value) (ak5 @Option.map_some.{0,0} @eq_self.{1})))))))
end Go.Proofs.Ytfjogganfjkckaa
namespace Go.Proofs.Ytfjogganfjkckaa
open Go.Abs
theorem bz0 (S:zn):jH Try.prog 24 0 [] S=some (iz 2 [],S):=by rw [Y2];rfl
theorem ahg (x:Int):sv 2 1 1 [.int .i64 x]=iz 2 [x]:=rfl
theorem af4 {k:Nat} {l:List Int} {x:Int} {S:zn} (h:Okl k l) (hk:k≠1) (hl:l.length≤17592186044000):wP Try.prog 24 24 (iz k l) (iz 2 [x]) S=some (iz 2 (l++[x]),S):=by
 rw [YJ h hk Okl.own (by simp;omega),if_neg (fun h=>by have:=h.2;simp at this)]
end Go.Proofs.Ytfjogganfjkckaa
