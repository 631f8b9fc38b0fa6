/-
The law GateMarks returns true for every input, and leaves it as it was; no condition. Part 3 of 7 of the texts (put together by a program: own names are short, what isn't needed is left out).
-/
import Derived.Test.YtfjogganfjkckaaZGateMarks2
import Derived.KernelRfl
import Derived.Test.YtfjogganfjkckaaChecked
set_option linter.unusedVariables false
set_option linter.unusedSimpArgs false
set_option maxRecDepth 100000
open Go renaming undef → zh
open Go.Proofs.Try renaming prog → zi
namespace Go.Abs
open Go.RowKit
def QK (P:Program) (call:FuncId→List Value→M Value):Prop:=∀ g args aargs S v S',call g args S=some (v,S')→∀ μ H ω,GI μ S H→L0 μ H args aargs→Dom μ H ω→(∀ r s,ω r=some s→s=.ext) →
 ∃ a H' μ' ω',lim P g aargs H=some (a,H')∧GI μ' S' H'∧Later μ H μ' H'∧Kept ω H ω' H'∧Dom μ' H' ω'∧VV μ' H' ω' (some (.res none)) v a
section
variable {P:Program} {call:FuncId→List Value→M Value} {μ:Mu} {ω:Nat→Option kW} {S S' H:zx} {T A:List Value}
theorem aij (hc:QK P call) {g:FuncId} {args aargs:List Value} {v:Value} (hG:GI μ S H) (hT:TI μ H ω T A) (h:call g args S=some (v,S')) (ha:L0 μ H args aargs):Out μ ω H A T S' v (lim P g aargs H):=by
 obtain ⟨a,H',μ',ω',h1,h2,h3,h4,h5,h6⟩:=hc g args aargs S v S' h μ H (fun r=>(ω r).map fun _=>.ext) hG ha (fun r s hs=>by
  cases hr:ω r with
  | none=>simp [hr] at hs
  | some s0=>exact hT.dom r s0 hr) (fun r s hs=>by
  cases hr:ω r with
  | none=>simp [hr] at hs
  | some s0=>simp [hr] at hs;exact hs.symm)
 have kept:∀ r s,ω r=some s→ω' r=some .ext∧H'.get r=H.get r:=fun r s hs=>h4 r (by dsimp only;rw [hs];rfl)
 refine ⟨a,H',μ',fun r=>match ω' r with | some .ext=>ω r | some (.slot _ _)=>none | x=>x,h1,h2,h3,fun r hr=>?_,fun r s hs=>?_,hT.len,fun i=>?_,?_⟩
 ·
  obtain ⟨k1,k2⟩:=kept r _ hr
  exact ⟨by (try dsimp only);rw [k1];exact hr,k2⟩
 ·
  dsimp only at hs
  cases hr:ω' r with
  | none=>rw [hr] at hs;cases hs
  | some s0 =>
   have:=h5 r s0 hr
   exact this
 ·
  refine (hT.slots i).later h3 (K:=fun _=>True) (fun _ _ _ _ _=>trivial) (fun r s _ hr=>?_) (fun _ _=>trivial)
  obtain ⟨k1,k2⟩:=kept r s hr
  exact ⟨by (try dsimp only);rw [k1];exact hr,k2⟩
 ·
  refine h6.later (Later.refl _ _) (K:=fun s=>∃ j,s=.res j) (fun s i t ⟨j,hj⟩ ht=>by subst hj;cases j <;> cases ht;exact ⟨_,rfl⟩) (fun r s ⟨j,hj⟩ hr=>?_) (fun s hs=>by cases hs;exact ⟨_,rfl⟩)
  subst hj
  exact ⟨by (try dsimp only);rw [hr],rfl⟩
def Y4 (t:Nat):kW→Option kW
 | .slot i j=>if i=t then some (.res j) else some (.slot i j)
 | s=>some s
def QW (t k:Nat):kW→Option kW
 | .slot i (some j)=>if i=t∧j=k then some (.res none) else some (.slot i (some j))
 | s=>some s
theorem ada {x:Operand} (hG:GI μ S H) (hT:TI μ H ω T A) (hx:vT x=true):Out μ ω H A (kE T x) S (wJ T x) (some (wJ A x,H)):=by
 cases x with
 | const v=>exact Out.same hG hT (VV.kG hx)
 | global g=>cases hx
 | func f=>exact Out.same hG hT (hT.eval (x:=.func f) rfl)
 | tmp t =>
  refine ⟨_,H,μ,fun r=>(ω r).bind (Y4 t),rfl,hG,Later.refl μ H,fun r hr=>⟨by dsimp only;rw [hr];rfl,rfl⟩,fun r s hs=>?_,by simp [kE,vN,hT.len],fun i=>?_,?_⟩
  ·
   dsimp only at hs
   cases hr:ω r with
   | none=>rw [hr] at hs;cases hs
   | some s0=>exact hT.dom r s0 hr
  ·
   dsimp only [kE,vN]
   rw [xg]
   by_cases hi:i=t
   ·
    subst hi
    by_cases hlt:i < T.length
    ·
     rw [if_pos ⟨rfl,hlt⟩]
     exact (hT.slots i).v0.at0
    ·
     rw [if_neg (fun h=>hlt h.2)]
     rw [List.getD_eq_getElem?_getD,List.getElem?_eq_none (Nat.le_of_not_lt hlt),List.getD_eq_getElem?_getD,List.getElem?_eq_none (by rw [← hT.len];omega)]
     exact .nores
   ·
    rw [if_neg (fun h=>hi h.1)]
    refine (hT.slots i).VU (fun _=>rfl) _ (fun s hs=>?_)
    cases hs
    refine ⟨_,rfl,by simp only [Y4];rw [if_neg hi],fun k t' ht=>?_⟩
    cases ht
    exact ⟨_,rfl,by simp only [Y4];rw [if_neg hi]⟩
  ·
   refine (hT.slots t).VU (fun _=>rfl) _ (fun s hs=>?_)
   cases hs
   refine ⟨_,rfl,by simp only [Y4,if_true],fun k t' ht=>?_⟩
   cases ht
   exact ⟨_,rfl,by simp only [Y4,if_true]⟩
theorem getD_modify (vs:Array Value) (i k:Nat) (f:Value→Value) (hf:f zh=zh):(vs.modify i f).getD k zh=if k=i then f (vs.getD k zh) else vs.getD k zh:=by
 rw [Array.getD_eq_getD_getElem?,Array.getD_eq_getD_getElem?,Array.getElem?_modify]
 by_cases h:i=k
 ·
  subst h
  rw [if_pos rfl,if_pos rfl]
  cases vs[i]? with
  | none=>exact hf.symm
  | some v=>rfl
 ·
  rw [if_neg h,if_neg (fun e=>h e.symm)]
theorem VV.part {ω':Nat→Option kW} {ℓ ℓ':Option kW} {v a:Value} (h:VV μ H ω ℓ v a) (hℓ:∀ s,ℓ=some s→∀ k,s.comp k=none):VV μ H ω' ℓ' (Go.Abs.vX v) a:=by
 by_cases ht:∃ x,v=.tuple x
 ·
  obtain ⟨x,rfl⟩:=ht
  show VV μ H ω' ℓ' (.tuple x) a
  cases h with
  | sg hs=>simp [Go.Abs.sg] at hs
  | nores=>exact .nores
  | tuple hx hh =>
   refine .tuple hx fun i=>?_
   have:=hh i
   cases ℓ with
   | none=>exact this.at0
   | some s =>
    have e:(some s).bind (·.comp i)=none:=hℓ s rfl i
    rw [e] at this
    exact this.at0
 ·
  have e:Go.Abs.dem v=Go.Abs.vX v:=by
   cases v <;> first | rfl | exact absurd ⟨_,rfl⟩ ht
  rw [← e]
  exact h.v0.at0
def Qk (T:List Value) (i:Nat):Operand→List Value
 | .tmp t=>T.set t (zV i (T.getD t zh))
 | _=>T
theorem ab4 {x:Operand} {i:Nat} {v:Value} (hG:GI μ S H) (hT:TI μ H ω T A) (hx:vT x=true) (h:zZ (wJ T x) i S=some (v,S')) :
  Out μ ω H A (Qk T i x) S' v (zZ (wJ A x) i H):=by
 cases x with
 | const w =>
  exfalso
  unfold zZ at h
  split at h
  ·
   rename_i vs he
   simp only [wJ] at he
   subst he
   simp [vT,ground,Go.Abs.sg] at hx
  ·
   cases h
 | global g=>cases hx
 | func f=>simp [wJ,zZ] at h
 | tmp t =>
  simp only [wJ,Qk] at h ⊢
  unfold zZ at h
  split at h
  ·
   rename_i vs hvs
   split at h <;> first | (cases h;done) | skip
   rename_i w hw
   cases h
   have hs:=hT.slots t
   rw [hvs] at hs
   have hil:i < vs.size:=(Array.getElem?_eq_some_iff.1 hw).1
   have hlt:t < T.length:=by
    rcases Nat.lt_or_ge t T.length with h | h
    ·
     exact h
    ·
     rw [List.getD_eq_getElem?_getD,List.getElem?_eq_none h] at hvs
     cases hvs
     simp at hil
   generalize hA:A.getD t zh=at' at hs
   cases hs with
   | sg hs=>simp [Go.Abs.sg] at hs
   | nores=>simp at hil
   | @tuple _ _ y hxs hxx =>
    have hiy:i < y.size:=by rw [← hxs];exact hil
    have hrun:zZ (.tuple y) i H=some (y[i],H):=by simp only [zZ,Array.getElem?_eq_getElem hiy]
    rw [hrun]
    have hcomp:=hxx i
    rw [Array.getD_eq_getD_getElem?,hw,Array.getD_eq_getD_getElem?,Array.getElem?_eq_getElem hiy] at hcomp
    simp only [Option.getD_some] at hcomp
    refine ⟨_,H,μ,fun r=>(ω r).bind (QW t i),rfl,hG,Later.refl μ H,fun r hr=>⟨by dsimp only;rw [hr];rfl,rfl⟩,fun r s hs=>?_,by simp [hT.len],fun k=>?_,?_⟩
    ·
     dsimp only at hs
     cases hr:ω r with
     | none=>rw [hr] at hs;cases hs
     | some s0=>exact hT.dom r s0 hr
    ·
     rw [xg]
     by_cases hk:k=t
     ·
      subst hk
      rw [if_pos ⟨rfl,hlt⟩,hA,hvs]
      simp only [zV]
      refine .tuple (by simpa using hxs) fun j=>?_
      rw [getD_modify _ _ _ _ rfl]
      by_cases hj:j=i
      ·
       subst hj
       rw [if_pos rfl]
       exact (hxx j).part (fun s hs k=>by cases hs;rfl)
      ·
       rw [if_neg hj]
       refine (hxx j).VU (fun _=>rfl) _ (fun s hs=>?_)
       cases hs
       refine ⟨_,rfl,by simp only [QW];rw [if_neg (fun e=>hj e.2)],fun a b hb=>by cases hb⟩
     ·
      rw [if_neg (fun e=>hk e.1)]
      refine (hT.slots k).VU (fun _=>rfl) _ (fun s hs=>?_)
      cases hs
      refine ⟨_,rfl,rfl,fun a b hb=>?_⟩
      cases hb
      exact ⟨_,rfl,by simp only [QW];rw [if_neg (fun e=>hk e.1)]⟩
    ·
     refine hcomp.VU (fun _=>rfl) _ (fun s hs=>?_)
     cases hs
     exact ⟨_,rfl,by simp [QW],fun a b hb=>by cases hb⟩
  ·
   cases h
theorem aj1 (hT:TI μ H ω T A):∀ (xs:List Operand),xs.all vT=true→L0 μ H (xs.map fun x=>dem (wJ T x)) (xs.map (wJ A)):=by
 intro xs h
 exact LV.map fun x hx=>hT.eval (List.all_eq_true.1 h x hx)
theorem Xk {xs:List Operand} (hT:TI μ H ω T A) (h:xs.all vT=true) (hg:(xs.map (wJ T)).all ground=true):xs.map (wJ A)=xs.map (wJ T):=by
 apply List.map_congr_left
 intro x hx
 exact yg (hT.eval (List.all_eq_true.1 h x hx)) (List.all_eq_true.1 hg _ (List.mem_map.2 ⟨x,hx,rfl⟩))
theorem ais {o:Oper} (h:hands o=false) (hc:∀ c,o.op≠.call c):moved o T=T:=by
 unfold moved
 unfold hands at h
 split <;> first | rfl | (rename_i he;exact absurd he (hc _)) | (rename_i he;rw [he] at h;cases h)
theorem aia {fx:Fx} (hc:QK P call) {o:Oper} {v:Value} (hG:GI μ S H) (hT:TI μ H ω T A) (h:kD P fx call T o S=some (v,S')):Out μ ω H A (moved o T) S' v (kK P (lim P) A o H):=by
 unfold kD at h
 split at h <;> first | (cases h;done) | skip
 rename_i hok
 unfold kK
 rw [if_pos hok]
 have hargs:o.op.operands.toList.all vT=true:=hok
 have hev:∀ x ∈ o.op.operands.toList,V0 μ H (dem (wJ T x)) (wJ A x):=fun x hx=>hT.eval (List.all_eq_true.1 hargs x hx)
 have hoka:∀ x ∈ o.op.operands.toList,vT x=true:=fun x hx=>List.all_eq_true.1 hargs x hx
 obtain ⟨dst,op,type,pos,after,guard⟩:=o
 by_cases hcall:∃ c,op=.call c
 ·
  obtain ⟨c,rfl⟩:=hcall
  dsimp only at h hev hoka hargs ⊢
  have hcargs:c.args.toList.all vT=true:=by
   rw [List.all_eq_true]
   intro x hx
   refine hoka x ?_
   simp only [Op.operands,Call.operands]
   cases c.callee <;> simp <;> first | exact .inr (by simpa using hx) | exact (by simpa using hx)
  cases hcal:c.callee with
  | value f =>
   rw [hcal] at h
   dsimp only at h ⊢
   have hf:=hev f (by simp [Op.operands,Call.operands,hcal])
   split at h <;> first | (cases h;done) | skip
   rename_i g first captured hfe
   rw [hfe] at hf
   have hf:V0 μ H (.func (.func g) first captured) (wJ A f):=hf
   generalize hfa:wJ A f=fa at hf
   cases hf with
   | sg hs=>simp [Go.Abs.sg] at hs
   | func _ hx hcs h1 h2 =>
    rename_i x' c'
    dsimp only
    have l1:L0 μ H first.toList x'.toList:=⟨by simpa using hx,fun i=>by rw [getD_toList,getD_toList];exact h1 i⟩
    have l2:L0 μ H captured.toList c'.toList:=⟨by simpa using hcs,fun i=>by rw [getD_toList,getD_toList];exact h2 i⟩
    have hm:moved ⟨dst,.call c,type,pos,after,guard⟩ T=T:=by simp only [moved,hcal]
    rw [hm]
    exact aij hc hG hT h ((l1.append (aj1 hT _ hcargs)).append l2)
  | invoke r m=>rw [hcal] at h;cases h
  | builtin b =>
   rw [hcal] at h
   dsimp only at h ⊢
   unfold aaj at h
   unfold ZF
   cases b <;> dsimp only at h ⊢ <;> first | (cases h;done) | skip
   case len =>
    split at h <;> first | (cases h;done) | skip
    rename_i t x0 ht ha
    obtain ⟨x,hx,rfl⟩:∃ x,c.args.toList=[x]∧wJ T x=x0:=by
     match hl:c.args.toList with
     | []=>rw [hl] at ha;cases ha
     | [y]=>rw [hl] at ha;simp at ha;exact ⟨y,rfl,ha⟩
     | y::z::w=>rw [hl] at ha;simp at ha
    have hm:moved ⟨dst,.call c,type,pos,after,guard⟩ T=T:=by simp only [moved,hcal]
    rw [hm,ht,hx]
    rw [hx] at hcargs
    obtain ⟨rfl,a,h1,h2⟩:=agh h (hT.eval (List.all_eq_true.1 hcargs x (by simp)))
    simp only [List.map_cons,List.map_nil]
    rw [h1]
    exact Out.same hG hT h2
   case append =>
    split at h <;> first | (cases h;done) | skip
    rename_i t tx s0 x0 ht ha
    obtain ⟨so,x,hx,rfl,rfl⟩:∃ so x,c.args.toList=[so,x]∧wJ T so=s0∧wJ T x=x0:=by
     match hl:c.args.toList with
     | []=>rw [hl] at ha;cases ha
     | [y]=>rw [hl] at ha;simp at ha
     | [y,z]=>rw [hl] at ha;simp at ha;exact ⟨y,z,rfl,ha.1,ha.2⟩
     | y::z::w::u=>rw [hl] at ha;simp at ha
    rw [hx] at hcargs
    have hso:=List.all_eq_true.1 hcargs so (by simp)
    have hm:moved ⟨dst,.call c,type,pos,after,guard⟩ T=kE T so:=by
     simp only [moved,hcal,hx]
     cases so <;> rfl
    rw [hm,ht,hx]
    exact aem hG hT hso h (hT.eval (List.all_eq_true.1 hcargs x (by simp)))
   case copy =>
    split at h <;> first | (cases h;done) | skip
    rename_i t tx s0 x0 ht ha
    obtain ⟨so,x,hx,rfl,rfl⟩:∃ so x,c.args.toList=[so,x]∧wJ T so=s0∧wJ T x=x0:=by
     match hl:c.args.toList with
     | []=>rw [hl] at ha;cases ha
     | [y]=>rw [hl] at ha;simp at ha
     | [y,z]=>rw [hl] at ha;simp at ha;exact ⟨y,z,rfl,ha.1,ha.2⟩
     | y::z::w::u=>rw [hl] at ha;simp at ha
    rw [hx] at hcargs
    have hm:moved ⟨dst,.call c,type,pos,after,guard⟩ T=T:=by simp only [moved,hcal]
    rw [hm,ht,hx]
    exact aiv hG hT h (hT.eval (List.all_eq_true.1 hcargs so (by simp))) (hT.eval (List.all_eq_true.1 hcargs x (by simp)))
   case clear =>
    split at h <;> first | (cases h;done) | skip
    rename_i t x0 ht ha
    obtain ⟨x,hx,rfl⟩:∃ x,c.args.toList=[x]∧wJ T x=x0:=by
     match hl:c.args.toList with
     | []=>rw [hl] at ha;cases ha
     | [y]=>rw [hl] at ha;simp at ha;exact ⟨y,rfl,ha⟩
     | y::z::w=>rw [hl] at ha;simp at ha
    have hm:moved ⟨dst,.call c,type,pos,after,guard⟩ T=T:=by simp only [moved,hcal]
    rw [hm,ht,hx]
    rw [hx] at hcargs
    exact afe hG hT h (hT.eval (List.all_eq_true.1 hcargs x (by simp)))
   case min =>
    obtain ⟨rfl,hg,hga,hh⟩:=qU (H:=H) h
    have hm:moved ⟨dst,.call c,type,pos,after,guard⟩ T=T:=by simp only [moved,hcal]
    rw [hm,Xk hT hcargs hga,hh]
    exact Out.same hG hT (V0.ground hg)
   case max =>
    obtain ⟨rfl,hg,hga,hh⟩:=qU (H:=H) h
    have hm:moved ⟨dst,.call c,type,pos,after,guard⟩ T=T:=by simp only [moved,hcal]
    rw [hm,Xk hT hcargs hga,hh]
    exact Out.same hG hT (V0.ground hg)
 ·
  have hnc:∀ c,op≠.call c:=fun c hc=>hcall ⟨c,hc⟩
  have hV:vOp P fx (wJ T) ⟨dst,op,type,pos,after,guard⟩ S=some (v,S'):=by
   cases op <;> first | exact h | exact absurd rfl (hnc _)
  suffices hs:Out μ ω H A (moved ⟨dst,op,type,pos,after,guard⟩ T) S' v (aOp P (wJ A) ⟨dst,op,type,pos,after,guard⟩ H) by
   cases op <;> first | exact hs | exact absurd rfl (hnc _)
  by_cases hh:hands ⟨dst,op,type,pos,after,guard⟩=true
  ·
   cases op <;> first | (cases hh;done) | skip
   case move x =>
    cases hV
    have:=ada hG hT (hoka x (by simp [Op.operands]))
    have hm:moved ⟨dst,.move x,type,pos,after,guard⟩ T=kE T x:=by cases x <;> rfl
    rw [hm];exact this
   case assign x =>
    cases hV
    have:=ada hG hT (hoka x (by simp [Op.operands]))
    have hm:moved ⟨dst,.assign x,type,pos,after,guard⟩ T=kE T x:=by cases x <;> rfl
    rw [hm];exact this
   case extract x i =>
    have:=ab4 hG hT (hoka x (by simp [Op.operands])) hV
    have hm:moved ⟨dst,.extract x i,type,pos,after,guard⟩ T=(Qk T i x):=by cases x <;> rfl
    rw [hm];exact this
  ·
   have hh:hands ⟨dst,op,type,pos,after,guard⟩=false:=by simpa using hh
   rw [ais hh hnc]
   by_cases hch:Wi P ⟨dst,op,type,pos,after,guard⟩=false
   ·
    obtain ⟨rfl,a,h1,h2,h3⟩:=abP hV hch hev (.inr hG) (.inr hG)
    rw [h1]
    exact Out.same hG hT (h3 hh)
   ·
    unfold vOp at hV
    unfold aOp
    cases op <;> dsimp only at hV hev ⊢ <;> first | (cases hV;done) | (exact absurd rfl hch) | (cases hh;done) | skip
    case alloc e=>exact ae4 hG hT hV
    case box x _=>exact ajS hG hT hV (hev x (by simp [Op.operands]))
    case buildSlice t len parts _ =>
     have hps:=abS (μ:=μ) (H:=H) (parts:=parts.toList) (ρ:=wJ T) (ρA:=wJ A) fun p hp=>hev p.2 (by simp [Op.operands];exact ⟨p.1,by simpa using hp⟩)
     split at hV
     ·
      exact abQ hG hT hV hps
     ·
      exact XC hG hT hV hps
    case makeMap t r _=>exact acM hG hT hV (fun h=>by cases r <;> simp at h ⊢)
    case mapUpdate t x k w _=>exact aaO hG hT hV (hev x (by simp [Op.operands])) (hev k (by simp [Op.operands])) (hev w (by simp [Op.operands]))
    case store a x _=>exact afj hG hT hV (hev a (by simp [Op.operands])) (hev x (by simp [Op.operands]))
    case makeSlice l c _ =>
     split at hV
     ·
      exact aco hG hT hV (hev l (by simp [Op.operands])) (hev c (by simp [Op.operands]))
     ·
      exact aaV hG hT hV (hev l (by simp [Op.operands])) (hev c (by simp [Op.operands]))
    case convert dst' x _ =>
     have hd:∃ e,P.underlying dst'=some (.slice e):=by
      unfold Wi at hch
      dsimp only at hch
      split at hch
      ·
       exact ⟨_,by assumption⟩
      ·
       exact absurd rfl hch
     obtain ⟨e,hd⟩:=hd
     cases x with
     | tmp t=>exact Ko hG hT hV (hT.slots t) hd
     | const w=>exact Ko hG hT hV (VV.kG (ℓ:=none) (hoka (.const w) (by simp [Op.operands]))) hd
     | global g=>have:=hoka (.global g) (by simp [Op.operands]);cases this
     | func f=>exact Ko hG hT hV (ℓ:=none) ((hT.eval (x:=.func f) rfl).at0) hd
theorem agC {ops:Array Oper} (hT:TI μ H ω T A) (j:Nat):ynd ops T j=ynd ops A j:=by
 unfold ynd
 cases hd:(ops[j]?).bind (·.dst) with
 | none=>rfl
 | some d =>
  simp only [Option.bind_some]
  have:=hT.slots d
  have e:=hT.len
  by_cases hlt:d < T.length
  ·
   have hlt':d < A.length:=by rw [← e];exact hlt
   simp only [List.getD_eq_getElem?_getD,List.getElem?_eq_getElem hlt,List.getElem?_eq_getElem hlt',Option.getD_some] at this
   rw [List.getElem?_eq_getElem hlt,List.getElem?_eq_getElem hlt']
   generalize T[d]=u at *
   generalize A[d]=u' at *
   cases this <;> rfl
  ·
   have hlt':A.length≤d:=by rw [← e];exact Nat.le_of_not_lt hlt
   rw [List.getElem?_eq_none (Nat.le_of_not_lt hlt),List.getElem?_eq_none hlt']
theorem TI.moved (hT:TI μ H ω T A) (o:Oper):TI μ H ω (moved o T) A:=by
 have slot:∀ t,TI μ H ω (vN T t) A:=by
  intro t
  refine ⟨by simp [vN,hT.len],fun i=>?_,hT.dom,hT.nores⟩
  rw [vN,xg]
  split
  ·
   rename_i h;rw [h.1];exact (hT.slots t).dem
  ·
   exact hT.slots i
 unfold Go.Abs.moved
 split
 ·
  exact slot _
 ·
  exact slot _
 ·
  rename_i t i _
  refine ⟨by simp [hT.len],fun k=>?_,hT.dom,hT.nores⟩
  rw [xg]
  split
  ·
   rename_i h
   rw [h.1]
   have:=hT.slots t
   generalize T.getD t zh=w at this
   cases w with
   | tuple vs =>
    simp only [zV]
    generalize A.getD t zh=a at this
    cases this with
    | sg hs=>simp [Go.Abs.sg] at hs
    | nores=>rw [show (#[]:Array Value).modify i Go.Abs.vX=#[] by simp];exact .nores
    | @tuple _ _ y hxs hxx =>
     refine .tuple (by simpa using hxs) fun j=>?_
     rw [getD_modify _ _ _ _ rfl]
     by_cases hj:j=i
     ·
      subst hj
      rw [if_pos rfl]
      exact (hxx j).part (fun s hs k=>by cases hs;rfl)
     ·
      rw [if_neg hj];exact hxx j
   | _=>exact this
  ·
   exact hT.slots k
 ·
  split
  ·
   exact slot _
  ·
   exact hT
 ·
  exact hT
def After (μ:Mu) (ω:Nat→Option kW) (H:zx) (T':List Value) (S':zx) (R:Option (List Value×zx)):Prop :=
 ∃ A' H' μ' ω',R=some (A',H')∧GI μ' S' H'∧Later μ H μ' H'∧Kept ω H ω' H'∧TI μ' H' ω' T' A'
theorem adh {fx:Fx} (hc:QK P call) {o:Oper} {rest:List Oper} {v:Value} (hG:GI μ S H) (hT:TI μ H ω T A) (h:kD P fx call T o S=some (v,S')) :
  ∃ a H' μ' ω',kK P (lim P) A o H=some (a,H')∧GI μ' S' H'∧Later μ H μ' H'∧Kept ω H ω' H'∧TI μ' H' ω' (JB o rest T v) (YZ A o.dst a):=by
 unfold JB
 split
 ·
  rename_i hl
  have hm:∃ x,o.op=.move x:=by
   unfold alL at hl
   split at hl
   ·
    rename_i x _ he _;exact ⟨x,he⟩
   ·
    cases hl
  obtain ⟨x,hx⟩:=hm
  unfold kD at h
  split at h <;> first | (cases h;done) | skip
  rename_i hok
  have hox:vT x=true:=List.all_eq_true.1 (show o.op.operands.toList.all vT=true from hok) x (by rw [hx];simp [Op.operands])
  rw [hx] at h
  dsimp only at h
  unfold vOp at h
  rw [hx] at h
  cases h
  have ha:kK P (lim P) A o H=some (wJ A x,H):=by
   unfold kK
   rw [if_pos hok,hx]
   dsimp only
   unfold aOp
   rw [hx]
   rfl
  rw [ha]
  exact (Out.same hG hT (hT.eval hox)).put o.dst
 ·
  exact (aia hc hG hT h).put o.dst
theorem Qv {o:Oper} {rest:List Oper} (hG:GI μ S H) (hT:TI μ H ω T A):∃ μ' ω',GI μ' S H∧Later μ H μ' H∧Kept ω H ω' H∧TI μ' H ω' (JB o rest T zh) (YZ A o.dst zh):=by
 unfold JB
 split
 ·
  rw [show dem zh=zh from Wq]
  obtain ⟨a,H1,μ1,ω1,h1,h2,h3,h4,h5⟩:=(Out.same hG hT (VV.zh)).put o.dst
  cases h1
  exact ⟨μ1,ω1,h2,h3,h4,h5⟩
 ·
  obtain ⟨a,H1,μ1,ω1,h1,h2,h3,h4,h5⟩:=(Out.same hG (hT.moved o) (VV.zh)).put o.dst
  cases h1
  exact ⟨μ1,ω1,h2,h3,h4,h5⟩
theorem akf {fx:Fx} (hc:QK P call) {ops:Array Oper}:∀ (l:List Oper) (T T' A:List Value) (S S' H:zx) (μ:Mu) (ω:Nat→Option kW),jF P fx call ops l T S=some (T',S')→GI μ S H→TI μ H ω T A→After μ ω H T' S' (abW P (lim P) ops l A H):=by
 intro l
 induction l with
 | nil =>
  intro T T' A S S' H μ ω h hG hT
  simp only [jF,Option.some.injEq,Prod.mk.injEq] at h
  obtain ⟨rfl,rfl⟩:=h
  exact ⟨A,H,μ,ω,rfl,hG,Later.refl _ _,Kept.refl _ _,hT⟩
 | cons o l ih =>
  intro T T' A S S' H μ ω h hG hT
  have hy:(ynd ops T)=ynd ops A:=funext fun j=>agC hT j
  simp only [jF] at h
  simp only [abW,← hy]
  split at h
  ·
   rename_i hw
   split at h
   ·
    rename_i v S1 hs
    obtain ⟨a,H1,μ1,ω1,h1,h2,h3,h4,h5⟩:=adh (rest:=l) hc hG hT hs
    obtain ⟨A2,H2,μ2,ω2,k1,k2,k3,k4,k5⟩:=ih _ _ _ _ _ _ _ _ h h2 h5
    refine ⟨A2,H2,μ2,ω2,?_,k2,h3.trans k3,h4.trans k4,k5⟩
    rw [if_pos hw,h1]
    exact k1
   ·
    cases h
  ·
   rename_i hw
   obtain ⟨μ1,ω1,h2,h3,h4,h5⟩:=Qv (o:=o) (rest:=l) hG hT
   obtain ⟨A2,H2,μ2,ω2,k1,k2,k3,k4,k5⟩:=ih _ _ _ _ _ _ _ _ h h2 h5
   refine ⟨A2,H2,μ2,ω2,?_,k2,h3.trans k3,h4.trans k4,k5⟩
   rw [if_neg hw]
   exact k1
end
end Go.Abs
namespace Go.Abs
open Go.RowKit
section
variable {P:Program} {call:FuncId→List Value→M Value} {μ μ2:Mu} {S S' G H H2:zx} {T A:List Value}
theorem Wj.two {s:M Value} (hs:Wj s) {a:Value} {G':zx} (h:s G=some (a,G')):∀ H,s H=some (a,H):=by
 obtain ⟨o,ho⟩:=hs
 rw [ho] at h
 cases o with
 | none=>cases h
 | some w =>
  simp only [Option.map_some,Option.some.injEq,Prod.mk.injEq] at h
  intro H
  rw [ho,h.1];rfl
theorem abZ {t:TypeId} {ps:List (Nat×Value)}:Wj (yw P t ps):=by
 refine ⟨(yw P t ps zx.empty).map (·.1),fun H=>?_⟩
 unfold yw
 split
 ·
  split
  ·
   split
   ·
    split
    ·
     split <;> rfl
    ·
     rfl
   ·
    split
    ·
     split <;> rfl
    ·
     rfl
   ·
    rfl
  ·
   rfl
 ·
  rfl
theorem XM {x:Value}:Wj (ZK x):=by
 refine ⟨(ZK x zx.empty).map (·.1),fun H=>?_⟩
 unfold ZK
 split <;> rfl
theorem acW {t:TypeId} {x i:Value}:Wj (Jo P t x i):=by
 unfold Jo
 refine ⟨(Jo P t x i zx.empty).map (·.1),fun H=>?_⟩
 unfold Jo
 dsimp only
 split
 ·
  split
  ·
   split
   ·
    split <;> rfl
   ·
    rfl
  ·
   rfl
 ·
  obtain ⟨o,ho⟩:=kS (P:=P) _ _
  rw [ho,ho]
  cases o <;> rfl
 ·
  rfl
theorem agF {t:TypeId} {x:Value} (hx:∀ m,x≠.map m):Wj (abX P t x):=by
 refine ⟨(abX P t x zx.empty).map (·.1),fun H=>?_⟩
 unfold abX
 split <;> first | rfl | exact absurd rfl (hx _)
theorem KT {d:Nat} {v:Value} (h:okq d v=true):okq d (dem v)=true:=by
 cases v with
 | iface k v=>cases d <;> rfl
 | tuple vs=>cases d <;> cases h
 | _=>exact h
theorem Xb:∀ (d:Nat) {v a:Value},okq d v=true→V0 μ H v a→aeS d a a=true:=by
 intro d
 induction d with
 | zero =>
  intro v a h hv
  cases hv <;> first | (cases h;done) | (simp [aeS];done) | skip
  rename_i hs
  cases v <;> first | (simp [aeS];done) | (simp [Go.Abs.sg] at hs;done) | skip
 | succ d ih =>
  intro v a h hv
  cases hv <;> first | (cases h;done) | (simp [aeS];done) | skip
  ·
   rename_i hs
   cases v <;> first | (simp [aeS];done) | (simp [Go.Abs.sg] at hs;done) | skip
  ·
   rename_i x x' hx hh
   unfold aeS
   simp only [decide_true,Bool.true_and]
   rw [List.all_eq_true]
   intro p hp
   obtain ⟨i,hi,he⟩:=List.mem_iff_getElem.1 hp
   simp only [List.length_zip,Nat.min_self] at hi
   rw [List.getElem_zip] at he
   subst he
   have hi':i < x'.size:=by simpa using hi
   have hi2:i < x.size:=by rw [hx];exact hi'
   have h2:=hh i
   rw [Array.getD_eq_getD_getElem?,Array.getElem?_eq_getElem hi2,Array.getD_eq_getD_getElem?,Array.getElem?_eq_getElem hi'] at h2
   have h3:okq d x[i]=true:=List.all_eq_true.1 (show x.toList.all (okq d)=true from h) _ (by simp)
   have:=ih h3 h2
   simpa using this
theorem adL (x:Value):YL (dem x)=YL x:=by cases x <;> rfl
theorem aiG {fx:Fx} {o:Oper} {v:Value} (hdr:fx.dr=true) (h:kD P fx call T o S=some (v,S')) (hn:Wi P o=false) (hr:ZP o=false) (ho:∀ x ∈ o.op.operands.toList,V0 μ G (dem (wJ T x)) (wJ A x)) :
  ∃ a,V0 μ G (dem v) a∧∀ H,aOp P (wJ A) o H=some (a,H)∧kK P (lim P) A o H=some (a,H):=by
 have hrm:Zi o=false:=by
  unfold ZP at hr
  unfold Zi
  split <;> simp_all
 unfold kD at h
 split at h <;> first | (cases h;done) | skip
 rename_i hok
 obtain ⟨dst,op,type,pos,after,guard⟩:=o
 by_cases hcall:∃ c,op=.call c
 ·
  obtain ⟨c,rfl⟩:=hcall
  dsimp only at h ho
  unfold Wi at hn
  dsimp only at hn
  have hcargs:∀ x ∈ c.args.toList,V0 μ G (dem (wJ T x)) (wJ A x):=by
   intro x hx
   refine ho x ?_
   simp only [Op.operands,Call.operands]
   cases c.callee <;> simp <;> first | exact .inr (by simpa using hx) | exact (by simpa using hx)
  have step:∀ {b:Builtin} (a:Value),c.callee=.builtin b→(∀ H,ZF P b c.argTypes type (c.args.toList.map (wJ A)) H=some (a,H))→∀ H,aOp P (wJ A) ⟨dst,.call c,type,pos,after,guard⟩ H=some (a,H)∧kK P (lim P) A ⟨dst,.call c,type,pos,after,guard⟩ H=some (a,H):=by
   intro b a hb hall H
   constructor
   ·
    unfold aOp;dsimp only;rw [hb];exact hall H
   ·
    unfold kK;rw [if_pos hok];dsimp only;rw [hb];exact hall H
  cases hcal:c.callee with
  | value f=>rw [hcal] at hn;cases hn
  | invoke r m=>rw [hcal] at hn;cases hn
  | builtin b =>
   rw [hcal] at h
   dsimp only at h
   unfold aaj at h
   rw [hcal] at hn
   have gargs:(c.args.toList.map (wJ T)).all ground=true→c.args.toList.map (wJ A)=c.args.toList.map (wJ T):=by
    intro hg
    apply List.map_congr_left
    intro x hx
    exact yg (hcargs x hx) (List.all_eq_true.1 hg _ (List.mem_map.2 ⟨x,hx,rfl⟩))
   cases b <;> dsimp only at h hn <;> first | (cases h;done) | (cases hn;done) | skip
   case len =>
    split at h <;> first | (cases h;done) | skip
    rename_i t x0 ht ha
    obtain ⟨x,hx,rfl⟩:∃ x,c.args.toList=[x]∧wJ T x=x0:=by
     match hl:c.args.toList with
     | []=>rw [hl] at ha;cases ha
     | [y]=>rw [hl] at ha;simp at ha;exact ⟨y,rfl,ha⟩
     | y::z::w=>rw [hl] at ha;simp at ha
    have hxv:=hcargs x (by rw [hx];simp)
    obtain ⟨rfl,a,h1,h2⟩:=agh h hxv
    have hmap:∀ m,wJ A x≠.map m:=by
     intro m hm
     rw [hm] at hxv
     generalize hu:dem (wJ T x)=u at hxv
     have hum:∃ m',u=.map m':=by cases hxv <;> exact ⟨_,rfl⟩
     obtain ⟨m',rfl⟩:=hum
     have:wJ T x=.map m':=by
      cases hv:wJ T x <;> rw [hv] at hu <;> simp [dem,vX] at hu <;> rw [hu]
     rw [this] at h
     simp [ZY] at h
    refine ⟨a,h2.dem,step a hcal fun H=>?_⟩
    unfold ZF
    dsimp only
    rw [ht,hx]
    exact (agF hmap).two h1 H
   case min =>
    obtain ⟨rfl,hg,hga,hh⟩:=qU (H:=G) h
    refine ⟨v,(V0.ground hg).dem,step v hcal fun H=>?_⟩
    unfold ZF
    dsimp only
    rw [gargs hga]
    exact (kS _ _).two hh H
   case max =>
    obtain ⟨rfl,hg,hga,hh⟩:=qU (H:=G) h
    refine ⟨v,(V0.ground hg).dem,step v hcal fun H=>?_⟩
    unfold ZF
    dsimp only
    rw [gargs hga]
    exact (kS _ _).two hh H
 ·
  have hnc:∀ c,op≠.call c:=fun c hc=>hcall ⟨c,hc⟩
  have hV:vOp P fx (wJ T) ⟨dst,op,type,pos,after,guard⟩ S=some (v,S'):=by
   cases op <;> first | exact h | exact absurd rfl (hnc _)
  obtain ⟨rfl,a,h1,h2,h3⟩:=abP (ρA:=wJ A) hV hn ho (.inl (Qg hrm)) (.inl hdr)
  have hA:∀ H,kK P (lim P) A ⟨dst,op,type,pos,after,guard⟩ H=aOp P (wJ A) ⟨dst,op,type,pos,after,guard⟩ H:=by
   intro H
   unfold kK
   rw [if_pos hok]
   cases op <;> first | rfl | exact absurd rfl (hnc _)
  refine ⟨a,h2,fun H=>?_⟩
  rw [hA]
  have key:aOp P (wJ A) ⟨dst,op,type,pos,after,guard⟩ H=some (a,H):=by
   have hf:Wj (aOp P (wJ A) ⟨dst,op,type,pos,after,guard⟩):=by
    unfold Wi at hn
    unfold ZP at hr
    unfold aOp
    unfold vOp at hV
    cases op <;> dsimp only at hn hr hV ⊢ <;> first | (cases hn;done) | (cases hr;done) | (cases hV;done) | skip
    ·
     exact Kq _
    ·
     exact Kq _
    ·
     exact aee _ _ _
    ·
     exact abZ
    ·
     exact XM
    ·
     exact abw _ _ _ _
    ·
     exact ahp _ _
    ·
     exact Kq _
    ·
     exact Xj _ _ _
    ·
     exact acK _ _ _
    ·
     exact Xu _ _ _
    ·
     exact acW
    ·
     exact aay _ _
   exact hf.two h1 H
  exact ⟨key,key⟩
theorem aeV {t:TypeId} {r o e:Nat} {l:List Value} {own own':Own} {a:Value} (hg:G.get r=some (.cells l own e)) (hg':H2.get r=some (.cells l own' e)) (h:xG P t (.pointer (some ⟨r,o,none⟩)) G=some (a,G)) :
  xG P t (.pointer (some ⟨r,o,none⟩)) H2=some (a,H2):=by
 simp only [xG,hg] at h
 simp only [xG,hg']
 (repeat' split at h) <;> first | (cases h;done) | skip
 all_goals simp_all
theorem VV.backed {v:Value} {r o n c:Nat} (h:V0 μ G v (.slice (some ⟨r,o,none⟩) n c)) (hv:YL v=false):∃ l own e,r < G.next∧YC μ r∧G.get r=some (.cells l own e):=by
 cases h with
 | sg hs=>simp [Go.Abs.sg] at hs
 | slm hm=>simp [YL] at hv
 | sl hr hp hg _ _ _=>exact ⟨_,_,_,hr,hp,hg⟩
theorem ad1 {x:Value} {n:Nat} {cs:List Value} (hx:∀ r o n c,x=.slice (some ⟨r,o,none⟩) n c→∃ l own own' e,G.get r=some (.cells l own e)∧H2.get r=some (.cells l own' e)) (h:xq x n G=some cs):xq x n H2=some cs:=by
 unfold xq at h ⊢
 split at h
 ·
  rename_i r o k c
  obtain ⟨l,own,own',e,hg,hg'⟩:=hx _ _ _ _ rfl
  rw [hg] at h
  rw [hg']
  exact h
 ·
  exact h
 ·
  exact h
 ·
  cases h
theorem ag0 {src dst:TypeId} {x a:Value} (hd:∀ e,P.underlying dst≠some (.slice e)) (hx:∀ r o n c,x=.slice (some ⟨r,o,none⟩) n c→∃ l own own' e,G.get r=some (.cells l own e)∧H2.get r=some (.cells l own' e)) (h:kH P src dst x G=some (a,G)) :
  kH P src dst x H2=some (a,H2):=by
 unfold kH at h ⊢
 split at h
 ·
  rename_i b n c
  (try dsimp only)
  split at h
  ·
   rename_i e hs hdd
   split at h <;> first | (cases h;done) | skip
   rename_i he
   split at h <;> first | (cases h;done) | skip
   rename_i cs hcs
   rw [ad1 hx hcs]
   (try dsimp only)
   split at h <;> first | (cases h;done) | skip
   rename_i bs hbs
   (try rw [hbs])
   cases h
   rfl
  ·
   rename_i e0 e hs hdd
   exact absurd hdd (hd e)
  ·
   cases h
 ·
  rename_i s
  (try dsimp only)
  split at h
  ·
   rename_i d e hs hdd
   exact absurd hdd (hd e)
  ·
   exact (kS _ _).two h H2
 ·
  exact (kS _ _).two h H2
theorem adW {t:TypeId} {x a:Value} {lo hi:Option Value} (hx:∀ r o n c,x=.slice (some ⟨r,o,none⟩) n c→∃ l own own' e,G.get r=some (.cells l own e)∧H2.get r=some (.cells l own' e)) (h:Zu P t x lo hi G=some (a,G)) :
  Zu P t x lo hi H2=some (a,H2):=by
 unfold Zu at h ⊢
 split at h
 ·
  rename_i s hu
  exact (kS _ _).two h H2
 ·
  rename_i e b n c hu
  (try dsimp only)
  split at h <;> first | (cases h;done) | skip
  rename_i size l hh hs hl hhi
  (try simp only [hs,hl,hhi])
  split at h <;> first | (cases h;done) | skip
  rename_i c0
  split at h <;> first | (cases h;done) | skip
  rename_i c1
  split at h <;> first | (cases h;done) | skip
  rename_i c2
  rw [if_pos c0,if_pos c1,if_pos c2]
  split at h
  ·
   split at h <;> first | (cases h;done) | skip
   rename_i hn
   cases h
   rw [if_pos hn]
  ·
   rename_i r o
   obtain ⟨l2,own,own',e2,hg,hg'⟩:=hx _ _ _ _ rfl
   rw [hg] at h
   rw [hg']
   dsimp only at h ⊢
   split at h <;> first | (cases h;done) | skip
   rename_i he
   rw [if_pos he]
   cases h
   rfl
  ·
   split at h <;> first | (cases h;done) | skip
   rename_i hn
   cases h
   rw [if_pos hn]
  ·
   cases h
 ·
  cases h
theorem aeD {t:TypeId} {r o:Nat} {a:Value} {G':zx} (hg:H2.get r=G.get r) (h:xG P t (.pointer (some ⟨r,o,none⟩)) G=some (a,G')):xG P t (.pointer (some ⟨r,o,none⟩)) H2=some (a,H2):=by
 simp only [xG] at h ⊢
 rw [hg]
 (repeat' split at h) <;> first | (cases h;done) | skip
 all_goals simp_all
theorem abT {t:TypeId} {x k:Value} {ok:Bool} {a:Value} {G':zx} (hg:∀ r,x=.map (some r)→H2.get r=G.get r) (h:qO P t x k ok G=some (a,G')):qO P t x k ok H2=some (a,H2):=by
 have e:∀ H:zx,qO P t x k ok H=(qO P t x k ok H).map (fun r=>(r.1,H)):=by
  intro H
  unfold qO
  (try dsimp only)
  (repeat' split) <;> rfl
 have e2:(qO P t x k ok H2).map (·.1)=(qO P t x k ok G).map (·.1):=by
  cases x with
  | map b =>
   cases b with
   | none=>unfold qO;dsimp only;(repeat' split) <;> rfl
   | some r =>
    unfold qO
    dsimp only
    rw [hg r rfl]
    (repeat' split) <;> rfl
  | _=>unfold qO;(try dsimp only) <;> (try ((repeat' split) <;> rfl))
 rw [h] at e2
 rw [e H2]
 cases hh:qO P t x k ok H2 with
 | none=>rw [hh] at e2;cases e2
 | some w =>
  rw [hh] at e2
  simp only [Option.map_some,Option.some.injEq] at e2 ⊢
  rw [e2]
theorem ajF {fx:Fx} {o:Oper} {v:Value} (hdr:fx.dr=true) (h:kD P fx call T o S=some (v,S')) (hn:Wi P o=false) (hm:JU (wJ T) o) (ho:∀ x ∈ o.op.operands.toList,V0 μ G (dem (wJ T x)) (wJ A x)) (hL:Later μ G μ2 H2) :
  ∃ a,V0 μ G (dem v) a∧aOp P (wJ A) o G=some (a,G)∧aOp P (wJ A) o H2=some (a,H2)∧kK P (lim P) A o G=some (a,G)∧kK P (lim P) A o H2=some (a,H2):=by
 by_cases hr:ZP o=false
 ·
  obtain ⟨a,h1,h2⟩:=aiG hdr h hn hr ho
  exact ⟨a,h1,(h2 G).1,(h2 H2).1,(h2 G).2,(h2 H2).2⟩
 ·
  unfold kD at h
  split at h <;> first | (cases h;done) | skip
  rename_i hok
  obtain ⟨dst,op,type,pos,after,guard⟩:=o
  unfold ZP at hr
  cases op <;> dsimp only at h hr <;> first | (exact absurd rfl hr) | skip
  case load t addr =>
   obtain ⟨rfl,a,h1,h2,h3⟩:=abP (ρA:=wJ A) h hn ho (.inl hm) (.inl hdr)
   have hA:∀ H,kK P (lim P) A ⟨dst,.load t addr,type,pos,after,guard⟩ H=aOp P (wJ A) ⟨dst,.load t addr,type,pos,after,guard⟩ H:=fun H=>by unfold kK;rw [if_pos hok]
   have key:aOp P (wJ A) ⟨dst,.load t addr,type,pos,after,guard⟩ H2=some (a,H2):=by
    have hx:=ho addr (by simp [Op.operands])
    have h:jl P fx.nm t (wJ T addr) S'=some (v,S'):=h
    unfold aOp at h1 ⊢
    dsimp only at h1 ⊢
    unfold jl at h
    split at h
    ·
     rename_i k cs he
     split at h <;> first | (cases h;done) | skip
     rename_i hk
     subst hk
     rw [he] at hx
     have hx:V0 μ G (.iface 3 (.agg cs)) (wJ A addr):=hx
     generalize hq:wJ A addr=q at hx h1 ⊢
     cases hx with
     | sg hs=>simp [Go.Abs.sg] at hs
     | ep hr hp hg hl hc =>
      obtain ⟨own',hg'⟩:=hL.cells _ _ _ _ hr hp hg
      exact aeV hg hg' h1
    ·
     rename_i ad he
     exact absurd he (hm ad)
    ·
     cases h
   exact ⟨a,h2,h1,key,by rw [hA];exact h1,by rw [hA];exact key⟩
  case convert src d x =>
   obtain ⟨rfl,a,h1,h2,h3⟩:=abP (ρA:=wJ A) h hn ho (.inl hm) (.inl hdr)
   have hA:∀ H,kK P (lim P) A ⟨dst,.convert src d x,type,pos,after,guard⟩ H=aOp P (wJ A) ⟨dst,.convert src d x,type,pos,after,guard⟩ H:=fun H=>by unfold kK;rw [if_pos hok]
   have key:aOp P (wJ A) ⟨dst,.convert src d x,type,pos,after,guard⟩ H2=some (a,H2):=by
    have hx:=ho x (by simp [Op.operands])
    unfold aOp at h1 ⊢
    dsimp only at h1 ⊢
    refine ag0 (fun e he=>?_) (fun r o n c hq=>?_) h1
    ·
     unfold Wi at hn
     dsimp only at hn
     rw [he] at hn;cases hn
    ·
     rw [hq] at hx
     have hh:YL (dem (wJ T x))=false:=by
      rw [adL]
      have h:qL P fx.hp fx.dr src d (wJ T x) S'=some (v,S'):=h
      unfold qL at h
      split at h
      ·
       first | (cases h;done) | (rw [hdr] at h;simp at h)
      ·
       rename_i hh;simpa using hh
     obtain ⟨l,own,e,hr,hp,hg⟩:=hx.backed hh
     obtain ⟨own',hg'⟩:=hL.cells _ _ _ _ hr hp hg
     exact ⟨l,own,own',e,hg,hg'⟩
   exact ⟨a,h2,h1,key,by rw [hA];exact h1,by rw [hA];exact key⟩
  case slice t x lo hi mx =>
   obtain ⟨rfl,a,h1,h2,h3⟩:=abP (ρA:=wJ A) h hn ho (.inl hm) (.inl hdr)
   have hA:∀ H,kK P (lim P) A ⟨dst,.slice t x lo hi mx,type,pos,after,guard⟩ H=aOp P (wJ A) ⟨dst,.slice t x lo hi mx,type,pos,after,guard⟩ H:=fun H=>by unfold kK;rw [if_pos hok]
   have key:aOp P (wJ A) ⟨dst,.slice t x lo hi mx,type,pos,after,guard⟩ H2=some (a,H2):=by
    have hx:=ho x (by simp [Op.operands])
    unfold aOp at h1 ⊢
    cases mx with
    | some m=>cases h1
    | none =>
     dsimp only at h1 ⊢
     refine adW (fun r o n c hq=>?_) h1
     rw [hq] at hx
     have hh:YL (dem (wJ T x))=false:=by
      rw [adL]
      have h:ZQ P fx.dr t (wJ T x) (lo.map (wJ T)) (hi.map (wJ T)) S'=some (v,S'):=h
      unfold ZQ at h
      split at h
      ·
       first | (cases h;done) | (rw [hdr] at h;simp at h)
      ·
       rename_i hh;simpa using hh
     obtain ⟨l,own,e,hr,hp,hg⟩:=hx.backed hh
     obtain ⟨own',hg'⟩:=hL.cells _ _ _ _ hr hp hg
     exact ⟨l,own,own',e,hg,hg'⟩
   exact ⟨a,h2,h1,key,by rw [hA];exact h1,by rw [hA];exact key⟩
  case lookup t x k ok =>
   exact hm.elim
end
end Go.Abs
namespace Go.Abs
open Go.RowKit
structure Line (P : Program) (fx : Fx) (chk : List Nat) (call : FuncId → List Value → M Value) (ops : Array Oper) (k0 : Nat) (l : List Oper) (Ts As : Nat → List Value) (Ss Hs : Nat → zx) (μs : Nat → Mu) (ωs : Nat → Nat → Option kW) (vs zf : Nat → Value) : Prop where
  inv : ∀ k, k ≤ l.length → GI (μs k) (Ss k) (Hs k) ∧ TI (μs k) (Hs k) (ωs k) (Ts k) (As k)
  step : ∀ k o, l[k]? = some o → Later (μs k) (Hs k) (μs (k + 1)) (Hs (k + 1)) ∧ Kept (ωs k) (Hs k) (ωs (k + 1)) (Hs (k + 1)) ∧
    ((Region.wanted o (ynd ops (As k)) = true ∧ kD P fx call (Ts k) o (Ss k) = some (vs k, Ss (k + 1)) ∧ kK P (lim P) (As k) o (Hs k) = some (zf k, Hs (k + 1)) ∧
        Ts (k + 1) = JB o (l.drop (k + 1)) (Ts k) (vs k) ∧ As (k + 1) = YZ (As k) o.dst (zf k) ∧ (chk.contains (k0 + k) = true → okq 3 (vs k) = true)) ∨
     (Region.wanted o (ynd ops (As k)) = false ∧ zf k = zh ∧ Ts (k + 1) = JB o (l.drop (k + 1)) (Ts k) zh ∧ As (k + 1) = YZ (As k) o.dst zh ∧ Hs (k + 1) = Hs k))
section
variable {P:Program} {call:FuncId→List Value→M Value}
theorem line_of {fx : Fx} {chk : List Nat} {nl : List (Nat × Nat)} (hc : QK P call) {ops : Array Oper} : ∀ (l : List Oper) (k0 : Nat) (hist : List (Value × zx)) (T T' A : List Value) (S S' H : zx) (μ : Mu) (ω : Nat → Option kW), qw P fx chk nl call ops k0 hist l T S = some (T', S') → GI μ S H → TI μ H ω T A →
    ∃ Ts As Ss Hs μs ωs vs zf tr, Line P fx chk call ops k0 l Ts As Ss Hs μs ωs vs zf ∧ Ts 0 = T ∧ As 0 = A ∧ Ss 0 = S ∧ Hs 0 = H ∧ μs 0 = μ ∧ ωs 0 = ω ∧ Ts l.length = T' ∧ Ss l.length = S' ∧
      vI P (lim P) ops l A H = some (tr, As l.length, Hs l.length) ∧ (∀ k, k < l.length → tr[k]? = some (As k, Hs k, zf k)) ∧ (∀ k, k ≤ l.length → (tr.map (·.2.1) ++ [Hs l.length])[k]? = some (Hs k)) ∧
      ∃ hs : List (Value × zx), hs.length = l.length ∧ (∀ k o, l[k]? = some o → hs[k]? = some (Jg (Ts k) o, Ss k)) ∧ (nl.isEmpty = false → nl.all (adx (hist ++ hs ++ [(zh, S')])) = true) := by
  intro l
  induction l with
  | nil =>
    intro k0 hist T T' A S S' H μ ω h hG hT
    simp only [qw] at h
    split at h <;> first | (cases h; done) | skip
    rename_i hst
    cases h
    refine ⟨fun _ => T, fun _ => A, fun _ => S, fun _ => H, fun _ => μ, fun _ => ω, fun _ => zh, fun _ => zh, [], ⟨fun k _ => ⟨hG, hT⟩, fun k o ho => by simp at ho⟩, rfl, rfl, rfl, rfl, rfl, rfl, rfl, rfl, rfl, fun k hk => by simp at hk, fun k hk => ?_, [], rfl, fun k o ho => by simp at ho, fun he => ?_⟩
    · have : k = 0 := by simpa using hk
      subst this
      rfl
    · simpa [ZM, he] using hst
  | cons o l ih =>
    intro k0 hist T T' A S S' H μ ω h hG hT
    have hy : (ynd ops T) = ynd ops A := funext fun j => agC hT j
    simp only [qw] at h
    have glue : ∀ (T1 A1 : List Value) (S1 H1 : zx) (μ1 : Mu) (ω1 : Nat → Option kW) (v a : Value), qw P fx chk nl call ops (k0 + 1) (ZM nl hist (Jg T o) S) l T1 S1 = some (T', S') → GI μ1 S1 H1 → TI μ1 H1 ω1 T1 A1 → Later μ H μ1 H1 → Kept ω H ω1 H1 →
        ((Region.wanted o (ynd ops A) = true ∧ kD P fx call T o S = some (v, S1) ∧ kK P (lim P) A o H = some (a, H1) ∧ T1 = JB o l T v ∧ A1 = YZ A o.dst a ∧ (chk.contains k0 = true → okq 3 v = true)) ∨
         (Region.wanted o (ynd ops A) = false ∧ a = zh ∧ T1 = JB o l T zh ∧ A1 = YZ A o.dst zh ∧ H1 = H)) →
        (∀ tr A2 H2, vI P (lim P) ops l A1 H1 = some (tr, A2, H2) → vI P (lim P) ops (o :: l) A H = some ((A, H, a) :: tr, A2, H2)) →
        ∃ Ts As Ss Hs μs ωs vs zf tr, Line P fx chk call ops k0 (o :: l) Ts As Ss Hs μs ωs vs zf ∧ Ts 0 = T ∧ As 0 = A ∧ Ss 0 = S ∧ Hs 0 = H ∧ μs 0 = μ ∧ ωs 0 = ω ∧ Ts (o :: l).length = T' ∧ Ss (o :: l).length = S' ∧
          vI P (lim P) ops (o :: l) A H = some (tr, As (o :: l).length, Hs (o :: l).length) ∧ (∀ k, k < (o :: l).length → tr[k]? = some (As k, Hs k, zf k)) ∧ (∀ k, k ≤ (o :: l).length → (tr.map (·.2.1) ++ [Hs (o :: l).length])[k]? = some (Hs k)) ∧
          ∃ hs : List (Value × zx), hs.length = (o :: l).length ∧ (∀ k o', (o :: l)[k]? = some o' → hs[k]? = some (Jg (Ts k) o', Ss k)) ∧ (nl.isEmpty = false → nl.all (adx (hist ++ hs ++ [(zh, S')])) = true) := by
      intro T1 A1 S1 H1 μ1 ω1 v a hrest hG1 hT1 hL hK hstep htr
      obtain ⟨Ts, As, Ss, Hs, μs, ωs, vs, zf, tr, hline, e1, e2, e3, e4, e5, e6, e7, e8, e9, e10, e11, hs, e12, e13, e14⟩ := ih _ _ _ _ _ _ _ _ _ _ hrest hG1 hT1
      refine ⟨fun k => match k with | 0 => T | k + 1 => Ts k, fun k => match k with | 0 => A | k + 1 => As k, fun k => match k with | 0 => S | k + 1 => Ss k, fun k => match k with | 0 => H | k + 1 => Hs k,
        fun k => match k with | 0 => μ | k + 1 => μs k, fun k => match k with | 0 => ω | k + 1 => ωs k, fun k => match k with | 0 => v | k + 1 => vs k, fun k => match k with | 0 => a | k + 1 => zf k, (A, H, a) :: tr,
        ⟨fun k hk => ?_, fun k o' ho => ?_⟩, rfl, rfl, rfl, rfl, rfl, rfl, e7, e8, htr _ _ _ e9, fun k hk => ?_, fun k hk => ?_, (Jg T o, S) :: hs, by simp [e12], fun k o' ho => ?_, fun he => ?_⟩
      · cases k with
        | zero => exact ⟨hG, hT⟩
        | succ k => exact hline.inv k (by simpa using hk)
      · cases k with
        | zero =>
          simp only [List.getElem?_cons_zero, Option.some.injEq] at ho
          subst ho
          dsimp only
          rw [e1, e2, e3, e4, e5, e6]
          exact ⟨hL, hK, hstep⟩
        | succ k =>
          have := hline.step k o' (by simpa using ho)
          rw [show k0 + 1 + k = k0 + (k + 1) by omega] at this
          exact this
      · cases k with
        | zero => rfl
        | succ k => simpa using e10 k (by simpa using hk)
      · cases k with
        | zero => rfl
        | succ k => simpa using e11 k (by simpa using hk)
      · cases k with
        | zero =>
          simp only [List.getElem?_cons_zero, Option.some.injEq] at ho
          subst ho
          rfl
        | succ k => simpa using e13 k o' (by simpa using ho)
      · have := e14 he
        rw [show ZM nl hist (Jg T o) S = hist ++ [(Jg T o, S)] by simp [ZM, he]] at this
        simpa using this
    split at h
    · rename_i hw
      split at h
      · rename_i v S1 hs
        split at h <;> first | (cases h; done) | skip
        rename_i hchk
        obtain ⟨a, H1, μ1, ω1, h1, h2, h3, h4, h5⟩ := adh (rest := l) hc hG hT hs
        have hw' : Region.wanted o (ynd ops A) = true := by rw [← hy]; exact hw
        refine glue _ _ _ H1 μ1 ω1 v a h h2 h5 h3 h4 (.inl ⟨hw', hs, h1, rfl, rfl, fun hk => ?_⟩) (fun tr A2 H2 ht => ?_)
        · rw [hk] at hchk; simpa using hchk
        · simp only [vI, hw', if_true, h1, ht]
      · cases h
    · rename_i hw
      obtain ⟨μ1, ω1, h2, h3, h4, h5⟩ := Qv (o := o) (rest := l) hG hT
      have hw' : Region.wanted o (ynd ops A) = false := by rw [← hy]; simpa using hw
      refine glue _ _ _ H μ1 ω1 zh zh h h2 h5 h3 h4 (.inr ⟨hw', rfl, rfl, rfl, rfl⟩) (fun tr A2 H2 ht => ?_)
      simp only [vI, hw', ht]
      rfl
variable {fx:Fx} {chk:List Nat} {ops:Array Oper} {k0:Nat} {l:List Oper} {Ts As:Nat→List Value} {Ss Hs:Nat→zx} {μs:Nat→Mu} {ωs:Nat→Nat→Option kW} {vs zf:Nat→Value}
theorem Line.later (hl:Line P fx chk call ops k0 l Ts As Ss Hs μs ωs vs zf) {i:Nat}:∀ (d:Nat),i+d≤l.length→Later (μs i) (Hs i) (μs (i+d)) (Hs (i+d)):=by
 intro d
 induction d with
 | zero=>intro _;exact Later.refl _ _
 | succ d ih =>
  intro hd
  have ho:l[i+d]?=some l[i+d]:=List.getElem?_eq_getElem (by omega)
  exact (ih (by omega)).trans (hl.step (i+d) _ ho).1
theorem Line.kept (hl:Line P fx chk call ops k0 l Ts As Ss Hs μs ωs vs zf):∀ (d:Nat),d≤l.length→Kept (ωs 0) (Hs 0) (ωs d) (Hs d):=by
 intro d
 induction d with
 | zero=>intro _;exact Kept.refl _ _
 | succ d ih =>
  intro hd
  have ho:l[d]?=some l[d]:=List.getElem?_eq_getElem (by omega)
  exact (ih (by omega)).trans (hl.step d _ ho).2.1
theorem acu (i:Nat) (w:Value):dem (zV i w)=dem w:=by
 cases w with
 | tuple vs =>
  simp only [zV,dem]
  congr 1
  apply Array.ext (by simp)
  intro k h1 h2
  rw [Array.getElem_map,Array.getElem_map,Array.getElem_modify]
  split
  ·
   have:∀ v,vX (vX v)=vX v:=by
    intro v
    cases v with
    | iface k v =>
     simp only [vX]
     by_cases h:k=2
     ·
      rw [if_pos h,if_neg (by decide)]
     ·
      rw [if_neg h,if_neg h]
    | _=>rfl
   exact this _
  ·
   rfl
 | _=>rfl
theorem abm (o:Oper) (T:List Value) (t:Nat):dem ((moved o T).getD t zh)=dem (T.getD t zh):=by
 have slot:∀ t',dem ((vN T t').getD t zh)=dem (T.getD t zh):=by
  intro t'
  rw [vN,xg]
  split
  ·
   rename_i h;rw [h.1,VY]
  ·
   rfl
 unfold moved
 split
 ·
  exact slot _
 ·
  exact slot _
 ·
  rw [xg]
  split
  ·
   rename_i h;rw [h.1,acu]
  ·
   rfl
 ·
  split
  ·
   exact slot _
  ·
   rfl
 ·
  rfl
theorem moved_length (o:Oper) (T:List Value):(moved o T).length=T.length:=by
 unfold moved
 split <;> first | simp [vN] | rfl | skip
 split <;> first | simp [vN] | rfl
theorem abI {o:Oper} {rest:List Oper} {T:List Value} {v:Value} (hd:o.dst=none) (t:Nat):dem ((JB o rest T v).getD t zh)=dem (T.getD t zh):=by
 unfold JB
 rw [hd]
 split
 ·
  rfl
 ·
  exact abm o T t
theorem abE {o:Oper} {rest:List Oper} {T:List Value} {v:Value} {d:Nat} (hd:o.dst=some d) (t:Nat):dem ((JB o rest T v).getD t zh)=if t=d∧d < T.length then dem v else dem (T.getD t zh):=by
 unfold JB
 rw [hd]
 split
 ·
  simp only [YZ]
  rw [xg]
  split
  ·
   exact VY v
  ·
   rfl
 ·
  simp only [YZ]
  rw [xg,moved_length]
  split
  ·
   rfl
  ·
   exact abm o T t
def Clear (μ:Mu) (G:zx) (bad:List Nat) (T A:List Value):Prop:=∀ t,bad.contains t=false→V0 μ G (dem (T.getD t zh)) (A.getD t zh)
theorem Clear.operands {μ:Mu} {G:zx} {bad:List Nat} {T A:List Value} (h:Clear μ G bad T A) {o:Oper} (hok:aic o=true) (hc:vG bad o=true):∀ x ∈ o.op.operands.toList,V0 μ G (dem (wJ T x)) (wJ A x):=by
 intro x hx
 have h1:=List.all_eq_true.1 (show o.op.operands.toList.all vT=true from hok) x hx
 have h2:=List.all_eq_true.1 hc x hx
 cases x with
 | tmp t=>exact h t (by simpa using h2)
 | const v=>exact (VV.kG (μ:=μ) (H:=G) (ω:=W0) (ℓ:=none) h1).v0
 | global g=>cases h1
 | func f =>
  have:V0 μ G (.func (.func f) #[] #[]) (.func (.func f) #[] #[]):=.func _ rfl rfl (fun i=>by simpa using VV.zh) (fun i=>by simpa using VV.zh)
  exact this
theorem WS {T:List Value} {o:Oper} {S S':zx} {v:Value} (h:kD P fx call T o S=some (v,S')):aic o=true:=by
 unfold kD at h
 split at h
 ·
  assumption
 ·
  cases h
theorem adX {fx:Fx} {o:Oper} {T A:List Value} {v:Value} {S S' H:zx} {μ:Mu} (h:kD P fx call T o S=some (v,S')) (hnm:fx.nm=true) (hm:¬ JU (wJ T) o) (hG:GI μ S H) (ho:∀ x ∈ o.op.operands.toList,V0 μ H (dem (wJ T x)) (wJ A x)) :
  ground v=true∧∃ a,kK P (lim P) A o H=some (a,H)∧a=v:=by
 have hok:=WS h
 unfold kD at h
 rw [if_pos hok] at h
 obtain ⟨dst,op,type,pos,after,guard⟩:=o
 unfold JU at hm
 cases op <;> dsimp only at h hm <;> first | (exact absurd True.intro hm) | skip
 case load t a =>
  have h:jl P fx.nm t (wJ T a) S=some (v,S'):=h
  obtain ⟨q,hq⟩:∃ q,wJ T a=.pointer q:=Classical.byContradiction fun hn=>hm fun q hq=>hn ⟨q,hq⟩
  obtain ⟨rfl,w,k1,k2⟩:=QX h (ho a (by simp [Op.operands])) (.inr hG)
  rw [hnm] at h
  have hgr:ground v=true:=by
   unfold jl at h
   rw [hq] at h
   dsimp only at h
   split at h <;> first | (cases h;done) | skip
   ·
    split at h
    ·
     split at h <;> first | (cases h;done) | skip
     rename_i hg
     cases h
     exact hg
    ·
     rename_i hf;exact absurd rfl hf
   ·
    split at h
    ·
     split at h <;> first | (cases h;done) | skip
     rename_i hg
     cases h
     exact hg
    ·
     rename_i hf;exact absurd rfl hf
  refine ⟨hgr,w,?_,k2.ZO hgr⟩
  unfold kK
  rw [if_pos hok]
  exact k1
 case lookup t x k ok =>
  have h:vY P fx.nm t (wJ T x) (wJ T k) ok S=some (v,S'):=h
  unfold vY at h
  rw [hnm] at h
  simp at h
theorem Line.clear (hdr:fx.dr=true) (hl:Line P fx chk call ops k0 l Ts As Ss Hs μs ωs vs zf) {j:Nat} (hj:j≤l.length):∀ (rest:List Oper) (bad:List Nat) (k:Nat),j≤k→l.drop k=rest→Clear (μs j) (Hs j) bad (Ts k) (As k) →
  ∀ d,d≤rest.length→Clear (μs j) (Hs j) ((afg P fx.nm rest bad).getD d []) (Ts (k+d)) (As (k+d)):=by
 intro rest
 induction rest with
 | nil =>
  intro bad k hjk hr hC d hd
  have:d=0:=by simpa using hd
  subst this
  exact hC
 | cons o rest ih =>
  intro bad k hjk hr hC d hd
  have hkl:k < l.length:=by
   have:=congrArg List.length hr
   simp at this;omega
  have ho:l[k]?=some o:=by
   have:=congrArg (·[0]?) hr
   simpa [List.getElem?_drop] using this
  cases d with
  | zero=>exact hC
  | succ d =>
   simp only [afg,List.getD_cons_succ]
   rw [show k+(d+1)=k+1+d by omega]
   refine ih _ (k+1) (by omega) ?_ ?_ d (by simpa using hd)
   ·
    rw [← List.drop_drop,hr];rfl
   ·
    obtain ⟨hL,_,hor⟩:=hl.step k o ho
    obtain ⟨hG,hT⟩:=hl.inv k (by omega)
    have hlen:=hT.len
    intro t ht
    cases hd:o.dst with
    | none =>
     rw [hd] at ht
     rcases hor with ⟨_,_,_,e1,e2,_⟩ | ⟨_,_,e1,e2,_⟩
     ·
      rw [e1,abI hd,e2,hd];exact hC t ht
     ·
      rw [e1,abI hd,e2,hd];exact hC t ht
    | some dd =>
     rw [hd] at ht
     dsimp only at ht
     have htb:bad.contains t=false:=by
      split at ht
      ·
       simp only [List.contains_cons,Bool.or_eq_false_iff] at ht;exact ht.2
      ·
       exact ht
     rcases hor with ⟨hw,hv,ha,e1,e2,_⟩ | ⟨_,_,e1,e2,_⟩
     ·
      rw [e1,abE hd,e2,hd]
      simp only [YZ]
      rw [xg,hlen]
      by_cases hc:t=dd∧dd < (As k).length
      ·
       rw [if_pos hc,if_pos hc]
       have hcond:¬ (Wi P o || !vG bad o || (Zi o && !fx.nm))=true:=by
        intro hh
        rw [if_pos hh] at ht
        simp [hc.1] at ht
       simp only [Bool.or_eq_true,not_or,Bool.not_eq_true,Bool.not_eq_eq_eq_not,Bool.not_true,Bool.and_eq_true,not_and] at hcond
       obtain ⟨⟨q1,q2⟩,q3⟩:=hcond
       have q2':vG bad o=true:=by simpa using q2
       have hLj:Later (μs j) (Hs j) (μs k) (Hs k):=by
        have:=hl.later (i:=j) (k - j) (by omega)
        rwa [show j+(k - j)=k by omega] at this
       by_cases hm:JU (wJ (Ts k)) o
       ·
        obtain ⟨a,h1,_,_,_,h5⟩:=ajF hdr hv q1 hm (hC.operands (WS hv) q2') hLj
        rw [ha] at h5
        have e:zf k=a:=by simpa using congrArg (Option.map Prod.fst) h5
        subst e
        exact h1
       ·
        have hrm:Zi o=true:=by
         cases hrm:Zi o with
         | true=>rfl
         | false=>exact absurd (Qg hrm) hm
        have hnm:fx.nm=true:=by have:=q3 hrm;simpa using this
        obtain ⟨g1,a,g2,g3⟩:=adX hv hnm hm hG (fun x hx=>hT.eval (List.all_eq_true.1 (show o.op.operands.toList.all vT=true from WS hv) x hx))
        rw [ha] at g2
        have e:zf k=a:=by simpa using congrArg (Option.map Prod.fst) g2
        subst e
        rw [g3,Vw g1]
        exact V0.ground g1
      ·
       rw [if_neg hc,if_neg hc]
       exact hC t htb
     ·
      rw [e1,abE hd,e2,hd]
      simp only [YZ]
      rw [xg,hlen]
      by_cases hc:t=dd∧dd < (As k).length
      ·
       rw [if_pos hc,if_pos hc,show dem zh=zh from Wq]
       exact .nores
      ·
       rw [if_neg hc,if_neg hc]
       exact hC t htb
theorem afR {hp0:Bool} (hc:QK P call) {T T' A:List Value} {S S' H:zx} {μ:Mu} {ω:Nat→Option kW} (hd:kC P ops=true) (h:qw P ⟨hp0,!(checked P ops).isEmpty,fixed P ops⟩ (checked P ops) (again P ops) call ops 0 [] ops.toList T S=some (T',S')) (hG:GI μ S H) (hT:TI μ H ω T A) :
  After μ ω H T' S' (J8 P (lim P) ops A H):=by
 obtain ⟨Ts,As,Ss,Hs,μs,ωs,vs,zf,tr,hline,rfl,rfl,rfl,rfl,rfl,rfl,rfl,rfl,e9,e10,e11,hs,e12,e13,e14⟩:=line_of hc _ _ _ _ _ _ _ _ _ _ _ h hG hT
 obtain ⟨hGn,hTn⟩:=hline.inv ops.toList.length (Nat.le_refl _)
 have hLn:=hline.later (i:=0) ops.toList.length (by omega)
 rw [Nat.zero_add] at hLn
 refine ⟨As ops.toList.length,Hs ops.toList.length,μs ops.toList.length,ωs ops.toList.length,?_,hGn,hLn,hline.kept _ (Nat.le_refl _),hTn⟩
 simp only [kC,aae,Bool.and_eq_true] at hd
 refine aiw hd.1 e9 fun p hp=>?_
 have hchk:(checked P ops).contains p.1=true:=by
  unfold checked
  simp only [List.contains_eq_mem,decide_eq_true_eq]
  exact List.mem_map.2 ⟨p,hp,rfl⟩
 have hdr:(Fx.mk hp0 (!(checked P ops).isEmpty) (fixed P ops)).dr=true:=by
  show (!(checked P ops).isEmpty)=true
  cases hl:checked P ops with
  | nil=>rw [hl] at hchk;cases hchk
  | cons a b=>rfl
 have hp2:=List.all_eq_true.1 hd.2 p hp
 have hp0:=hp
 unfold need at hp
 obtain ⟨i,hi,hp⟩:=List.mem_flatMap.1 hp
 obtain ⟨j,hj,hp⟩:=List.mem_filterMap.1 hp
 have hi:i < ops.toList.length:=List.mem_range.1 hi
 have hj:j < ops.toList.length:=List.mem_range.1 hj
 split at hp <;> first | (cases hp;done) | skip
 rename_i oi oj hoi hoj
 split at hp <;> first | (cases hp;done) | skip
 rename_i hcond
 cases hp
 simp only [Bool.and_eq_true,Bool.not_eq_true'] at hcond
 obtain ⟨⟨hni,hcj⟩,_⟩:=hcond
 dsimp only at hp2 hchk ⊢
 rw [hoi] at hp2
 dsimp only at hp2
 have hij:i≠j:=by
  intro e;subst e
  rw [hoi] at hoj;cases hoj
  rw [hni] at hcj;cases hcj
 have hGj:(tr.map (·.2.1)++[Hs ops.toList.length])[if j < i then j else j+1]?=some (Hs (if j < i then j else j+1)):=e11 _ (by split <;> omega)
 unfold KA
 rw [hoi,e10 i hi,hGj]
 dsimp only
 obtain ⟨_,_,hor⟩:=hline.step i oi hoi
 rcases hor with ⟨hw,hv,ha,heT,heA,hq⟩ | ⟨hw,_⟩
 ·
  rw [hw]
  simp only [Bool.not_true,Bool.false_or]
  obtain ⟨hGi,hTi⟩:=hline.inv i (by omega)
  have hops:∀ x ∈ oi.op.operands.toList,V0 (μs i) (Hs i) (dem (wJ (Ts i) x)) (wJ (As i) x):=fun x hx=>hTi.eval (List.all_eq_true.1 (show oi.op.operands.toList.all vT=true from WS hv) x hx)
  have hq3:okq 3 (vs i)=true:=hq (by rw [Nat.zero_add];exact hchk)
  have same:∃ G',aOp P (wJ (As i)) oi (Hs (if j < i then j else j+1))=some (zf i,G')∧aeS 3 (zf i) (zf i)=true:=by
   by_cases hm:JU (wJ (Ts i)) oi
   case neg =>
    have hrm:Zi oi=true:=by
     cases hrm:Zi oi with
     | true=>rfl
     | false=>exact absurd (Qg hrm) hm
    have hin:(i,j) ∈ again P ops:=List.mem_filter.2 ⟨hp0,by dsimp only;rw [hoi];exact hrm⟩
    have hne:(again P ops).isEmpty=false:=by
     cases hl:again P ops with
     | nil=>rw [hl] at hin;cases hin
     | cons a b=>rfl
    have hst:=List.all_eq_true.1 (e14 hne) _ hin
    rw [List.nil_append] at hst
    have hi1:(hs++[(zh,Ss ops.toList.length)])[i]?=some (Jg (Ts i) oi,Ss i):=by
     rw [List.getElem?_append_left (by omega)];exact e13 i oi hoi
    have hj1:∃ p2,(hs++[(zh,Ss ops.toList.length)])[if j < i then j else j+1]?=some (p2,Ss (if j < i then j else j+1)):=by
     by_cases hjl:(if j < i then j else j+1) < ops.toList.length
     ·
      rw [List.getElem?_append_left (by omega)]
      exact ⟨_,e13 _ _ (List.getElem?_eq_getElem hjl)⟩
     ·
      have:(if j < i then j else j+1)=ops.toList.length:=by split at hjl <;> (rename_i hh;simp only [hh,if_true,if_false];omega)
      rw [this,List.getElem?_append_right (by omega),e12,Nat.sub_self]
      exact ⟨_,rfl⟩
    obtain ⟨p2,hj1⟩:=hj1
    unfold adx at hst
    dsimp only at hst
    rw [hi1,hj1] at hst
    dsimp only at hst
    have obj:∀ q r b,μs i q=some (r,b)→(∀ Sa Sb,qV (Jg (Ts i) oi) Sa Sb=true→(∃ o,Sa.get q=some o∧o.alive=true)∧q ∉ Sb.log.take (Sb.log.length - Sa.log.length))→(Hs (if j < i then j else j+1)).get r=(Hs i).get r:=by
     intro q r b hq hQ
     by_cases hji:j < i
     ·
      rw [if_pos hji] at hst ⊢
      rw [if_pos hji] at hst
      obtain ⟨⟨o1,g1,g2⟩,g3⟩:=hQ _ _ hst
      obtain ⟨hGj3,_⟩:=hline.inv j (by omega)
      obtain ⟨r0,_,g4,_⟩:=hGj3.obj q o1 g1 g2
      have hL:=hline.later (i:=j) (i - j) (by omega)
      rw [show j+(i - j)=i by omega] at hL
      obtain ⟨b',hb'⟩:=hL.mu q r0 true g4
      rw [hq] at hb'
      cases hb'
      obtain ⟨new,n1,n2⟩:=hL.still
      rw [hGj3.log,hGi.log] at n1
      rw [n1] at g3
      simp only [List.length_append,Nat.add_sub_cancel,List.take_left] at g3
      exact (n2 q r g4 g3).2.symm
     ·
      rw [if_neg hji] at hst ⊢
      rw [if_neg hji] at hst
      obtain ⟨⟨o1,g1,g2⟩,g3⟩:=hQ _ _ hst
      have hb:=hGi.at hq g1 g2
      subst hb
      have hL:=hline.later (i:=i) (j+1 - i) (by omega)
      rw [show i+(j+1 - i)=j+1 by omega] at hL
      obtain ⟨hGj3,_⟩:=hline.inv (j+1) (by omega)
      obtain ⟨new,n1,n2⟩:=hL.still
      rw [hGj3.log,hGi.log] at n1
      rw [n1] at g3
      simp only [List.length_append,Nat.add_sub_cancel,List.take_left] at g3
      exact (n2 q r hq g3).2
    clear hst hi1 hj1
    have hok:=WS hv
    have hvo:=hv
    unfold kD at hv
    rw [if_pos hok] at hv
    obtain ⟨dst,op,type,pos,after,guard⟩:=oi
    unfold JU at hm
    cases op <;> dsimp only at hv hm <;> first | (exact absurd True.intro hm) | skip
    case load t a =>
     have hv:jl P (fixed P ops) t (wJ (Ts i) a) (Ss i)=some (vs i,Ss (i+1)):=hv
     obtain ⟨ad,hq⟩:∃ q,wJ (Ts i) a=.pointer q:=Classical.byContradiction fun hn=>hm fun q hq=>hn ⟨q,hq⟩
     have hx:=hops a (by simp [Op.operands])
     obtain ⟨_,w,k1,k2⟩:=QX hv hx (.inr hGi)
     have hA:kK P (lim P) (As i) ⟨dst,.load t a,type,pos,after,guard⟩ (Hs i)=xG P t (wJ (As i) a) (Hs i):=by unfold kK;rw [if_pos hok];rfl
     rw [hA,k1] at ha
     have e:w=zf i:=by simpa using congrArg (Option.map Prod.fst) ha
     subst e
     rw [hq] at hx
     have hx:V0 (μs i) (Hs i) (.pointer ad) (wJ (As i) a):=hx
     generalize hpa:wJ (As i) a=pa at hx k1
     have hres:xG P t pa (Hs (if j < i then j else j+1))=some (zf i,Hs (if j < i then j else j+1)):=by
      cases hx with
      | sg hs =>
       cases ad with
       | none=>simp [xG] at k1
       | some ad=>simp [Go.Abs.sg] at hs
      | @ptr _ q o r b hmq =>
       refine aeD (obj q r b hmq fun Sa Sb hQ=>?_) k1
       have hQ:qV (wJ (Ts i) a) Sa Sb=true:=hQ
       rw [hq] at hQ
       simp only [qV,Bool.and_eq_true,Bool.not_eq_true',List.contains_eq_mem,decide_eq_false_iff_not] at hQ
       refine ⟨?_,hQ.2⟩
       have h1:=hQ.1
       split at h1 <;> first | (cases h1;done) | skip
       rename_i hsa
       exact ⟨_,hsa,rfl⟩
     rw [← hpa] at hres
     exact ⟨_,hres,Xb 3 (KT hq3) k2.dem⟩
    case lookup t x k ok =>
     have hv:vY P (fixed P ops) t (wJ (Ts i) x) (wJ (Ts i) k) ok (Ss i)=some (vs i,Ss (i+1)):=hv
     have hx:=hops x (by simp [Op.operands])
     obtain ⟨_,w,k1,k2⟩:=Ve hv hx (hops k (by simp [Op.operands])) (.inr hGi)
     have hA:kK P (lim P) (As i) ⟨dst,.lookup t x k ok,type,pos,after,guard⟩ (Hs i)=qO P t (wJ (As i) x) (wJ (As i) k) ok (Hs i):=by unfold kK;rw [if_pos hok];rfl
     rw [hA,k1] at ha
     have e:w=zf i:=by simpa using congrArg (Option.map Prod.fst) ha
     subst e
     have hres:qO P t (wJ (As i) x) (wJ (As i) k) ok (Hs (if j < i then j else j+1))=some (zf i,Hs (if j < i then j else j+1)):=by
      refine abT (fun r hr=>?_) k1
      rw [hr] at hx
      generalize hu:dem (wJ (Ts i) x)=u at hx
      have hum:∃ q b,u=.map (some q)∧μs i q=some (r,b):=by
       cases hx with
       | sg hs=>simp [Go.Abs.sg] at hs
       | map hmq=>exact ⟨_,_,rfl,hmq⟩
      obtain ⟨q,b,rfl,hmq⟩:=hum
      have hxe:wJ (Ts i) x=.map (some q):=by
       cases hvx:wJ (Ts i) x <;> rw [hvx] at hu <;> simp [dem,vX] at hu <;> rw [hu]
      refine obj q r b hmq fun Sa Sb hQ=>?_
      have hQ:qV (wJ (Ts i) x) Sa Sb=true:=hQ
      rw [hxe] at hQ
      simp only [qV,Bool.and_eq_true,Bool.not_eq_true',List.contains_eq_mem,decide_eq_false_iff_not] at hQ
      refine ⟨?_,hQ.2⟩
      have h1:=hQ.1
      split at h1 <;> first | (cases h1;done) | skip
      rename_i hsa
      exact ⟨_,hsa,rfl⟩
     exact ⟨_,hres,Xb 3 (KT hq3) k2.dem⟩
   by_cases hrd:ZP oi=false
   ·
    obtain ⟨a,h1,h2⟩:=aiG hdr hv hni hrd hops
    have h3:=(h2 (Hs i)).2
    rw [ha] at h3
    have e:zf i=a:=by simpa using congrArg (Option.map Prod.fst) h3
    subst e
    exact ⟨_,(h2 _).1,Xb 3 (KT hq3) h1⟩
   ·
    have hrd:ZP oi=true:=by simpa using hrd
    by_cases hlt:i < j
    ·
     rw [if_neg (by omega)]
     have hL:=hline.later (i:=i) (j+1 - i) (by omega)
     rw [show i+(j+1 - i)=j+1 by omega] at hL
     obtain ⟨a,h1,_,h3,h4,_⟩:=ajF hdr hv hni hm hops hL
     rw [ha] at h4
     have e:zf i=a:=by simpa using congrArg (Option.map Prod.fst) h4
     subst e
     exact ⟨_,h3,Xb 3 (KT hq3) h1⟩
    ·
     rw [if_pos (by omega)]
     rw [hrd] at hp2
     have hcl:vG ((afg P (fixed P ops) (ops.toList.drop j) []).getD (i - j) []) oi=true:=by
      simpa [hlt] using hp2
     obtain ⟨hGj2,hTj⟩:=hline.inv j (by omega)
     have hC0:Clear (μs j) (Hs j) [] (Ts j) (As j):=fun t _=>(hTj.slots t).v0
     have hC:=hline.clear hdr (j:=j) (by omega) _ [] j (Nat.le_refl _) rfl hC0 (i - j) (by rw [List.length_drop];omega)
     rw [show j+(i - j)=i by omega] at hC
     have hL:=hline.later (i:=j) (i - j) (by omega)
     rw [show j+(i - j)=i by omega] at hL
     obtain ⟨a,h1,h2,_,_,h5⟩:=ajF hdr hv hni hm (hC.operands (WS hv) hcl) hL
     rw [ha] at h5
     have e:zf i=a:=by simpa using congrArg (Option.map Prod.fst) h5
     subst e
     exact ⟨_,h2,Xb 3 (KT hq3) h1⟩
  obtain ⟨G',h1,h2⟩:=same
  unfold recheck
  rw [h1]
  exact h2
 ·
  rw [hw]
  rfl
end
end Go.Abs
namespace Go.Abs
open Go.RowKit
section
variable {P:Program} {call:FuncId→List Value→M Value}
def ajc (μ:Mu) (ω:Nat→Option kW) (H:zx) (e:AEx) (T':List Value) (S':zx) (R:St):Prop :=
 ∃ A' H' μ' ω',R=some (e,A',H')∧GI μ' S' H'∧Later μ H μ' H'∧Kept ω H ω' H'∧TI μ' H' ω' T' A'
theorem aib {hp:Bool} (hc:QK P call) (fuel:Nat):∀ (c:Code) (T T' A:List Value) (S S' H:zx) (μ:Mu) (ω:Nat→Option kW) (e:AEx),kP P hp call fuel c T S=some (e,T',S')→GI μ S H→TI μ H ω T A→ajc μ ω H e T' S' (kR P c A H):=by
 intro c
 induction c with
 | skip =>
  intro T T' A S S' H μ ω e h hG hT
  simp only [kP,Option.some.injEq,Prod.mk.injEq] at h
  obtain ⟨rfl,rfl,rfl⟩:=h
  exact ⟨A,H,μ,ω,rfl,hG,Later.refl _ _,Kept.refl _ _,hT⟩
 | exit id =>
  intro T T' A S S' H μ ω e h hG hT
  simp only [kP,Option.some.injEq,Prod.mk.injEq] at h
  obtain ⟨rfl,rfl,rfl⟩:=h
  exact ⟨A,H,μ,ω,rfl,hG,Later.refl _ _,Kept.refl _ _,hT⟩
 | ret =>
  intro T T' A S S' H μ ω e h hG hT
  simp only [kP,Option.some.injEq,Prod.mk.injEq] at h
  obtain ⟨rfl,rfl,rfl⟩:=h
  exact ⟨A,H,μ,ω,rfl,hG,Later.refl _ _,Kept.refl _ _,hT⟩
 | region i ops d =>
  intro T T' A S S' H μ ω e h hG hT
  cases d with
  | false =>
   simp only [kP] at h
   split at h <;> first | (cases h;done) | skip
   rename_i T1 S1 ho
   cases h
   obtain ⟨A',H',μ',ω',h1,h2,h3,h4,h5⟩:=akf hc _ _ _ _ _ _ _ _ _ ho hG hT
   exact ⟨A',H',μ',ω',by simp only [kR,h1],h2,h3,h4,h5⟩
  | true =>
   simp only [kP] at h
   split at h <;> first | (cases h;done) | skip
   rename_i hd
   split at h <;> first | (cases h;done) | skip
   rename_i T1 S1 ho
   cases h
   obtain ⟨A',H',μ',ω',h1,h2,h3,h4,h5⟩:=afR hc hd ho hG hT
   exact ⟨A',H',μ',ω',by simp only [kR,h1],h2,h3,h4,h5⟩
 | seq x y ihx ihy =>
  intro T T' A S S' H μ ω e h hG hT
  simp only [kP] at h
  split at h
  ·
   rename_i T1 S1 hx
   obtain ⟨A1,H1,μ1,ω1,h1,h2,h3,h4,h5⟩:=ihx _ _ _ _ _ _ _ _ _ hx hG hT
   obtain ⟨A2,H2,μ2,ω2,k1,k2,k3,k4,k5⟩:=ihy _ _ _ _ _ _ _ _ _ h h2 h5
   exact ⟨A2,H2,μ2,ω2,by simp only [kR,h1];exact k1,k2,h3.trans k3,h4.trans k4,k5⟩
  ·
   rename_i hne
   obtain ⟨A1,H1,μ1,ω1,h1,h2,h3,h4,h5⟩:=ihx _ _ _ _ _ _ _ _ _ h hG hT
   refine ⟨A1,H1,μ1,ω1,?_,h2,h3,h4,h5⟩
   simp only [kR,h1]
   cases e with
   | normal=>exact absurd h (hne _ _)
   | exit id=>rfl
   | ret=>rfl
 | cond c x y ihx ihy =>
  intro T T' A S S' H μ ω e h hG hT
  simp only [kP] at h
  split at h <;> first | (cases h;done) | skip
  rename_i hok
  have hv:=hT.eval hok
  split at h
  ·
   rename_i hb
   have:wJ A c=.bool true:=yg hv (by rw [hb];rfl) |>.trans hb
   obtain ⟨A1,H1,μ1,ω1,h1,h2,h3,h4,h5⟩:=ihx _ _ _ _ _ _ _ _ _ h hG hT
   exact ⟨A1,H1,μ1,ω1,by simp only [kR,hok,if_true,this];exact h1,h2,h3,h4,h5⟩
  ·
   rename_i hb
   have:wJ A c=.bool false:=yg hv (by rw [hb];rfl) |>.trans hb
   obtain ⟨A1,H1,μ1,ω1,h1,h2,h3,h4,h5⟩:=ihy _ _ _ _ _ _ _ _ _ h hG hT
   exact ⟨A1,H1,μ1,ω1,by simp only [kR,hok,if_true,this];exact h1,h2,h3,h4,h5⟩
  ·
   cases h
 | block id c ih =>
  intro T T' A S S' H μ ω e h hG hT
  simp only [kP] at h
  split at h
  ·
   rename_i id' T1 S1 hx
   obtain ⟨A1,H1,μ1,ω1,h1,h2,h3,h4,h5⟩:=ih _ _ _ _ _ _ _ _ _ hx hG hT
   by_cases hid:id'=id
   ·
    rw [if_pos hid] at h
    cases h
    exact ⟨A1,H1,μ1,ω1,by simp only [kR,h1,if_pos hid],h2,h3,h4,h5⟩
   ·
    rw [if_neg hid] at h
    cases h
    exact ⟨A1,H1,μ1,ω1,by simp only [kR,h1,if_neg hid],h2,h3,h4,h5⟩
  ·
   rename_i hne
   obtain ⟨A1,H1,μ1,ω1,h1,h2,h3,h4,h5⟩:=ih _ _ _ _ _ _ _ _ _ h hG hT
   refine ⟨A1,H1,μ1,ω1,?_,h2,h3,h4,h5⟩
   simp only [kR,h1]
   cases e with
   | normal=>rfl
   | exit id'=>exact absurd h (hne _ _ _)
   | ret=>rfl
 | loop c ih =>
  have key:∀ (n:Nat) (T T' A:List Value) (S S' H:zx) (μ:Mu) (ω:Nat→Option kW) (e:AEx),xR n (kP P hp call fuel c) T S=some (e,T',S')→GI μ S H→TI μ H ω T A→ajc μ ω H e T' S' (qR (kR P c) A H):=by
   intro n
   induction n with
   | zero=>intro T T' A S S' H μ ω e h;cases h
   | succ n ihn =>
    intro T T' A S S' H μ ω e h hG hT
    simp only [xR] at h
    split at h
    ·
     rename_i T1 S1 hx
     obtain ⟨A1,H1,μ1,ω1,h1,h2,h3,h4,h5⟩:=ih _ _ _ _ _ _ _ _ _ hx hG hT
     obtain ⟨A2,H2,μ2,ω2,k1,k2,k3,k4,k5⟩:=ihn _ _ _ _ _ _ _ _ _ h h2 h5
     exact ⟨A2,H2,μ2,ω2,by rw [yH h1];exact k1,k2,h3.trans k3,h4.trans k4,k5⟩
    ·
     rename_i hne
     obtain ⟨A1,H1,μ1,ω1,h1,h2,h3,h4,h5⟩:=ih _ _ _ _ _ _ _ _ _ h hG hT
     exact ⟨A1,H1,μ1,ω1,wI h1 (fun he=>by subst he;exact hne _ _ h),h2,h3,h4,h5⟩
  intro T T' A S S' H μ ω e h hG hT
  simp only [kP] at h
  obtain ⟨A1,H1,μ1,ω1,h1,h2⟩:=key fuel _ _ _ _ _ _ _ _ _ h hG hT
  exact ⟨A1,H1,μ1,ω1,by simp only [kR];exact h1,h2⟩
 | _=>intro T T' A S S' H μ ω e h;simp only [kP] at h;cases h
theorem VV.ak7 {μ:Mu} {H:zx} {ω ω':Nat→Option kW} {f:kW→Option kW} (hω:∀ r,ω' r=(ω r).bind f) {s s':kW} (hs:f s=some s') {v a:Value} (h:VV μ H ω (some s) v a) (hv:wE v=true):VV μ H ω' (some s') v a:=by
 cases h with
 | sg h=>exact .sg h
 | ptr h=>exact .ptr h
 | map h=>exact .map h
 | slm h=>exact .slm h
 | slE=>exact .slE
 | sl hr hp hg hl hl' hc=>exact .sl hr hp hg hl hl' (fun i hi=>(hc i hi).at0)
 | so h hr hp hg hl hl' hc=>exact .so (by rw [hω,h];exact hs) hr hp hg hl hl' (fun i hi=>(hc i hi).at0)
 | ep hr hp hg hl hc=>exact .ep hr hp hg hl (fun i hi=>(hc i hi).at0)
 | func fn hx hc h1 h2=>exact .func fn hx hc (fun i=>(h1 i).at0) (fun i=>(h2 i).at0)
 | agg hx hh=>exact .agg hx (fun i=>(hh i).at0)
 | nores=>exact .nores
 | @tuple _ x x' hx hh =>
  have h0:x.size=0:=by simpa [wE] using hv
  have e1:x=#[]:=Array.eq_empty_of_size_eq_zero h0
  have e2:x'=#[]:=Array.eq_empty_of_size_eq_zero (by rw [← hx];exact h0)
  subst e1 e2
  exact .nores
def place (rs:List ResultVar):kW→Option kW
 | .ext=>some .ext
 | .res _=>none
 | .slot i j=>match rs with
  | [.tmp t]=>if i=t then some (.res j) else none
  | _=>match j with
   | none=>(rs.findIdx? (aip i)).map fun k=>.res (some k)
   | some _=>none
theorem aeH {rs:List ResultVar} {i:Nat} (h:∀ t,rs≠[.tmp t]):place rs (.slot i none)=(rs.findIdx? (aip i)).map fun k=>.res (some k):=by
 match rs,h with
 | [],_=>rfl
 | [.tmp t],h=>exact absurd rfl (h t)
 | [.cell _ _],_=>rfl
 | .tmp _::_::_,_=>rfl
 | .cell _ _::_::_,_=>rfl
theorem ab8 {μ:Mu} {ω:Nat→Option kW} {S H:zx} {T A:List Value} (hG:GI μ S H) (hT:TI μ H ω T A):∀ (l:List ResultVar) (vs:List Value),zQ P T S l=some vs →
  ∃ zf,Jy P A H l=some zf∧vs.length=l.length∧zf.length=l.length∧∀ i:Nat,match (l[i]?:Option ResultVar) with
   | some (.tmp t)=>vs.getD i zh=T.getD t zh∧zf.getD i zh=A.getD t zh
   | _=>V0 μ H (vs.getD i zh) (zf.getD i zh):=by
 intro l
 induction l with
 | nil =>
  intro vs h
  simp only [zQ,Option.some.injEq] at h
  subst h
  exact ⟨[],rfl,rfl,rfl,fun i=>by simpa using VV.zh⟩
 | cons x l ih =>
  intro vs h
  cases x with
  | tmp t =>
   simp only [zQ] at h
   split at h <;> first | (cases h;done) | skip
   rename_i vs' hr
   cases h
   obtain ⟨zf,h1,h2,h3,h4⟩:=ih _ hr
   refine ⟨A.getD t zh::zf,by simp only [Jy,h1],by simp [h2],by simp [h3],fun i=>?_⟩
   cases i with
   | zero=>exact ⟨rfl,rfl⟩
   | succ i=>simpa using h4 i
  | cell a t =>
   simp only [zQ] at h
   split at h <;> first | (cases h;done) | skip
   rename_i v S1 vs' hl hr
   cases h
   obtain ⟨zf,h1,h2,h3,h4⟩:=ih _ hr
   obtain ⟨_,w,k1,k2⟩:=QX hl (hT.slots a).v0 (.inr hG)
   refine ⟨w::zf,by simp only [Jy,k1,h1],by simp [h2],by simp [h3],fun i=>?_⟩
   cases i with
   | zero=>exact k2
   | succ i=>simpa using h4 i
theorem ajy {μ:Mu} {ω:Nat→Option kW} {S S' H:zx} {T A:List Value} {fn:Func} {v:Value} (hG:GI μ S H) (hT:TI μ H ω T A) (h:aeU P fn T S=some (v,S')) :
  S'=S∧∃ a,ah7 P fn A H=some (a,H)∧VV μ H (fun r=>(ω r).bind (place fn.results.toList)) (some (.res none)) v a:=by
 unfold aeU at h
 split at h <;> first | (cases h;done) | skip
 rename_i vs hvs
 split at h <;> first | (cases h;done) | skip
 rename_i hok
 obtain ⟨zf,h1,h2,h3,h4⟩:=ab8 hG hT _ _ hvs
 generalize hrs:fn.results.toList=rs at *
 split at h
 ·
  rename_i v1
  cases h
  obtain ⟨a,rfl⟩:∃ a,zf=[a]:=by
   match zf,h3.trans h2.symm with
   | [a],_=>exact ⟨a,rfl⟩
  refine ⟨rfl,a,by simp only [ah7,hrs,h1],?_⟩
  match rs,h2 with
  | [x],_ =>
   have:=h4 0
   cases x with
   | tmp t =>
    simp only [List.getElem?_cons_zero,List.getD_cons_zero] at this
    obtain ⟨rfl,rfl⟩:=this
    refine (hT.slots t).VU (fun _=>rfl) _ (fun s hs=>?_)
    cases hs
    refine ⟨_,rfl,by simp only [place,if_true],fun k t' ht=>?_⟩
    cases ht
    exact ⟨_,rfl,by simp only [place,if_true]⟩
   | cell b t=>exact (show V0 μ H v a from this).at0
 ·
  rename_i hne
  split at h <;> first | (cases h;done) | skip
  rename_i hnt
  cases h
  refine ⟨rfl,.tuple zf.toArray,?_,.tuple (by simp [h2,h3]) fun i=>?_⟩
  ·
   simp only [ah7,hrs,h1]
   match zf,vs,h3.trans h2.symm,hne with
   | [],_,_,_=>rfl
   | [a],[v],_,hne=>exact absurd rfl (hne v)
   | a::b::c,_,_,_=>rfl
  ·
   have e1:vs.toArray.getD i zh=vs.getD i zh:=by rw [← getD_toList,List.toList_toArray]
   have e2:zf.toArray.getD i zh=zf.getD i zh:=by rw [← getD_toList,List.toList_toArray]
   rw [e1,e2]
   have h5:=h4 i
   cases hx:rs[i]? with
   | none=>rw [hx] at h5;exact (show V0 μ H _ _ from h5).at0
   | some x =>
    rw [hx] at h5
    cases x with
    | cell b t=>exact (show V0 μ H _ _ from h5).at0
    | tmp t =>
     dsimp only at h5
     have hi:i < rs.length:=(List.getElem?_eq_some_iff.1 hx).1
     have hid:rs.findIdx? (aip t)=some i:=by
      have:=List.all_eq_true.1 hok i (List.mem_range.2 hi)
      rw [hx] at this
      simpa using this
     have hnt2:wE (T.getD t zh)=true:=by
      rw [← h5.1,List.getD_eq_getElem?_getD,List.getElem?_eq_getElem (by omega)]
      exact List.all_eq_true.1 hnt _ (List.getElem_mem _)
     rw [h5.1,h5.2]
     refine (hT.slots t).ak7 (fun _=>rfl) (s':=.res (some i)) ?_ hnt2
     have hne1:∀ t',rs≠[.tmp t']:=by
      intro t' e
      rw [e] at h2
      match vs,h2 with
      | [v],_=>exact hne v rfl
     rw [aeH hne1,hid];rfl
def ae9 (P:Program) (O:Ora):Prop:=∀ f q,O.fn f=some q→QK P (fun g args=>if g=f then q args else fun _=>none)
theorem ajI {s t:kW} {i:Nat} (h:s.comp i=some t):t≠.ext:=by
 cases s with
 | ext=>cases h
 | slot a b=>cases b <;> first | (cases h;exact fun h=>by cases h) | cases h
 | res b=>cases b <;> first | (cases h;exact fun h=>by cases h) | cases h
theorem VV.xH {μ μ':Mu} {H:zx} {ω ω':Nat→Option kW} {es:List Nat} (hp:∀ r l own e,H.get r=some (.cells l own e)→e ∉ es→YC μ r→YC μ' r) (hω:∀ r s,s≠.ext→ω r=some s→ω' r=some s)
  {ℓ:Option kW} {v a:Value} (h:VV μ H ω ℓ v a):∀ d,Go.Abs.xH es d v=true→(∀ s,ℓ=some s→s≠.ext)→VV μ' H ω' ℓ v a:=by
 induction h with
 | sg h=>exact fun _ _ _=>.sg h
 | ptr h=>intro d hc;cases d <;> simp [Go.Abs.xH] at hc
 | map h=>intro d hc;cases d <;> simp [Go.Abs.xH] at hc
 | slm h=>intro d hc;cases d <;> simp [Go.Abs.xH] at hc
 | slE=>exact fun _ _ _=>.slE
 | @sl ℓ e n r o cs l own hr hpr hg hl hn hc ih =>
  intro d hcl _
  cases d with
  | zero=>cases hcl
  | succ d =>
   have hv:Go.Abs.xH es (d+1) (.iface 1 (.iface e (.iface n (.agg cs))))=(!es.contains e && cs.toList.all (Go.Abs.xH es d)):=rfl
   rw [hv,Bool.and_eq_true] at hcl
   have he:e ∉ es:=by simpa using hcl.1
   refine .sl hr (hp _ _ _ _ hg he hpr) hg hl hn (fun i hi=>ih i hi d ?_ (fun s hs=>by cases hs))
   rw [List.getD_eq_getElem?_getD,List.getElem?_eq_getElem (by omega)]
   exact List.all_eq_true.1 hcl.2 _ (List.getElem_mem _)
 | @so s e n r cs l anc hw hr hpr hg hl hn hc ih =>
  intro d hcl hs
  cases d with
  | zero=>cases hcl
  | succ d =>
   have hv:Go.Abs.xH es (d+1) (.iface 2 (.iface e (.iface n (.agg cs))))=(!es.contains e && cs.toList.all (Go.Abs.xH es d)):=rfl
   rw [hv,Bool.and_eq_true] at hcl
   have he:e ∉ es:=by simpa using hcl.1
   refine .so (hω _ _ (hs _ rfl) hw) hr (hp _ _ _ _ hg he hpr) hg hl hn (fun i hi=>ih i hi d ?_ (fun s hs=>by cases hs))
   rw [List.getD_eq_getElem?_getD,List.getElem?_eq_getElem (by omega)]
   exact List.all_eq_true.1 hcl.2 _ (List.getElem_mem _)
 | ep hr hpr hg hl hc ih =>
  intro d hcl
  cases d with
  | zero=>cases hcl
  | succ d=>simp [Go.Abs.xH,vSl] at hcl
 | func fn hx hc h1 h2=>intro d hc;cases d <;> simp [Go.Abs.xH] at hc
 | @agg ℓ x x' hx hh ih =>
  intro d hcl _
  cases d with
  | zero=>cases hcl
  | succ d =>
   have hcl:x.toList.all (Go.Abs.xH es d)=true:=hcl
   refine .agg hx (fun i=>?_)
   by_cases hi:i < x.size
   ·
    refine ih i d ?_ (fun s hs=>by cases hs)
    rw [Array.getD_eq_getD_getElem?,Array.getElem?_eq_getElem hi]
    exact List.all_eq_true.1 hcl _ (by simp)
   ·
    rw [Array.getD_eq_getD_getElem?,Array.getElem?_eq_none (Nat.le_of_not_lt hi),Array.getD_eq_getD_getElem?,Array.getElem?_eq_none (by omega)]
    exact .nores
 | nores=>exact fun _ _ _=>.nores
 | @tuple ℓ x x' hx hh ih =>
  intro d hcl hs
  cases d with
  | zero=>cases hcl
  | succ d =>
   have hcl:x.toList.all (Go.Abs.xH es d)=true:=hcl
   refine .tuple hx (fun i=>?_)
   by_cases hi:i < x.size
   ·
    refine ih i d ?_ (fun s hb=>?_)
    ·
     rw [Array.getD_eq_getD_getElem?,Array.getElem?_eq_getElem hi]
     exact List.all_eq_true.1 hcl _ (by simp)
    ·
     cases ℓ with
     | none=>cases hb
     | some s0=>exact ajI (s:=s0) hb
   ·
    rw [Array.getD_eq_getD_getElem?,Array.getElem?_eq_none (Nat.le_of_not_lt hi),Array.getD_eq_getD_getElem?,Array.getElem?_eq_none (by omega)]
    exact .nores
open Classical in
noncomputable def ali (μ:Mu) (ω:Nat→Option kW):Nat→Option kW:=fun r=>if ∃ q,μ q=some (r,true) then none else ω r
open Classical in
noncomputable def aaE (μ μ1:Mu) (ω:Nat→Option kW):Nat→Option kW:=fun r=>if ∃ q,μ q=some (r,true)∧¬ μ1 q=some (r,true) then some .ext else ω r
theorem ah1 {call:FuncId→List Value→M Value} (hc:QK P call) {hps:FuncId→Bool} {hp:Bool}:QK P (xP hps hp call):=by
 cases hp with
 | false=>exact hc
 | true =>
  intro g args aargs S v S' h μ H ω hG hA hD hE
  unfold xP at h
  dsimp only at h
  split at h
  ·
   exact hc g args aargs S v S' h μ H ω hG hA hD hE
  ·
   split at h <;> first | (cases h;done) | skip
   rename_i m S1 hf
   obtain ⟨μ1,h1,h2,h3,hsz⟩:=abn _ _ _ _ _ _ hf hG hA
   split at h <;> first | (cases h;done) | skip
   rename_i r0 hr0
   obtain ⟨v0,S2⟩:=r0
   simp only [Option.some.injEq] at h
   unfold VB at h
   dsimp only at h
   split at h
   ·
    rename_i hb
    cases h
    simp only [Bool.and_eq_true,beq_iff_eq] at hb
    obtain ⟨⟨_,hgr⟩,hlog⟩:=hb
    have hlent:∀ q r,μ q=some (r,true)→¬ μ1 q=some (r,true)→r < H.next∧YC μ1 r:=fun q r hq hn =>
     ⟨hG.lt q r _ hq,fun q' hq'=>by
      rcases h2.new q' r hq' with h5 | h5
      ·
       have:=hG.inj q q' r hq h5
       subst this
       exact hn hq'
      ·
       have:=hG.lt q r _ hq;omega,by rw [h2.hid];exact hG.vis q r hq⟩
    have hDL:Dom μ1 H (aaE μ μ1 ω):=fun r s hs=>by
     unfold aaE at hs
     split at hs
     ·
      rename_i hx
      obtain ⟨q,hq,hn⟩:=hx
      exact hlent q r hq hn
     ·
      exact ⟨(hD r s hs).1,h2.priv (hD r s hs).1 (hD r s hs).2⟩
    have hEL:∀ r s,aaE μ μ1 ω r=some s→s=.ext:=fun r s hs=>by
     unfold aaE at hs
     split at hs
     ·
      cases hs;rfl
     ·
      exact hE r s hs
    obtain ⟨a,H',μ',ω',k1,k2,k3,k4,k5,k6⟩:=hc g m aargs S1 v S2 hr0 μ1 H (aaE μ μ1 ω) h1 h3 hDL hEL
    have hsame:∀ q r,μ q=some (r,true)→H'.get r=H.get r:=fun q r hq=>by
     by_cases hn:μ1 q=some (r,true)
     ·
      obtain ⟨new,e1,e2⟩:=k3.still
      have:new=[]:=by
       rw [k2.log,h1.log,hlog] at e1
       exact List.append_cancel_right (bs:=S1.log) (by rw [← e1];rfl)
      subst this
      exact (e2 q r hn (by simp)).2
     ·
      exact (k4 r (by unfold aaE;rw [if_pos ⟨q,hq,hn⟩])).2
    have hL:Later μ H μ H':=⟨fun _ _ b h=>⟨b,h⟩,k3.next,fun _ _ h=>.inl h,rfl,fun r hr hh=>k3.same r hr (by rw [h2.hid];exact hh),⟨[],rfl,fun q r hq _=>⟨hq,hsame q r hq⟩⟩,
     fun r l own e hr hp hg=>k3.cells r l own e hr (h2.priv hr hp) hg⟩
    rcases Bool.or_eq_true _ _ |>.mp hgr with hgr | hgr
    ·
     refine ⟨a,H',μ,ω,k1,hG.later hL rfl hsame,hL,fun r hr=>⟨hr,(k4 r ?_).2⟩,fun r s hs=>⟨Nat.lt_of_lt_of_le (hD r s hs).1 k3.next,(hD r s hs).2⟩,?_⟩
     ·
      unfold aaE
      split
      ·
       rfl
      ·
       exact hr
     ·
      rw [VV.ZO hgr k6]
      exact VV.kG hgr
    ·
     have hpr:∀ r l own e,H'.get r=some (.cells l own e)→e ∉ ahK S args→YC μ' r→YC μ r:=fun r l own e hg he hp=>by
      refine ⟨fun q hq=>?_,by rw [← h2.hid,← k3.hid];exact hp.2⟩
      rcases hsz q r hq with hn | ⟨l1,own1,e1,he1,hg1⟩
      ·
       obtain ⟨new,e1,e2⟩:=k3.still
       have:new=[]:=by
        rw [k2.log,h1.log,hlog] at e1
        exact List.append_cancel_right (bs:=S1.log) (by rw [← e1];rfl)
       subst this
       exact hp.1 q (e2 q r hn (by simp)).1
      ·
       rw [hsame q r hq,hg1] at hg
       cases hg
       exact he he1
     have hno:∀ r s,ω r=some s→¬ ∃ q,μ q=some (r,true):=fun r s hs ⟨q,hq⟩=>(hD r s hs).2.1 q hq
     have hst:∀ r,(∃ q,μ q=some (r,true))→∀ s,ω' r=some s→s=.ext:=fun r ⟨q,hq⟩ s hs=>by
      by_cases hn:μ1 q=some (r,true)
      ·
       exfalso
       obtain ⟨new,e1,e2⟩:=k3.still
       have:new=[]:=by
        rw [k2.log,h1.log,hlog] at e1
        exact List.append_cancel_right (bs:=S1.log) (by rw [← e1];rfl)
       subst this
       exact (k5 r s hs).2.1 q (e2 q r hn (by simp)).1
      ·
       have:=(k4 r (by unfold aaE;rw [if_pos ⟨q,hq,hn⟩])).1
       rw [hs] at this
       cases this
       rfl
     refine ⟨a,H',μ,ali μ ω',k1,hG.later hL rfl hsame,hL,fun r hr=>?_,fun r s hs=>?_,?_⟩
     ·
      have hnr:=hno r _ hr
      unfold ali
      rw [if_neg hnr]
      refine k4 r ?_
      unfold aaE
      rw [if_neg (fun ⟨q,hq,_⟩=>hnr ⟨q,hq⟩)]
      exact hr
     ·
      unfold ali at hs
      split at hs
      ·
       cases hs
      ·
       rename_i hnr
       exact ⟨(k5 r s hs).1,fun q hq=>hnr ⟨q,hq⟩,by rw [← h2.hid,← k3.hid];exact (k5 r s hs).2.2⟩
     ·
      refine k6.xH hpr (fun r s hne hs=>?_) 16 hgr (fun s hs=>by cases hs;exact fun h=>by cases h)
      unfold ali
      rw [if_neg (fun hx=>hne (hst r hx s hs))]
      exact hs
   ·
    cases h
    obtain ⟨a,H',μ',ω',k1,k2,k3,k4,k5,k6⟩:=hc g m aargs S1 v S' hr0 μ1 H ω h1 h3 (fun r s hs=>⟨(hD r s hs).1,h2.priv (hD r s hs).1 (hD r s hs).2⟩) hE
    exact ⟨a,H',μ',ω',k1,k2,h2.trans k3,k4,k5,k6⟩
theorem VV.clean {μ μ':Mu} {H:zx} {ω:Nat→Option kW} (hp:∀ r,YC μ r→YC μ' r) {ℓ:Option kW} {v a:Value} (h:VV μ H ω ℓ v a):∀ d,jL d v=true→VV μ' H ω ℓ v a:=by
 induction h with
 | sg h=>exact fun _ _=>.sg h
 | ptr h=>intro d hc;cases d <;> simp [jL] at hc
 | map h=>intro d hc;cases d <;> simp [jL] at hc
 | slm h=>intro d hc;cases d <;> simp [jL] at hc
 | slE=>exact fun _ _=>.slE
 | sl hr hpr hg hl hn hc ih =>
  intro d hcl
  obtain ⟨d,rfl⟩:∃ k,d=k+4:=by
   match d,hcl with
   | 0,h=>cases h
   | 1,h=>simp [jL] at h
   | 2,h=>simp [jL] at h
   | 3,h=>simp [jL] at h
   | k+4,_=>exact ⟨k,rfl⟩
  simp only [jL] at hcl
  refine .sl hr (hp _ hpr) hg hl hn (fun i hi=>ih i hi d ?_)
  rw [List.getD_eq_getElem?_getD,List.getElem?_eq_getElem (by omega)]
  exact List.all_eq_true.1 hcl _ (List.getElem_mem _)
 | so hω hr hpr hg hl hn hc ih =>
  intro d hcl
  obtain ⟨d,rfl⟩:∃ k,d=k+4:=by
   match d,hcl with
   | 0,h=>cases h
   | 1,h=>simp [jL] at h
   | 2,h=>simp [jL] at h
   | 3,h=>simp [jL] at h
   | k+4,_=>exact ⟨k,rfl⟩
  simp only [jL] at hcl
  refine .so hω hr (hp _ hpr) hg hl hn (fun i hi=>ih i hi d ?_)
  rw [List.getD_eq_getElem?_getD,List.getElem?_eq_getElem (by omega)]
  exact List.all_eq_true.1 hcl _ (List.getElem_mem _)
 | ep hr hpr hg hl hc ih =>
  intro d hcl
  obtain ⟨d,rfl⟩:∃ k,d=k+2:=by
   match d,hcl with
   | 0,h=>cases h
   | 1,h=>simp [jL] at h
   | k+2,_=>exact ⟨k,rfl⟩
  simp only [jL] at hcl
  refine .ep hr (hp _ hpr) hg hl (fun i hi=>ih i hi d ?_)
  rw [List.getD_eq_getElem?_getD,List.getElem?_eq_getElem hi]
  exact List.all_eq_true.1 hcl _ (List.getElem_mem _)
 | func fn hx hc h1 h2=>intro d hc;cases d <;> simp [jL] at hc
 | @agg ℓ x x' hx hh ih =>
  intro d hcl
  obtain ⟨d,rfl⟩:∃ k,d=k+1:=by
   match d,hcl with
   | 0,h=>cases h
   | k+1,_=>exact ⟨k,rfl⟩
  simp only [jL] at hcl
  refine .agg hx (fun i=>?_)
  by_cases hi:i < x.size
  ·
   refine ih i d ?_
   rw [Array.getD_eq_getD_getElem?,Array.getElem?_eq_getElem hi]
   exact List.all_eq_true.1 hcl _ (by simp)
  ·
   rw [Array.getD_eq_getD_getElem?,Array.getElem?_eq_none (Nat.le_of_not_lt hi),Array.getD_eq_getD_getElem?,Array.getElem?_eq_none (by omega)]
   exact .nores
 | nores=>exact fun _ _=>.nores
 | @tuple ℓ x x' hx hh ih =>
  intro d hcl
  obtain ⟨d,rfl⟩:∃ k,d=k+1:=by
   match d,hcl with
   | 0,h=>cases h
   | k+1,_=>exact ⟨k,rfl⟩
  simp only [jL] at hcl
  refine .tuple hx (fun i=>?_)
  by_cases hi:i < x.size
  ·
   refine ih i d ?_
   rw [Array.getD_eq_getD_getElem?,Array.getElem?_eq_getElem hi]
   exact List.all_eq_true.1 hcl _ (by simp)
  ·
   rw [Array.getD_eq_getD_getElem?,Array.getElem?_eq_none (Nat.le_of_not_lt hi),Array.getD_eq_getD_getElem?,Array.getElem?_eq_none (by omega)]
   exact .nores
theorem VV.lower {μ μ' : Mu} {S H : zx} {ω : Nat → Option kW} (hG : GI μ S H) (hp : ∀ r, YC μ r → YC μ' r) (hq : ∀ q r, μ q = some (r, true) → YC μ' r) {ℓ : Option kW} {v a : Value} (h : VV μ H ω ℓ v a) :
    ∀ d d', jL d (qM S d' v) = true → VV μ' H ω ℓ (qM S d' v) a := by
  induction h with
  | sg h =>
    intro d d' hc
    rename_i v
    have e : qM S d' v = v := by
      cases d' with
      | zero => rfl
      | succ d' => cases v <;> first | rfl | (simp [Go.Abs.sg] at h; done) | skip
                   rename_i a n c
                   cases a <;> first | rfl | (simp [Go.Abs.sg] at h; done)
    rw [e]; exact .sg h
  | ptr h => intro d d' hc; cases d' <;> cases d <;> simp [qM, jL] at hc
  | map h => intro d d' hc; cases d' <;> cases d <;> simp [qM, jL] at hc
  | @slm ℓ r o r' b n hm =>
    intro d d' hc
    cases d' with
    | zero => cases d <;> simp [qM, jL] at hc
    | succ d' =>
      by_cases ho : o = 0
      · subst ho
        cases hg : S.get r with
        | none => rw [show qM S (d' + 1) (.slice (some ⟨r, 0, none⟩) n n) = .slice (some ⟨r, 0, none⟩) n n by simp only [qM, hg]] at hc; cases d <;> simp [jL] at hc
        | some ob =>
          cases ob with
          | map es c => rw [show qM S (d' + 1) (.slice (some ⟨r, 0, none⟩) n n) = .slice (some ⟨r, 0, none⟩) n n by simp only [qM, hg]] at hc; cases d <;> simp [jL] at hc
          | dead => rw [show qM S (d' + 1) (.slice (some ⟨r, 0, none⟩) n n) = .slice (some ⟨r, 0, none⟩) n n by simp only [qM, hg]] at hc; cases d <;> simp [jL] at hc
          | cells cs own e =>
            by_cases hle : n * e ≤ cs.length
            · have e1 : qM S (d' + 1) (.slice (some ⟨r, 0, none⟩) n n) = SL 1 e n (cs.take (n * e)) := by simp only [qM, hg, hle, and_self, if_true]
              rw [e1] at hc ⊢
              obtain ⟨r2, cs', own', _, hm', hg', hl⟩ := hG.cells hg
              rw [hm] at hm'; cases hm'
              have hlen := hl.1
              refine .sl (o := 0) (hG.lt r r' _ hm) (hq r r' hm) hg' (by omega) (by simp; omega) fun i hi => ?_
              have hv : VV μ H W0 none (cs.getD i Go.undef) (cs'.getD i Go.undef) := hl.2 i
              have e2 : (cs.take (n * e)).toArray.toList.getD i Go.undef = cs.getD i Go.undef := by
                rw [List.toList_toArray, List.getD_eq_getElem?_getD, List.getElem?_take, if_pos hi, ← List.getD_eq_getElem?_getD]
              rw [e2, Nat.zero_add]
              obtain ⟨d, rfl⟩ : ∃ k, d = k + 4 := by
                match d, hc with
                | 0, h => cases h
                | 1, h => simp [SL, jL] at h
                | 2, h => simp [SL, jL] at h
                | 3, h => simp [SL, jL] at h
                | k + 4, _ => exact ⟨k, rfl⟩
              simp only [SL, jL, List.toList_toArray] at hc
              have hci : jL d (cs.getD i Go.undef) = true := by
                have h2 : i < cs.length := by omega
                rw [List.getD_eq_getElem?_getD, List.getElem?_eq_getElem h2, Option.getD_some]
                exact List.all_eq_true.1 hc _ (by rw [List.mem_take_iff_getElem]; exact ⟨i, by omega, rfl⟩)
              exact (hv.clean hp d hci).at0
            · rw [show qM S (d' + 1) (.slice (some ⟨r, 0, none⟩) n n) = .slice (some ⟨r, 0, none⟩) n n by simp only [qM, hg, hle, and_false, if_false]] at hc; cases d <;> simp [jL] at hc
      · rw [show qM S (d' + 1) (.slice (some ⟨r, o, none⟩) n n) = .slice (some ⟨r, o, none⟩) n n by
          simp only [qM]
          split
          · rename_i h; simp only [Value.slice.injEq, Option.some.injEq, Addr.mk.injEq] at h; exact absurd h.1.2.1 ho
          · rename_i h; cases h
          · rename_i h; cases h
          · rfl] at hc
        cases d <;> simp [jL] at hc
  | slE => intro d d' _; cases d' <;> exact .slE
  | sl hr hpr hg hl hn hc ih => intro d d' hcl; cases d' <;> exact (VV.sl hr hpr hg hl hn hc).clean hp d hcl
  | so hω hr hpr hg hl hn hc ih => intro d d' hcl; cases d' <;> exact (VV.so hω hr hpr hg hl hn hc).clean hp d hcl
  | ep hr hpr hg hl hc ih => intro d d' hcl; cases d' <;> exact (VV.ep hr hpr hg hl hc).clean hp d hcl
  | func fn hx hc h1 h2 => intro d d' hcl; cases d' <;> cases d <;> simp [qM, jL] at hcl
  | @agg ℓ x x' hx hh ih =>
    intro d d' hcl
    cases d' with
    | zero => exact (VV.agg hx hh).clean hp d hcl
    | succ d' =>
      have e : qM S (d' + 1) (.agg x) = .agg (x.map (qM S d')) := rfl
      rw [e] at hcl ⊢
      cases d with
      | zero => cases hcl
      | succ d =>
        simp only [jL] at hcl
        refine .agg (by simpa using hx) fun i => ?_
        by_cases hi : i < x.size
        · have e2 : (x.map (qM S d')).getD i Go.undef = qM S d' (x.getD i Go.undef) := by simp [Array.getD_eq_getD_getElem?, Array.getElem?_eq_getElem hi]
          rw [e2]
          refine ih i d d' ?_
          refine List.all_eq_true.1 hcl _ ?_
          simp only [Array.toList_map, List.mem_map]
          exact ⟨x[i], by simp, by rw [Array.getD_eq_getD_getElem?, Array.getElem?_eq_getElem hi]; rfl⟩
        · rw [Array.getD_eq_getD_getElem?, Array.getElem?_eq_none (by simpa using Nat.le_of_not_lt hi), Array.getD_eq_getD_getElem?, Array.getElem?_eq_none (by omega)]
          exact .nores
  | nores =>
    intro d d' hcl
    cases d' with
    | zero => exact .nores
    | succ d' => rw [show qM S (d' + 1) (.tuple #[]) = .tuple #[] by simp [qM]]; exact .nores
  | @tuple ℓ x x' hx hh ih =>
    intro d d' hcl
    cases d' with
    | zero => exact (VV.tuple hx hh).clean hp d hcl
    | succ d' =>
      have e : qM S (d' + 1) (.tuple x) = .tuple (x.map (qM S d')) := rfl
      rw [e] at hcl ⊢
      cases d with
      | zero => cases hcl
      | succ d =>
        simp only [jL] at hcl
        refine .tuple (by simpa using hx) fun i => ?_
        by_cases hi : i < x.size
        · have e2 : (x.map (qM S d')).getD i Go.undef = qM S d' (x.getD i Go.undef) := by simp [Array.getD_eq_getD_getElem?, Array.getElem?_eq_getElem hi]
          rw [e2]
          refine ih i d d' ?_
          refine List.all_eq_true.1 hcl _ ?_
          simp only [Array.toList_map, List.mem_map]
          exact ⟨x[i], by simp, by rw [Array.getD_eq_getD_getElem?, Array.getElem?_eq_getElem hi]; rfl⟩
        · rw [Array.getD_eq_getD_getElem?, Array.getElem?_eq_none (by simpa using Nat.le_of_not_lt hi), Array.getD_eq_getD_getElem?, Array.getElem?_eq_none (by omega)]
          exact .nores
open Classical in
noncomputable def WC (μ:Mu):Mu:=⟨fun _=>none,fun r=>μ.hid r || decide (∃ q,μ q=some (r,true)),[]⟩
theorem Xe {μ:Mu} {r:Nat} (h:YC μ r):YC (WC μ) r:=⟨fun q hq=>(by cases hq),by
 simp only [WC,h.2,Bool.false_or,decide_eq_false_iff_not]
 rintro ⟨q,hq⟩
 exact h.1 q hq⟩
theorem afE {μ:Mu} {r:Nat} (h:(WC μ).hid r=false):YC μ r:=by
 simp only [WC,Bool.or_eq_false_iff,decide_eq_false_iff_not] at h
 exact ⟨fun q hq=>h.2 ⟨q,hq⟩,h.1⟩
def alD (P:Program) (g:FuncId) (args:List Value) (run:M Value):Prop:=∀ aargs S v S',run S=some (v,S')→∀ μ H ω,GI μ S H→L0 μ H args aargs→Dom μ H ω→(∀ r s,ω r=some s→s=.ext) →
 ∃ a H' μ' ω',lim P g aargs H=some (a,H')∧GI μ' S' H'∧Later μ H μ' H'∧Kept ω H ω' H'∧Dom μ' H' ω'∧VV μ' H' ω' (some (.res none)) v a
theorem ahB {g:FuncId} {args:List Value} {run:M Value} (hr:alD P g args run):alD P g args (af4 run args):=by
 intro aargs S v S' h μ H ω hG hA hD hE
 unfold af4 at h
 split at h <;> first | (cases h;done) | skip
 rename_i hca
 split at h <;> first | (cases h;done) | skip
 rename_i w S1 hrun
 split at h <;> first | (cases h;done) | skip
 rename_i hcw
 cases h
 have hG0:GI (WC μ) zx.empty H:=⟨fun q o h=>(by cases h),fun q q' r h=>(by cases h),fun q r b h=>(by cases h),fun q _=>rfl,fun q r h=>(by cases h),fun r h=>by
  simp only [WC,Bool.or_eq_true,decide_eq_true_eq] at h
  rcases h with h | ⟨q,hq⟩
  ·
   exact hG.hlt r h
  ·
   exact hG.lt q r _ hq,rfl,fun q cs anc e h=>(by cases h)⟩
 have hA0:L0 (WC μ) H args aargs:=⟨hA.1,fun i=>by
  by_cases hi:i < args.length
  ·
   refine (hA.2 i).clean (fun r h=>Xe h) 16 ?_
   rw [List.getD_eq_getElem?_getD,List.getElem?_eq_getElem hi]
   exact List.all_eq_true.1 hca _ (List.getElem_mem _)
  ·
   rw [List.getD_eq_getElem?_getD,List.getElem?_eq_none (Nat.le_of_not_lt hi),List.getD_eq_getElem?_getD,List.getElem?_eq_none (by rw [← hA.1];omega)]
   exact .nores⟩
 obtain ⟨a,H1,μ1,ω1,k1,k2,k3,k4,k5,k6⟩:=hr aargs _ _ _ hrun (WC μ) H ω hG0 hA0 (fun r s h=>⟨(hD r s h).1,Xe (hD r s h).2⟩) hE
 have hp1:∀ r,YC μ1 r→YC μ r:=fun r h=>afE (by rw [← k3.hid];exact h.2)
 have hL:Later μ H μ H1:=⟨fun _ _ b h=>⟨b,h⟩,k3.next,fun _ _ h=>.inl h,rfl,fun r hr hh=>k3.same r hr (by simp only [WC,hh,Bool.true_or]),⟨[],rfl,fun q r hq _=>⟨hq,k3.same r (hG.lt q r _ hq) (by
  simp only [WC,Bool.or_eq_true,decide_eq_true_eq]
  exact .inr ⟨q,hq⟩)⟩⟩,fun r l own e hr hp hg=>k3.cells r l own e hr (Xe hp) hg⟩
 have hq1:∀ q r,μ1 q=some (r,true)→YC μ r:=fun q r h=>by
  rcases k3.new q r h with h5 | h5
  ·
   cases h5
  ·
   exact ⟨fun q' hq'=>by have:=hG.lt q' r _ hq';omega,by
    cases hh:μ.hid r with
    | false=>rfl
    | true=>have:=hG.hlt r hh;omega⟩
 refine ⟨a,H1,μ,ω1,k1,?_,hL,k4,fun r s h=>⟨(k5 r s h).1,hp1 r (k5 r s h).2⟩,k6.lower k2 hp1 hq1 16 16 hcw⟩
 exact hG.later hL rfl fun q r hq=>k3.same r (hG.lt q r _ hq) (by
  simp only [WC,Bool.or_eq_true,decide_eq_true_eq]
  exact .inr ⟨q,hq⟩)
theorem ahO {O:Ora} (hO:ae9 P O):∀ n,QK P (JI P O n):=by
 intro n
 induction n with
 | zero=>intro g args aargs S v S' h;cases h
 | succ n ih =>
  intro g args aargs S v S' h μ H ω hG hA hD hE
  simp only [JI] at h
  cases ho:O.fn g with
  | some q =>
   rw [ho] at h
   exact hO g q ho g args aargs S v S' (by simpa using h) μ H ω hG hA hD hE
  | none =>
   rw [ho] at h
   dsimp only at h
   cases hf:P.funcs[g]? with
   | none=>rw [hf] at h;cases h
   | some fn =>
    rw [hf] at h
    dsimp only at h
    split at h <;> first | (cases h;done) | skip
    rename_i hn
    cases hb:fn.body with
    | none=>rw [hb] at h;cases h
    | some c =>
     rw [hb] at h
     dsimp only at h
     have hrun:alD P g args (ahd P (O.hp g) (xP O.hp (O.hp g) (JI P O n)) n fn c args):=by
      intro aargs S v S' h μ H ω hG hA hD hE
      have hT0:TI μ H ω (args++List.replicate (fn.ntmps - args.length) zh) (aargs++List.replicate (fn.ntmps - aargs.length) zh):=by
       have hl:L0 μ H (args++List.replicate (fn.ntmps - args.length) zh) (aargs++List.replicate (fn.ntmps - aargs.length) zh):=by
        refine hA.append (VL.ofRange (by rw [hA.1]) fun i hi=>?_)
        have hi2:i < fn.ntmps - args.length:=by simpa using hi
        rw [List.getD_eq_getElem?_getD,List.getElem?_replicate,if_pos hi2,List.getD_eq_getElem?_getD,List.getElem?_replicate,if_pos (by rw [← hA.1];exact hi2)]
        exact .nores
       exact ⟨hl.1,fun i=>(hl.2 i).at0,hD,fun r j hr=>by have:=hE r _ hr;cases this⟩
      have fin:∀ (e:AEx) (T1:List Value) (S1:zx),(e=.normal∨e=.ret)→kP P (O.hp g) (xP O.hp (O.hp g) (JI P O n)) n c (args++List.replicate (fn.ntmps - args.length) zh) S=some (e,T1,S1)→aeU P fn T1 S1=some (v,S') →
        ∃ a H' μ' ω',lim P g aargs H=some (a,H')∧GI μ' S' H'∧Later μ H μ' H'∧Kept ω H ω' H'∧Dom μ' H' ω'∧VV μ' H' ω' (some (.res none)) v a:=by
       intro e T1 S1 he hcode hres
       obtain ⟨A1,H1,μ1,ω1,h1,h2,h3,h4,h5⟩:=aib (ah1 ih) n c _ _ _ _ _ _ _ _ _ hcode hG hT0
       obtain ⟨rfl,a,k1,k2⟩:=ajy (P:=P) h2 h5 hres
       refine ⟨a,H1,μ1,fun r=>(ω1 r).bind (place fn.results.toList),ait hf hn hb h1 he k1,h2,h3,fun r hr=>?_,fun r s hs=>?_,k2⟩
       ·
        obtain ⟨q1,q2⟩:=h4 r hr
        exact ⟨by simp [q1,place],q2⟩
       ·
        cases hr:ω1 r with
        | none=>simp [hr] at hs
        | some s0=>exact h5.dom r s0 hr
      unfold ahd at h
      split at h
      ·
       rename_i T1 S1 hx;exact fin .normal _ _ (.inl rfl) hx h
      ·
       rename_i T1 S1 hx;exact fin .ret _ _ (.inr rfl) hx h
      ·
       cases h
     split at h
     ·
      exact ahB hrun aargs S v S' h μ H ω hG hA hD hE
     ·
      exact hrun aargs S v S' h μ H ω hG hA hD hE
end
end Go.Abs
namespace Go.Abs
open Go.RowKit
open Classical
noncomputable def jd (P:Program) (O:Ora) (g:FuncId) (args:List Value):M Value:=fun S =>
 if h:∃ r,∃ k0,∀ k,k0≤k→JI P O k g args S=some r then some (Classical.choose h) else none
section
variable {P:Program} {O:Ora}
theorem abM {g:FuncId} {args:List Value} {S:zx} {r:Value×zx} (h:jd P O g args S=some r):∃ k0,∀ k,k0≤k→JI P O k g args S=some r:=by
 unfold jd at h
 split at h
 ·
  rename_i hx
  have:=Classical.choose_spec hx
  cases h
  exact this
 ·
  cases h
theorem acD {g:FuncId} {args:List Value} {S:zx} {r:Value×zx} (h:∃ k0,∀ k,k0≤k→JI P O k g args S=some r):jd P O g args S=some r:=by
 have hx:∃ r,∃ k0,∀ k,k0≤k→JI P O k g args S=some r:=⟨r,h⟩
 unfold jd
 rw [dif_pos hx]
 obtain ⟨k0,h0⟩:=h
 obtain ⟨k1,h1⟩:=Classical.choose_spec hx
 have e0:=h0 (max k0 k1) (Nat.le_max_left _ _)
 have e1:=h1 (max k0 k1) (Nat.le_max_right _ _)
 rw [e0] at e1
 exact e1.symm
theorem ajT (hO:ae9 P O):QK P (jd P O):=by
 intro g args aargs S v S' h
 obtain ⟨k,hk⟩:=abM h
 exact ahO hO k g args aargs S v S' (hk k (Nat.le_refl k))
def akr (c:FuncId→List Value→M Value) (ck:Nat→FuncId→List Value→M Value):Prop:=∀ g args S r,c g args S=some r→∃ k0,∀ k,k0≤k→ck k g args S=some r
theorem aa5:akr (jd P O) (fun k=>JI P O k):=fun g args S r h=>abM h
theorem Vd {c:FuncId→List Value→M Value} {ck:Nat→FuncId→List Value→M Value} (hl:akr c ck) {hps:FuncId→Bool} {hp:Bool}:akr (xP hps hp c) (fun k=>xP hps hp (ck k)):=by
 cases hp with
 | false=>exact hl
 | true =>
  intro g args S r h
  unfold xP at h
  dsimp only at h
  split at h
  ·
   rename_i hg
   obtain ⟨k0,h0⟩:=hl _ _ _ _ h
   exact ⟨k0,fun k hk=>by unfold xP;dsimp only;rw [if_pos hg];exact h0 k hk⟩
  ·
   rename_i hg
   split at h <;> first | (cases h;done) | skip
   rename_i m S1 hf
   split at h <;> first | (cases h;done) | skip
   rename_i r0 hr0
   obtain ⟨k0,h0⟩:=hl _ _ _ _ hr0
   exact ⟨k0,fun k hk=>by unfold xP;dsimp only;rw [if_neg hg,hf];dsimp only;rw [h0 k hk];exact h⟩
section
variable {c:FuncId→List Value→M Value} {ck:Nat→FuncId→List Value→M Value}
theorem aa9 (hl:akr c ck) {fx:Fx} {T:List Value} {o:Oper} {S:zx} {r:Value×zx} (h:kD P fx c T o S=some r):∃ k0,∀ k,k0≤k→kD P fx (ck k) T o S=some r:=by
 unfold kD at h
 split at h
 ·
  rename_i hok
  split at h
  ·
   rename_i q0 hop
   split at h
   ·
    rename_i f hf
    split at h
    ·
     rename_i g first captured hev
     obtain ⟨k0,hk⟩:=hl _ _ _ _ h
     refine ⟨k0,fun k hkk=>?_⟩
     unfold kD
     rw [if_pos hok]
     simp only [hop,hf,hev]
     exact hk k hkk
    ·
     cases h
   ·
    rename_i b hb
    refine ⟨0,fun k _=>?_⟩
    unfold kD
    rw [if_pos hok]
    simp only [hop,hb]
    exact h
   ·
    cases h
  ·
   rename_i hop
   refine ⟨0,fun k _=>?_⟩
   unfold kD
   rw [if_pos hok]
   split
   ·
    rename_i q0 hc;exact absurd hc (hop q0)
   ·
    exact h
 ·
  cases h
theorem ahx (hl:akr c ck) {fx:Fx} {ops:Array Oper}:∀ (l:List Oper) (T:List Value) (S:zx) (r:List Value×zx),jF P fx c ops l T S=some r→∃ k0,∀ k,k0≤k→jF P fx (ck k) ops l T S=some r:=by
 intro l
 induction l with
 | nil=>intro T S r h;exact ⟨0,fun k _=>h⟩
 | cons o l ih =>
  intro T S r h
  simp only [jF] at h
  split at h
  ·
   rename_i hw
   split at h
   ·
    rename_i v S' hs
    obtain ⟨k1,h1⟩:=aa9 hl hs
    obtain ⟨k2,h2⟩:=ih _ _ _ h
    refine ⟨max k1 k2,fun k hk=>?_⟩
    simp only [jF,hw,if_true,h1 k (by omega)]
    exact h2 k (by omega)
   ·
    cases h
  ·
   rename_i hw
   obtain ⟨k2,h2⟩:=ih _ _ _ h
   refine ⟨k2,fun k hk=>?_⟩
   simp only [jF,hw,if_false]
   exact h2 k hk
theorem afu (hl:akr c ck) {fx:Fx} {chk:List Nat} {nl:List (Nat×Nat)} {ops:Array Oper}:∀ (l:List Oper) (i:Nat) (hist:List (Value×zx)) (T:List Value) (S:zx) (r:List Value×zx),qw P fx chk nl c ops i hist l T S=some r→∃ k0,∀ k,k0≤k→qw P fx chk nl (ck k) ops i hist l T S=some r:=by
 intro l
 induction l with
 | nil=>intro i hist T S r h;exact ⟨0,fun k _=>h⟩
 | cons o l ih =>
  intro i hist T S r h
  simp only [qw] at h
  split at h
  ·
   rename_i hw
   split at h
   ·
    rename_i v S' hs
    split at h
    ·
     rename_i hq
     obtain ⟨k1,h1⟩:=aa9 hl hs
     obtain ⟨k2,h2⟩:=ih _ _ _ _ _ h
     refine ⟨max k1 k2,fun k hk=>?_⟩
     simp only [qw,hw,if_true,h1 k (by omega),hq]
     exact h2 k (by omega)
    ·
     cases h
   ·
    cases h
  ·
   rename_i hw
   obtain ⟨k2,h2⟩:=ih _ _ _ _ _ h
   refine ⟨k2,fun k hk=>?_⟩
   simp only [qw,hw,if_false]
   exact h2 k hk
end
noncomputable def zL (P:Program) (O:Ora) (hp:Bool):Code→List Value→zx→St
 | .skip,T,H=>some (.normal,T,H)
 | .region _ ops false,T,H=>match jF P ⟨hp,false,false⟩ (xP O.hp hp (jd P O)) ops ops.toList T H with
  | some (T1,H1)=>some (.normal,T1,H1)
  | none=>none
 | .region _ ops true,T,H=>if kC P ops then match qw P ⟨hp,!(checked P ops).isEmpty,fixed P ops⟩ (checked P ops) (again P ops) (xP O.hp hp (jd P O)) ops 0 [] ops.toList T H with
  | some (T1,H1)=>some (.normal,T1,H1)
  | none=>none
  else none
 | .seq x y,T,H=>match zL P O hp x T H with
  | some (.normal,T1,H1)=>zL P O hp y T1 H1
  | r=>r
 | .cond c x y,T,H=>if vT c then
   match wJ T c with
   | .bool true=>zL P O hp x T H
   | .bool false=>zL P O hp y T H
   | _=>none
  else none
 | .block id c,T,H=>match zL P O hp c T H with
  | some (.exit id',T1,H1)=>if id'=id then some (.normal,T1,H1) else some (.exit id',T1,H1)
  | r=>r
 | .loop c,T,H=>qR (zL P O hp c) T H
 | .exit id,T,H=>some (.exit id,T,H)
 | .ret,T,H=>some (.ret,T,H)
 | _,_,_=>none
theorem XO {hp:Bool}:∀ (c:Code) (T:List Value) (H:zx) (r),zL P O hp c T H=some r→∃ k0,∀ k fuel,k0≤k→k0≤fuel→kP P hp (xP O.hp hp (JI P O k)) fuel c T H=some r:=by
 intro c
 induction c with
 | skip=>intro T H r h;exact ⟨0,fun k fuel _ _=>h⟩
 | region i ops d =>
  intro T H r h
  cases d with
  | false =>
   simp only [zL] at h
   split at h
   ·
    rename_i T1 H1 ho
    obtain ⟨k0,h0⟩:=ahx (Vd aa5) _ _ _ _ ho
    exact ⟨k0,fun k fuel hk _=>by simp only [kP,h0 k hk];exact h⟩
   ·
    cases h
  | true =>
   simp only [zL] at h
   split at h
   ·
    rename_i hd
    split at h
    ·
     rename_i T1 H1 ho
     obtain ⟨k0,h0⟩:=afu (Vd aa5) _ _ _ _ _ _ ho
     exact ⟨k0,fun k fuel hk _=>by simp only [kP,hd,if_true,h0 k hk];exact h⟩
    ·
     cases h
   ·
    cases h
 | seq x y ihx ihy =>
  intro T H r h
  simp only [zL] at h
  split at h
  ·
   rename_i T1 H1 hx
   obtain ⟨k1,h1⟩:=ihx _ _ _ hx
   obtain ⟨k2,h2⟩:=ihy _ _ _ h
   exact ⟨max k1 k2,fun k fuel hk hf=>by simp only [kP,h1 k fuel (by omega) (by omega)];exact h2 k fuel (by omega) (by omega)⟩
  ·
   rename_i hne
   obtain ⟨k1,h1⟩:=ihx _ _ _ h
   refine ⟨k1,fun k fuel hk hf=>?_⟩
   simp only [kP,h1 k fuel hk hf]
   split
   ·
    rename_i T1 H1 he;exact absurd (h.trans he) (hne T1 H1)
   ·
    rfl
 | cond c x y ihx ihy =>
  intro T H r h
  simp only [zL] at h
  split at h
  ·
   rename_i hok
   split at h
   ·
    rename_i hb
    obtain ⟨k1,h1⟩:=ihx _ _ _ h
    exact ⟨k1,fun k fuel hk hf=>by simp only [kP,hok,if_true,hb];exact h1 k fuel hk hf⟩
   ·
    rename_i hb
    obtain ⟨k1,h1⟩:=ihy _ _ _ h
    exact ⟨k1,fun k fuel hk hf=>by simp only [kP,hok,if_true,hb];exact h1 k fuel hk hf⟩
   ·
    cases h
  ·
   cases h
 | block id c ih =>
  intro T H r h
  simp only [zL] at h
  split at h
  ·
   rename_i id' T1 H1 hc
   obtain ⟨k1,h1⟩:=ih _ _ _ hc
   exact ⟨k1,fun k fuel hk hf=>by simp only [kP,h1 k fuel hk hf];exact h⟩
  ·
   rename_i hne
   obtain ⟨k1,h1⟩:=ih _ _ _ h
   refine ⟨k1,fun k fuel hk hf=>?_⟩
   simp only [kP,h1 k fuel hk hf]
   split
   ·
    rename_i id' T1 H1 he;exact absurd (h.trans he) (hne id' T1 H1)
   ·
    rfl
 | loop c ih =>
  intro T H r h
  simp only [zL] at h
  obtain ⟨n,hn⟩:=WQ h
  have key:∀ (n:Nat) (T:List Value) (H:zx),xR n (zL P O hp c) T H=some r→∃ k0,∀ k fuel,k0≤k→k0≤fuel→∀ j,n≤j→xR j (kP P hp (xP O.hp hp (JI P O k)) fuel c) T H=some r:=by
   intro n
   induction n with
   | zero=>intro T H h;cases h
   | succ n ihn =>
    intro T H h
    simp only [xR] at h
    split at h
    ·
     rename_i T1 H1 hf
     obtain ⟨k1,h1⟩:=ih _ _ _ hf
     obtain ⟨k2,h2⟩:=ihn _ _ h
     refine ⟨max k1 k2,fun k fuel hk hfu j hj=>?_⟩
     obtain ⟨j,rfl⟩:∃ i,j=i+1:=⟨j - 1,by omega⟩
     simp only [xR,h1 k fuel (by omega) (by omega)]
     exact h2 k fuel (by omega) (by omega) j (by omega)
    ·
     rename_i hne
     obtain ⟨k1,h1⟩:=ih _ _ _ h
     refine ⟨k1,fun k fuel hk hfu j hj=>?_⟩
     obtain ⟨j,rfl⟩:∃ i,j=i+1:=⟨j - 1,by omega⟩
     simp only [xR,h1 k fuel hk hfu]
     split
     ·
      rename_i T1 H1 he;exact absurd (h.trans he) (hne T1 H1)
     ·
      rfl
  obtain ⟨k0,h0⟩:=key n T H hn
  exact ⟨max k0 n,fun k fuel hk hf=>by simp only [kP];exact h0 k fuel (by omega) (by omega) fuel (by omega)⟩
 | exit id=>intro T H r h;exact ⟨0,fun k fuel _ _=>h⟩
 | ret=>intro T H r h;exact ⟨0,fun k fuel _ _=>h⟩
 | _=>intro T H r h;simp only [zL] at h;cases h
theorem yK {f:FuncId} {fn:Func} {c:Code} {args:List Value} {H H1 H':zx} {e:AEx} {T:List Value} {v:Value} (ho:O.fn f=none) (hpu:O.pu f=false) (hf:P.funcs[f]?=some fn) (hn:fn.name≠ "runtime.NumGoroutine") (hb:fn.body=some c)
  (h:zL P O (O.hp f) c (args++List.replicate (fn.ntmps - args.length) zh) H=some (e,T,H1)) (he:e=.normal∨e=.ret) (hres:aeU P fn T H1=some (v,H')):jd P O f args H=some (v,H'):=by
 obtain ⟨k0,h0⟩:=XO _ _ _ _ h
 refine acD ⟨k0+1,fun k hk=>?_⟩
 obtain ⟨k,rfl⟩:∃ i,k=i+1:=⟨k - 1,by omega⟩
 simp only [JI,ho,hf,if_neg hn,hb,hpu,Bool.false_eq_true,if_false,ahd,h0 k k (by omega) (by omega)]
 rcases he with rfl | rfl <;> exact hres
theorem aek {f:FuncId} {fn:Func} {c:Code} {args:List Value} {S H1 H':zx} {e:AEx} {T:List Value} {v:Value} (ho:O.fn f=none) (hpu:O.pu f=true) (hf:P.funcs[f]?=some fn) (hn:fn.name≠ "runtime.NumGoroutine") (hb:fn.body=some c)
  (h:zL P O (O.hp f) c (args++List.replicate (fn.ntmps - args.length) zh) zx.empty=some (e,T,H1)) (he:e=.normal∨e=.ret) (hres:aeU P fn T H1=some (v,H')) (hca:args.all (jL 16)=true) (hcv:jL 16 (qM H' 16 v)=true):jd P O f args S=some (qM H' 16 v,S):=by
 obtain ⟨k0,h0⟩:=XO _ _ _ _ h
 refine acD ⟨k0+1,fun k hk=>?_⟩
 obtain ⟨k,rfl⟩:∃ i,k=i+1:=⟨k - 1,by omega⟩
 have hr:ahd P (O.hp f) (xP O.hp (O.hp f) (JI P O k)) k fn c args zx.empty=some (v,H'):=by
  simp only [ahd,h0 k k (by omega) (by omega)]
  rcases he with rfl | rfl <;> exact hres
 simp only [JI,ho,hf,if_neg hn,hb,hpu,if_true,af4,if_pos hca,hr,if_pos hcv]
theorem aa3 (S:zx):∀ (d d':Nat) (v:Value),jL d v=true→qM S d' v=v:=by
 intro d
 induction d with
 | zero=>intro d' v h;cases h
 | succ d ih =>
  intro d' v h
  cases d' with
  | zero=>rfl
  | succ d' =>
   cases v with
   | agg cs =>
    simp only [jL] at h
    show Value.agg (cs.map (qM S d'))=.agg cs
    congr 1
    apply Array.ext (by simp)
    intro i h1 h2
    rw [Array.getElem_map]
    exact ih d' _ (List.all_eq_true.1 h _ (by simp))
   | tuple cs =>
    simp only [jL] at h
    show Value.tuple (cs.map (qM S d'))=.tuple cs
    congr 1
    apply Array.ext (by simp)
    intro i h1 h2
    rw [Array.getElem_map]
    exact ih d' _ (List.all_eq_true.1 h _ (by simp))
   | slice a n c =>
    cases a with
    | none=>rfl
    | some a=>simp [jL] at h
   | _=>rfl
theorem yD {f:FuncId} {fn:Func} {c:Code} {args:List Value} {S H1 H':zx} {e:AEx} {T:List Value} {v:Value} (ho:O.fn f=none) (hpu:O.pu f=true) (hf:P.funcs[f]?=some fn) (hn:fn.name≠ "runtime.NumGoroutine") (hb:fn.body=some c)
  (h:zL P O (O.hp f) c (args++List.replicate (fn.ntmps - args.length) zh) zx.empty=some (e,T,H1)) (he:e=.normal∨e=.ret) (hres:aeU P fn T H1=some (v,H')) (hca:args.all (jL 16)=true) (hcv:jL 16 v=true):jd P O f args S=some (v,S):=by
 have e1:=aa3 H' 16 16 v hcv
 have:=aek (S:=S) ho hpu hf hn hb h he hres hca (by rw [e1];exact hcv)
 rwa [e1] at this
def Ty.Y2:(t:Ty)→t.Val→List Value
 | .int k,n=>[.int k n]
 | .bool,b=>[.bool b]
 | .str,s=>[.string s]
 | .slc _ e,l=>match l with
  | none=>[.slice none 0 0]
  | some l=>[SL 1 e.sz l.length (l.flatMap e.Y2)]
 | .pair a b,(x,y)=>a.Y2 x++b.Y2 y
 | .unit,_=>[]
theorem Ty.acE:∀ (t:Ty) (x:t.Val),(t.Y2 x).length=t.sz:=by
 intro t
 induction t with
 | pair a b iha ihb=>rintro ⟨x,y⟩;simp [Ty.Y2,Ty.sz,iha,ihb]
 | slc bytes e ih=>intro x;cases x <;> rfl
 | _=>intro x;rfl
theorem QH {e:Ty} (l:List e.Val):(l.flatMap e.Y2).length=l.length * e.sz:=by
 induction l with
 | nil=>simp
 | cons x l ih=>simp [List.flatMap_cons,Ty.acE,ih,Nat.add_mul];omega
def M0:Mu:=⟨fun _=>none,fun _=>false,[]⟩
theorem GI.none {H:zx}:GI M0 zx.empty H:=⟨(fun q o h=>by cases h),(fun q q' r h=>by cases h),(fun q r b h=>by cases h),(fun q _=>rfl),(fun q r h=>by cases h),(fun r h=>by cases h),rfl,(fun q cs anc e h=>by cases h)⟩
theorem Ty.aaH:∀ (t:Ty) (x:t.Val) (H:zx),Later M0 H M0 (t.place x H).2∧L0 M0 (t.place x H).2 (t.Y2 x) (t.place x H).1:=by
 intro t
 induction t with
 | int k=>intro x H;exact ⟨Later.refl _ _,VL.cons (.sg rfl) VL.nil⟩
 | bool=>intro x H;exact ⟨Later.refl _ _,VL.cons (.sg rfl) VL.nil⟩
 | str=>intro x H;exact ⟨Later.refl _ _,VL.cons (.sg rfl) VL.nil⟩
 | unit=>intro x H;exact ⟨Later.refl _ _,VL.nil⟩
 | pair a b iha ihb =>
  rintro ⟨x,y⟩ H
  obtain ⟨h1,h2⟩:=iha x H
  obtain ⟨h3,h4⟩:=ihb y (a.place x H).2
  exact ⟨h1.trans h3,(h2.later h3).append h4⟩
 | slc bytes e ih =>
  intro x H
  match x with
  | none=>exact ⟨Later.refl _ _,VL.cons (.sg rfl) VL.nil⟩
  | some []=>exact ⟨Later.refl _ _,VL.cons (.slE (e:=e.sz)) VL.nil⟩
  | some (x::l) =>
   have key:∀ (l:List e.Val) (H:zx),Later M0 H M0 (qW e.place l H).2∧L0 M0 (qW e.place l H).2 (l.flatMap e.Y2) (qW e.place l H).1:=by
    intro l
    induction l with
    | nil=>intro H;exact ⟨Later.refl _ _,VL.nil⟩
    | cons x l ihl =>
     intro H
     obtain ⟨h1,h2⟩:=ih x H
     obtain ⟨h3,h4⟩:=ihl (e.place x H).2
     exact ⟨h1.trans h3,(h2.later h3).append h4⟩
   obtain ⟨h1,h2⟩:=key (x::l) H
   have hL:Later M0 (qW e.place (x::l) H).2 M0 ((qW e.place (x::l) H).2.push (.cells (qW e.place (x::l) H).1 .ro e.sz)):=Vu (fun q r h=>by cases h) _
   refine ⟨h1.trans hL,VL.cons ?_ VL.nil⟩
   have hlen:(qW e.place (x::l) H).1.length=(l.length+1) * e.sz:=by rw [← h2.1,QH];rfl
   show V0 M0 ((qW e.place (x::l) H).2.push (.cells (qW e.place (x::l) H).1 .ro e.sz)) (SL 1 e.sz (l.length+1) ((x::l).flatMap e.Y2)) (.slice (some ⟨(qW e.place (x::l) H).2.next,0,none⟩) (l.length+1) (l.length+1))
   refine VV.sl (o:=0) (l:=(qW e.place (x::l) H).1) (own:=.ro) (by simp) ⟨fun q h=>(by cases h),rfl⟩ (by rw [zx.yA,if_pos rfl]) (by omega) (by rw [List.toList_toArray,QH];rfl) (fun i hi=>?_)
   rw [Nat.zero_add,List.toList_toArray]
   exact (h2.2 i).Jl hL
def Args.Y2:(l:List (Bool×Ty))→Args l→List Value
 | [],_=>[]
 | (b,c)::l,(x,xs)=>Wh b (c.Y2 x)::Args.Y2 l xs
theorem ahA {H:zx} {b:Bool} {cs cs':List Value} (h:L0 M0 H cs cs'):V0 M0 H (Wh b cs) (Wh b cs'):=by
 unfold Wh
 split
 ·
  exact KD h
 ·
  rw [Yb,Yb];exact h.2 0
theorem Args.aaH:∀ (l:List (Bool×Ty)) (x:Args l) (H:zx),Later M0 H M0 (Args.place l x H).2∧L0 M0 (Args.place l x H).2 (Args.Y2 l x) (Args.place l x H).1:=by
 intro l
 induction l with
 | nil=>intro x H;exact ⟨Later.refl _ _,VL.nil⟩
 | cons p l ih =>
  obtain ⟨b,c⟩:=p
  rintro ⟨x,xs⟩ H
  obtain ⟨h1,h2⟩:=c.aaH x H
  obtain ⟨h3,h4⟩:=ih xs (c.place x H).2
  exact ⟨h1.trans h3,VL.cons ((ahA h2).Jl h3) h4⟩
theorem acY (hO:ae9 P O) {f:FuncId} {codes:List (Bool×Ty)} {x:Args codes} {S':zx} (h:jd P O f (Args.Y2 codes x) zx.empty=some (.bool true,S')) :
  ∃ k,(JE P k f (Args.place codes x zx.empty).1 (Args.place codes x zx.empty).2).map (·.1)=some (.bool true):=by
 obtain ⟨h1,h2⟩:=Args.aaH codes x zx.empty
 obtain ⟨a,H',μ',ω',k1,k2,k3,k4,k5,k6⟩:=ajT hO f _ _ _ _ _ h M0 _ W0 GI.none h2 (fun r s hs=>by cases hs) (fun r s hs=>by cases hs)
 have:a=.bool true:=yg (k6.v0) rfl
 subst this
 exact aeI k1
theorem ahL {hps pus:FuncId→Bool}:ae9 P ⟨fun _=>none,hps,pus⟩:=fun f q h=>by cases h
end
end Go.Abs
namespace Go.Abs
open Go.RowKit
section
variable {R:Type} {P:Program} {O:Ora} {fx:Fx} {hp nm:Bool} {chk:List Nat} {call:FuncId→List Value→M Value} {ops:Array Oper}
def okC (v:Value) (r:Option R):Option R:=if okq 3 v=true then r else none
@[simp] theorem adO (b:Bool) (r:Option R):okC (.bool b) r=r:=Eq.trans rfl rfl
@[simp] theorem ae7 (k:IntKind) (n:Int) (r:Option R):okC (.int k n) r=r:=Eq.trans rfl rfl
@[simp] theorem VA (s:ByteArray) (r:Option R):okC (.string s) r=r:=Eq.trans rfl rfl
@[simp] theorem abj (a:Option Addr) (n c:Nat) (r:Option R):okC (.slice a n c) r=r:=Eq.trans rfl rfl
@[simp] theorem abd (k:Nat) (v:Value) (r:Option R):okC (.iface k v) r=r:=Eq.trans rfl rfl
@[simp] theorem aj2 (a:Option Addr) (r:Option R):okC (.pointer a) r=r:=Eq.trans rfl rfl
def gdC (v:Value) (b:Bool) (s:M Value) (S:zx) (K:Value→zx→Option R):Option R :=
 if (vb v == some b)=true then andThen (s S) (fun v S1=>okC v (K v S1)) else K zh S
@[simp] theorem ai2 (s:M Value) (H:zx) (K:Value→zx→Option R):gdC (.bool true) true s H K=andThen (s H) (fun v S1=>okC v (K v S1)):=Eq.trans rfl rfl
@[simp] theorem ajj (s:M Value) (H:zx) (K:Value→zx→Option R):gdC (.bool false) false s H K=andThen (s H) (fun v S1=>okC v (K v S1)):=Eq.trans rfl rfl
@[simp] theorem aiR (s:M Value) (H:zx) (K:Value→zx→Option R):gdC (.bool true) false s H K=K zh H:=Eq.trans rfl rfl
@[simp] theorem aiF (s:M Value) (H:zx) (K:Value→zx→Option R):gdC (.bool false) true s H K=K zh H:=Eq.trans rfl rfl
@[simp] theorem aji (s:M Value) (b:Bool) (H:zx) (K:Value→zx→Option R):gdC zh b s H K=K zh H:=Eq.trans rfl rfl
abbrev Zf {α:Type} (a:α):Type:=Unit
def zN (s:Option (Value×zx)) (K:Value→zx→Option R) (p:Zf K):Option R:=andThen s K
def gdK (v:Value) (b:Bool) (s:M Value) (S:zx) (K:Value→zx→Option R) (p:Zf K):Option R:=gd v b s S K
def ain (v:Value) (b:Bool) (s:M Value) (S:zx) (K:Value→zx→Option R) (p:Zf K):Option R:=gdC v b s S K
def okK (v:Value) (r:Option R) (p:Zf r):Option R:=okC v r
@[simp] theorem KE (v:Value) (H:zx) (K:Value→zx→Option R) (p:Zf K):zN (some (v,H)) K p=K v H:=Eq.trans rfl rfl
@[simp] theorem aiB (s:M Value) (H:zx) (K:Value→zx→Option R) (p:Zf K):gdK (.bool true) true s H K p=zN (s H) K p:=Eq.trans rfl rfl
@[simp] theorem ai8 (s:M Value) (H:zx) (K:Value→zx→Option R) (p:Zf K):gdK (.bool false) false s H K p=zN (s H) K p:=Eq.trans rfl rfl
@[simp] theorem aiN (s:M Value) (H:zx) (K:Value→zx→Option R) (p:Zf K):gdK (.bool true) false s H K p=K zh H:=Eq.trans rfl rfl
@[simp] theorem aiL (s:M Value) (H:zx) (K:Value→zx→Option R) (p:Zf K):gdK (.bool false) true s H K p=K zh H:=Eq.trans rfl rfl
@[simp] theorem ajg (s:M Value) (b:Bool) (H:zx) (K:Value→zx→Option R) (p:Zf K):gdK zh b s H K p=K zh H:=Eq.trans rfl rfl
@[simp] theorem ach (s:M Value) (H:zx) (K:Value→zx→Option R) (p:Zf K):ain (.bool true) true s H K p=zN (s H) (fun v S1=>okK v (K v S1) ()) ():=Eq.trans rfl rfl
@[simp] theorem aci (s:M Value) (H:zx) (K:Value→zx→Option R) (p:Zf K):ain (.bool false) false s H K p=zN (s H) (fun v S1=>okK v (K v S1) ()) ():=Eq.trans rfl rfl
@[simp] theorem afv (s:M Value) (H:zx) (K:Value→zx→Option R) (p:Zf K):ain (.bool true) false s H K p=K zh H:=Eq.trans rfl rfl
@[simp] theorem afl (s:M Value) (H:zx) (K:Value→zx→Option R) (p:Zf K):ain (.bool false) true s H K p=K zh H:=Eq.trans rfl rfl
@[simp] theorem agV (s:M Value) (b:Bool) (H:zx) (K:Value→zx→Option R) (p:Zf K):ain zh b s H K p=K zh H:=Eq.trans rfl rfl
@[simp] theorem adR (b:Bool) (r:Option R) (p:Zf r):okK (.bool b) r p=r:=Eq.trans rfl rfl
@[simp] theorem Ja (k:IntKind) (n:Int) (r:Option R) (p:Zf r):okK (.int k n) r p=r:=Eq.trans rfl rfl
@[simp] theorem Vm (s:ByteArray) (r:Option R) (p:Zf r):okK (.string s) r p=r:=Eq.trans rfl rfl
@[simp] theorem aa8 (a:Option Addr) (n c:Nat) (r:Option R) (p:Zf r):okK (.slice a n c) r p=r:=Eq.trans rfl rfl
@[simp] theorem KN (a:Option Addr) (r:Option R) (p:Zf r):okK (.pointer a) r p=r:=Eq.trans rfl rfl
theorem kV {v:Value} (h:okq 3 v=true) (r:Option R) (p:Zf r):okK v r p=r:=if_pos h
theorem agI {l rest:List Oper} {o:Oper} {T:List Value} {T1:Value→List Value} {S:zx} {v:Value} {r:Option (List Value×zx)} (hl:l=o::rest) (hg:o.guard=none) (hm:∀ v,JB o rest T v=T1 v)
  (hs:kD P fx call T o S=some (v,S)) (hK:jF P fx call ops rest (T1 v) S=r):jF P fx call ops l T S=r:=by
 subst hl
 simp only [jF,Region.wanted,hg,if_true,hs,hm]
 exact hK
theorem aki {l rest:List Oper} {o:Oper} {T:List Value} {T1:Value→List Value} {S:zx} {s:Option (Value×zx)} {K:Value→zx→Option (List Value×zx)} (hl:l=o::rest) (hg:o.guard=none) (hm:∀ v,JB o rest T v=T1 v)
  (hs:kD P fx call T o S=s) (hK:∀ v S1,jF P fx call ops rest (T1 v) S1=K v S1):jF P fx call ops l T S=zN s K ():=by
 show _=andThen s K
 subst hl hs
 simp only [jF,Region.wanted,hg,if_true,hm,hK]
 rfl
theorem ajK {l rest:List Oper} {o:Oper} {T:List Value} {T1:Value→List Value} {S:zx} {j:Nat} {b:Bool} {g:Value} {s:M Value} {K:Value→zx→Option (List Value×zx)} (hl:l=o::rest) (hg:o.guard=some (j,b)) (hm:∀ v,JB o rest T v=T1 v)
  (hy:ynd ops T j=vb g) (hs:kD P fx call T o S=s S) (hK:∀ v S1,jF P fx call ops rest (T1 v) S1=K v S1):jF P fx call ops l T S=gdK g b s S K ():=by
 show _=gd g b s S K
 subst hl
 simp only [jF,Region.wanted,hg,hy,hs,hm,hK,gd]
 rfl
theorem ahR {l rest:List Oper} {o:Oper} {T:List Value} {T1:Value→List Value} {S:zx} {k:Nat} {s:Option (Value×zx)} {K:Value→zx→Option (List Value×zx)} (hc:chk.contains k=false) (hl:l=o::rest) (hg:o.guard=none) (hm:∀ v,JB o rest T v=T1 v)
  (hs:kD P fx call T o S=s) (hK:∀ v S1,qw P fx chk [] call ops (k+1) [] rest (T1 v) S1=K v S1):qw P fx chk [] call ops k [] l T S=zN s K ():=by
 show _=andThen s K
 subst hl hs
 simp only [qw,ZM,List.isEmpty_nil,if_true,Region.wanted,hg,if_true,hm,hK,hc,Bool.not_false,Bool.true_or]
 rfl
theorem adT {l rest:List Oper} {o:Oper} {T:List Value} {T1:Value→List Value} {S:zx} {k:Nat} {v:Value} {r:Option (List Value×zx)} (hc:chk.contains k=false) (hl:l=o::rest) (hg:o.guard=none) (hm:∀ v,JB o rest T v=T1 v)
  (hs:kD P fx call T o S=some (v,S)) (hK:qw P fx chk [] call ops (k+1) [] rest (T1 v) S=r):qw P fx chk [] call ops k [] l T S=r:=by
 subst hl
 simp only [qw,ZM,List.isEmpty_nil,if_true,Region.wanted,hg,if_true,hs,hm,hc,Bool.not_false,Bool.true_or]
 exact hK
theorem ab9 {l rest:List Oper} {o:Oper} {T:List Value} {T1:Value→List Value} {S:zx} {k:Nat} {v:Value} {r:Option (List Value×zx)} (hc:chk.contains k=true) (hl:l=o::rest) (hg:o.guard=none) (hm:∀ v,JB o rest T v=T1 v)
  (hs:kD P fx call T o S=some (v,S)) (hK:qw P fx chk [] call ops (k+1) [] rest (T1 v) S=r):qw P fx chk [] call ops k [] l T S=okK v r ():=by
 show _=okC v r
 subst hl
 simp only [qw,ZM,List.isEmpty_nil,if_true,Region.wanted,hg,if_true,hs,hm,hc,Bool.not_true,Bool.false_or]
 rw [← hK]
 rfl
theorem ahz {l rest:List Oper} {o:Oper} {T:List Value} {T1:Value→List Value} {S:zx} {j k:Nat} {b:Bool} {g:Value} {s:M Value} {K:Value→zx→Option (List Value×zx)} (hc:chk.contains k=false) (hl:l=o::rest) (hg:o.guard=some (j,b)) (hm:∀ v,JB o rest T v=T1 v)
  (hy:ynd ops T j=vb g) (hs:kD P fx call T o S=s S) (hK:∀ v S1,qw P fx chk [] call ops (k+1) [] rest (T1 v) S1=K v S1):qw P fx chk [] call ops k [] l T S=gdK g b s S K ():=by
 show _=gd g b s S K
 subst hl
 simp only [qw,ZM,List.isEmpty_nil,if_true,Region.wanted,hg,hy,hs,hm,hK,gd,hc,Bool.not_false,Bool.true_or,if_true]
 rfl
theorem ahG {l rest:List Oper} {o:Oper} {T:List Value} {T1:Value→List Value} {S:zx} {k:Nat} {s:Option (Value×zx)} {K:Value→zx→Option (List Value×zx)} (hc:chk.contains k=false) {x:Nat×Nat} {nl:List (Nat×Nat)} {hist:List (Value×zx)} {pe:Value} (hpe:Jg T o=pe) (hl:l=o::rest) (hg:o.guard=none) (hm:∀ v,JB o rest T v=T1 v)
  (hs:kD P fx call T o S=s) (hK:∀ v S1,qw P fx chk (x::nl) call ops (k+1) (hist++[(pe,S)]) rest (T1 v) S1=K v S1):qw P fx chk (x::nl) call ops k hist l T S=zN s K ():=by
 show _=andThen s K
 subst hl hs
 simp only [qw,ZM,List.isEmpty_cons,Bool.false_eq_true,if_false,hpe,Region.wanted,hg,if_true,hm,hK,hc,Bool.not_false,Bool.true_or]
 rfl
theorem ag7 {l rest:List Oper} {o:Oper} {T:List Value} {T1:Value→List Value} {S:zx} {k:Nat} {s:Option (Value×zx)} {K:Value→zx→Option (List Value×zx)} (hc:chk.contains k=true) {x:Nat×Nat} {nl:List (Nat×Nat)} {hist:List (Value×zx)} {pe:Value} (hpe:Jg T o=pe) (hl:l=o::rest) (hg:o.guard=none) (hm:∀ v,JB o rest T v=T1 v)
  (hs:kD P fx call T o S=s) (hK:∀ v S1,qw P fx chk (x::nl) call ops (k+1) (hist++[(pe,S)]) rest (T1 v) S1=K v S1):qw P fx chk (x::nl) call ops k hist l T S=zN s (fun v S1=>okK v (K v S1) ()) ():=by
 show _=andThen s (fun v S1=>okC v (K v S1))
 subst hl hs
 simp only [qw,ZM,List.isEmpty_cons,Bool.false_eq_true,if_false,hpe,Region.wanted,hg,if_true,hm,hK,hc,Bool.not_true,Bool.false_or]
 rfl
theorem adU {l rest:List Oper} {o:Oper} {T:List Value} {T1:Value→List Value} {S:zx} {k:Nat} {v:Value} {r:Option (List Value×zx)} (hc:chk.contains k=false) {x:Nat×Nat} {nl:List (Nat×Nat)} {hist:List (Value×zx)} {pe:Value} (hpe:Jg T o=pe) (hl:l=o::rest) (hg:o.guard=none) (hm:∀ v,JB o rest T v=T1 v)
  (hs:kD P fx call T o S=some (v,S)) (hK:qw P fx chk (x::nl) call ops (k+1) (hist++[(pe,S)]) rest (T1 v) S=r):qw P fx chk (x::nl) call ops k hist l T S=r:=by
 subst hl
 simp only [qw,ZM,List.isEmpty_cons,Bool.false_eq_true,if_false,hpe,Region.wanted,hg,if_true,hs,hm,hc,Bool.not_false,Bool.true_or]
 exact hK
theorem acR {l rest:List Oper} {o:Oper} {T:List Value} {T1:Value→List Value} {S:zx} {k:Nat} {v:Value} {r:Option (List Value×zx)} (hc:chk.contains k=true) {x:Nat×Nat} {nl:List (Nat×Nat)} {hist:List (Value×zx)} {pe:Value} (hpe:Jg T o=pe) (hl:l=o::rest) (hg:o.guard=none) (hm:∀ v,JB o rest T v=T1 v)
  (hs:kD P fx call T o S=some (v,S)) (hK:qw P fx chk (x::nl) call ops (k+1) (hist++[(pe,S)]) rest (T1 v) S=r):qw P fx chk (x::nl) call ops k hist l T S=okK v r ():=by
 show _=okC v r
 subst hl
 simp only [qw,ZM,List.isEmpty_cons,Bool.false_eq_true,if_false,hpe,Region.wanted,hg,if_true,hs,hm,hc,Bool.not_true,Bool.false_or]
 rw [← hK]
 rfl
theorem ail {l rest:List Oper} {o:Oper} {T:List Value} {T1:Value→List Value} {S:zx} {j k:Nat} {b:Bool} {g:Value} {s:M Value} {K:Value→zx→Option (List Value×zx)} (hc:chk.contains k=false) {x:Nat×Nat} {nl:List (Nat×Nat)} {hist:List (Value×zx)} {pe:Value} (hpe:Jg T o=pe) (hl:l=o::rest) (hg:o.guard=some (j,b)) (hm:∀ v,JB o rest T v=T1 v)
  (hy:ynd ops T j=vb g) (hs:kD P fx call T o S=s S) (hK:∀ v S1,qw P fx chk (x::nl) call ops (k+1) (hist++[(pe,S)]) rest (T1 v) S1=K v S1):qw P fx chk (x::nl) call ops k hist l T S=gdK g b s S K ():=by
 show _=gd g b s S K
 subst hl
 simp only [qw,ZM,List.isEmpty_cons,Bool.false_eq_true,if_false,hpe,Region.wanted,hg,hy,hs,hm,hK,gd,hc,Bool.not_false,Bool.true_or,if_true]
 rfl
theorem afD {l rest:List Oper} {o:Oper} {T:List Value} {T1:Value→List Value} {S:zx} {j k:Nat} {b:Bool} {g:Value} {s:M Value} {K:Value→zx→Option (List Value×zx)} (hc:chk.contains k=true) {x:Nat×Nat} {nl:List (Nat×Nat)} {hist:List (Value×zx)} {pe:Value} (hpe:Jg T o=pe) (hl:l=o::rest) (hg:o.guard=some (j,b)) (hm:∀ v,JB o rest T v=T1 v)
  (hy:ynd ops T j=vb g) (hs:kD P fx call T o S=s S) (hK:∀ v S1,qw P fx chk (x::nl) call ops (k+1) (hist++[(pe,S)]) rest (T1 v) S1=K v S1):qw P fx chk (x::nl) call ops k hist l T S=ain g b s S K ():=by
 show _=gdC g b s S K
 subst hl
 simp only [qw,ZM,List.isEmpty_cons,Bool.false_eq_true,if_false,hpe,Region.wanted,hg,hy,hs,hm,hK,gdC,hc,Bool.not_true,Bool.false_or]
 rfl
def ckK (c:Bool) (r:Option R) (p:Zf r):Option R:=if c then r else none
@[simp] theorem adb (r:Option R) (p:Zf r):ckK true r p=r:=Eq.trans rfl rfl
noncomputable def ajE (P:Program) (O:Ora) (hp:Bool) (v:Value) (x y:Code) (T:List Value) (S:zx):St:=ahr v (zL P O hp x T S) (zL P O hp y T S)
@[simp] theorem X4 (x y:Code) (T:List Value) (S:zx):ajE P O hp (.bool true) x y T S=zL P O hp x T S:=Eq.trans rfl rfl
@[simp] theorem KH (x y:Code) (T:List Value) (S:zx):ajE P O hp (.bool false) x y T S=zL P O hp y T S:=Eq.trans rfl rfl
@[simp] theorem Xy (T:List Value) (H:zx):zL P O hp .skip T H=some (.normal,T,H):=Eq.trans rfl rfl
@[simp] theorem X0 (T:List Value) (H:zx):zL P O hp .ret T H=some (.ret,T,H):=Eq.trans rfl rfl
@[simp] theorem Xm (i:Nat) (T:List Value) (H:zx):zL P O hp (.exit i) T H=some (.exit i,T,H):=Eq.trans rfl rfl
@[simp] theorem Y1 (i:Nat) (ops:Array Oper) (T:List Value) (H:zx):zL P O false (.region i ops false) T H=Z8 (jF P ⟨false,false,false⟩ (jd P O) ops ops.toList T H):=Eq.trans rfl rfl
@[simp] theorem Yo (i:Nat) (ops:Array Oper) (T:List Value) (H:zx):zL P O true (.region i ops false) T H=Z8 (jF P ⟨true,false,false⟩ (xP O.hp true (jd P O)) ops ops.toList T H):=Eq.trans rfl rfl
theorem yM {i:Nat} {ops:Array Oper} (hd:kC P ops=true) (hf:fixed P ops=nm) (hc:checked P ops=chk) {nl:List (Nat×Nat)} (hn:again P ops=nl) (T:List Value) (H:zx):zL P O false (.region i ops true) T H=Z8 (qw P ⟨false,!chk.isEmpty,nm⟩ chk nl (jd P O) ops 0 [] ops.toList T H):=by
 subst hf hc hn
 simp only [zL,hd,if_true,xP]
 rfl
theorem aar {i:Nat} {ops:Array Oper} (hd:kC P ops=true) (hf:fixed P ops=nm) (hc:checked P ops=chk) {nl:List (Nat×Nat)} (hn:again P ops=nl) (T:List Value) (H:zx):zL P O true (.region i ops true) T H=Z8 (qw P ⟨true,!chk.isEmpty,nm⟩ chk nl (xP O.hp true (jd P O)) ops 0 [] ops.toList T H):=by
 subst hf hc hn
 simp only [zL,hd,if_true]
 rfl
@[simp] theorem VD (x y:Code) (T:List Value) (H:zx):zL P O hp (.seq x y) T H=akE (zL P O hp x T H) (zL P O hp y):=Eq.trans rfl rfl
@[simp] theorem QF (i:Nat) (c:Code) (T:List Value) (H:zx):zL P O hp (.block i c) T H=abH i (zL P O hp c T H):=Eq.trans rfl rfl
@[simp] theorem KW (c:Code) (T:List Value) (H:zx):zL P O hp (.loop c) T H=qR (zL P O hp c) T H:=Eq.trans rfl rfl
@[simp] theorem KF (t:Tmp) (x y:Code) (T:List Value) (H:zx):zL P O hp (.cond (.tmp t) x y) T H=ajE P O hp (T.getD t zh) x y T H:=by
 simp only [zL,vT,if_true,wJ]
 rfl
@[simp] theorem Xv:dem zh=zh:=Wq
@[simp] theorem agU (k:IntKind) (n:Int):dem (.int k n)=.int k n:=Eq.trans rfl rfl
@[simp] theorem ads (b:Bool):dem (.bool b)=.bool b:=Eq.trans rfl rfl
@[simp] theorem Vx (s:ByteArray):dem (.string s)=.string s:=Eq.trans rfl rfl
@[simp] theorem agE:dem (.slice none 0 0)=.slice none 0 0:=Eq.trans rfl rfl
@[simp] theorem afZ (x:Array Value):dem (.agg x)=.agg x:=Eq.trans rfl rfl
@[simp] theorem ac6 (f:Fn) (x c:Array Value):dem (.func f x c)=.func f x c:=Eq.trans rfl rfl
@[simp] theorem Kw (a:Option Addr):dem (.pointer a)=.pointer a:=Eq.trans rfl rfl
@[simp] theorem aln (e n:Nat) (cs:List Value):dem (SL 1 e n cs)=SL 1 e n cs:=Eq.trans rfl rfl
@[simp] theorem alo (e n:Nat) (cs:List Value):dem (SL 2 e n cs)=SL 1 e n cs:=Eq.trans rfl rfl
@[simp] theorem aiZ (k e n:Nat) (cs:List Value) (r:Option R) (p:Zf r):okK (SL k e n cs) r p=r:=Eq.trans rfl rfl
@[simp] theorem aja (cs:List Value) (r:Option R) (p:Zf r):okK (EP cs) r p=r:=Eq.trans rfl rfl
@[simp] theorem alG (k e n:Nat) (cs:List Value) (r:Option R):okC (SL k e n cs) r=r:=Eq.trans rfl rfl
@[simp] theorem aiP (cs:List Value) (r:Option R):okC (EP cs) r=r:=Eq.trans rfl rfl
def sv (k e n:Nat) (cs:List Value):Value:=if k=0 then .slice none 0 0 else SL k e n cs
structure Okv (k n:Nat) (cs:List Value):Prop where
 le:k≤2
 nil:k=0→n=0∧cs=[]
theorem sv0 {e n:Nat} {cs:List Value}:sv 0 e n cs=.slice none 0 0:=rfl
theorem sv1 {e n:Nat} {cs:List Value}:sv 1 e n cs=SL 1 e n cs:=rfl
theorem sv2 {e n:Nat} {cs:List Value}:sv 2 e n cs=SL 2 e n cs:=rfl
@[simp] theorem ac3 (k e n:Nat) (cs:List Value):dem (sv k e n cs)=sv (if k=2 then 1 else k) e n cs:=by
 unfold sv
 by_cases h0:k=0
 ·
  subst h0;rfl
 ·
  by_cases h2:k=2
  ·
   subst h2;rfl
  ·
   rw [if_neg h0,if_neg h2,if_neg h0]
   simp only [SL,dem,vX,if_neg h2]
@[simp] theorem abu (k e n:Nat) (cs:List Value) (r:Option R):okC (sv k e n cs) r=r:=by
 unfold sv;split <;> rfl
@[simp] theorem ai0 (k e n:Nat) (cs:List Value) (r:Option R) (p:Zf r):okK (sv k e n cs) r p=r:=abu k e n cs r
theorem adn {k e n:Nat} {cs:List Value} (h:Okv k n cs):∃ e',vSl (sv k e n cs)=some (e',n,cs)∧(e'=e∨n=0∧cs=[]):=by
 unfold sv
 by_cases h0:k=0
 ·
  obtain ⟨rfl,rfl⟩:=h.nil h0
  rw [if_pos h0]
  exact ⟨0,rfl,.inr ⟨rfl,rfl⟩⟩
 ·
  rw [if_neg h0]
  have:k=1∨k=2:=by have:=h.le;omega
  exact ⟨e,by simp [SL,vSl,this],.inl rfl⟩
theorem ajJ {t te:TypeId} {k e n:Nat} {cs:List Value} {S:zx} (ht:P.underlying t=some (.slice te)) (h:Okv k n cs):ZY P t (sv k e n cs) S=some (goInt n,S):=by
 by_cases h0:k=0
 ·
  obtain ⟨rfl,rfl⟩:=h.nil h0
  subst h0
  simp only [sv0,ZY,abX,ht]
 ·
  obtain ⟨e',h1,_⟩:=adn (e:=e) h
  simp only [sv,if_neg h0] at h1 ⊢
  simp only [SL] at h1 ⊢
  simp only [ZY,ht,h1]
theorem YE {t te:TypeId} {k e n:Nat} {cs:List Value} {S:zx} {ki:IntKind} {i:Int} (ht:P.underlying t=some (.slice te)) (he:ZU P te=some e) (h:Okv k n cs) (h0:0≤i) (hi:i < n) :
  jr P t (sv k e n cs) (.int ki i) S=some (EP ((cs.drop (i.toNat * e)).take e),S):=by
 have hk:k≠0:=fun e=>by have:=(h.nil e).1;omega
 have hk2:k=1∨k=2:=by have:=h.le;omega
 have h1:vSl (SL k e n cs)=some (e,n,cs):=by simp [SL,vSl,hk2]
 simp only [sv,if_neg hk]
 simp only [SL] at h1 ⊢
 simp only [jr,ht,h1,he,if_true]
 rw [if_pos ⟨h0,hi⟩]
@[simp] theorem Xo {t:TypeId} {v:Value} {S:zx} (ht:xM P t=some false):jl P nm t (EP [v]) S=some (v,S):=by
 simp [EP,jl,ht]
theorem aeW {t:TypeId} {n:Nat} {cs:List Value} {S:zx} (ht:xM P t=some true) (hn:ZU P t=some n) (hc:cs.length=n):jl P nm t (EP cs) S=some (.agg cs.toArray,S):=by
 simp only [EP,jl,ht,hn,if_true,List.toList_toArray]
 rw [if_pos (by omega),← hc,List.take_length]
theorem afQ {t te:TypeId} {k e n:Nat} {cs:List Value} {S:zx} {lo hi:Option Value} {i j:Int} (ht:P.underlying t=some (.slice te)) (he:ZU P te=some e) (h:Okv k n cs) (hlo:ZA 0 lo=some i) (hhi:ZA n hi=some j)
  (h0:0≤i) (hij:i≤j) (hj:j≤n):Z9 P t (sv k e n cs) lo hi S=some (sv (if k=2 then 1 else k) e (j.toNat - i.toNat) ((cs.drop (i.toNat * e)).take ((j.toNat - i.toNat) * e)),S):=by
 by_cases hk:k=0
 ·
  obtain ⟨rfl,rfl⟩:=h.nil hk
  subst hk
  simp only [sv0,Z9,ht,vSl,he,hlo,hhi,if_pos h0,if_pos hij,if_pos hj]
  rfl
 ·
  have hk2:k=1∨k=2:=by have:=h.le;omega
  have h1:vSl (SL k e n cs)=some (e,n,cs):=by simp [SL,vSl,hk2]
  have h3:(if k=2 then 1 else k)=1:=by rcases hk2 with rfl | rfl <;> rfl
  rw [h3]
  simp only [sv,if_neg hk]
  simp only [SL] at h1 ⊢
  simp only [Z9,ht,h1,he,hlo,hhi,if_pos h0,if_pos hij,if_pos hj,if_true]
  rfl
theorem aif {t te:TypeId} {k e n:Nat} {cs:List Value} {S:zx} (ht:P.underlying t=some (.slice te)) (h:Okv k n cs):wH P .eql t (sv k e n cs) (.slice none 0 0) S=some (.bool (decide (k=0)),S):=by
 by_cases hk:k=0
 ·
  subst hk
  simp only [sv0,wH,J7,vM,ht,J9]
  rfl
 ·
  have hk2:k=1∨k=2:=by have:=h.le;omega
  have h1:vSl (SL k e n cs)=some (e,n,cs):=by simp [SL,vSl,hk2]
  simp only [sv,if_neg hk]
  simp only [SL] at h1 ⊢
  simp only [wH,ht,h1]
  simp [hk]
@[simp] theorem KC (k e n:Nat) (cs:List Value):YL (sv k e n cs)=false:=by unfold sv;split <;> rfl
@[simp] theorem Qs (dr:Bool) (t:TypeId) (k e n:Nat) (cs:List Value) (lo hi:Option Value) (S:zx):ZQ P dr t (sv k e n cs) lo hi S=Z9 P t (sv k e n cs) lo hi S:=by
 unfold ZQ;rw [KC];rfl
@[simp] theorem Yj (dr:Bool) (t:TypeId) (s:ByteArray) (lo hi:Option Value) (S:zx):ZQ P dr t (.string s) lo hi S=Z9 P t (.string s) lo hi S:=Eq.trans rfl rfl
@[simp] theorem Xg (hp dr:Bool) (src dst:TypeId) (k e n:Nat) (cs:List Value) (S:zx):qL P hp dr src dst (sv k e n cs) S=Jv P src dst (sv k e n cs) S:=by
 unfold qL
 rw [KC]
 have:∀ s,sv k e n cs≠.string s:=by intro s;unfold sv;split <;> (intro h;cases h)
 cases hp <;> simp only [Bool.false_eq_true,if_false] <;> (split <;> first | rfl | (rename_i h;exact absurd h (this _)) | skip)
@[simp] theorem Vj (hp dr:Bool) (src dst:TypeId) (k:IntKind) (n:Int) (S:zx):qL P hp dr src dst (.int k n) S=Jv P src dst (.int k n) S:=by cases hp <;> rfl
@[simp] theorem YF (dr:Bool) (src dst:TypeId) (s:ByteArray) (S:zx):qL P false dr src dst (.string s) S=Jv P src dst (.string s) S:=Eq.trans rfl rfl
@[simp] theorem Yn (dr:Bool) (src dst:TypeId) (s:ByteArray) (S:zx):qL P true dr src dst (.string s) S=kH P src dst (.string s) S:=Eq.trans rfl rfl
theorem aeJ {t te tx tex:TypeId} {k e n j m bytes:Nat} {cs ds:List Value} {z:Value} {S:zx} (ht:P.underlying t=some (.slice te)) (he:ZU P te=some e) (hz:zeroOf P te=some z) (hzs:z.cells.size=e) (hb:bytesOf P te=some bytes) (hp:0 < e)
  (htx:P.underlying tx=some (.slice tex)) (h:Okv k n cs) (hk:k≠1) (hx:Okv j m ds) (hn:cs.length=n * e) (hm:ds.length=m * e) (h1:cs.all (·.oneCell')=true) (h2:ds.all (·.oneCell')=true) (hl:(n+m) * bytes≤140737488355328) (hmax:n+m≤4611686018427387903) :
  yB P t tx (sv k e n cs) (sv j e m ds) S=some (sv (if k=0∧m=0 then 0 else 2) e (n+m) (cs++ds),S):=by
 have hel:Zl P t=some te:=by simp only [Zl,ht]
 have hsrc:ajN P tx e (sv j e m ds)=some (m,ds):=by
  obtain ⟨e',q1,q2⟩:=adn (e:=e) hx
  have hns:∀ s,sv j e m ds≠.string s:=by intro s;unfold sv;split <;> (intro h;cases h)
  have hcond:m=0∨e'=e:=q2.elim .inr fun h=>.inl h.1
  unfold ajN
  split
  ·
   rename_i s hs;exact absurd hs (hns s)
  ·
   simp only [htx,q1,if_pos hcond,if_pos hm,h2,if_true]
 have hsrc:QM P tx e (sv j e m ds) S=some (m,ds):=by
  unfold QM
  rw [KC]
  exact hsrc
 by_cases hk0:k=0
 ·
  obtain ⟨rfl,rfl⟩:=h.nil hk0
  subst hk0
  simp only [sv0,yB,kQ,hel,he,hz,hb,if_pos hp,if_pos hzs,hsrc]
  by_cases hm0:m=0
  ·
   subst hm0
   simp [sv0]
  ·
   rw [Nat.zero_add] at hl hmax
   rw [if_neg hm0,if_pos hl,if_pos hmax,if_neg Bool.false_ne_true,if_neg (fun h=>hm0 h.2),sv2,Nat.zero_add,List.nil_append]
 ·
  have hk2:k=2:=by have:=h.le;omega
  subst hk2
  rw [if_neg (fun h=>hk0 h.1)]
  have h1':cs.toArray.toList.all (·.oneCell')=true:=by simpa using h1
  simp only [sv2,SL,yB,kQ,hel,he,hz,hb,if_pos hp,if_pos hzs,hsrc,if_true,if_pos hl,if_pos hmax,h1']
@[simp] theorem adM (op:BinOp) (t:TypeId) (k k':IntKind) (a b:Int) (S:zx):wH P op t (.int k a) (.int k' b) S=J7 P op t (.int k a) (.int k' b) S:=Eq.trans rfl rfl
@[simp] theorem KY (op:BinOp) (t:TypeId) (a b:ByteArray) (S:zx):wH P op t (.string a) (.string b) S=J7 P op t (.string a) (.string b) S:=Eq.trans rfl rfl
@[simp] theorem abL (op:BinOp) (t:TypeId) (a b:Bool) (S:zx):wH P op t (.bool a) (.bool b) S=J7 P op t (.bool a) (.bool b) S:=Eq.trans rfl rfl
@[simp] theorem adi (op:BinOp) (t:TypeId) (a b:Array Value) (S:zx):wH P op t (.agg a) (.agg b) S=J7 P op t (.agg a) (.agg b) S:=Eq.trans rfl rfl
@[simp] theorem XR (b:Bool) (x y:Value) (S:zx):wW (.bool b) x y S=some (if b then dem x else dem y,S):=Eq.trans rfl rfl
@[simp] theorem abk {src dst:TypeId} (k:IntKind) (n:Int) (S:zx):Jv P src dst (.int k n) S=kH P src dst (.int k n) S:=Eq.trans rfl rfl
@[simp] theorem Yi (vs:List Value) (i:Nat) (S:zx):zZ (.tuple vs.toArray) i S=(vs[i]?).map (·,S):=by
 simp only [zZ,List.getElem?_toArray]
 cases vs[i]? <;> rfl
end
end Go.Abs
namespace Go.Abs
theorem qj {P:Program} {fn:Func} {a b:Value} {r:List Value} {T:List Value} {S:zx} (h:zQ P T S fn.results.toList=some (a::b::r)) (hn:ajt fn.results.toList=true) (hall:(a::b::r).all wE=true) :
  aeU P fn T S=some (.tuple (a::b::r).toArray,S):=by
 unfold aeU
 rw [h]
 dsimp only
 rw [if_pos hn,if_pos hall]
theorem yG {P:Program} {fn:Func} {a:Value} {T:List Value} {S:zx} (h:zQ P T S fn.results.toList=some [a]) (hn:ajt fn.results.toList=true):aeU P fn T S=some (a,S):=by
 unfold aeU
 rw [h]
 dsimp only
 rw [if_pos hn]
@[simp] theorem wz (k:IntKind) (n:Int):wE (.int k n)=true:=rfl
@[simp] theorem jT (b:Bool):wE (.bool b)=true:=rfl
@[simp] theorem acN (k e n:Nat) (cs:List Value):wE (sv k e n cs)=true:=by unfold sv;split <;> rfl
@[simp] theorem wu (x:Array Value):wE (.agg x)=true:=rfl
@[simp] theorem jQ (a:Option Addr) (n c:Nat):wE (.slice a n c)=true:=rfl
end Go.Abs
namespace Go.Abs
open Go.RowKit
def vs {α:Type} (f:α→List Value) (e k:Nat) (l:List α):Value:=sv k e l.length (l.flatMap f)
structure Okl {α:Type} (k:Nat) (l:List α):Prop where
 le:k≤2
 nil:k=0→l=[]
theorem Okl.own {α:Type} {l:List α}:Okl 2 l:=⟨Nat.le_refl 2,(fun h=>by cases h)⟩
theorem Okl.read {α:Type} {l:List α}:Okl 1 l:=⟨by omega,(fun h=>by cases h)⟩
theorem Okl.none {α:Type}:Okl 0 ([]:List α):=⟨by omega,fun _=>rfl⟩
theorem Okl.dem {α:Type} {k:Nat} {l:List α} (h:Okl k l):Okl (if k=2 then 1 else k) l:=⟨by have:=h.le;split <;> omega,fun hk=>h.nil (by split at hk <;> omega)⟩
def cb (b:UInt8):List Value:=[.int .u8 b.toNat]
def ci (n:Int):List Value:=[.int .i64 n]
section
variable {R α:Type} {P:Program} {f:α→List Value} {e k j:Nat} {l m:List α} {t te tx tex:TypeId} {S:zx}
theorem Okl.okv (h:Okl k l):Okv k l.length (l.flatMap f):=⟨h.le,fun h0=>by rw [h.nil h0];exact ⟨rfl,rfl⟩⟩
theorem Zx (hf:∀ x,(f x).length=e) (l:List α):(l.flatMap f).length=l.length * e:=by
 induction l with
 | nil=>simp
 | cons x l ih=>simp only [List.flatMap_cons,List.length_append,hf,ih,List.length_cons,Nat.add_mul];omega
theorem Qw (hf:∀ x,(f x).length=e) (l:List α):∀ (i:Nat),(l.flatMap f).drop (i * e)=(l.drop i).flatMap f:=by
 induction l with
 | nil=>intro i;simp
 | cons x l ih =>
  intro i
  cases i with
  | zero=>simp
  | succ i =>
   rw [List.flatMap_cons,List.drop_succ_cons,← ih i,List.drop_append,List.drop_eq_nil_of_le (by rw [hf,Nat.add_mul];omega),List.nil_append,hf]
   congr 1
   rw [Nat.add_mul];omega
theorem QD (hf:∀ x,(f x).length=e) (l:List α):∀ (i:Nat),(l.flatMap f).take (i * e)=(l.take i).flatMap f:=by
 induction l with
 | nil=>intro i;simp
 | cons x l ih =>
  intro i
  cases i with
  | zero=>simp
  | succ i =>
   rw [List.flatMap_cons,List.take_succ_cons,List.flatMap_cons,← ih i,List.take_append,List.take_of_length_le (by rw [hf,Nat.add_mul];omega),hf]
   congr 2
   rw [Nat.add_mul];omega
@[simp] theorem Vz:dem (vs f e k l)=vs f e (if k=2 then 1 else k) l:=ac3 _ _ _ _
@[simp] theorem aiS (r:Option R):okC (vs f e k l) r=r:=abu _ _ _ _ _
@[simp] theorem ai9 (r:Option R) (p:Zf r):okK (vs f e k l) r p=r:=abu _ _ _ _ _
@[simp] theorem alA:YL (vs f e k l)=false:=KC _ _ _ _
@[simp] theorem Vf (dr:Bool) (lo hi:Option Value):ZQ P dr t (vs f e k l) lo hi S=Z9 P t (vs f e k l) lo hi S:=Qs _ _ _ _ _ _ _ _ _
@[simp] theorem YM (hp dr:Bool) (src dst:TypeId):qL P hp dr src dst (vs f e k l) S=Jv P src dst (vs f e k l) S:=Xg _ _ _ _ _ _ _ _ _
@[simp] theorem wG:wE (vs f e k l)=true:=acN _ _ _ _
theorem afI (ht:P.underlying t=some (.slice te)) (h:Okl k l):ZY P t (vs f e k l) S=some (goInt l.length,S):=ajJ ht h.okv
theorem ac9 (ht:P.underlying t=some (.slice te)) (h:Okl k l):wH P .eql t (vs f e k l) (.slice none 0 0) S=some (.bool (decide (k=0)),S):=aif ht h.okv
theorem akp {ki:IntKind} {i:Int} (ht:P.underlying t=some (.slice te)) (he:ZU P te=some e) (hf:∀ x,(f x).length=e) (h:Okl k l) (h0:0≤i) (hi:i < l.length) :
  jr P t (vs f e k l) (.int ki i) S=some (EP (f (l[i.toNat]'(by omega))),S):=by
 unfold vs
 rw [YE ht he h.okv h0 hi,Qw hf]
 have hlt:i.toNat < l.length:=by omega
 have:=QD hf (l.drop i.toNat) 1
 rw [Nat.one_mul] at this
 rw [this,List.drop_eq_getElem_cons hlt,List.take_succ_cons,List.take_zero,List.flatMap_cons,List.flatMap_nil,List.append_nil]
theorem adB {lo hi:Option Value} {i j:Int} (ht:P.underlying t=some (.slice te)) (he:ZU P te=some e) (hf:∀ x,(f x).length=e) (h:Okl k l) (hlo:ZA 0 lo=some i) (hhi:ZA l.length hi=some j) (h0:0≤i) (hij:i≤j) (hj:j≤l.length) :
  Z9 P t (vs f e k l) lo hi S=some (vs f e (if k=2 then 1 else k) ((l.drop i.toNat).take (j.toNat - i.toNat)),S):=by
 unfold vs
 rw [afQ ht he h.okv hlo hhi h0 hij hj,Qw hf,QD hf]
 congr 3
 simp;omega
theorem Xz {bytes:Nat} {z:Value} (ht:P.underlying t=some (.slice te)) (he:ZU P te=some e) (hz:zeroOf P te=some z) (hzs:z.cells.size=e) (hb:bytesOf P te=some bytes) (hp:0 < e) (htx:P.underlying tx=some (.slice tex))
  (hf:∀ x,(f x).length=e) (h1:∀ x,(f x).all (·.oneCell')=true) (h:Okl k l) (hk:k≠1) (hm:Okl j m) (hl:(l.length+m.length) * bytes≤140737488355328) (hmax:l.length+m.length≤4611686018427387903) :
  yB P t tx (vs f e k l) (vs f e j m) S=some (vs f e (if k=0∧m.length=0 then 0 else 2) (l++m),S):=by
 have hone:∀ l:List α,(l.flatMap f).all (·.oneCell')=true:=by
  intro l
  rw [List.all_flatMap,List.all_eq_true]
  exact fun x _=>h1 x
 unfold vs
 rw [aeJ ht he hz hzs hb hp htx h.okv hk hm.okv (Zx hf l) (Zx hf m) (hone l) (hone m) hl hmax,List.flatMap_append,List.length_append]
theorem abD (x:UInt8):(cb x).length=1:=rfl
theorem ak0 (x:UInt8):(cb x).all (·.oneCell')=true:=rfl
theorem ajd (x:Int):(ci x).length=1:=rfl
theorem ak2 (x:Int):(ci x).all (·.oneCell')=true:=rfl
theorem ahv (l:List UInt8):kN (l.flatMap cb)=some l:=by
 induction l with
 | nil=>rfl
 | cons b l ih =>
  have:(b::l).flatMap cb=.int .u8 b.toNat::l.flatMap cb:=rfl
  rw [this]
  simp only [kN,Xa,ih]
  simp
theorem yx {v:Value} {i j:Nat} {S:zx} (h:j≠i):zZ (zV j v) i S=zZ v i S:=by
 cases v with
 | tuple vs=>simp only [zV,zZ,Array.getElem?_modify,if_neg h]
 | _=>rfl
theorem agv {v:Value} {S:zx}:zZ (zV 0 v) 1 S=zZ v 1 S:=yx (by decide)
theorem aff {v:Value} {S:zx}:zZ (zV 0 v) 2 S=zZ v 2 S:=yx (by decide)
theorem afr {v:Value} {S:zx}:zZ (zV 1 v) 2 S=zZ v 2 S:=yx (by decide)
theorem agd {v:Value} {S:zx}:zZ (zV 0 v) 3 S=zZ v 3 S:=yx (by decide)
theorem agP {v:Value} {S:zx}:zZ (zV 1 v) 3 S=zZ v 3 S:=yx (by decide)
theorem afc {v:Value} {S:zx}:zZ (zV 2 v) 3 S=zZ v 3 S:=yx (by decide)
theorem agK {v:Value} {S:zx}:zZ (zV 0 v) 4 S=zZ v 4 S:=yx (by decide)
theorem afm {v:Value} {S:zx}:zZ (zV 1 v) 4 S=zZ v 4 S:=yx (by decide)
theorem agn {v:Value} {S:zx}:zZ (zV 2 v) 4 S=zZ v 4 S:=yx (by decide)
theorem agO {v:Value} {S:zx}:zZ (zV 3 v) 4 S=zZ v 4 S:=yx (by decide)
theorem agS {v:Value} {S:zx}:zZ (zV 0 v) 5 S=zZ v 5 S:=yx (by decide)
theorem afL {v:Value} {S:zx}:zZ (zV 1 v) 5 S=zZ v 5 S:=yx (by decide)
theorem ag1 {v:Value} {S:zx}:zZ (zV 2 v) 5 S=zZ v 5 S:=yx (by decide)
theorem afo {v:Value} {S:zx}:zZ (zV 3 v) 5 S=zZ v 5 S:=yx (by decide)
theorem afp {v:Value} {S:zx}:zZ (zV 4 v) 5 S=zZ v 5 S:=yx (by decide)
abbrev by_ (k:Nat) (l:List UInt8):Value:=vs cb 1 k l
abbrev iz (k:Nat) (l:List Int):Value:=vs ci 1 k l
theorem agG {src dst:TypeId} {k:Nat} {l:List UInt8} (hs:P.underlying src=some (.slice te)) (he:P.underlying te=some (.int .u8)) (hd:P.underlying dst=some .string) (h:Okl k l):Jv P src dst (by_ k l) S=some (.string ⟨l.toArray⟩,S):=by
 obtain ⟨e',h1,_⟩:=adn (e:=1) (h.okv (f:=cb))
 have hlen:(l.flatMap cb).length=l.length:=by rw [Zx abD];omega
 have hns:∀ s,by_ k l≠.string s:=by intro s;unfold by_ vs sv;split <;> (intro h;cases h)
 unfold Jv
 split
 ·
  rename_i s hs;exact absurd hs (hns s)
 ·
  unfold by_ vs
  rw [h1]
  simp only [hs,hd,he,if_pos hlen,ahv]
end
end Go.Abs
namespace Go.Abs
open Go.RowKit
def CLe (c d:FuncId→List Value→M Value):Prop:=∀ g a S r,c g a S=some r→d g a S=some r
section
variable {P:Program} {O:Ora} {c d:FuncId→List Value→M Value}
theorem XZ (h:CLe c d) {fx:Fx} {T:List Value} {o:Oper} {S:zx} {r:Value×zx} (hs:kD P fx c T o S=some r):kD P fx d T o S=some r:=by
 unfold kD at hs ⊢
 split at hs
 ·
  rename_i hok
  rw [if_pos hok]
  cases hop:o.op with
  | call q =>
   rw [hop] at hs
   dsimp only at hs ⊢
   cases hcal:q.callee with
   | value f =>
    rw [hcal] at hs
    dsimp only at hs ⊢
    split at hs
    ·
     rename_i g first captured hev
     exact h _ _ _ _ hs
    ·
     cases hs
   | builtin b=>rw [hcal] at hs;exact hs
   | invoke a b=>rw [hcal] at hs;cases hs
  | _=>rw [hop] at hs;exact hs
 ·
  cases hs
theorem agb (h:CLe c d) {fx:Fx} {ops:Array Oper}:∀ (l:List Oper) (T:List Value) (S:zx) (r:List Value×zx),jF P fx c ops l T S=some r→jF P fx d ops l T S=some r:=by
 intro l
 induction l with
 | nil=>intro T S r hs;exact hs
 | cons o l ih =>
  intro T S r hs
  simp only [jF] at hs ⊢
  split at hs
  ·
   rename_i hw
   rw [if_pos hw]
   split at hs
   ·
    rename_i v S' he
    rw [XZ h he]
    exact ih _ _ _ hs
   ·
    cases hs
  ·
   rename_i hw
   rw [if_neg hw]
   exact ih _ _ _ hs
theorem aeO (h:CLe c d) {fx:Fx} {chk:List Nat} {nl:List (Nat×Nat)} {ops:Array Oper}:∀ (l:List Oper) (i:Nat) (hist:List (Value×zx)) (T:List Value) (S:zx) (r:List Value×zx),qw P fx chk nl c ops i hist l T S=some r→qw P fx chk nl d ops i hist l T S=some r:=by
 intro l
 induction l with
 | nil=>intro i hist T S r hs;exact hs
 | cons o l ih =>
  intro i hist T S r hs
  simp only [qw] at hs ⊢
  split at hs
  ·
   rename_i hw
   rw [if_pos hw]
   split at hs
   ·
    rename_i v S' he
    rw [XZ h he]
    dsimp only
    split at hs
    ·
     rename_i hq
     rw [if_pos hq]
     exact ih _ _ _ _ _ hs
    ·
     cases hs
   ·
    cases hs
  ·
   rename_i hw
   rw [if_neg hw]
   exact ih _ _ _ _ _ hs
theorem XY (h:CLe c d) {hp:Bool} {n m:Nat} (hn:n≤m):∀ (q:Code) (T:List Value) (S:zx) (r),kP P hp c n q T S=some r→kP P hp d m q T S=some r:=by
 intro q
 induction q with
 | skip=>intro T S r hs;exact hs
 | exit id=>intro T S r hs;exact hs
 | ret=>intro T S r hs;exact hs
 | region i ops dr =>
  intro T S r hs
  cases dr with
  | false =>
   simp only [kP] at hs ⊢
   split at hs
   ·
    rename_i T1 S1 ho
    rw [agb h _ _ _ _ ho];exact hs
   ·
    cases hs
  | true =>
   simp only [kP] at hs ⊢
   split at hs
   ·
    rename_i hd
    rw [if_pos hd]
    split at hs
    ·
     rename_i T1 S1 ho
     rw [aeO h _ _ _ _ _ _ ho];exact hs
    ·
     cases hs
   ·
    cases hs
 | seq x y ihx ihy =>
  intro T S r hs
  simp only [kP] at hs ⊢
  split at hs
  ·
   rename_i T1 S1 hx
   rw [ihx _ _ _ hx]
   exact ihy _ _ _ hs
  ·
   rename_i hne
   rw [ihx _ _ _ hs]
   split
   ·
    rename_i T1 S1 he;exact absurd (hs.trans he) (hne T1 S1)
   ·
    rfl
 | cond x y z ihy ihz =>
  intro T S r hs
  simp only [kP] at hs ⊢
  split at hs
  ·
   rename_i hok
   rw [if_pos hok]
   split at hs
   ·
    rename_i hb;exact ihy _ _ _ hs
   ·
    rename_i hb;exact ihz _ _ _ hs
   ·
    cases hs
  ·
   cases hs
 | block id x ih =>
  intro T S r hs
  simp only [kP] at hs ⊢
  split at hs
  ·
   rename_i id' T1 S1 hx
   rw [ih _ _ _ hx];exact hs
  ·
   rename_i hne
   rw [ih _ _ _ hs]
   split
   ·
    rename_i id' T1 S1 he;exact absurd (hs.trans he) (hne id' T1 S1)
   ·
    rfl
 | loop x ih =>
  intro T S r hs
  simp only [kP] at hs ⊢
  have key:∀ (n:Nat) (T:List Value) (S:zx),∀ k,xR k (kP P hp c n x) T S=some r→(∀ T S r,kP P hp c n x T S=some r→kP P hp d m x T S=some r)→xR k (kP P hp d m x) T S=some r:=by
   intro n T S k hk hx
   induction k generalizing T S with
   | zero=>cases hk
   | succ k ihk =>
    simp only [xR] at hk ⊢
    split at hk
    ·
     rename_i T1 S1 h1
     rw [hx _ _ _ h1]
     exact ihk _ _ hk
    ·
     rename_i hne
     rw [hx _ _ _ hk]
     split
     ·
      rename_i T1 S1 he;exact absurd (hk.trans he) (hne T1 S1)
     ·
      rfl
  exact aaK hn (key n T S n hs ih)
 | _=>intro T S r hs;simp only [kP] at hs;cases hs
theorem aed {hps:FuncId→Bool} {hp:Bool} (h:CLe c d):CLe (xP hps hp c) (xP hps hp d):=by
 cases hp with
 | false=>exact h
 | true =>
  intro g a S r hs
  unfold xP at hs ⊢
  dsimp only at hs ⊢
  split at hs
  ·
   rename_i hg;rw [if_pos hg];exact h _ _ _ _ hs
  ·
   rename_i hg
   rw [if_neg hg]
   split at hs <;> first | (cases hs;done) | skip
   rename_i m S1 hf
   split at hs <;> first | (cases hs;done) | skip
   rename_i r0 hr0
   (try rw [hf])
   (try dsimp only)
   rw [h _ _ _ _ hr0]
   exact hs
theorem abg (h:CLe c d) {hp:Bool} {n m:Nat} (hn:n≤m) {fn:Func} {q:Code} {a:List Value} {S:zx} {r:Value×zx} (hs:ahd P hp c n fn q a S=some r):ahd P hp d m fn q a S=some r:=by
 unfold ahd at hs ⊢
 split at hs
 ·
  rename_i T1 S1 hx
  rw [XY h hn _ _ _ _ hx];exact hs
 ·
  rename_i T1 S1 hx
  rw [XY h hn _ _ _ _ hx];exact hs
 ·
  cases hs
theorem aiu:∀ (n m:Nat),n≤m→CLe (JI P O n) (JI P O m):=by
 intro n
 induction n with
 | zero=>intro m _ g a S r h;cases h
 | succ n ih =>
  intro m hm g a S r h
  obtain ⟨m,rfl⟩:∃ k,m=k+1:=⟨m - 1,by omega⟩
  simp only [JI] at h ⊢
  cases ho:O.fn g with
  | some q=>rw [ho] at h;exact h
  | none =>
   rw [ho] at h
   dsimp only at h ⊢
   cases hf:P.funcs[g]? with
   | none=>rw [hf] at h;cases h
   | some fn =>
    rw [hf] at h
    dsimp only at h ⊢
    split at h
    ·
     cases h
    ·
     rename_i hn
     rw [if_neg hn]
     cases hb:fn.body with
     | none=>rw [hb] at h;cases h
     | some q =>
      rw [hb] at h
      dsimp only at h ⊢
      have hc:=aed (hps:=O.hp) (hp:=O.hp g) (ih m (by omega))
      split at h
      ·
       rename_i hpu
       rw [if_pos hpu]
       unfold af4 at h ⊢
       split at h <;> first | (cases h;done) | skip
       rename_i hca
       rw [if_pos hca]
       split at h <;> first | (cases h;done) | skip
       rename_i v1 S1 hr
       rw [abg hc (by omega) hr]
       exact h
      ·
       rename_i hpu
       rw [if_neg hpu]
       exact abg hc (by omega) h
theorem JW {n:Nat} {g:FuncId} {args:List Value} {S:zx} {r:Value×zx} (h:JI P O n g args S=some r):jd P O g args S=some r :=
 acD ⟨n,fun k hk=>aiu n k hk _ _ _ _ h⟩
end
end Go.Abs
namespace Go.Abs
open Go.RowKit
theorem ajD (x:(Ty.slc 8 (.int .i64)).Val) (hg:(Ty.slc 8 (.int .i64)).Good x):∃ k l,Okl k l∧k≠2∧(Ty.slc 8 (.int .i64)).Y2 x=[iz k l]∧l.length≤17592186043904∧∀ n ∈ l,-9223372036854775808≤n∧n < 9223372036854775808:=by
 match x,hg with
 | none,_=>exact ⟨0,[],Okl.none,by decide,rfl,by simp,fun n h=>by cases h⟩
 | some xs,hg =>
  obtain ⟨h1,h2,h3⟩:=hg
  refine ⟨1,(xs:List Int),Okl.read,by decide,rfl,?_,fun n hn=>?_⟩
  ·
   have:List.length (α:=Int) xs * 8≤140737488351232:=h1
   show List.length (α:=Int) xs≤17592186043904
   omega
  ·
   have hw:=h3 n hn
   simp [Ty.Good,Lit.wf,IntKind.min,IntKind.max,IntKind.signed,IntKind.bits] at hw
   omega
theorem YD {n:Int} (h:(Lit.int .i64 n).wf=true):-9223372036854775808≤n∧n < 9223372036854775808:=by
 simp [Lit.wf,IntKind.min,IntKind.max,IntKind.signed,IntKind.bits] at h
 omega
def ZB (call:FuncId→List Value→M Value) (g:FuncId) (args:List Value):M Value:=fun S=>match xJ args S with
 | some (m,S1)=>match call g m S1 with
  | some r=>some (VB S S1 args r)
  | none=>none
 | none=>none
theorem Vo {x:Value} {S:zx} (h:YL x=false):Jr x S=some (x,S):=by
 unfold Jr
 split <;> first | rfl | (simp [YL] at h)
theorem X9:∀ {l:List Value} {S:zx},l.all (fun x=>!YL x)=true→Jz l S=some (l,S)
 | [],S,_=>rfl
 | x::l,S,h=>by
  rw [List.all_cons,Bool.and_eq_true] at h
  have h1:YL x=false:=by simpa using h.1
  simp only [Jz,Vo h1,X9 h.2]
theorem Qq {x:Value} {S:zx} (h:QO x=false):Jt x S=some (x,S):=by
 unfold Jt
 split
 ·
  rename_i cs
  have h1:cs.toList.all (fun x=>!YL x)=true:=by
   rw [List.all_eq_true]
   intro y hy
   have:cs.toList.any YL=false:=h
   rw [List.any_eq_false] at this
   simpa using this y hy
  rw [X9 h1]
 ·
  rename_i hne
  refine Vo ?_
  cases x <;> first | rfl | exact h | (exact absurd rfl (hne _))
theorem JV:∀ {l:List Value} {S:zx},l.all (fun x=>!QO x)=true→xJ l S=some (l,S)
 | [],S,_=>rfl
 | x::l,S,h=>by
  rw [List.all_cons,Bool.and_eq_true] at h
  have h1:QO x=false:=by simpa using h.1
  simp only [xJ,Qq h1,JV h.2]
theorem aik {call:FuncId→List Value→M Value} {g:FuncId} {args:List Value} {S:zx} (h:args.all (fun x=>!QO x)=true):ZB call g args S=call g args S:=by
 have hn:args.any QO=false:=by
  rw [List.any_eq_false];intro x hx
  have:=List.all_eq_true.1 h x hx
  simpa using this
 unfold ZB;rw [JV h]
 dsimp only
 cases call g args S with
 | none=>rfl
 | some r=>dsimp only;rw [VB,hn];rfl
theorem acZ {call:FuncId→List Value→M Value} {g:FuncId} {args m:List Value} {S S1 S2:zx} {v:Value} (h:xJ args S=some (m,S1)) (hc:call g m S1=some (v,S2)) (ha:args.any QO=true) (hv:xH (ahK S args) 16 v=true) (hl:S2.log=S1.log):ZB call g args S=some (v,S):=by
 unfold ZB;rw [h]
 dsimp only
 rw [hc]
 dsimp only
 rw [VB,ha,hv,hl,beq_self_eq_true,Bool.or_true]
 rfl
theorem aeG {q o n e:Nat} {cs:List Value} {anc:List Nat} {S:zx} (hg:S.get q=some (.cells cs (.own anc) e)) (hl:o+n * e≤cs.length):Jr (.slice (some ⟨q,o,none⟩) n n) S=some (SL 1 e n ((cs.drop o).take (n * e)),S.set q .dead):=by
 unfold Jr;dsimp only;rw [hg];dsimp only;rw [if_pos rfl,if_pos hl]
end Go.Abs
namespace Go.Abs
open Go.RowKit
section
variable {P:Program} {μ μ1:Mu} {S S1 H H1:zx} {ω ω1:Nat→Option kW}
structure Ext (S S1:zx):Prop where
 next:S.next≤S1.next
 get:∀ k,k < S.next→S1.get k=S.get k
 log:∃ new,S1.log=new++S.log∧∀ k ∈ new,S.next≤k
theorem Ext.refl (S:zx):Ext S S:=⟨Nat.le_refl _,fun _ _=>rfl,[],rfl,fun k h=>by cases h⟩
theorem Ext.trans {S2:zx} (h:Ext S S1) (k:Ext S1 S2):Ext S S2:=⟨Nat.le_trans h.1 k.1,fun q hq=>(k.2 q (Nat.lt_of_lt_of_le hq h.1)).trans (h.2 q hq),by
 obtain ⟨n1,e1,f1⟩:=h.log
 obtain ⟨n2,e2,f2⟩:=k.log
 refine ⟨n2++n1,by rw [e2,e1,List.append_assoc],fun q hq=>?_⟩
 rcases List.mem_append.1 hq with hq | hq
 ·
  exact Nat.le_trans h.1 (f2 q hq)
 ·
  exact f1 q hq⟩
theorem Ext.push (S:zx) (o:vK):Ext S (S.push o):=⟨by simp,fun k hk=>by rw [zx.yA,if_neg (by omega)],[],rfl,fun k h=>by cases h⟩
theorem Ext.set {S S1:zx} (h:Ext S S1) {r:Nat} (hr:S.next≤r) (o:vK):Ext S (S1.set r o):=⟨by simpa using h.1,fun k hk=>by rw [zx.qx,if_neg (by omega)];exact h.2 k hk,by
 obtain ⟨n1,e1,f1⟩:=h.log
 refine ⟨r::n1,by rw [zx.aaP,e1];rfl,fun q hq=>?_⟩
 rcases List.mem_cons.1 hq with rfl | hq
 ·
  exact hr
 ·
  exact f1 q hq⟩
inductive Lower (S:zx) (v1:Value) (S1:zx):Value→Prop
 | same (h:ground v1=true):Lower S v1 S1 v1
 | own {r n e:Nat} {cs:List Value} (hv:v1=.slice (some ⟨r,0,none⟩) n n) (hr:S.next≤r) (hg:S1.get r=some (.cells cs (.own []) e)) (hn:cs.length=n * e) (hs:cs.all sg=true):Lower S v1 S1 (SL 2 e n cs)
end
end Go.Abs
namespace Go.Abs
open Go.RowKit
section
variable {P:Program} {S:zx} {t te tx tex:TypeId} {q o n c e i r:Nat} {cs:List Value} {own:Own} {anc:List Nat} {v x:Value} {hp:Bool}
theorem qX (a:Addr) (S:zx):kX (.pointer (some a)) S=some (.pointer (some a),S):=Eq.trans rfl rfl
theorem QZ (h:S.get q=some (.cells cs own e)) (ha:xM P t=some false) (hv:cs[o]?=some v) (hn:∀ l,v≠.agg l):jl P false t (.pointer (some ⟨q,o,none⟩)) S=some (dem v,S):=by
 unfold jl
 simp only [Bool.false_eq_true,if_false]
 have:xG P t (.pointer (some ⟨q,o,none⟩)) S=some (v,S):=by simp only [xG,h,ha,hv]
 rw [this]
 split
 ·
  rename_i l S2 he;cases he;exact absurd rfl (hn _)
 ·
  rename_i v2 S2 _ he;cases he;rfl
 ·
  rename_i he;cases he
theorem qK {k:IntKind} {m:Int} (h:S.get q=some (.cells cs own e)) (ha:xM P t=some false) (hv:cs[o]?=some (.int k m)):jl P false t (.pointer (some ⟨q,o,none⟩)) S=some (.int k m,S) :=
 QZ h ha hv (fun l h=>by cases h)
theorem QT {a:Option Nat} (h:S.get q=some (.cells cs own e)) (ha:xM P t=some false) (hv:cs[o]?=some (.map a)):jl P false t (.pointer (some ⟨q,o,none⟩)) S=some (.map a,S) :=
 QZ h ha hv (fun l h=>by cases h)
theorem Y6 (h:S.get q=some (.cells cs own e)) (ha:xM P t=some true) (hs:ZU P t=some n) (hle:o+n≤cs.length):jl P false t (.pointer (some ⟨q,o,none⟩)) S=some (.agg (((cs.drop o).take n).toArray.map vX),S):=by
 unfold jl
 simp only [Bool.false_eq_true,if_false]
 have:xG P t (.pointer (some ⟨q,o,none⟩)) S=some (.agg ((cs.drop o).take n).toArray,S):=by simp only [xG,h,ha,hs,if_pos hle]
 rw [this]
theorem vU (h:S.get q=some (.cells cs (.own anc) e)) (hs:ZU P t=some n) (hx:x.cells.size=n) (h1:x.cells.toList.all (·.oneCell')=true) (hle:o+n≤cs.length) :
  wS P t (.pointer (some ⟨q,o,none⟩)) x S=some (zh,(S.kills anc).set q (.cells (splice cs o x.cells.toList) (.own []) e)):=by
 simp only [wS,Ym,h,hs,if_pos hx,if_pos h1,if_pos hle]
theorem ajR {k:IntKind} {j:Int} {sz:Nat} (ht:P.underlying t=some (.slice te)) (hs:ZU P te=some sz) (h0:0≤j) (hj:j < n):jr P t (.slice (some ⟨q,o,none⟩) n c) (.int k j) S=some (.pointer (some ⟨q,o+j.toNat * sz,none⟩),S):=by
 simp only [jr,qC,ht,hs]
 rw [if_pos ⟨h0,hj⟩]
theorem ajU {k:IntKind} {j:Int} {sz m:Nat} (ht:P.underlying t=some (.array m te)) (hs:ZU P te=some sz) (h0:0≤j) (hj:j < m):jr P t (.pointer (some ⟨q,o,none⟩)) (.int k j) S=some (.pointer (some ⟨q,o+j.toNat * sz,none⟩),S):=by
 simp only [jr,qC,ht,hs]
 rw [if_pos ⟨h0,hj⟩]
theorem ajV {k m:Nat} {ds:List Value} (htx:P.underlying tx=some (.slice tex)) (hx:Okv k m ds) (hm:ds.length=m * e) (h2:ds.all (·.oneCell')=true):ajN P tx e (sv k e m ds)=some (m,ds):=by
 obtain ⟨e',q1,q2⟩:=adn (e:=e) hx
 have hns:∀ s,sv k e m ds≠.string s:=by intro s;unfold sv;split <;> (intro h;cases h)
 have hcond:m=0∨e'=e:=q2.elim .inr fun h=>.inl h.1
 unfold ajN
 split
 ·
  rename_i s hs;exact absurd hs (hns s)
 ·
  simp only [htx,q1,if_pos hcond,if_pos hm,h2,if_true]
theorem adE {k m:Nat} {ds:List Value} (htx:P.underlying tx=some (.slice tex)) (hx:Okv k m ds) (hm:ds.length=m * e) (h2:ds.all (·.oneCell')=true):QM P tx e (sv k e m ds) S=some (m,ds):=by
 unfold QM
 rw [KC]
 exact ajV htx hx hm h2
theorem agR {m:Nat} (htx:P.underlying tx=some (.slice tex)) (hg:S.get q=some (.cells cs own i)) (hm:o+m * e≤cs.length) (h2:((cs.drop o).take (m * e)).all (·.oneCell')=true):QM P tx e (.slice (some ⟨q,o,none⟩) m c) S=some (m,(cs.drop o).take (m * e)):=by
 simp only [QM,YL,if_true,vH,htx,xq,hg]
 rw [if_pos hm]
 dsimp only
 rw [if_pos h2]
theorem XV {bytes k:Nat} {z:Value} {news:List Value} (hel:P.underlying t=some (.slice te)) (he:ZU P te=some e) (hz:zeroOf P te=some z) (hzs:z.cells.size=e) (hb:bytesOf P te=some bytes) (hpos:0 < e) (hsrc:QM P tx e x S=some (k,news))
  (hg:S.get q=some (.cells cs (.own anc) e)) (hle:o+n * e≤cs.length) (hmax:(n+k) * bytes≤140737488355328) (hmax2:n+k≤4611686018427387903) (h1:((cs.drop o).take (n * e)).all (·.oneCell')=true) :
  kQ P hp t tx (.slice (some ⟨q,o,none⟩) n c) x S=some (.slice (some ⟨S.next,0,none⟩) (n+k) (n+k),
   if o+n * e=cs.length then (S.set q (.cells cs .ro e)).push (.cells ((cs.drop o).take (n * e)++news) (.own (if n * e=0 then [] else q::anc)) e)
   else ((S.kills anc).set q .dead).push (.cells ((cs.drop o).take (n * e)++news) (.own []) e)):=by
 have hel2:Zl P t=some te:=by simp only [Zl,hel]
 simp only [kQ,hel2,he,hz,hb,if_pos hpos,if_pos hzs,hsrc,hg,if_true,if_pos hle,if_pos hmax,if_pos hmax2,if_pos h1,vW]
 by_cases h:o+n * e=cs.length
 ·
  rw [if_pos h,if_pos h]
 ·
  rw [if_neg h,if_neg h]
end
theorem Jk {α:Type} {f:α→List Value} {e k d:Nat} {l:List α} (hk:k≤2) (h:∀ x ∈ l,(f x).all (jL d)=true):jL (d+4) (vs f e k l)=true:=by
 unfold vs sv
 split
 ·
  rfl
 ·
  show ((l.flatMap f).toArray.toList.all (jL d))=true
  rw [List.toList_toArray,List.all_flatMap,List.all_eq_true]
  exact h
theorem qH {k d:Nat} {l:List UInt8} (hk:k≤2):jL (d+5) (by_ k l)=true:=Jk hk (fun _ _=>rfl)
theorem aaZ {l:List Value} {d:Nat} (h:l.all (jL d)=true):jL (d+1) (.agg l.toArray)=true:=by
 show l.toArray.toList.all (jL d)=true
 simpa using h
theorem yV {l:List Value} {d:Nat} (h:l.all (jL d)=true):jL (d+1) (.tuple l.toArray)=true:=by
 show l.toArray.toList.all (jL d)=true
 simpa using h
theorem all1 {p:Value→Bool} {a:Value} (h:p a=true):[a].all p=true:=by simp [h]
theorem all2 {p:Value→Bool} {a b:Value} (h:p a=true) (k:p b=true):[a,b].all p=true:=by simp [h,k]
theorem alR {p:Value→Bool} {a b c:Value} (h:p a=true) (k:p b=true) (j:p c=true):[a,b,c].all p=true:=by simp [h,k,j]
theorem ahF {k e n:Nat} {cs:List Value}:(sv k e n cs).cells=#[sv k e n cs]:=by unfold sv;split <;> rfl
theorem YO {α:Type} {f:α→List Value} {e k:Nat} {l:List α}:(vs f e k l).cells=#[vs f e k l]:=ahF
theorem ajW {k e n:Nat} {cs:List Value}:vX (sv k e n cs)=sv (if k=2 then 1 else k) e n cs:=by rw [← ac3];unfold sv;split <;> rfl
theorem acX {α:Type} {f:α→List Value} {e k:Nat} {l:List α}:vX (vs f e k l)=vs f e (if k=2 then 1 else k) l:=ajW
theorem Zp {k:IntKind} {n:Int}:vX (.int k n)=.int k n:=rfl
theorem qG {x:Array Value}:(Value.agg x).cells=x:=rfl
theorem yS {k:IntKind} {n:Int}:(Value.int k n).cells=#[.int k n]:=rfl
@[simp] theorem abz (a:Option Addr) (n c:Nat):dem (.slice a n c)=.slice a n c:=Eq.trans rfl rfl
@[simp] theorem afa (a:Option Nat):dem (.map a)=.map a:=Eq.trans rfl rfl
theorem wrap_i64 {n:Int} (h0:-9223372036854775808≤n) (h:n < 9223372036854775808):IntKind.i64.wrap n=n:=by
 simp [IntKind.wrap,IntKind.bits,IntKind.signed]
 split <;> omega
theorem Kz {l pre suf:List Int} {n:Int} (hl:l=pre++n::suf) (h:Int.toNat (pre.length:Int) < l.length):l[Int.toNat (pre.length:Int)]=n:=by
 subst hl;simp
theorem abJ {α:Type} {l pre suf:List α} {n:α} (hl:l=pre++n::suf) (h:Int.toNat (pre.length:Int) < l.length):l[Int.toNat (pre.length:Int)]=n:=by
 subst hl;simp
theorem Vg (k:Nat):(if (if k=2 then 1 else k)=2 then 1 else if k=2 then 1 else k)=if k=2 then 1 else k:=by split <;> simp_all
theorem WJ (k:Nat):(if k=2 then 1 else k)≠2:=by split <;> omega
theorem QI (Sa Sb:zx):qV zh Sa Sb=true:=rfl
theorem xX (cs:List Value) (Sa Sb:zx):qV (EP cs) Sa Sb=true:=rfl
theorem qB {q o e:Nat} {cs:List Value} {own:Own} {S:zx} (h:S.get q=some (.cells cs own e)):qV (.pointer (some ⟨q,o,none⟩)) S S=true:=by
 simp only [qV,h,Nat.sub_self,List.take_zero,List.contains_nil,Bool.not_false,Bool.and_self]
end Go.Abs
namespace Go.Abs
open Go.RowKit
section
variable {P:Program} {fx:Fx} {chk:List Nat} {call:FuncId→List Value→M Value} {ops:Array Oper}
theorem sP (f:Func) (i n:Nat) {l:List Oper} {T:List Value} {T1:Value→List Value} {S:zx} {v:Value} {r:Option (List Value×zx)} (hK:jF P fx call ops ((reg f i).toList.drop (n+1)) (T1 v) S=r) (hl:l=(opAt f i n)::((reg f i).toList.drop (n+1)):=by kernel_rfl) (hg:(opAt f i n).guard=none:=by kernel_rfl) (hm:∀ v,JB (opAt f i n) ((reg f i).toList.drop (n+1)) T v=T1 v:=by exact fun _=>rfl) (hs:kD P fx call T (opAt f i n) S=some (v,S):=by kernel_rfl):jF P fx call ops l T S=r :=
 agI hl hg hm hs hK
theorem sD (f:Func) (i n:Nat) {l:List Oper} {T:List Value} {T1:Value→List Value} {S:zx} {s:Option (Value×zx)} {K:Value→zx→Option (List Value×zx)} (hK:∀ v S1,jF P fx call ops ((reg f i).toList.drop (n+1)) (T1 v) S1=K v S1) (hl:l=(opAt f i n)::((reg f i).toList.drop (n+1)):=by kernel_rfl) (hg:(opAt f i n).guard=none:=by kernel_rfl) (hm:∀ v,JB (opAt f i n) ((reg f i).toList.drop (n+1)) T v=T1 v:=by exact fun _=>rfl) (hs:kD P fx call T (opAt f i n) S=s:=by kernel_rfl):jF P fx call ops l T S=zN s K () :=
 aki hl hg hm hs hK
theorem sG (f:Func) (i n:Nat) {l:List Oper} {T:List Value} {T1:Value→List Value} {S:zx} {j:Nat} {b:Bool} {g:Value} {s:M Value} {K:Value→zx→Option (List Value×zx)} (hK:∀ v S1,jF P fx call ops ((reg f i).toList.drop (n+1)) (T1 v) S1=K v S1) (hl:l=(opAt f i n)::((reg f i).toList.drop (n+1)):=by kernel_rfl) (hg:(opAt f i n).guard=some (j,b):=by kernel_rfl) (hm:∀ v,JB (opAt f i n) ((reg f i).toList.drop (n+1)) T v=T1 v:=by exact fun _=>rfl) (hy:ynd ops T j=vb g:=by kernel_rfl) (hs:kD P fx call T (opAt f i n) S=s S:=by kernel_rfl):jF P fx call ops l T S=gdK g b s S K () :=
 ajK hl hg hm hy hs hK
theorem tD (f:Func) (i n:Nat) {l:List Oper} {T:List Value} {T1:Value→List Value} {S:zx} {k:Nat} {s:Option (Value×zx)} {K:Value→zx→Option (List Value×zx)} (hK:∀ v S1,qw P fx chk [] call ops (k+1) [] ((reg f i).toList.drop (n+1)) (T1 v) S1=K v S1) (hc:chk.contains k=false:=by kernel_rfl) (hl:l=(opAt f i n)::((reg f i).toList.drop (n+1)):=by kernel_rfl) (hg:(opAt f i n).guard=none:=by kernel_rfl) (hm:∀ v,JB (opAt f i n) ((reg f i).toList.drop (n+1)) T v=T1 v:=by exact fun _=>rfl) (hs:kD P fx call T (opAt f i n) S=s:=by kernel_rfl):qw P fx chk [] call ops k [] l T S=zN s K () :=
 ahR hc hl hg hm hs hK
theorem tP (f:Func) (i n:Nat) {l:List Oper} {T:List Value} {T1:Value→List Value} {S:zx} {k:Nat} {v:Value} {r:Option (List Value×zx)} (hK:qw P fx chk [] call ops (k+1) [] ((reg f i).toList.drop (n+1)) (T1 v) S=r) (hc:chk.contains k=false:=by kernel_rfl) (hl:l=(opAt f i n)::((reg f i).toList.drop (n+1)):=by kernel_rfl) (hg:(opAt f i n).guard=none:=by kernel_rfl) (hm:∀ v,JB (opAt f i n) ((reg f i).toList.drop (n+1)) T v=T1 v:=by exact fun _=>rfl) (hs:kD P fx call T (opAt f i n) S=some (v,S):=by kernel_rfl):qw P fx chk [] call ops k [] l T S=r :=
 adT hc hl hg hm hs hK
theorem tPC (f:Func) (i n:Nat) {l:List Oper} {T:List Value} {T1:Value→List Value} {S:zx} {k:Nat} {v:Value} {r:Option (List Value×zx)} (hK:qw P fx chk [] call ops (k+1) [] ((reg f i).toList.drop (n+1)) (T1 v) S=r) (hc:chk.contains k=true:=by kernel_rfl) (hl:l=(opAt f i n)::((reg f i).toList.drop (n+1)):=by kernel_rfl) (hg:(opAt f i n).guard=none:=by kernel_rfl) (hm:∀ v,JB (opAt f i n) ((reg f i).toList.drop (n+1)) T v=T1 v:=by exact fun _=>rfl) (hs:kD P fx call T (opAt f i n) S=some (v,S):=by kernel_rfl):qw P fx chk [] call ops k [] l T S=okK v r () :=
 ab9 hc hl hg hm hs hK
theorem tG (f:Func) (i n:Nat) {l:List Oper} {T:List Value} {T1:Value→List Value} {S:zx} {j k:Nat} {b:Bool} {g:Value} {s:M Value} {K:Value→zx→Option (List Value×zx)} (hK:∀ v S1,qw P fx chk [] call ops (k+1) [] ((reg f i).toList.drop (n+1)) (T1 v) S1=K v S1) (hc:chk.contains k=false:=by kernel_rfl) (hl:l=(opAt f i n)::((reg f i).toList.drop (n+1)):=by kernel_rfl) (hg:(opAt f i n).guard=some (j,b):=by kernel_rfl) (hm:∀ v,JB (opAt f i n) ((reg f i).toList.drop (n+1)) T v=T1 v:=by exact fun _=>rfl) (hy:ynd ops T j=vb g:=by kernel_rfl) (hs:kD P fx call T (opAt f i n) S=s S:=by kernel_rfl):qw P fx chk [] call ops k [] l T S=gdK g b s S K () :=
 ahz hc hl hg hm hy hs hK
theorem uD (f:Func) (i n:Nat) {l:List Oper} {T:List Value} {T1:Value→List Value} {S:zx} {k:Nat} {s:Option (Value×zx)} {K:Value→zx→Option (List Value×zx)} {x:Nat×Nat} {nl:List (Nat×Nat)} {hist:List (Value×zx)} {pe:Value} (hK:∀ v S1,qw P fx chk (x::nl) call ops (k+1) (hist++[(pe,S)]) ((reg f i).toList.drop (n+1)) (T1 v) S1=K v S1) (hc:chk.contains k=false:=by kernel_rfl) (hpe:Jg T (opAt f i n)=pe:=by kernel_rfl) (hl:l=(opAt f i n)::((reg f i).toList.drop (n+1)):=by kernel_rfl) (hg:(opAt f i n).guard=none:=by kernel_rfl) (hm:∀ v,JB (opAt f i n) ((reg f i).toList.drop (n+1)) T v=T1 v:=by exact fun _=>rfl) (hs:kD P fx call T (opAt f i n) S=s:=by kernel_rfl):qw P fx chk (x::nl) call ops k hist l T S=zN s K () :=
 ahG hc hpe hl hg hm hs hK
theorem uDC (f:Func) (i n:Nat) {l:List Oper} {T:List Value} {T1:Value→List Value} {S:zx} {k:Nat} {s:Option (Value×zx)} {K:Value→zx→Option (List Value×zx)} {x:Nat×Nat} {nl:List (Nat×Nat)} {hist:List (Value×zx)} {pe:Value} (hK:∀ v S1,qw P fx chk (x::nl) call ops (k+1) (hist++[(pe,S)]) ((reg f i).toList.drop (n+1)) (T1 v) S1=K v S1) (hc:chk.contains k=true:=by kernel_rfl) (hpe:Jg T (opAt f i n)=pe:=by kernel_rfl) (hl:l=(opAt f i n)::((reg f i).toList.drop (n+1)):=by kernel_rfl) (hg:(opAt f i n).guard=none:=by kernel_rfl) (hm:∀ v,JB (opAt f i n) ((reg f i).toList.drop (n+1)) T v=T1 v:=by exact fun _=>rfl) (hs:kD P fx call T (opAt f i n) S=s:=by kernel_rfl):qw P fx chk (x::nl) call ops k hist l T S=zN s (fun v S1=>okK v (K v S1) ()) () :=
 ag7 hc hpe hl hg hm hs hK
theorem uP (f:Func) (i n:Nat) {l:List Oper} {T:List Value} {T1:Value→List Value} {S:zx} {k:Nat} {v:Value} {r:Option (List Value×zx)} {x:Nat×Nat} {nl:List (Nat×Nat)} {hist:List (Value×zx)} {pe:Value} (hK:qw P fx chk (x::nl) call ops (k+1) (hist++[(pe,S)]) ((reg f i).toList.drop (n+1)) (T1 v) S=r) (hc:chk.contains k=false:=by kernel_rfl) (hpe:Jg T (opAt f i n)=pe:=by kernel_rfl) (hl:l=(opAt f i n)::((reg f i).toList.drop (n+1)):=by kernel_rfl) (hg:(opAt f i n).guard=none:=by kernel_rfl) (hm:∀ v,JB (opAt f i n) ((reg f i).toList.drop (n+1)) T v=T1 v:=by exact fun _=>rfl) (hs:kD P fx call T (opAt f i n) S=some (v,S):=by kernel_rfl):qw P fx chk (x::nl) call ops k hist l T S=r :=
 adU hc hpe hl hg hm hs hK
theorem uPC (f:Func) (i n:Nat) {l:List Oper} {T:List Value} {T1:Value→List Value} {S:zx} {k:Nat} {v:Value} {r:Option (List Value×zx)} {x:Nat×Nat} {nl:List (Nat×Nat)} {hist:List (Value×zx)} {pe:Value} (hK:qw P fx chk (x::nl) call ops (k+1) (hist++[(pe,S)]) ((reg f i).toList.drop (n+1)) (T1 v) S=r) (hc:chk.contains k=true:=by kernel_rfl) (hpe:Jg T (opAt f i n)=pe:=by kernel_rfl) (hl:l=(opAt f i n)::((reg f i).toList.drop (n+1)):=by kernel_rfl) (hg:(opAt f i n).guard=none:=by kernel_rfl) (hm:∀ v,JB (opAt f i n) ((reg f i).toList.drop (n+1)) T v=T1 v:=by exact fun _=>rfl) (hs:kD P fx call T (opAt f i n) S=some (v,S):=by kernel_rfl):qw P fx chk (x::nl) call ops k hist l T S=okK v r () :=
 acR hc hpe hl hg hm hs hK
theorem uG (f:Func) (i n:Nat) {l:List Oper} {T:List Value} {T1:Value→List Value} {S:zx} {j k:Nat} {b:Bool} {g:Value} {s:M Value} {K:Value→zx→Option (List Value×zx)} {x:Nat×Nat} {nl:List (Nat×Nat)} {hist:List (Value×zx)} {pe:Value} (hK:∀ v S1,qw P fx chk (x::nl) call ops (k+1) (hist++[(pe,S)]) ((reg f i).toList.drop (n+1)) (T1 v) S1=K v S1) (hc:chk.contains k=false:=by kernel_rfl) (hpe:Jg T (opAt f i n)=pe:=by kernel_rfl) (hl:l=(opAt f i n)::((reg f i).toList.drop (n+1)):=by kernel_rfl) (hg:(opAt f i n).guard=some (j,b):=by kernel_rfl) (hm:∀ v,JB (opAt f i n) ((reg f i).toList.drop (n+1)) T v=T1 v:=by exact fun _=>rfl) (hy:ynd ops T j=vb g:=by kernel_rfl) (hs:kD P fx call T (opAt f i n) S=s S:=by kernel_rfl):qw P fx chk (x::nl) call ops k hist l T S=gdK g b s S K () :=
 ail hc hpe hl hg hm hy hs hK
theorem uGC (f:Func) (i n:Nat) {l:List Oper} {T:List Value} {T1:Value→List Value} {S:zx} {j k:Nat} {b:Bool} {g:Value} {s:M Value} {K:Value→zx→Option (List Value×zx)} {x:Nat×Nat} {nl:List (Nat×Nat)} {hist:List (Value×zx)} {pe:Value} (hK:∀ v S1,qw P fx chk (x::nl) call ops (k+1) (hist++[(pe,S)]) ((reg f i).toList.drop (n+1)) (T1 v) S1=K v S1) (hc:chk.contains k=true:=by kernel_rfl) (hpe:Jg T (opAt f i n)=pe:=by kernel_rfl) (hl:l=(opAt f i n)::((reg f i).toList.drop (n+1)):=by kernel_rfl) (hg:(opAt f i n).guard=some (j,b):=by kernel_rfl) (hm:∀ v,JB (opAt f i n) ((reg f i).toList.drop (n+1)) T v=T1 v:=by exact fun _=>rfl) (hy:ynd ops T j=vb g:=by kernel_rfl) (hs:kD P fx call T (opAt f i n) S=s S:=by kernel_rfl):qw P fx chk (x::nl) call ops k hist l T S=ain g b s S K () :=
 afD hc hpe hl hg hm hy hs hK
end
end Go.Abs
namespace Go.Proofs.Ytfjogganfjkckaa
open Go.Abs
def O:Ora:=⟨fun _=>none,fun f=>([7]:List Nat).contains f,fun f=>([9,13,14,15,16,17,18,19,22,23,24,26,27,30,31,32,34,36,37,42,45,46,48,50,52,56,57,58,62,64,65,66,67,68,69,70,71,73]:List Nat).contains f⟩
theorem akK:ae9 zi O:=ahL
end Go.Proofs.Ytfjogganfjkckaa
namespace Go.Proofs.Ytfjogganfjkckaa
open Go.Abs
noncomputable def zD.code:Code:=(.seq (.region 0 (reg Try.f7 0) false) (.seq (.seq (.region 1 (reg Try.f7 1) false) (.cond (.tmp 15) (.seq (.region 2 (reg Try.f7 2) false) Code.ret) Code.skip)) (.seq (.region 3 (reg Try.f7 3) false) (.seq (.seq (.region 4 (reg Try.f7 4) true) (.cond (.tmp 50) (.seq (.region 5 (reg Try.f7 5) false) Code.ret) Code.skip)) (.seq (.region 6 (reg Try.f7 6) false) (.seq (.region 7 (reg Try.f7 7) false) (.seq (.region 8 (reg Try.f7 8) false) (.seq (.region 9 (reg Try.f7 9) false) (.seq (.region 10 (reg Try.f7 10) false) (.seq (.region 11 (reg Try.f7 11) false) (.seq (.seq (.region 12 (reg Try.f7 12) false) (.cond (.tmp 85) (.seq (.region 13 (reg Try.f7 13) false) Code.ret) Code.skip)) (.seq (.region 14 (reg Try.f7 14) false) Code.ret))))))))))))
theorem zD.body:Try.f7.body=some zD.code:=by kernel_rfl
variable (x0 x1 x2 x3 x4 x5 x6 x7 x8 x9 b d f c g i k l m n o p q r s t u w x y z A B C D E F G H I J K L M N P Q R U V W X Y Z a0 a1 a2 a3 a4 a5 a6 a7 a8 a9 b0 b1 b2 b3 b4 b5 b6 b7 b8 b9 c0 c1 c2 c3 c4 c5 c6 c7 c8 c9 d0 d1 d2 d3 d5 d6 d7 d8 d9 f0 f1 f2 f3 f4:Value) (S:zx)
theorem zD.r0 :jF zi ⟨true,false,false⟩ (xP O.hp true (jd zi O)) (reg Try.f7 0) (reg Try.f7 0).toList ([x0,x1,x2,x3,x4,x5,x6,x7,x8,x9,b,d,f,c,g,i,k,l,m,n,o,p,q,r,s,t,u,w,x,y,z,A,B,C,D,E,F,G,H,I,J,K,L,M,N,P,Q,R,U,V,W,X,Y,Z,a0,a1,a2,a3,a4,a5,a6,a7,a8,a9,b0,b1,b2,b3,b4,b5,b6,b7,b8,b9,c0,c1,c2,c3,c4,c5,c6,c7,c8,c9,d0,d1,d2,d3,d5,d6,d7,d8,d9,f0,f1,f2,f3,f4]) S =
  (zN (JK (dem x1) S) (fun v0 S1=>zN (JK (dem x2) S1) (fun v1 S2=>some ([x0,x1,x2,x3,v0,v1,Value.bool false,x7,x8,x9,b,d,f,c,g,i,k,l,m,n,o,p,q,r,s,t,u,w,x,y,z,A,B,C,D,E,F,G,H,I,J,K,L,M,N,P,Q,R,U,V,W,X,Y,Z,a0,a1,a2,a3,a4,a5,a6,a7,a8,a9,b0,b1,b2,b3,b4,b5,b6,b7,b8,b9,c0,c1,c2,c3,c4,c5,c6,c7,c8,c9,d0,d1,d2,d3,d5,d6,d7,d8,d9,f0,f1,f2,f3,f4],S2)) ()) ()):=by
 kernel_rfl
theorem zD.r1 :jF zi ⟨true,false,false⟩ (xP O.hp true (jd zi O)) (reg Try.f7 1) (reg Try.f7 1).toList ([x0,x1,x2,x3,x4,x5,x6,x7,x8,x9,b,d,f,c,g,i,k,l,m,n,o,p,q,r,s,t,u,w,x,y,z,A,B,C,D,E,F,G,H,I,J,K,L,M,N,P,Q,R,U,V,W,X,Y,Z,a0,a1,a2,a3,a4,a5,a6,a7,a8,a9,b0,b1,b2,b3,b4,b5,b6,b7,b8,b9,c0,c1,c2,c3,c4,c5,c6,c7,c8,c9,d0,d1,d2,d3,d5,d6,d7,d8,d9,f0,f1,f2,f3,f4]) S =
  (zN (ZB (jd zi O) 9 [] S) (fun v0 S1=>zN (aUn zi UnOp.not v0 S1) (fun v1 S2=>some ([x0,x1,x2,x3,x4,x5,x6,x7,x8,x9,b,d,f,c,v0,v1,k,l,m,n,o,p,q,r,s,t,u,w,x,y,z,A,B,C,D,E,F,G,H,I,J,K,L,M,N,P,Q,R,U,V,W,X,Y,Z,a0,a1,a2,a3,a4,a5,a6,a7,a8,a9,b0,b1,b2,b3,b4,b5,b6,b7,b8,b9,c0,c1,c2,c3,c4,c5,c6,c7,c8,c9,d0,d1,d2,d3,d5,d6,d7,d8,d9,f0,f1,f2,f3,f4],S2)) ()) ()):=by
 kernel_rfl
theorem zD.r2 :jF zi ⟨true,false,false⟩ (xP O.hp true (jd zi O)) (reg Try.f7 2) (reg Try.f7 2).toList ([x0,x1,x2,x3,x4,x5,x6,x7,x8,x9,b,d,f,c,g,i,k,l,m,n,o,p,q,r,s,t,u,w,x,y,z,A,B,C,D,E,F,G,H,I,J,K,L,M,N,P,Q,R,U,V,W,X,Y,Z,a0,a1,a2,a3,a4,a5,a6,a7,a8,a9,b0,b1,b2,b3,b4,b5,b6,b7,b8,b9,c0,c1,c2,c3,c4,c5,c6,c7,c8,c9,d0,d1,d2,d3,d5,d6,d7,d8,d9,f0,f1,f2,f3,f4]) S =
  ( some ([x0,x1,x2,x3,x4,x5,Value.bool false,x7,x8,x9,b,d,f,c,g,i,k,l,m,n,o,p,q,r,s,t,u,w,x,y,z,A,B,C,D,E,F,G,H,I,J,K,L,M,N,P,Q,R,U,V,W,X,Y,Z,a0,a1,a2,a3,a4,a5,a6,a7,a8,a9,b0,b1,b2,b3,b4,b5,b6,b7,b8,b9,c0,c1,c2,c3,c4,c5,c6,c7,c8,c9,d0,d1,d2,d3,d5,d6,d7,d8,d9,f0,f1,f2,f3,f4],S)):=by
 kernel_rfl
theorem zD.r3 :jF zi ⟨true,false,false⟩ (xP O.hp true (jd zi O)) (reg Try.f7 3) (reg Try.f7 3).toList ([x0,x1,x2,x3,x4,x5,x6,x7,x8,x9,b,d,f,c,g,i,k,l,m,n,o,p,q,r,s,t,u,w,x,y,z,A,B,C,D,E,F,G,H,I,J,K,L,M,N,P,Q,R,U,V,W,X,Y,Z,a0,a1,a2,a3,a4,a5,a6,a7,a8,a9,b0,b1,b2,b3,b4,b5,b6,b7,b8,b9,c0,c1,c2,c3,c4,c5,c6,c7,c8,c9,d0,d1,d2,d3,d5,d6,d7,d8,d9,f0,f1,f2,f3,f4]) S =
  (zN (jl zi false 48 x4 S) (fun v0 S1=>zN (ZB (jd zi O) 19 [(dem v0)] S1) (fun v1 S2=>zN (zZ v1 0 S2) (fun v3 S3=>zN (zZ (zV 0 v1) 1 S3) (fun v4 S4=>some ([x0,x1,x2,x3,x4,x5,x6,v3,v4,x9,b,d,f,c,g,i,zV 1 (zV 0 v1),v0,dem v1,dem v3,dem v4,p,q,r,s,t,u,w,x,y,z,A,B,C,D,E,F,G,H,I,J,K,L,M,N,P,Q,R,U,V,W,X,Y,Z,a0,a1,a2,a3,a4,a5,a6,a7,a8,a9,b0,b1,b2,b3,b4,b5,b6,b7,b8,b9,c0,c1,c2,c3,c4,c5,c6,c7,c8,c9,d0,d1,d2,d3,d5,d6,d7,d8,d9,f0,f1,f2,f3,f4],S4)) ()) ()) ()) ()):=by
 kernel_rfl
theorem zD.d4:kC zi (reg Try.f7 4)=true:=by kernel_rfl
theorem zD.ff4:fixed zi (reg Try.f7 4)=false:=by kernel_rfl
theorem zD.k4:checked zi (reg Try.f7 4)=[]:=by kernel_rfl
theorem zD.g4:again zi (reg Try.f7 4)=[]:=by kernel_rfl
theorem zD.r4 :zL zi O true (.region 4 (reg Try.f7 4) true) ([x0,x1,x2,x3,x4,x5,x6,x7,x8,x9,b,d,f,c,g,i,k,l,m,n,o,p,q,r,s,t,u,w,x,y,z,A,B,C,D,E,F,G,H,I,J,K,L,M,N,P,Q,R,U,V,W,X,Y,Z,a0,a1,a2,a3,a4,a5,a6,a7,a8,a9,b0,b1,b2,b3,b4,b5,b6,b7,b8,b9,c0,c1,c2,c3,c4,c5,c6,c7,c8,c9,d0,d1,d2,d3,d5,d6,d7,d8,d9,f0,f1,f2,f3,f4]) S =
  Z8 (zN (wH zi BinOp.neq 3 (dem x8) (.int .i64 0) S) (fun v1 S1=>gdK (dem v1) false (ret x0) S1 (fun v3 S2=>gdK (dem v1) false (ZY zi 24 (dem v3)) S2 (fun v4 S3=>gdK (dem v1) false (wH zi BinOp.gtr 3 v4 (.int .i64 20)) S3 (fun v5 S4=>zN (wW (dem v1) (Value.bool true) v5 S4) (fun v6 S5=>gdK (dem v6) false (jr zi 56 x5 (.int .i64 0)) S5 (fun v8 S6=>gdK (dem v6) false (jl zi false 3 v8) S6 (fun v9 S7=>gdK (dem v6) false (wH zi BinOp.lss 3 v9 (.int .i64 0)) S7 (fun f8 S8=>zN (wW (dem v6) (Value.bool true) f8 S8) (fun f5 S9=>gdK (dem f5) false (jr zi 56 x5 (.int .i64 0)) S9 (fun g0 f9=>gdK (dem f5) false (jl zi false 3 g0) f9 (fun g1 i5=>gdK (dem f5) false (ret x7) i5 (fun g2 i6=>gdK (dem f5) false (ZY zi 33 (dem g2)) i6 (fun g3 i7=>gdK (dem f5) false (wH zi BinOp.geq 3 g1 g3) i7 (fun g5 i8=>zN (wW (dem f5) (Value.bool true) g5 i8) (fun f6 i9=>gdK (dem f6) false (jr zi 56 x5 (.int .i64 1)) i9 (fun g6 j0=>gdK (dem f6) false (jl zi false 3 g6) j0 (fun g7 j1=>gdK (dem f6) false (qL zi true false 3 5 g7) j1 (fun g8 j2=>gdK (dem f6) false (ret x7) j2 (fun g9 j3=>gdK (dem f6) false (jr zi 56 x5 (.int .i64 0)) j3 (fun i0 j4=>gdK (dem f6) false (jl zi false 3 i0) j4 (fun i1 j5=>gdK (dem f6) false (jr zi 33 (dem g9) i1) j5 (fun i2 j6=>gdK (dem f6) false (jl zi false 5 i2) j6 (fun i3 j7=>gdK (dem f6) false (wH zi BinOp.eql 5 g8 i3) j7 (fun i4 j8=>zN (wW (dem f6) (Value.bool true) i4 j8) (fun j9 k0=>some ([x0,x1,x2,x3,x4,x5,x6,x7,x8,x9,b,d,f,c,g,i,k,l,m,n,o,dem x8,v1,dem v1,dem v3,v4,v5,v6,dem v6,v8,v9,f8,f5,dem f5,g0,g1,dem g2,g3,g5,f6,dem f6,g6,g7,g8,dem g9,i0,i1,i2,i3,i4,j9,X,Y,Z,a0,a1,a2,a3,a4,a5,a6,a7,a8,a9,b0,b1,b2,b3,b4,b5,b6,b7,b8,b9,c0,c1,c2,c3,c4,c5,c6,c7,c8,c9,d0,d1,d2,d3,d5,d6,d7,d8,d9,f0,f1,f2,f3,f4],k0)) ()) ()) ()) ()) ()) ()) ()) ()) ()) ()) ()) ()) ()) ()) ()) ()) ()) ()) ()) ()) ()) ()) ()) ()) ()):=by
 rw [aar zD.d4 zD.ff4 zD.k4 zD.g4]
 refine congrArg Z8 ?_
 refine tP Try.f7 4 0 (v:=x8) ?_
 refine tD Try.f7 4 1 (fun v1 S1=>?_)
 refine tP Try.f7 4 2 (v:=v1) ?_
 refine tG Try.f7 4 3 (j:=2) (fun v3 S2=>?_)
 refine tG Try.f7 4 4 (j:=2) (fun v4 S3=>?_)
 refine tG Try.f7 4 5 (j:=2) (fun v5 S4=>?_)
 refine tD Try.f7 4 6 (fun v6 S5=>?_)
 refine tP Try.f7 4 7 (v:=v6) ?_
 refine tG Try.f7 4 8 (j:=7) (fun v8 S6=>?_)
 refine tG Try.f7 4 9 (j:=7) (fun v9 S7=>?_)
 refine tG Try.f7 4 10 (j:=7) (fun f8 S8=>?_)
 refine tD Try.f7 4 11 (fun f5 S9=>?_)
 refine tP Try.f7 4 12 (v:=f5) ?_
 refine tG Try.f7 4 13 (j:=12) (fun g0 f9=>?_)
 refine tG Try.f7 4 14 (j:=12) (fun g1 i5=>?_)
 refine tG Try.f7 4 15 (j:=12) (fun g2 i6=>?_)
 refine tG Try.f7 4 16 (j:=12) (fun g3 i7=>?_)
 refine tG Try.f7 4 17 (j:=12) (fun g5 i8=>?_)
 refine tD Try.f7 4 18 (fun f6 i9=>?_)
 refine tP Try.f7 4 19 (v:=f6) ?_
 refine tG Try.f7 4 20 (j:=19) (fun g6 j0=>?_)
 refine tG Try.f7 4 21 (j:=19) (fun g7 j1=>?_)
 refine tG Try.f7 4 22 (j:=19) (fun g8 j2=>?_)
 refine tG Try.f7 4 23 (j:=19) (fun g9 j3=>?_)
 refine tG Try.f7 4 24 (j:=19) (fun i0 j4=>?_)
 refine tG Try.f7 4 25 (j:=19) (fun i1 j5=>?_)
 refine tG Try.f7 4 26 (j:=19) (fun i2 j6=>?_)
 refine tG Try.f7 4 27 (j:=19) (fun i3 j7=>?_)
 refine tG Try.f7 4 28 (j:=19) (fun i4 j8=>?_)
 refine tD Try.f7 4 29 (fun j9 k0=>?_)
 kernel_rfl
theorem zD.r5 :jF zi ⟨true,false,false⟩ (xP O.hp true (jd zi O)) (reg Try.f7 5) (reg Try.f7 5).toList ([x0,x1,x2,x3,x4,x5,x6,x7,x8,x9,b,d,f,c,g,i,k,l,m,n,o,p,q,r,s,t,u,w,x,y,z,A,B,C,D,E,F,G,H,I,J,K,L,M,N,P,Q,R,U,V,W,X,Y,Z,a0,a1,a2,a3,a4,a5,a6,a7,a8,a9,b0,b1,b2,b3,b4,b5,b6,b7,b8,b9,c0,c1,c2,c3,c4,c5,c6,c7,c8,c9,d0,d1,d2,d3,d5,d6,d7,d8,d9,f0,f1,f2,f3,f4]) S =
  ( some ([x0,x1,x2,x3,x4,x5,Value.bool true,x7,x8,x9,b,d,f,c,g,i,k,l,m,n,o,p,q,r,s,t,u,w,x,y,z,A,B,C,D,E,F,G,H,I,J,K,L,M,N,P,Q,R,U,V,W,X,Y,Z,a0,a1,a2,a3,a4,a5,a6,a7,a8,a9,b0,b1,b2,b3,b4,b5,b6,b7,b8,b9,c0,c1,c2,c3,c4,c5,c6,c7,c8,c9,d0,d1,d2,d3,d5,d6,d7,d8,d9,f0,f1,f2,f3,f4],S)):=by
 kernel_rfl
theorem zD.r6 :jF zi ⟨true,false,false⟩ (xP O.hp true (jd zi O)) (reg Try.f7 6) (reg Try.f7 6).toList ([x0,x1,x2,x3,x4,x5,x6,x7,x8,x9,b,d,f,c,g,i,k,l,m,n,o,p,q,r,s,t,u,w,x,y,z,A,B,C,D,E,F,G,H,I,J,K,L,M,N,P,Q,R,U,V,W,X,Y,Z,a0,a1,a2,a3,a4,a5,a6,a7,a8,a9,b0,b1,b2,b3,b4,b5,b6,b7,b8,b9,c0,c1,c2,c3,c4,c5,c6,c7,c8,c9,d0,d1,d2,d3,d5,d6,d7,d8,d9,f0,f1,f2,f3,f4]) S =
  (zN (yN zi 24 0 [] S) (fun v0 S1=>zN (kQ zi true 24 24 v0 (dem x0) S1) (fun v2 S2=>zN (ZB (jd zi O) 8 [(dem v2)] S2) (fun v3 S3=>some ([x0,x1,x2,x3,x4,x5,x6,x7,x8,v3,b,d,f,c,g,i,k,l,m,n,o,p,q,r,s,t,u,w,x,y,z,A,B,C,D,E,F,G,H,I,J,K,L,M,N,P,Q,R,U,V,W,dem v0,dem x0,v2,dem v3,a1,a2,a3,a4,a5,a6,a7,a8,a9,b0,b1,b2,b3,b4,b5,b6,b7,b8,b9,c0,c1,c2,c3,c4,c5,c6,c7,c8,c9,d0,d1,d2,d3,d5,d6,d7,d8,d9,f0,f1,f2,f3,f4],S3)) ()) ()) ()):=by
 kernel_rfl
theorem zD.r7 :jF zi ⟨true,false,false⟩ (xP O.hp true (jd zi O)) (reg Try.f7 7) (reg Try.f7 7).toList ([x0,x1,x2,x3,x4,x5,x6,x7,x8,x9,b,d,f,c,g,i,k,l,m,n,o,p,q,r,s,t,u,w,x,y,z,A,B,C,D,E,F,G,H,I,J,K,L,M,N,P,Q,R,U,V,W,X,Y,Z,a0,a1,a2,a3,a4,a5,a6,a7,a8,a9,b0,b1,b2,b3,b4,b5,b6,b7,b8,b9,c0,c1,c2,c3,c4,c5,c6,c7,c8,c9,d0,d1,d2,d3,d5,d6,d7,d8,d9,f0,f1,f2,f3,f4]) S =
  (zN (yN zi 33 0 [] S) (fun v1 S1=>zN (kQ zi true 33 33 v1 (dem x7) S1) (fun v3 S2=>zN (ZB (jd zi O) 12 [(dem (dem x9)),(dem v3)] S2) (fun v4 S3=>some ([x0,x1,x2,x3,x4,x5,x6,x7,x8,x9,b,d,f,c,g,i,k,l,m,n,o,p,q,r,s,t,u,w,x,y,z,A,B,C,D,E,F,G,H,I,J,K,L,M,N,P,Q,R,U,V,W,X,Y,Z,a0,dem x9,dem v1,dem x7,v3,v4,a6,a7,a8,a9,b0,b1,b2,b3,b4,b5,b6,b7,b8,b9,c0,c1,c2,c3,c4,c5,c6,c7,c8,c9,d0,d1,d2,d3,d5,d6,d7,d8,d9,f0,f1,f2,f3,f4],S3)) ()) ()) ()):=by
 kernel_rfl
theorem zD.r8 :jF zi ⟨true,false,false⟩ (xP O.hp true (jd zi O)) (reg Try.f7 8) (reg Try.f7 8).toList ([x0,x1,x2,x3,x4,x5,x6,x7,x8,x9,b,d,f,c,g,i,k,l,m,n,o,p,q,r,s,t,u,w,x,y,z,A,B,C,D,E,F,G,H,I,J,K,L,M,N,P,Q,R,U,V,W,X,Y,Z,a0,a1,a2,a3,a4,a5,a6,a7,a8,a9,b0,b1,b2,b3,b4,b5,b6,b7,b8,b9,c0,c1,c2,c3,c4,c5,c6,c7,c8,c9,d0,d1,d2,d3,d5,d6,d7,d8,d9,f0,f1,f2,f3,f4]) S =
  (zN (yN zi 33 0 [] S) (fun v0 S1=>zN (kQ zi true 33 33 v0 (dem x7) S1) (fun v2 S2=>some ([x0,x1,x2,x3,x4,x5,x6,x7,x8,x9,v2,d,f,c,g,i,k,l,m,n,o,p,q,r,s,t,u,w,x,y,z,A,B,C,D,E,F,G,H,I,J,K,L,M,N,P,Q,R,U,V,W,X,Y,Z,a0,a1,a2,a3,a4,a5,dem v0,dem x7,dem v2,a9,b0,b1,b2,b3,b4,b5,b6,b7,b8,b9,c0,c1,c2,c3,c4,c5,c6,c7,c8,c9,d0,d1,d2,d3,d5,d6,d7,d8,d9,f0,f1,f2,f3,f4],S2)) ()) ()):=by
 kernel_rfl
theorem zD.r9 :jF zi ⟨true,false,false⟩ (xP O.hp true (jd zi O)) (reg Try.f7 9) (reg Try.f7 9).toList ([x0,x1,x2,x3,x4,x5,x6,x7,x8,x9,b,d,f,c,g,i,k,l,m,n,o,p,q,r,s,t,u,w,x,y,z,A,B,C,D,E,F,G,H,I,J,K,L,M,N,P,Q,R,U,V,W,X,Y,Z,a0,a1,a2,a3,a4,a5,a6,a7,a8,a9,b0,b1,b2,b3,b4,b5,b6,b7,b8,b9,c0,c1,c2,c3,c4,c5,c6,c7,c8,c9,d0,d1,d2,d3,d5,d6,d7,d8,d9,f0,f1,f2,f3,f4]) S =
  (zN (jr zi 56 x5 (.int .i64 0) S) (fun v1 S1=>zN (jl zi false 3 v1 S1) (fun v2 S2=>zN (jr zi 56 x5 (.int .i64 1) S2) (fun v3 S3=>zN (jl zi false 3 v3 S3) (fun v4 S4=>zN (qL zi true false 3 5 v4 S4) (fun v5 S5=>zN (jr zi 33 (dem b) v2 S5) (fun v6 S6=>zN (wS zi 5 v6 (dem v5) S6) (fun v7 S7=>some ([x0,x1,x2,x3,x4,x5,x6,x7,x8,x9,b,d,f,c,g,i,k,l,m,n,o,p,q,r,s,t,u,w,x,y,z,A,B,C,D,E,F,G,H,I,J,K,L,M,N,P,Q,R,U,V,W,X,Y,Z,a0,a1,a2,a3,a4,a5,a6,a7,a8,dem b,v1,v2,v3,v4,v5,v6,b6,b7,b8,b9,c0,c1,c2,c3,c4,c5,c6,c7,c8,c9,d0,d1,d2,d3,d5,d6,d7,d8,d9,f0,f1,f2,f3,f4],S7)) ()) ()) ()) ()) ()) ()) ()):=by
 kernel_rfl
theorem zD.r10 :jF zi ⟨true,false,false⟩ (xP O.hp true (jd zi O)) (reg Try.f7 10) (reg Try.f7 10).toList ([x0,x1,x2,x3,x4,x5,x6,x7,x8,x9,b,d,f,c,g,i,k,l,m,n,o,p,q,r,s,t,u,w,x,y,z,A,B,C,D,E,F,G,H,I,J,K,L,M,N,P,Q,R,U,V,W,X,Y,Z,a0,a1,a2,a3,a4,a5,a6,a7,a8,a9,b0,b1,b2,b3,b4,b5,b6,b7,b8,b9,c0,c1,c2,c3,c4,c5,c6,c7,c8,c9,d0,d1,d2,d3,d5,d6,d7,d8,d9,f0,f1,f2,f3,f4]) S =
  (zN (ZB (jd zi O) 16 [(dem (dem b))] S) (fun v1 S1=>zN (zZ v1 0 S1) (fun v3 S2=>zN (zZ (zV 0 v1) 1 S2) (fun v4 S3=>zN (yR zi 48 S3) (fun v5 S4=>zN (wS zi 48 v5 (dem v3) S4) (fun v6 S5=>some ([x0,x1,x2,x3,x4,x5,x6,x7,x8,x9,b,v5,v4,c,g,i,k,l,m,n,o,p,q,r,s,t,u,w,x,y,z,A,B,C,D,E,F,G,H,I,J,K,L,M,N,P,Q,R,U,V,W,X,Y,Z,a0,a1,a2,a3,a4,a5,a6,a7,a8,a9,b0,b1,b2,b3,b4,b5,zV 1 (zV 0 v1),dem b,dem v1,v3,dem v4,c1,c2,c3,c4,c5,c6,c7,c8,c9,d0,d1,d2,d3,d5,d6,d7,d8,d9,f0,f1,f2,f3,f4],S5)) ()) ()) ()) ()) ()):=by
 kernel_rfl
theorem zD.r11 :jF zi ⟨true,false,false⟩ (xP O.hp true (jd zi O)) (reg Try.f7 11) (reg Try.f7 11).toList ([x0,x1,x2,x3,x4,x5,x6,x7,x8,x9,b,d,f,c,g,i,k,l,m,n,o,p,q,r,s,t,u,w,x,y,z,A,B,C,D,E,F,G,H,I,J,K,L,M,N,P,Q,R,U,V,W,X,Y,Z,a0,a1,a2,a3,a4,a5,a6,a7,a8,a9,b0,b1,b2,b3,b4,b5,b6,b7,b8,b9,c0,c1,c2,c3,c4,c5,c6,c7,c8,c9,d0,d1,d2,d3,d5,d6,d7,d8,d9,f0,f1,f2,f3,f4]) S =
  (zN (yN zi 33 0 [] S) (fun v1 S1=>zN (kQ zi true 33 33 v1 (dem b) S1) (fun v3 S2=>zN (ZB (jd zi O) 10 [(dem (dem x9)),(dem v3)] S2) (fun v4 S3=>some ([x0,x1,x2,x3,x4,x5,x6,x7,x8,x9,b,d,f,v4,g,i,k,l,m,n,o,p,q,r,s,t,u,w,x,y,z,A,B,C,D,E,F,G,H,I,J,K,L,M,N,P,Q,R,U,V,W,X,Y,Z,a0,a1,a2,a3,a4,a5,a6,a7,a8,a9,b0,b1,b2,b3,b4,b5,b6,b7,b8,b9,c0,dem x9,dem v1,dem b,v3,dem v4,c6,c7,c8,c9,d0,d1,d2,d3,d5,d6,d7,d8,d9,f0,f1,f2,f3,f4],S3)) ()) ()) ()):=by
 kernel_rfl
theorem zD.r12 :jF zi ⟨true,false,false⟩ (xP O.hp true (jd zi O)) (reg Try.f7 12) (reg Try.f7 12).toList ([x0,x1,x2,x3,x4,x5,x6,x7,x8,x9,b,d,f,c,g,i,k,l,m,n,o,p,q,r,s,t,u,w,x,y,z,A,B,C,D,E,F,G,H,I,J,K,L,M,N,P,Q,R,U,V,W,X,Y,Z,a0,a1,a2,a3,a4,a5,a6,a7,a8,a9,b0,b1,b2,b3,b4,b5,b6,b7,b8,b9,c0,c1,c2,c3,c4,c5,c6,c7,c8,c9,d0,d1,d2,d3,d5,d6,d7,d8,d9,f0,f1,f2,f3,f4]) S =
  (zN (yN zi 33 0 [] S) (fun v1 S1=>zN (kQ zi true 33 33 v1 (dem x7) S1) (fun v3 S2=>zN (ZB (jd zi O) 10 [(dem (dem x9)),(dem v3)] S2) (fun v4 S3=>zN (aUn zi UnOp.not v4 S3) (fun v5 S4=>some ([x0,x1,x2,x3,x4,x5,x6,x7,x8,x9,b,d,f,c,g,i,k,l,m,n,o,p,q,r,s,t,u,w,x,y,z,A,B,C,D,E,F,G,H,I,J,K,L,M,N,P,Q,R,U,V,W,X,Y,Z,a0,a1,a2,a3,a4,a5,a6,a7,a8,a9,b0,b1,b2,b3,b4,b5,b6,b7,b8,b9,c0,c1,c2,c3,c4,c5,dem x9,dem v1,dem x7,v3,v4,v5,d2,d3,d5,d6,d7,d8,d9,f0,f1,f2,f3,f4],S4)) ()) ()) ()) ()):=by
 kernel_rfl
theorem zD.r13 :jF zi ⟨true,false,false⟩ (xP O.hp true (jd zi O)) (reg Try.f7 13) (reg Try.f7 13).toList ([x0,x1,x2,x3,x4,x5,x6,x7,x8,x9,b,d,f,c,g,i,k,l,m,n,o,p,q,r,s,t,u,w,x,y,z,A,B,C,D,E,F,G,H,I,J,K,L,M,N,P,Q,R,U,V,W,X,Y,Z,a0,a1,a2,a3,a4,a5,a6,a7,a8,a9,b0,b1,b2,b3,b4,b5,b6,b7,b8,b9,c0,c1,c2,c3,c4,c5,c6,c7,c8,c9,d0,d1,d2,d3,d5,d6,d7,d8,d9,f0,f1,f2,f3,f4]) S =
  ( some ([x0,x1,x2,x3,x4,x5,Value.bool false,x7,x8,x9,b,d,f,c,g,i,k,l,m,n,o,p,q,r,s,t,u,w,x,y,z,A,B,C,D,E,F,G,H,I,J,K,L,M,N,P,Q,R,U,V,W,X,Y,Z,a0,a1,a2,a3,a4,a5,a6,a7,a8,a9,b0,b1,b2,b3,b4,b5,b6,b7,b8,b9,c0,c1,c2,c3,c4,c5,c6,c7,c8,c9,d0,d1,d2,d3,d5,d6,d7,d8,d9,f0,f1,f2,f3,f4],S)):=by
 kernel_rfl
theorem zD.r14 :jF zi ⟨true,false,false⟩ (xP O.hp true (jd zi O)) (reg Try.f7 14) (reg Try.f7 14).toList ([x0,x1,x2,x3,x4,x5,x6,x7,x8,x9,b,d,f,c,g,i,k,l,m,n,o,p,q,r,s,t,u,w,x,y,z,A,B,C,D,E,F,G,H,I,J,K,L,M,N,P,Q,R,U,V,W,X,Y,Z,a0,a1,a2,a3,a4,a5,a6,a7,a8,a9,b0,b1,b2,b3,b4,b5,b6,b7,b8,b9,c0,c1,c2,c3,c4,c5,c6,c7,c8,c9,d0,d1,d2,d3,d5,d6,d7,d8,d9,f0,f1,f2,f3,f4]) S =
  (zN (aUn zi UnOp.not (dem c) S) (fun v1 S1=>gdK (dem v1) false (ret f) S1 (fun v3 S2=>gdK (dem v1) false (wH zi BinOp.eql 3 (dem v3) (.int .i64 0)) S2 (fun v4 S3=>gdK (dem v1) false (ret v4) S3 (fun v5 S4=>gdK (dem v5) true (ret x9) S4 (fun v6 S5=>gdK (dem v5) true (zG zi 48 d 1) S5 (fun v7 S6=>gdK (dem v5) true (jl zi false 3 v7) S6 (fun v8 S7=>gdK (dem v5) true (ZB (jd zi O) 11 [(dem (dem v6)),(dem v8)]) S7 (fun v9 S8=>gdK (dem v1) false (wW (dem v5) v9 (Value.bool false)) S8 (fun f8 S9=>zN (wW (dem v1) (Value.bool true) f8 S9) (fun f5 f9=>some ([x0,x1,x2,x3,x4,x5,f5,x7,x8,x9,b,d,f,c,g,i,k,l,m,n,o,p,q,r,s,t,u,w,x,y,z,A,B,C,D,E,F,G,H,I,J,K,L,M,N,P,Q,R,U,V,W,X,Y,Z,a0,a1,a2,a3,a4,a5,a6,a7,a8,a9,b0,b1,b2,b3,b4,b5,b6,b7,b8,b9,c0,c1,c2,c3,c4,c5,c6,c7,c8,c9,d0,d1,dem c,v1,dem v1,dem v3,v4,dem v5,dem v6,v7,v8,v9,f8,dem f5],f9)) ()) ()) ()) ()) ()) ()) ()) ()) ()) ()):=by
 refine sP Try.f7 14 0 (v:=c) ?_
 refine sD Try.f7 14 1 (fun v1 S1=>?_)
 refine sP Try.f7 14 2 (v:=v1) ?_
 refine sG Try.f7 14 3 (j:=2) (fun v3 S2=>?_)
 refine sG Try.f7 14 4 (j:=2) (fun v4 S3=>?_)
 refine sG Try.f7 14 5 (j:=2) (fun v5 S4=>?_)
 refine sG Try.f7 14 6 (j:=5) (fun v6 S5=>?_)
 refine sG Try.f7 14 7 (j:=5) (fun v7 S6=>?_)
 refine sG Try.f7 14 8 (j:=5) (fun v8 S7=>?_)
 refine sG Try.f7 14 9 (j:=5) (fun v9 S8=>?_)
 refine sG Try.f7 14 10 (j:=2) (fun f8 S9=>?_)
 refine sD Try.f7 14 11 (fun f5 f9=>?_)
 refine sP Try.f7 14 12 (v:=f5) ?_
 kernel_rfl
theorem zD.rs:type_of% (alY @zD.r0 (alY @zD.r1 (alY @zD.r2 (alY @zD.r3 (alY @zD.r4 (alY @zD.r5 (alY @zD.r6 (alY @zD.r7 (alY @zD.r8 (alY @zD.r9 (alY @zD.r10 (alY @zD.r11 (alY @zD.r12 (alY @zD.r13 (@zD.r14))))))))))))))):=alY @zD.r0 (alY @zD.r1 (alY @zD.r2 (alY @zD.r3 (alY @zD.r4 (alY @zD.r5 (alY @zD.r6 (alY @zD.r7 (alY @zD.r8 (alY @zD.r9 (alY @zD.r10 (alY @zD.r11 (alY @zD.r12 (alY @zD.r13 (@zD.r14))))))))))))))
theorem zD.runs {x0 x1 x2:Value} {S S1:zx} {e:AEx} {T:List Value} (h:zL zi O true zD.code ([x0,x1,x2,zh,zh,zh,zh,zh,zh,zh,zh,zh,zh,zh,zh,zh,zh,zh,zh,zh,zh,zh,zh,zh,zh,zh,zh,zh,zh,zh,zh,zh,zh,zh,zh,zh,zh,zh,zh,zh,zh,zh,zh,zh,zh,zh,zh,zh,zh,zh,zh,zh,zh,zh,zh,zh,zh,zh,zh,zh,zh,zh,zh,zh,zh,zh,zh,zh,zh,zh,zh,zh,zh,zh,zh,zh,zh,zh,zh,zh,zh,zh,zh,zh,zh,zh,zh,zh,zh,zh,zh,zh,zh,zh,zh,zh,zh,zh]) S=some (e,T,S1)) (he:e=.normal∨e=.ret):jd zi O 7 [x0,x1,x2] S=some (T.getD 6 zh,S1) :=
 yK rfl rfl Try.func7 (by decide) zD.body (by exact h) he (yG (a:=T.getD 6 zh) ((show zQ zi T S1 Try.f7.results.toList=zQ zi T S1 [(ResultVar.tmp 6)] from by kernel_rfl).trans (by simp only [zQ])) (by kernel_rfl))
end Go.Proofs.Ytfjogganfjkckaa
namespace Go.Proofs.Ytfjogganfjkckaa
open Go.Abs
abbrev jP.id:FuncId:=21
noncomputable def jP.code:Code:=(.seq (.region 0 (reg Try.f21 0) false) (.seq (.region 1 (reg Try.f21 1) false) (.seq (.region 2 (reg Try.f21 2) false) Code.ret)))
theorem jP.body:Try.f21.body=some jP.code:=by kernel_rfl
variable (b c m n s l o p q r d f g i j:Value) (S:zx)
theorem jP.r0 :jF zi ⟨false,false,false⟩ (jd zi O) (reg Try.f21 0) (reg Try.f21 0).toList ([b,c,m,n,s,l,o,p,q,r,d,f,g,i,j]) S =
  (zN (JK (dem c) S) (fun y k=>some ([b,c,m,y,Value.slice none 0 0,l,o,p,q,r,d,f,g,i,j],k)) ()):=by
 kernel_rfl
theorem jP.r1 :jF zi ⟨false,false,false⟩ (jd zi O) (reg Try.f21 1) (reg Try.f21 1).toList ([b,c,m,n,s,l,o,p,q,r,d,f,g,i,j]) S =
  (zN (jl zi false 46 n S) (fun u k=>zN (yw zi 48 [(0,(.int .i64 1)),(1,(dem (dem b))),(7,(dem u))] k) (fun v z=>zN ((jd zi O) 19 [(dem v)] z) (fun t A=>zN (zZ t 0 A) (fun w B=>zN (zZ (zV 0 t) 1 B) (fun x C=>some ([b,c,m,n,s,w,x,zV 1 (zV 0 t),dem b,u,v,dem t,dem w,dem x,j],C)) ()) ()) ()) ()) ()):=by
 kernel_rfl
theorem jP.r2 :jF zi ⟨false,false,false⟩ (jd zi O) (reg Try.f21 2) (reg Try.f21 2).toList ([b,c,m,n,s,l,o,p,q,r,d,f,g,i,j]) S =
  ( some ([b,c,m,n,l,dem l,o,p,q,r,d,f,g,i,dem l],S)):=by
 kernel_rfl
theorem jP.rs:type_of% (alY @jP.r0 (alY @jP.r1 (@jP.r2))):=alY @jP.r0 (alY @jP.r1 (@jP.r2))
theorem jP.runs {b c:Value} {S k:zx} {e:AEx} {T:List Value} (h:zL zi O false jP.code ([b,c,zh,zh,zh,zh,zh,zh,zh,zh,zh,zh,zh,zh,zh]) S=some (e,T,k)) (he:e=.normal∨e=.ret):jd zi O 21 [b,c] S=some (T.getD 4 zh,k) :=
 yK rfl rfl Try.func21 (by decide) jP.body (by exact h) he (yG (a:=T.getD 4 zh) ((show zQ zi T k Try.f21.results.toList=zQ zi T k [(ResultVar.tmp 4)] from by kernel_rfl).trans (by simp only [zQ])) (by kernel_rfl))
end Go.Proofs.Ytfjogganfjkckaa
namespace Go.Proofs.Ytfjogganfjkckaa
open Go.Abs
abbrev jf.id:FuncId:=9
noncomputable def jf.code:Code:=(.seq (.region 0 (reg Try.f9 0) false) (.seq (.region 1 (reg Try.f9 1) false) (.seq (.seq (.region 2 (reg Try.f9 2) false) (.cond (.tmp 8) (.seq (.region 3 (reg Try.f9 3) false) Code.ret) Code.skip)) (.seq (.region 4 (reg Try.f9 4) false) (.seq (.region 5 (reg Try.f9 5) false) (.seq (.region 6 (reg Try.f9 6) false) (.seq (.region 7 (reg Try.f9 7) false) Code.ret)))))))
theorem jf.body:Try.f9.body=some jf.code:=by kernel_rfl
variable (x0 b x2 x3 x4 x5 x6 x7 x8 x9 c d f g i k l m n o p q r s t u w x y z A B C D E F G H I J K L M N P Q R U V W X Y Z a0 a1 a2 a3 a4:Value) (S:zx)
theorem jf.r0 :jF zi ⟨false,false,false⟩ (jd zi O) (reg Try.f9 0) (reg Try.f9 0).toList ([x0,b,x2,x3,x4,x5,x6,x7,x8,x9,c,d,f,g,i,k,l,m,n,o,p,q,r,s,t,u,w,x,y,z,A,B,C,D,E,F,G,H,I,J,K,L,M,N,P,Q,R,U,V,W,X,Y,Z,a0,a1,a2,a3,a4]) S =
  ( some ([Value.bool false,b,x2,x3,x4,x5,x6,x7,x8,x9,c,d,f,g,i,k,l,m,n,o,p,q,r,s,t,u,w,x,y,z,A,B,C,D,E,F,G,H,I,J,K,L,M,N,P,Q,R,U,V,W,X,Y,Z,a0,a1,a2,a3,a4],S)):=by
 kernel_rfl
theorem jf.r1 :jF zi ⟨false,false,false⟩ (jd zi O) (reg Try.f9 1) (reg Try.f9 1).toList ([x0,b,x2,x3,x4,x5,x6,x7,x8,x9,c,d,f,g,i,k,l,m,n,o,p,q,r,s,t,u,w,x,y,z,A,B,C,D,E,F,G,H,I,J,K,L,M,N,P,Q,R,U,V,W,X,Y,Z,a0,a1,a2,a3,a4]) S =
  (zN (jU zi 24 1 [(0,(.int .i64 2))] S) (fun v0 S1=>zN ((jd zi O) 8 [(dem v0)] S1) (fun v1 S2=>some ([x0,v1,x2,x3,x4,v0,dem v1,x7,x8,x9,c,d,f,g,i,k,l,m,n,o,p,q,r,s,t,u,w,x,y,z,A,B,C,D,E,F,G,H,I,J,K,L,M,N,P,Q,R,U,V,W,X,Y,Z,a0,a1,a2,a3,a4],S2)) ()) ()):=by
 kernel_rfl
theorem jf.r2 :jF zi ⟨false,false,false⟩ (jd zi O) (reg Try.f9 2) (reg Try.f9 2).toList ([x0,b,x2,x3,x4,x5,x6,x7,x8,x9,c,d,f,g,i,k,l,m,n,o,p,q,r,s,t,u,w,x,y,z,A,B,C,D,E,F,G,H,I,J,K,L,M,N,P,Q,R,U,V,W,X,Y,Z,a0,a1,a2,a3,a4]) S =
  (zN (wH zi BinOp.eql 22 (dem b) (Value.pointer none) S) (fun v1 S1=>some ([x0,b,x2,x3,x4,x5,x6,dem b,v1,x9,c,d,f,g,i,k,l,m,n,o,p,q,r,s,t,u,w,x,y,z,A,B,C,D,E,F,G,H,I,J,K,L,M,N,P,Q,R,U,V,W,X,Y,Z,a0,a1,a2,a3,a4],S1)) ()):=by
 kernel_rfl
theorem jf.r3 :jF zi ⟨false,false,false⟩ (jd zi O) (reg Try.f9 3) (reg Try.f9 3).toList ([x0,b,x2,x3,x4,x5,x6,x7,x8,x9,c,d,f,g,i,k,l,m,n,o,p,q,r,s,t,u,w,x,y,z,A,B,C,D,E,F,G,H,I,J,K,L,M,N,P,Q,R,U,V,W,X,Y,Z,a0,a1,a2,a3,a4]) S =
  ( some ([Value.bool false,b,x2,x3,x4,x5,x6,x7,x8,x9,c,d,f,g,i,k,l,m,n,o,p,q,r,s,t,u,w,x,y,z,A,B,C,D,E,F,G,H,I,J,K,L,M,N,P,Q,R,U,V,W,X,Y,Z,a0,a1,a2,a3,a4],S)):=by
 kernel_rfl
theorem jf.r4 :jF zi ⟨false,false,false⟩ (jd zi O) (reg Try.f9 4) (reg Try.f9 4).toList ([x0,b,x2,x3,x4,x5,x6,x7,x8,x9,c,d,f,g,i,k,l,m,n,o,p,q,r,s,t,u,w,x,y,z,A,B,C,D,E,F,G,H,I,J,K,L,M,N,P,Q,R,U,V,W,X,Y,Z,a0,a1,a2,a3,a4]) S =
  (zN (yw zi 46 [(0,(.int .i64 1)),(1,(.int .i64 1))] S) (fun v0 S1=>zN (yw zi 43 [(0,(.int .i64 1))] S1) (fun v1 S2=>zN (jU zi 44 1 [(0,v1)] S2) (fun v2 S3=>zN (yw zi 46 [(0,(.int .i64 1)),(1,(.int .i64 1)),(4,(dem v2))] S3) (fun v3 S4=>zN (yR zi 46 S4) (fun v4 S5=>zN (yR zi 46 S5) (fun v5 S6=>zN (wS zi 46 v4 (dem v0) S6) (fun v6 S7=>zN (wS zi 46 v5 (dem v3) S7) (fun v7 S8=>some ([x0,b,v4,v5,x4,x5,x6,x7,x8,v0,v1,v2,v3,g,i,k,l,m,n,o,p,q,r,s,t,u,w,x,y,z,A,B,C,D,E,F,G,H,I,J,K,L,M,N,P,Q,R,U,V,W,X,Y,Z,a0,a1,a2,a3,a4],S8)) ()) ()) ()) ()) ()) ()) ()) ()):=by
 kernel_rfl
theorem jf.r5 :jF zi ⟨false,false,false⟩ (jd zi O) (reg Try.f9 5) (reg Try.f9 5).toList ([x0,b,x2,x3,x4,x5,x6,x7,x8,x9,c,d,f,g,i,k,l,m,n,o,p,q,r,s,t,u,w,x,y,z,A,B,C,D,E,F,G,H,I,J,K,L,M,N,P,Q,R,U,V,W,X,Y,Z,a0,a1,a2,a3,a4]) S =
  (zN (jl zi false 46 x2 S) (fun v1 S1=>zN ((jd zi O) 21 [(.int .i64 2),(dem v1)] S1) (fun v2 S2=>zN ((jd zi O) 10 [(dem (dem b)),(dem v2)] S2) (fun v3 S3=>some ([x0,b,x2,x3,v3,x5,x6,x7,x8,x9,c,d,f,dem b,v1,v2,dem v3,m,n,o,p,q,r,s,t,u,w,x,y,z,A,B,C,D,E,F,G,H,I,J,K,L,M,N,P,Q,R,U,V,W,X,Y,Z,a0,a1,a2,a3,a4],S3)) ()) ()) ()):=by
 kernel_rfl
theorem jf.r6 :jF zi ⟨false,false,false⟩ (jd zi O) (reg Try.f9 6) (reg Try.f9 6).toList ([x0,b,x2,x3,x4,x5,x6,x7,x8,x9,c,d,f,g,i,k,l,m,n,o,p,q,r,s,t,u,w,x,y,z,A,B,C,D,E,F,G,H,I,J,K,L,M,N,P,Q,R,U,V,W,X,Y,Z,a0,a1,a2,a3,a4]) S =
  (zN (jl zi false 46 x2 S) (fun v1 S1=>zN ((jd zi O) 21 [(.int .i64 1),(dem v1)] S1) (fun v2 S2=>zN ((jd zi O) 12 [(dem (dem b)),(dem v2)] S2) (fun v3 S3=>some ([x0,b,x2,x3,x4,x5,x6,x7,x8,x9,c,d,f,g,i,k,l,dem b,v1,v2,v3,q,r,s,t,u,w,x,y,z,A,B,C,D,E,F,G,H,I,J,K,L,M,N,P,Q,R,U,V,W,X,Y,Z,a0,a1,a2,a3,a4],S3)) ()) ()) ()):=by
 kernel_rfl
theorem jf.r7 :jF zi ⟨false,false,false⟩ (jd zi O) (reg Try.f9 7) (reg Try.f9 7).toList ([x0,b,x2,x3,x4,x5,x6,x7,x8,x9,c,d,f,g,i,k,l,m,n,o,p,q,r,s,t,u,w,x,y,z,A,B,C,D,E,F,G,H,I,J,K,L,M,N,P,Q,R,U,V,W,X,Y,Z,a0,a1,a2,a3,a4]) S =
  (zN (aUn zi UnOp.not (dem x4) S) (fun v1 S1=>gdK (dem v1) true (ret b) S1 (fun v3 S2=>gdK (dem v1) true (jl zi false 46 x2) S2 (fun v4 S3=>gdK (dem v1) true ((jd zi O) 21 [(.int .i64 2),(dem v4)]) S3 (fun v5 S4=>gdK (dem v1) true ((jd zi O) 10 [(dem (dem v3)),(dem v5)]) S4 (fun v6 S5=>zN (wW (dem v1) v6 (Value.bool false) S5) (fun v7 S6=>gdK (dem v7) true (ret b) S6 (fun v9 S7=>gdK (dem v7) true (jl zi false 46 x3) S7 (fun b0 S8=>gdK (dem v7) true ((jd zi O) 21 [(.int .i64 2),(dem b0)]) S8 (fun b1 S9=>gdK (dem v7) true ((jd zi O) 10 [(dem (dem v9)),(dem b1)]) S9 (fun b2 c8=>gdK (dem v7) true (aUn zi UnOp.not b2) c8 (fun b3 c9=>zN (wW (dem v7) b3 (Value.bool false) c9) (fun a5 d0=>gdK (dem a5) true (ret b) d0 (fun b4 d1=>gdK (dem a5) true (jl zi false 46 x2) d1 (fun b5 d2=>gdK (dem a5) true ((jd zi O) 21 [(.int .i64 3),(dem b5)]) d2 (fun b6 d3=>gdK (dem a5) true ((jd zi O) 10 [(dem (dem b4)),(dem b6)]) d3 (fun b7 d4=>gdK (dem a5) true (aUn zi UnOp.not b7) d4 (fun b8 d5=>zN (wW (dem a5) b8 (Value.bool false) d5) (fun a6 d6=>gdK (dem a6) true (ret b) d6 (fun b9 d7=>gdK (dem a6) true (jl zi false 46 x2) d7 (fun c0 d8=>gdK (dem a6) true ((jd zi O) 21 [(.int .i64 1),(dem c0)]) d8 (fun c1 d9=>gdK (dem a6) true ((jd zi O) 10 [(dem (dem b9)),(dem c1)]) d9 (fun c2 f0=>zN (wW (dem a6) c2 (Value.bool false) f0) (fun a8 f1=>gdK (dem a8) true (ret b) f1 (fun c3 f2=>gdK (dem a8) true ((jd zi O) 11 [(dem (dem c3)),(.int .i64 2)]) f2 (fun c4 f3=>zN (wW (dem a8) c4 (Value.bool false) f3) (fun a7 f4=>gdK (dem a7) true (ret b) f4 (fun c5 f5=>gdK (dem a7) true ((jd zi O) 11 [(dem (dem c5)),(.int .i64 1)]) f5 (fun c6 f6=>gdK (dem a7) true (aUn zi UnOp.not c6) f6 (fun c7 f7=>zN (wW (dem a7) c7 (Value.bool false) f7) (fun a9 f8=>some ([a9,b,x2,x3,x4,x5,x6,x7,x8,x9,c,d,f,g,i,k,l,m,n,o,p,dem x4,v1,dem v1,dem v3,v4,v5,v6,v7,dem v7,dem v9,b0,b1,b2,b3,a5,dem a5,dem b4,b5,b6,b7,b8,a6,dem a6,dem b9,c0,c1,c2,a8,dem a8,dem c3,c4,a7,dem a7,dem c5,c6,c7,dem a9],f8)) ()) ()) ()) ()) ()) ()) ()) ()) ()) ()) ()) ()) ()) ()) ()) ()) ()) ()) ()) ()) ()) ()) ()) ()) ()) ()) ()) ()) ()) ()):=by
 refine sP Try.f9 7 0 (v:=x4) ?_
 refine sD Try.f9 7 1 (fun v1 S1=>?_)
 refine sP Try.f9 7 2 (v:=v1) ?_
 refine sG Try.f9 7 3 (j:=2) (fun v3 S2=>?_)
 refine sG Try.f9 7 4 (j:=2) (fun v4 S3=>?_)
 refine sG Try.f9 7 5 (j:=2) (fun v5 S4=>?_)
 refine sG Try.f9 7 6 (j:=2) (fun v6 S5=>?_)
 refine sD Try.f9 7 7 (fun v7 S6=>?_)
 refine sP Try.f9 7 8 (v:=v7) ?_
 refine sG Try.f9 7 9 (j:=8) (fun v9 S7=>?_)
 refine sG Try.f9 7 10 (j:=8) (fun b0 S8=>?_)
 refine sG Try.f9 7 11 (j:=8) (fun b1 S9=>?_)
 refine sG Try.f9 7 12 (j:=8) (fun b2 c8=>?_)
 refine sG Try.f9 7 13 (j:=8) (fun b3 c9=>?_)
 refine sD Try.f9 7 14 (fun a5 d0=>?_)
 refine sP Try.f9 7 15 (v:=a5) ?_
 refine sG Try.f9 7 16 (j:=15) (fun b4 d1=>?_)
 refine sG Try.f9 7 17 (j:=15) (fun b5 d2=>?_)
 refine sG Try.f9 7 18 (j:=15) (fun b6 d3=>?_)
 refine sG Try.f9 7 19 (j:=15) (fun b7 d4=>?_)
 refine sG Try.f9 7 20 (j:=15) (fun b8 d5=>?_)
 refine sD Try.f9 7 21 (fun a6 d6=>?_)
 refine sP Try.f9 7 22 (v:=a6) ?_
 refine sG Try.f9 7 23 (j:=22) (fun b9 d7=>?_)
 refine sG Try.f9 7 24 (j:=22) (fun c0 d8=>?_)
 refine sG Try.f9 7 25 (j:=22) (fun c1 d9=>?_)
 refine sG Try.f9 7 26 (j:=22) (fun c2 f0=>?_)
 refine sD Try.f9 7 27 (fun a8 f1=>?_)
 refine sP Try.f9 7 28 (v:=a8) ?_
 refine sG Try.f9 7 29 (j:=28) (fun c3 f2=>?_)
 refine sG Try.f9 7 30 (j:=28) (fun c4 f3=>?_)
 refine sD Try.f9 7 31 (fun a7 f4=>?_)
 refine sP Try.f9 7 32 (v:=a7) ?_
 refine sG Try.f9 7 33 (j:=32) (fun c5 f5=>?_)
 refine sG Try.f9 7 34 (j:=32) (fun c6 f6=>?_)
 refine sG Try.f9 7 35 (j:=32) (fun c7 f7=>?_)
 refine sD Try.f9 7 36 (fun a9 f8=>?_)
 refine sP Try.f9 7 37 (v:=a9) ?_
 kernel_rfl
theorem jf.rs:type_of% (alY @jf.r0 (alY @jf.r1 (alY @jf.r2 (alY @jf.r3 (alY @jf.r4 (alY @jf.r5 (alY @jf.r6 (@jf.r7)))))))):=alY @jf.r0 (alY @jf.r1 (alY @jf.r2 (alY @jf.r3 (alY @jf.r4 (alY @jf.r5 (alY @jf.r6 (@jf.r7)))))))
theorem jf.runs {S S1:zx} {e:AEx} {T:List Value} (h:zL zi O false jf.code ([zh,zh,zh,zh,zh,zh,zh,zh,zh,zh,zh,zh,zh,zh,zh,zh,zh,zh,zh,zh,zh,zh,zh,zh,zh,zh,zh,zh,zh,zh,zh,zh,zh,zh,zh,zh,zh,zh,zh,zh,zh,zh,zh,zh,zh,zh,zh,zh,zh,zh,zh,zh,zh,zh,zh,zh,zh,zh]) zx.empty=some (e,T,S1)) (he:e=.normal∨e=.ret) (hca:[].all (jL 16)=true) (hcv:jL 16 (T.getD 0 zh)=true):jd zi O 9 [] S=some (T.getD 0 zh,S) :=
 yD rfl rfl Try.func9 (by decide) jf.body (by exact h) he (yG (a:=T.getD 0 zh) ((show zQ zi T S1 Try.f9.results.toList=zQ zi T S1 [(ResultVar.tmp 0)] from by kernel_rfl).trans (by simp only [zQ])) (by kernel_rfl)) hca hcv
end Go.Proofs.Ytfjogganfjkckaa
namespace Go.Proofs.Ytfjogganfjkckaa
open Go.Abs
abbrev jq.id:FuncId:=12
noncomputable def jq.code:Code:=(.seq (.region 0 (reg Try.f12 0) true) (.seq (.region 1 (reg Try.f12 1) false) (.seq (.seq (.region 2 (reg Try.f12 2) false) (.cond (.tmp 26) Code.ret Code.skip)) (.seq (.region 3 (reg Try.f12 3) false) (.seq (.region 4 (reg Try.f12 4) false) (.seq (.region 5 (reg Try.f12 5) false) (.cond (.tmp 40) (.region 6 (reg Try.f12 6) true) Code.skip)))))))
theorem jq.body:Try.f12.body=some jq.code:=by kernel_rfl
variable (b c x2 x3 x4 x5 Y x7 x8 x9 d f g i k l m n o p q r s t u w x y z A B C D E F G H I J K L M N P Q R U V W:Value) (S:zx)
theorem jq.d0:kC zi (reg Try.f12 0)=true:=by kernel_rfl
theorem jq.ff0:fixed zi (reg Try.f12 0)=false:=by kernel_rfl
theorem jq.k0:checked zi (reg Try.f12 0)=[]:=by kernel_rfl
theorem jq.g0:again zi (reg Try.f12 0)=[]:=by kernel_rfl
theorem jq.r0 :zL zi O false (.region 0 (reg Try.f12 0) true) ([b,c,x2,x3,x4,x5,Y,x7,x8,x9,d,f,g,i,k,l,m,n,o,p,q,r,s,t,u,w,x,y,z,A,B,C,D,E,F,G,H,I,J,K,L,M,N,P,Q,R,U,V,W]) S =
  Z8 (zN (kX (dem b) S) (fun a Z=>zN (zG zi 62 a 1 Z) (fun v2 S2=>zN (jl zi false 59 v2 S2) (fun v3 S3=>zN (qL zi false false 33 9 (dem c) S3) (fun X S4=>zN (yZ zi 59 v3 X (Value.bool true) S4) (fun v6 S5=>some ([b,c,x2,x3,x4,x5,Y,x7,x8,dem b,a,v2,v3,dem c,X,l,m,n,o,p,q,r,s,t,u,w,x,y,z,A,B,C,D,E,F,G,H,I,J,K,L,M,N,P,Q,R,U,V,W],S5)) ()) ()) ()) ()) ()):=by
 rw [yM jq.d0 jq.ff0 jq.k0 jq.g0]
 refine congrArg Z8 ?_
 refine tP Try.f12 0 0 (v:=b) ?_
 refine tD Try.f12 0 1 (fun a Z=>?_)
 refine tD Try.f12 0 2 (fun v2 S2=>?_)
 refine tD Try.f12 0 3 (fun v3 S3=>?_)
 refine tP Try.f12 0 4 (v:=c) ?_
 refine tD Try.f12 0 5 (fun X S4=>?_)
 refine tD Try.f12 0 6 (fun v6 S5=>?_)
 kernel_rfl
theorem jq.r1 :jF zi ⟨false,false,false⟩ (jd zi O) (reg Try.f12 1) (reg Try.f12 1).toList ([b,c,x2,x3,x4,x5,Y,x7,x8,x9,d,f,g,i,k,l,m,n,o,p,q,r,s,t,u,w,x,y,z,A,B,C,D,E,F,G,H,I,J,K,L,M,N,P,Q,R,U,V,W]) S =
  (zN ((jd zi O) 22 [(dem (dem c))] S) (fun a Z=>zN (zZ a 0 Z) (fun v3 S2=>zN (zZ (zV 0 a) 1 S2) (fun v4 S3=>zN (yR zi 48 S3) (fun X S4=>zN (wS zi 48 X (dem v3) S4) (fun v6 S5=>some ([b,c,x2,x3,X,v4,Y,x7,x8,x9,d,f,g,i,k,zV 1 (zV 0 a),dem c,dem a,v3,dem v4,q,r,s,t,u,w,x,y,z,A,B,C,D,E,F,G,H,I,J,K,L,M,N,P,Q,R,U,V,W],S5)) ()) ()) ()) ()) ()):=by
 kernel_rfl
theorem jq.r2 :jF zi ⟨false,false,false⟩ (jd zi O) (reg Try.f12 2) (reg Try.f12 2).toList ([b,c,x2,x3,x4,x5,Y,x7,x8,x9,d,f,g,i,k,l,m,n,o,p,q,r,s,t,u,w,x,y,z,A,B,C,D,E,F,G,H,I,J,K,L,M,N,P,Q,R,U,V,W]) S =
  (zN (wH zi BinOp.neq 64 (dem x5) (.int .i64 0) S) (fun a Z=>gdK (dem a) false (zG zi 48 x4 0) Z (fun v3 S2=>gdK (dem a) false (jl zi false 3 v3) S2 (fun v4 S3=>gdK (dem a) false (wH zi BinOp.neq 3 v4 (.int .i64 1)) S3 (fun X S4=>zN (wW (dem a) (Value.bool true) X S4) (fun v6 S5=>some ([b,c,x2,x3,x4,x5,Y,x7,x8,x9,d,f,g,i,k,l,m,n,o,p,dem x5,a,dem a,v3,v4,X,v6,y,z,A,B,C,D,E,F,G,H,I,J,K,L,M,N,P,Q,R,U,V,W],S5)) ()) ()) ()) ()) ()):=by
 refine sP Try.f12 2 0 (v:=x5) ?_
 refine sD Try.f12 2 1 (fun a Z=>?_)
 refine sP Try.f12 2 2 (v:=a) ?_
 refine sG Try.f12 2 3 (j:=2) (fun v3 S2=>?_)
 refine sG Try.f12 2 4 (j:=2) (fun v4 S3=>?_)
 refine sG Try.f12 2 5 (j:=2) (fun X S4=>?_)
 refine sD Try.f12 2 6 (fun v6 S5=>?_)
 kernel_rfl
theorem jq.r3 :jF zi ⟨false,false,false⟩ (jd zi O) (reg Try.f12 3) (reg Try.f12 3).toList ([b,c,x2,x3,x4,x5,Y,x7,x8,x9,d,f,g,i,k,l,m,n,o,p,q,r,s,t,u,w,x,y,z,A,B,C,D,E,F,G,H,I,J,K,L,M,N,P,Q,R,U,V,W]) S =
  (zN (zG zi 48 x4 7 S) (fun v0 Z=>zN (jl zi false 46 v0 Z) (fun a S2=>zN ((jd zi O) 23 [(dem a)] S2) (fun v2 S3=>some ([b,c,x2,x3,x4,x5,v2,x7,x8,x9,d,f,g,i,k,l,m,n,o,p,q,r,s,t,u,w,x,v0,a,dem v2,B,C,D,E,F,G,H,I,J,K,L,M,N,P,Q,R,U,V,W],S3)) ()) ()) ()):=by
 kernel_rfl
theorem jq.r4 :jF zi ⟨false,false,false⟩ (jd zi O) (reg Try.f12 4) (reg Try.f12 4).toList ([b,c,x2,x3,x4,x5,Y,x7,x8,x9,d,f,g,i,k,l,m,n,o,p,q,r,s,t,u,w,x,y,z,A,B,C,D,E,F,G,H,I,J,K,L,M,N,P,Q,R,U,V,W]) S =
  (zN (kX (dem b) S) (fun a Z=>zN (zG zi 62 a 2 Z) (fun v2 S2=>zN (jl zi false 60 v2 S2) (fun v3 S3=>zN (vY zi false 60 v3 (dem Y) true S3) (fun X S4=>zN (zZ X 0 S4) (fun v7 S5=>zN (zZ (zV 0 X) 1 S5) (fun v8 S6=>some ([b,c,x2,x3,x4,x5,Y,v7,v8,x9,d,f,g,i,k,l,m,n,o,p,q,r,s,t,u,w,x,y,z,A,zV 1 (zV 0 X),dem b,a,v2,v3,dem Y,dem X,dem v7,dem v8,K,L,M,N,P,Q,R,U,V,W],S6)) ()) ()) ()) ()) ()) ()):=by
 kernel_rfl
theorem jq.r5 :jF zi ⟨false,false,false⟩ (jd zi O) (reg Try.f12 5) (reg Try.f12 5).toList ([b,c,x2,x3,x4,x5,Y,x7,x8,x9,d,f,g,i,k,l,m,n,o,p,q,r,s,t,u,w,x,y,z,A,B,C,D,E,F,G,H,I,J,K,L,M,N,P,Q,R,U,V,W]) S =
  (zN (aUn zi UnOp.not (dem x8) S) (fun a Z=>some ([b,c,x2,x3,x4,x5,Y,x7,x8,x9,d,f,g,i,k,l,m,n,o,p,q,r,s,t,u,w,x,y,z,A,B,C,D,E,F,G,H,I,J,dem x8,a,M,N,P,Q,R,U,V,W],Z)) ()):=by
 kernel_rfl
theorem jq.d6:kC zi (reg Try.f12 6)=true:=by kernel_rfl
theorem jq.ff6:fixed zi (reg Try.f12 6)=false:=by kernel_rfl
theorem jq.k6:checked zi (reg Try.f12 6)=[0,1,2,3,4]:=by kernel_rfl
theorem jq.g6:again zi (reg Try.f12 6)=[(3,7)]:=by kernel_rfl
theorem jq.r6 :zL zi O false (.region 6 (reg Try.f12 6) true) ([b,c,x2,x3,x4,x5,Y,x7,x8,x9,d,f,g,i,k,l,m,n,o,p,q,r,s,t,u,w,x,y,z,A,B,C,D,E,F,G,H,I,J,K,L,M,N,P,Q,R,U,V,W]) S =
  Z8 (okK b ( zN (kX (dem b) S) (fun a Z=>okK a ( zN (zG zi 62 a 2 Z) (fun v2 S2=>okK v2 ( zN (jl zi false 60 v2 S2) (fun v3 S3=>okK v3 ( okK Y ( zN (zG zi 48 x4 7 S3) (fun X S4=>zN (jl zi false 46 X S4) (fun v6 S5=>zN ((jd zi O) 24 [(dem v6)] S5) (fun v7 S6=>zN (yZ zi 60 v3 (dem Y) (dem v7) S6) (fun v8 S7=>ckK (qV v2 S2 S6 && (true)) (some ([b,c,x2,x3,x4,x5,Y,x7,x8,x9,d,f,g,i,k,l,m,n,o,p,q,r,s,t,u,w,x,y,z,A,B,C,D,E,F,G,H,I,J,K,L,dem b,a,v2,v3,dem Y,X,v6,v7],S7)) ()) ()) ()) ()) ()) ()) ()) ()) ()) ()) ()) ()) ()):=by
 rw [yM jq.d6 jq.ff6 jq.k6 jq.g6]
 refine congrArg Z8 ?_
 refine uPC Try.f12 6 0 (v:=b) (pe:=zh) ?_
 refine uDC Try.f12 6 1 (pe:=zh) (fun a Z=>?_)
 refine uDC Try.f12 6 2 (pe:=zh) (fun v2 S2=>?_)
 refine uDC Try.f12 6 3 (pe:=v2) (fun v3 S3=>?_)
 refine uPC Try.f12 6 4 (v:=Y) (pe:=zh) ?_
 refine uD Try.f12 6 5 (pe:=zh) (fun X S4=>?_)
 refine uD Try.f12 6 6 (pe:=X) (fun v6 S5=>?_)
 refine uD Try.f12 6 7 (pe:=zh) (fun v7 S6=>?_)
 refine uD Try.f12 6 8 (pe:=zh) (fun v8 S7=>?_)
 kernel_rfl
theorem jq.rs:type_of% (alY @jq.r0 (alY @jq.r1 (alY @jq.r2 (alY @jq.r3 (alY @jq.r4 (alY @jq.r5 (@jq.r6))))))):=alY @jq.r0 (alY @jq.r1 (alY @jq.r2 (alY @jq.r3 (alY @jq.r4 (alY @jq.r5 (@jq.r6))))))
theorem jq.runs {b c:Value} {S Z:zx} {e:AEx} {T:List Value} (h:zL zi O false jq.code ([b,c,zh,zh,zh,zh,zh,zh,zh,zh,zh,zh,zh,zh,zh,zh,zh,zh,zh,zh,zh,zh,zh,zh,zh,zh,zh,zh,zh,zh,zh,zh,zh,zh,zh,zh,zh,zh,zh,zh,zh,zh,zh,zh,zh,zh,zh,zh,zh]) S=some (e,T,Z)) (he:e=.normal∨e=.ret):jd zi O 12 [b,c] S=some (Value.tuple #[],Z) :=
 yK rfl rfl Try.func12 (by decide) jq.body (by exact h) he rfl
end Go.Proofs.Ytfjogganfjkckaa
namespace Go.Proofs.Ytfjogganfjkckaa
open Go.Abs
abbrev zM.id:FuncId:=10
noncomputable def zM.code:Code:=(.seq (.region 0 (reg Try.f10 0) false) (.seq (.region 1 (reg Try.f10 1) false) (.seq (.block 0 (.seq (.region 2 (reg Try.f10 2) false) (.cond (.tmp 15) (.seq (.region 3 (reg Try.f10 3) false) Code.ret) (.seq (.region 4 (reg Try.f10 4) true) (.cond (.tmp 18) (.seq (.region 5 (reg Try.f10 5) false) Code.ret) (.seq (.region 6 (reg Try.f10 6) false) (.cond (.tmp 26) (.seq (.region 7 (reg Try.f10 7) false) Code.ret) (.seq (.region 8 (reg Try.f10 8) false) (.cond (.tmp 32) (.seq (.region 9 (reg Try.f10 9) false) Code.ret) Code.skip))))))))) (.seq (.region 10 (reg Try.f10 10) false) (.seq (.region 11 (reg Try.f10 11) false) (.seq (.seq (.region 12 (reg Try.f10 12) false) (.cond (.tmp 48) (.seq (.region 13 (reg Try.f10 13) false) Code.ret) Code.skip)) (.seq (.seq (.region 14 (reg Try.f10 14) false) (.cond (.tmp 59) (.seq (.region 15 (reg Try.f10 15) false) Code.ret) Code.skip)) (.seq (.region 16 (reg Try.f10 16) true) (.seq (.region 17 (reg Try.f10 17) false) Code.ret)))))))))
theorem zM.body:Try.f10.body=some zM.code:=by kernel_rfl
variable (x0 x1 x2 x3 x4 x5 x6 x7 x8 x9 b c d f g i j k l m n o p q r s t u w x y z A B C D E F G H I J K L M N P Q R U V W X Y Z a0 a1 a2 a3 a4 a5 a6 a7 a8 a9 b0 b1 b2:Value) (S:zx)
theorem zM.r0 :jF zi ⟨false,false,false⟩ (jd zi O) (reg Try.f10 0) (reg Try.f10 0).toList ([x0,x1,x2,x3,x4,x5,x6,x7,x8,x9,b,c,d,f,g,i,j,k,l,m,n,o,p,q,r,s,t,u,w,x,y,z,A,B,C,D,E,F,G,H,I,J,K,L,M,N,P,Q,R,U,V,W,X,Y,Z,a0,a1,a2,a3,a4,a5,a6,a7,a8,a9,b0,b1,b2]) S =
  ( some ([x0,x1,x2,x3,Value.bool false,x5,x6,x7,x8,x9,b,c,d,f,g,i,j,k,l,m,n,o,p,q,r,s,t,u,w,x,y,z,A,B,C,D,E,F,G,H,I,J,K,L,M,N,P,Q,R,U,V,W,X,Y,Z,a0,a1,a2,a3,a4,a5,a6,a7,a8,a9,b0,b1,b2],S)):=by
 kernel_rfl
theorem zM.r1 :jF zi ⟨false,false,false⟩ (jd zi O) (reg Try.f10 1) (reg Try.f10 1).toList ([x0,x1,x2,x3,x4,x5,x6,x7,x8,x9,b,c,d,f,g,i,j,k,l,m,n,o,p,q,r,s,t,u,w,x,y,z,A,B,C,D,E,F,G,H,I,J,K,L,M,N,P,Q,R,U,V,W,X,Y,Z,a0,a1,a2,a3,a4,a5,a6,a7,a8,a9,b0,b1,b2]) S =
  (zN ((jd zi O) 22 [(dem (dem x1))] S) (fun v1 S1=>zN (zZ v1 0 S1) (fun v3 S2=>zN (zZ (zV 0 v1) 1 S2) (fun v4 S3=>zN (yR zi 48 S3) (fun v5 S4=>zN (wS zi 48 v5 (dem v3) S4) (fun v6 S5=>some ([x0,x1,x2,x3,x4,v5,v4,x7,x8,x9,zV 1 (zV 0 v1),dem x1,dem v1,v3,dem v4,i,j,k,l,m,n,o,p,q,r,s,t,u,w,x,y,z,A,B,C,D,E,F,G,H,I,J,K,L,M,N,P,Q,R,U,V,W,X,Y,Z,a0,a1,a2,a3,a4,a5,a6,a7,a8,a9,b0,b1,b2],S5)) ()) ()) ()) ()) ()):=by
 kernel_rfl
theorem zM.r2 :jF zi ⟨false,false,false⟩ (jd zi O) (reg Try.f10 2) (reg Try.f10 2).toList ([x0,x1,x2,x3,x4,x5,x6,x7,x8,x9,b,c,d,f,g,i,j,k,l,m,n,o,p,q,r,s,t,u,w,x,y,z,A,B,C,D,E,F,G,H,I,J,K,L,M,N,P,Q,R,U,V,W,X,Y,Z,a0,a1,a2,a3,a4,a5,a6,a7,a8,a9,b0,b1,b2]) S =
  (zN (wH zi BinOp.neq 64 (dem x6) (.int .i64 0) S) (fun v1 S1=>some ([x0,x1,x2,x3,x4,x5,x6,x7,x8,x9,b,c,d,f,g,v1,dem x6,dem v1,l,m,n,o,p,q,r,s,t,u,w,x,y,z,A,B,C,D,E,F,G,H,I,J,K,L,M,N,P,Q,R,U,V,W,X,Y,Z,a0,a1,a2,a3,a4,a5,a6,a7,a8,a9,b0,b1,b2],S1)) ()):=by
 kernel_rfl
theorem zM.r3 :jF zi ⟨false,false,false⟩ (jd zi O) (reg Try.f10 3) (reg Try.f10 3).toList ([x0,x1,x2,x3,x4,x5,x6,x7,x8,x9,b,c,d,f,g,i,j,k,l,m,n,o,p,q,r,s,t,u,w,x,y,z,A,B,C,D,E,F,G,H,I,J,K,L,M,N,P,Q,R,U,V,W,X,Y,Z,a0,a1,a2,a3,a4,a5,a6,a7,a8,a9,b0,b1,b2]) S =
  ( some ([x0,x1,x2,x3,Value.bool false,x5,x6,x7,x8,x9,b,c,d,f,g,i,j,k,l,m,n,o,p,q,r,s,t,u,w,x,y,z,A,B,C,D,E,F,G,H,I,J,K,L,M,N,P,Q,R,U,V,W,X,Y,Z,a0,a1,a2,a3,a4,a5,a6,a7,a8,a9,b0,b1,b2],S)):=by
 kernel_rfl
theorem zM.d4:kC zi (reg Try.f10 4)=true:=by kernel_rfl
theorem zM.ff4:fixed zi (reg Try.f10 4)=false:=by kernel_rfl
theorem zM.k4:checked zi (reg Try.f10 4)=[]:=by kernel_rfl
theorem zM.g4:again zi (reg Try.f10 4)=[]:=by kernel_rfl
theorem zM.r4 :zL zi O false (.region 4 (reg Try.f10 4) true) ([x0,x1,x2,x3,x4,x5,x6,x7,x8,x9,b,c,d,f,g,i,j,k,l,m,n,o,p,q,r,s,t,u,w,x,y,z,A,B,C,D,E,F,G,H,I,J,K,L,M,N,P,Q,R,U,V,W,X,Y,Z,a0,a1,a2,a3,a4,a5,a6,a7,a8,a9,b0,b1,b2]) S =
  Z8 (zN (kX (dem x0) S) (fun v1 S1=>zN (zG zi 62 v1 1 S1) (fun v2 S2=>zN (jl zi false 59 v2 S2) (fun v3 S3=>zN (qL zi false false 33 9 (dem x1) S3) (fun v5 S4=>zN (vY zi false 59 v3 v5 false S4) (fun v6 S5=>some ([x0,x1,x2,x3,x4,x5,x6,x7,x8,x9,b,c,d,f,g,i,j,k,v6,dem x0,v1,v2,v3,dem x1,v5,dem v6,t,u,w,x,y,z,A,B,C,D,E,F,G,H,I,J,K,L,M,N,P,Q,R,U,V,W,X,Y,Z,a0,a1,a2,a3,a4,a5,a6,a7,a8,a9,b0,b1,b2],S5)) ()) ()) ()) ()) ()):=by
 rw [yM zM.d4 zM.ff4 zM.k4 zM.g4]
 refine congrArg Z8 ?_
 refine tP Try.f10 4 0 (v:=x0) ?_
 refine tD Try.f10 4 1 (fun v1 S1=>?_)
 refine tD Try.f10 4 2 (fun v2 S2=>?_)
 refine tD Try.f10 4 3 (fun v3 S3=>?_)
 refine tP Try.f10 4 4 (v:=x1) ?_
 refine tD Try.f10 4 5 (fun v5 S4=>?_)
 refine tD Try.f10 4 6 (fun v6 S5=>?_)
 refine tP Try.f10 4 7 (v:=v6) ?_
 kernel_rfl
theorem zM.r5 :jF zi ⟨false,false,false⟩ (jd zi O) (reg Try.f10 5) (reg Try.f10 5).toList ([x0,x1,x2,x3,x4,x5,x6,x7,x8,x9,b,c,d,f,g,i,j,k,l,m,n,o,p,q,r,s,t,u,w,x,y,z,A,B,C,D,E,F,G,H,I,J,K,L,M,N,P,Q,R,U,V,W,X,Y,Z,a0,a1,a2,a3,a4,a5,a6,a7,a8,a9,b0,b1,b2]) S =
  ( some ([x0,x1,x2,x3,Value.bool true,x5,x6,x7,x8,x9,b,c,d,f,g,i,j,k,l,m,n,o,p,q,r,s,t,u,w,x,y,z,A,B,C,D,E,F,G,H,I,J,K,L,M,N,P,Q,R,U,V,W,X,Y,Z,a0,a1,a2,a3,a4,a5,a6,a7,a8,a9,b0,b1,b2],S)):=by
 kernel_rfl
theorem zM.r6 :jF zi ⟨false,false,false⟩ (jd zi O) (reg Try.f10 6) (reg Try.f10 6).toList ([x0,x1,x2,x3,x4,x5,x6,x7,x8,x9,b,c,d,f,g,i,j,k,l,m,n,o,p,q,r,s,t,u,w,x,y,z,A,B,C,D,E,F,G,H,I,J,K,L,M,N,P,Q,R,U,V,W,X,Y,Z,a0,a1,a2,a3,a4,a5,a6,a7,a8,a9,b0,b1,b2]) S =
  (zN (zG zi 48 x5 1 S) (fun v1 S1=>zN (jl zi false 3 v1 S1) (fun v2 S2=>zN ((jd zi O) 11 [(dem (dem x0)),(dem v2)] S2) (fun v3 S3=>zN (aUn zi UnOp.not v3 S3) (fun v4 S4=>some ([x0,x1,x2,x3,x4,x5,x6,x7,x8,x9,b,c,d,f,g,i,j,k,l,m,n,o,p,q,r,s,v4,dem x0,v1,v2,v3,dem v4,A,B,C,D,E,F,G,H,I,J,K,L,M,N,P,Q,R,U,V,W,X,Y,Z,a0,a1,a2,a3,a4,a5,a6,a7,a8,a9,b0,b1,b2],S4)) ()) ()) ()) ()):=by
 kernel_rfl
theorem zM.r7 :jF zi ⟨false,false,false⟩ (jd zi O) (reg Try.f10 7) (reg Try.f10 7).toList ([x0,x1,x2,x3,x4,x5,x6,x7,x8,x9,b,c,d,f,g,i,j,k,l,m,n,o,p,q,r,s,t,u,w,x,y,z,A,B,C,D,E,F,G,H,I,J,K,L,M,N,P,Q,R,U,V,W,X,Y,Z,a0,a1,a2,a3,a4,a5,a6,a7,a8,a9,b0,b1,b2]) S =
  ( some ([x0,x1,x2,x3,Value.bool false,x5,x6,x7,x8,x9,b,c,d,f,g,i,j,k,l,m,n,o,p,q,r,s,t,u,w,x,y,z,A,B,C,D,E,F,G,H,I,J,K,L,M,N,P,Q,R,U,V,W,X,Y,Z,a0,a1,a2,a3,a4,a5,a6,a7,a8,a9,b0,b1,b2],S)):=by
 kernel_rfl
theorem zM.r8 :jF zi ⟨false,false,false⟩ (jd zi O) (reg Try.f10 8) (reg Try.f10 8).toList ([x0,x1,x2,x3,x4,x5,x6,x7,x8,x9,b,c,d,f,g,i,j,k,l,m,n,o,p,q,r,s,t,u,w,x,y,z,A,B,C,D,E,F,G,H,I,J,K,L,M,N,P,Q,R,U,V,W,X,Y,Z,a0,a1,a2,a3,a4,a5,a6,a7,a8,a9,b0,b1,b2]) S =
  (zN (zG zi 48 x5 0 S) (fun v0 S1=>zN (jl zi false 3 v0 S1) (fun v1 S2=>zN (wH zi BinOp.neq 3 v1 (.int .i64 1) S2) (fun v2 S3=>some ([x0,x1,x2,x3,x4,x5,x6,x7,x8,x9,b,c,d,f,g,i,j,k,l,m,n,o,p,q,r,s,t,u,w,x,y,z,v2,v0,v1,dem v2,E,F,G,H,I,J,K,L,M,N,P,Q,R,U,V,W,X,Y,Z,a0,a1,a2,a3,a4,a5,a6,a7,a8,a9,b0,b1,b2],S3)) ()) ()) ()):=by
 kernel_rfl
theorem zM.r9 :jF zi ⟨false,false,false⟩ (jd zi O) (reg Try.f10 9) (reg Try.f10 9).toList ([x0,x1,x2,x3,x4,x5,x6,x7,x8,x9,b,c,d,f,g,i,j,k,l,m,n,o,p,q,r,s,t,u,w,x,y,z,A,B,C,D,E,F,G,H,I,J,K,L,M,N,P,Q,R,U,V,W,X,Y,Z,a0,a1,a2,a3,a4,a5,a6,a7,a8,a9,b0,b1,b2]) S =
  ( some ([x0,x1,x2,x3,Value.bool true,x5,x6,x7,x8,x9,b,c,d,f,g,i,j,k,l,m,n,o,p,q,r,s,t,u,w,x,y,z,A,B,C,D,E,F,G,H,I,J,K,L,M,N,P,Q,R,U,V,W,X,Y,Z,a0,a1,a2,a3,a4,a5,a6,a7,a8,a9,b0,b1,b2],S)):=by
 kernel_rfl
theorem zM.r10 :jF zi ⟨false,false,false⟩ (jd zi O) (reg Try.f10 10) (reg Try.f10 10).toList ([x0,x1,x2,x3,x4,x5,x6,x7,x8,x9,b,c,d,f,g,i,j,k,l,m,n,o,p,q,r,s,t,u,w,x,y,z,A,B,C,D,E,F,G,H,I,J,K,L,M,N,P,Q,R,U,V,W,X,Y,Z,a0,a1,a2,a3,a4,a5,a6,a7,a8,a9,b0,b1,b2]) S =
  (zN (zG zi 48 x5 7 S) (fun v0 S1=>zN (jl zi false 46 v0 S1) (fun v1 S2=>zN ((jd zi O) 23 [(dem v1)] S2) (fun v2 S3=>some ([x0,x1,x2,x3,x4,x5,x6,v2,x8,x9,b,c,d,f,g,i,j,k,l,m,n,o,p,q,r,s,t,u,w,x,y,z,A,B,C,D,v0,v1,dem v2,H,I,J,K,L,M,N,P,Q,R,U,V,W,X,Y,Z,a0,a1,a2,a3,a4,a5,a6,a7,a8,a9,b0,b1,b2],S3)) ()) ()) ()):=by
 kernel_rfl
theorem zM.r11 :jF zi ⟨false,false,false⟩ (jd zi O) (reg Try.f10 11) (reg Try.f10 11).toList ([x0,x1,x2,x3,x4,x5,x6,x7,x8,x9,b,c,d,f,g,i,j,k,l,m,n,o,p,q,r,s,t,u,w,x,y,z,A,B,C,D,E,F,G,H,I,J,K,L,M,N,P,Q,R,U,V,W,X,Y,Z,a0,a1,a2,a3,a4,a5,a6,a7,a8,a9,b0,b1,b2]) S =
  (zN (kX (dem x0) S) (fun v1 S1=>zN (zG zi 62 v1 2 S1) (fun v2 S2=>zN (jl zi false 60 v2 S2) (fun v3 S3=>zN (vY zi false 60 v3 (dem x7) true S3) (fun v5 S4=>zN (zZ v5 0 S4) (fun v7 S5=>zN (zZ (zV 0 v5) 1 S5) (fun v8 S6=>some ([x0,x1,x2,x3,x4,x5,x6,x7,v7,v8,b,c,d,f,g,i,j,k,l,m,n,o,p,q,r,s,t,u,w,x,y,z,A,B,C,D,E,F,G,zV 1 (zV 0 v5),dem x0,v1,v2,v3,dem x7,dem v5,dem v7,dem v8,R,U,V,W,X,Y,Z,a0,a1,a2,a3,a4,a5,a6,a7,a8,a9,b0,b1,b2],S6)) ()) ()) ()) ()) ()) ()):=by
 kernel_rfl
theorem zM.r12 :jF zi ⟨false,false,false⟩ (jd zi O) (reg Try.f10 12) (reg Try.f10 12).toList ([x0,x1,x2,x3,x4,x5,x6,x7,x8,x9,b,c,d,f,g,i,j,k,l,m,n,o,p,q,r,s,t,u,w,x,y,z,A,B,C,D,E,F,G,H,I,J,K,L,M,N,P,Q,R,U,V,W,X,Y,Z,a0,a1,a2,a3,a4,a5,a6,a7,a8,a9,b0,b1,b2]) S =
  ( some ([x0,x1,x2,x3,x4,x5,x6,x7,x8,x9,b,c,d,f,g,i,j,k,l,m,n,o,p,q,r,s,t,u,w,x,y,z,A,B,C,D,E,F,G,H,I,J,K,L,M,N,P,Q,dem x9,U,V,W,X,Y,Z,a0,a1,a2,a3,a4,a5,a6,a7,a8,a9,b0,b1,b2],S)):=by
 kernel_rfl
theorem zM.r13 :jF zi ⟨false,false,false⟩ (jd zi O) (reg Try.f10 13) (reg Try.f10 13).toList ([x0,x1,x2,x3,x4,x5,x6,x7,x8,x9,b,c,d,f,g,i,j,k,l,m,n,o,p,q,r,s,t,u,w,x,y,z,A,B,C,D,E,F,G,H,I,J,K,L,M,N,P,Q,R,U,V,W,X,Y,Z,a0,a1,a2,a3,a4,a5,a6,a7,a8,a9,b0,b1,b2]) S =
  (zN (zG zi 48 x5 7 S) (fun v1 S1=>zN (jl zi false 46 v1 S1) (fun v2 S2=>zN ((jd zi O) 24 [(dem v2)] S2) (fun v3 S3=>zN (wH zi BinOp.eql 9 (dem x8) v3 S3) (fun v4 S4=>some ([x0,x1,x2,x3,v4,x5,x6,x7,x8,x9,b,c,d,f,g,i,j,k,l,m,n,o,p,q,r,s,t,u,w,x,y,z,A,B,C,D,E,F,G,H,I,J,K,L,M,N,P,Q,R,dem x8,v1,v2,v3,dem v4,Z,a0,a1,a2,a3,a4,a5,a6,a7,a8,a9,b0,b1,b2],S4)) ()) ()) ()) ()):=by
 kernel_rfl
theorem zM.r14 :jF zi ⟨false,false,false⟩ (jd zi O) (reg Try.f10 14) (reg Try.f10 14).toList ([x0,x1,x2,x3,x4,x5,x6,x7,x8,x9,b,c,d,f,g,i,j,k,l,m,n,o,p,q,r,s,t,u,w,x,y,z,A,B,C,D,E,F,G,H,I,J,K,L,M,N,P,Q,R,U,V,W,X,Y,Z,a0,a1,a2,a3,a4,a5,a6,a7,a8,a9,b0,b1,b2]) S =
  (zN (zG zi 48 x5 7 S) (fun v1 S1=>zN (zG zi 46 v1 1 S1) (fun v2 S2=>zN (jl zi false 3 v2 S2) (fun v3 S3=>zN ((jd zi O) 11 [(dem (dem x0)),(dem v3)] S3) (fun v4 S4=>zN (aUn zi UnOp.not v4 S4) (fun v5 S5=>some ([x0,x1,x2,x3,x4,x5,x6,x7,x8,x9,b,c,d,f,g,i,j,k,l,m,n,o,p,q,r,s,t,u,w,x,y,z,A,B,C,D,E,F,G,H,I,J,K,L,M,N,P,Q,R,U,V,W,X,Y,dem x0,v1,v2,v3,v4,v5,a5,a6,a7,a8,a9,b0,b1,b2],S5)) ()) ()) ()) ()) ()):=by
 kernel_rfl
theorem zM.r15 :jF zi ⟨false,false,false⟩ (jd zi O) (reg Try.f10 15) (reg Try.f10 15).toList ([x0,x1,x2,x3,x4,x5,x6,x7,x8,x9,b,c,d,f,g,i,j,k,l,m,n,o,p,q,r,s,t,u,w,x,y,z,A,B,C,D,E,F,G,H,I,J,K,L,M,N,P,Q,R,U,V,W,X,Y,Z,a0,a1,a2,a3,a4,a5,a6,a7,a8,a9,b0,b1,b2]) S =
  ( some ([x0,x1,x2,x3,Value.bool false,x5,x6,x7,x8,x9,b,c,d,f,g,i,j,k,l,m,n,o,p,q,r,s,t,u,w,x,y,z,A,B,C,D,E,F,G,H,I,J,K,L,M,N,P,Q,R,U,V,W,X,Y,Z,a0,a1,a2,a3,a4,a5,a6,a7,a8,a9,b0,b1,b2],S)):=by
 kernel_rfl
theorem zM.d16:kC zi (reg Try.f10 16)=true:=by kernel_rfl
theorem zM.alX:fixed zi (reg Try.f10 16)=false:=by kernel_rfl
theorem zM.k16:checked zi (reg Try.f10 16)=[0,1,2,3,4]:=by kernel_rfl
theorem zM.g16:again zi (reg Try.f10 16)=[(3,7)]:=by kernel_rfl
theorem zM.r16 :zL zi O false (.region 16 (reg Try.f10 16) true) ([x0,x1,x2,x3,x4,x5,x6,x7,x8,x9,b,c,d,f,g,i,j,k,l,m,n,o,p,q,r,s,t,u,w,x,y,z,A,B,C,D,E,F,G,H,I,J,K,L,M,N,P,Q,R,U,V,W,X,Y,Z,a0,a1,a2,a3,a4,a5,a6,a7,a8,a9,b0,b1,b2]) S =
  Z8 (okK x0 ( zN (kX (dem x0) S) (fun v1 S1=>okK v1 ( zN (zG zi 62 v1 2 S1) (fun v2 S2=>okK v2 ( zN (jl zi false 60 v2 S2) (fun v3 S3=>okK v3 ( okK x7 ( zN (zG zi 48 x5 7 S3) (fun v5 S4=>zN (jl zi false 46 v5 S4) (fun v6 S5=>zN ((jd zi O) 24 [(dem v6)] S5) (fun v7 S6=>zN (yZ zi 60 v3 (dem x7) (dem v7) S6) (fun v8 S7=>ckK (qV v2 S2 S6 && (true)) (some ([x0,x1,x2,x3,x4,x5,x6,x7,x8,x9,b,c,d,f,g,i,j,k,l,m,n,o,p,q,r,s,t,u,w,x,y,z,A,B,C,D,E,F,G,H,I,J,K,L,M,N,P,Q,R,U,V,W,X,Y,Z,a0,a1,a2,a3,a4,dem x0,v1,v2,v3,dem x7,v5,v6,v7],S7)) ()) ()) ()) ()) ()) ()) ()) ()) ()) ()) ()) ()) ()):=by
 rw [yM zM.d16 zM.alX zM.k16 zM.g16]
 refine congrArg Z8 ?_
 refine uPC Try.f10 16 0 (v:=x0) (pe:=zh) ?_
 refine uDC Try.f10 16 1 (pe:=zh) (fun v1 S1=>?_)
 refine uDC Try.f10 16 2 (pe:=zh) (fun v2 S2=>?_)
 refine uDC Try.f10 16 3 (pe:=v2) (fun v3 S3=>?_)
 refine uPC Try.f10 16 4 (v:=x7) (pe:=zh) ?_
 refine uD Try.f10 16 5 (pe:=zh) (fun v5 S4=>?_)
 refine uD Try.f10 16 6 (pe:=v5) (fun v6 S5=>?_)
 refine uD Try.f10 16 7 (pe:=zh) (fun v7 S6=>?_)
 refine uD Try.f10 16 8 (pe:=zh) (fun v8 S7=>?_)
 kernel_rfl
theorem zM.r17 :jF zi ⟨false,false,false⟩ (jd zi O) (reg Try.f10 17) (reg Try.f10 17).toList ([x0,x1,x2,x3,x4,x5,x6,x7,x8,x9,b,c,d,f,g,i,j,k,l,m,n,o,p,q,r,s,t,u,w,x,y,z,A,B,C,D,E,F,G,H,I,J,K,L,M,N,P,Q,R,U,V,W,X,Y,Z,a0,a1,a2,a3,a4,a5,a6,a7,a8,a9,b0,b1,b2]) S =
  ( some ([x0,x1,x2,x3,Value.bool true,x5,x6,x7,x8,x9,b,c,d,f,g,i,j,k,l,m,n,o,p,q,r,s,t,u,w,x,y,z,A,B,C,D,E,F,G,H,I,J,K,L,M,N,P,Q,R,U,V,W,X,Y,Z,a0,a1,a2,a3,a4,a5,a6,a7,a8,a9,b0,b1,b2],S)):=by
 kernel_rfl
theorem zM.rs:type_of% (alY @zM.r0 (alY @zM.r1 (alY @zM.r2 (alY @zM.r3 (alY @zM.r4 (alY @zM.r5 (alY @zM.r6 (alY @zM.r7 (alY @zM.r8 (alY @zM.r9 (alY @zM.r10 (alY @zM.r11 (alY @zM.r12 (alY @zM.r13 (alY @zM.r14 (alY @zM.r15 (alY @zM.r16 (@zM.r17)))))))))))))))))):=alY @zM.r0 (alY @zM.r1 (alY @zM.r2 (alY @zM.r3 (alY @zM.r4 (alY @zM.r5 (alY @zM.r6 (alY @zM.r7 (alY @zM.r8 (alY @zM.r9 (alY @zM.r10 (alY @zM.r11 (alY @zM.r12 (alY @zM.r13 (alY @zM.r14 (alY @zM.r15 (alY @zM.r16 (@zM.r17)))))))))))))))))
theorem zM.runs {x0 x1:Value} {S S1:zx} {e:AEx} {T:List Value} (h:zL zi O false zM.code ([x0,x1,zh,zh,zh,zh,zh,zh,zh,zh,zh,zh,zh,zh,zh,zh,zh,zh,zh,zh,zh,zh,zh,zh,zh,zh,zh,zh,zh,zh,zh,zh,zh,zh,zh,zh,zh,zh,zh,zh,zh,zh,zh,zh,zh,zh,zh,zh,zh,zh,zh,zh,zh,zh,zh,zh,zh,zh,zh,zh,zh,zh,zh,zh,zh,zh,zh,zh]) S=some (e,T,S1)) (he:e=.normal∨e=.ret):jd zi O 10 [x0,x1] S=some (T.getD 4 zh,S1) :=
 yK rfl rfl Try.func10 (by decide) zM.body (by exact h) he (yG (a:=T.getD 4 zh) ((show zQ zi T S1 Try.f10.results.toList=zQ zi T S1 [(ResultVar.tmp 4)] from by kernel_rfl).trans (by simp only [zQ])) (by kernel_rfl))
end Go.Proofs.Ytfjogganfjkckaa
namespace Go.Proofs.Ytfjogganfjkckaa
open Go.Abs
abbrev qP.id:FuncId:=8
noncomputable def qP.code:Code:=(.seq (.region 0 (reg Try.f8 0) false) (.seq (.region 1 (reg Try.f8 1) false) Code.ret))
theorem qP.body:Try.f8.body=some qP.code:=by kernel_rfl
variable (b d m f g i j k l:Value) (S:zx)
theorem qP.r0 :jF zi ⟨false,false,false⟩ (jd zi O) (reg Try.f8 0) (reg Try.f8 0).toList ([b,d,m,f,g,i,j,k,l]) S =
  ( some ([b,d,Value.pointer none,f,g,i,j,k,l],S)):=by
 kernel_rfl
theorem qP.r1 :jF zi ⟨false,false,false⟩ (jd zi O) (reg Try.f8 1) (reg Try.f8 1).toList ([b,d,m,f,g,i,j,k,l]) S =
  (zN ((jd zi O) 20 [(dem (dem b))] S) (fun n c=>zN (Zg zi 59 none c) (fun o s=>zN (Zg zi 60 none s) (fun p t=>zN (yw zi 62 [(0,(dem n)),(1,(dem o)),(2,(dem p))] t) (fun q u=>zN (JK (dem q) u) (fun r v=>some ([b,d,r,dem b,n,o,p,q,dem r],v)) ()) ()) ()) ()) ()):=by
 kernel_rfl
theorem qP.rs:type_of% (alY @qP.r0 (@qP.r1)):=alY @qP.r0 (@qP.r1)
theorem qP.runs {b:Value} {S c:zx} {e:AEx} {T:List Value} (h:zL zi O false qP.code ([b,zh,zh,zh,zh,zh,zh,zh,zh]) S=some (e,T,c)) (he:e=.normal∨e=.ret):jd zi O 8 [b] S=some (T.getD 2 zh,c) :=
 yK rfl rfl Try.func8 (by decide) qP.body (by exact h) he (yG (a:=T.getD 2 zh) ((show zQ zi T c Try.f8.results.toList=zQ zi T c [(ResultVar.tmp 2)] from by kernel_rfl).trans (by simp only [zQ])) (by kernel_rfl))
end Go.Proofs.Ytfjogganfjkckaa
namespace Go.Proofs.Ytfjogganfjkckaa
open Go.Abs
abbrev wM.id:FuncId:=11
noncomputable def wM.code:Code:=(.seq (.region 0 (reg Try.f11 0) false) (.seq (.region 1 (reg Try.f11 1) false) Code.ret))
theorem wM.body:Try.f11.body=some wM.code:=by kernel_rfl
variable (b c g i o j k l m n f:Value) (S:zx)
theorem wM.r0 :jF zi ⟨false,false,false⟩ (jd zi O) (reg Try.f11 0) (reg Try.f11 0).toList ([b,c,g,i,o,j,k,l,m,n,f]) S =
  ( some ([b,c,g,i,Value.bool false,j,k,l,m,n,f],S)):=by
 kernel_rfl
theorem wM.r1 :jF zi ⟨false,false,false⟩ (jd zi O) (reg Try.f11 1) (reg Try.f11 1).toList ([b,c,g,i,o,j,k,l,m,n,f]) S =
  (zN (kX (dem b) S) (fun p d=>zN (zG zi 62 p 0 d) (fun q t=>zN (jl zi false 24 q t) (fun r u=>zN ((jd zi O) 25 [(dem r),(dem (dem c))] u) (fun s v=>some ([b,c,g,i,s,dem b,p,q,r,dem c,dem s],v)) ()) ()) ()) ()):=by
 kernel_rfl
theorem wM.rs:type_of% (alY @wM.r0 (@wM.r1)):=alY @wM.r0 (@wM.r1)
theorem wM.runs {b c:Value} {S d:zx} {e:AEx} {T:List Value} (h:zL zi O false wM.code ([b,c,zh,zh,zh,zh,zh,zh,zh,zh,zh]) S=some (e,T,d)) (he:e=.normal∨e=.ret):jd zi O 11 [b,c] S=some (T.getD 4 zh,d) :=
 yK rfl rfl Try.func11 (by decide) wM.body (by exact h) he (yG (a:=T.getD 4 zh) ((show zQ zi T d Try.f11.results.toList=zQ zi T d [(ResultVar.tmp 4)] from by kernel_rfl).trans (by simp only [zQ])) (by kernel_rfl))
end Go.Proofs.Ytfjogganfjkckaa
namespace Go.Proofs.Ytfjogganfjkckaa
open Go.Abs
abbrev y8.id:FuncId:=24
noncomputable def y8.code:Code:=(.seq (.region 0 (reg Try.f24 0) false) (.seq (.region 1 (reg Try.f24 1) false) (.seq (.region 2 (reg Try.f24 2) false) Code.ret)))
theorem y8.body:Try.f24.body=some y8.code:=by kernel_rfl
variable (b j q g k l m n o p d f:Value) (S:zx)
theorem y8.r0 :jF zi ⟨false,false,false⟩ (jd zi O) (reg Try.f24 0) (reg Try.f24 0).toList ([b,j,q,g,k,l,m,n,o,p,d,f]) S =
  (zN (JK (dem b) S) (fun r c=>some ([b,r,Value.string { data:=#[] },g,k,l,m,n,o,p,d,f],c)) ()):=by
 kernel_rfl
theorem y8.r1 :jF zi ⟨false,false,false⟩ (jd zi O) (reg Try.f24 1) (reg Try.f24 1).toList ([b,j,q,g,k,l,m,n,o,p,d,f]) S =
  (zN (jl zi false 46 j S) (fun r c=>zN ((jd zi O) 46 [(dem r)] c) (fun i u=>zN (zZ i 0 u) (fun s v=>zN (zZ (zV 0 i) 1 v) (fun t w=>some ([b,j,q,s,t,zV 1 (zV 0 i),r,dem i,dem s,dem t,d,f],w)) ()) ()) ()) ()):=by
 kernel_rfl
theorem y8.r2 :jF zi ⟨false,false,false⟩ (jd zi O) (reg Try.f24 2) (reg Try.f24 2).toList ([b,j,q,g,k,l,m,n,o,p,d,f]) S =
  (zN (qL zi false false 33 9 (dem g) S) (fun i c=>some ([b,j,i,g,k,l,m,n,o,p,dem g,dem i],c)) ()):=by
 kernel_rfl
theorem y8.rs:type_of% (alY @y8.r0 (alY @y8.r1 (@y8.r2))):=alY @y8.r0 (alY @y8.r1 (@y8.r2))
theorem y8.runs {b:Value} {S c:zx} {e:AEx} {T:List Value} (h:zL zi O false y8.code ([b,zh,zh,zh,zh,zh,zh,zh,zh,zh,zh,zh]) zx.empty=some (e,T,c)) (he:e=.normal∨e=.ret) (hca:[b].all (jL 16)=true) (hcv:jL 16 (T.getD 2 zh)=true):jd zi O 24 [b] S=some (T.getD 2 zh,S) :=
 yD rfl rfl Try.func24 (by decide) y8.body (by exact h) he (yG (a:=T.getD 2 zh) ((show zQ zi T c Try.f24.results.toList=zQ zi T c [(ResultVar.tmp 2)] from by kernel_rfl).trans (by simp only [zQ])) (by kernel_rfl)) hca hcv
end Go.Proofs.Ytfjogganfjkckaa
namespace Go.Proofs.Ytfjogganfjkckaa
open Go.Abs
abbrev wK.id:FuncId:=20
noncomputable def wK.code:Code:=(.seq (.region 0 (reg Try.f20 0) false) (.seq (.seq (.region 1 (reg Try.f20 1) false) (.cond (.tmp 4) (.seq (.region 2 (reg Try.f20 2) false) Code.ret) Code.skip)) (.seq (.region 3 (reg Try.f20 3) false) Code.ret)))
theorem wK.body:Try.f20.body=some wK.code:=by kernel_rfl
variable (b c l f g i j k:Value) (S:zx)
theorem wK.r0 :jF zi ⟨false,false,false⟩ (jd zi O) (reg Try.f20 0) (reg Try.f20 0).toList ([b,c,l,f,g,i,j,k]) S =
  ( some ([b,c,Value.slice none 0 0,f,g,i,j,k],S)):=by
 kernel_rfl
theorem wK.r1 :jF zi ⟨false,false,false⟩ (jd zi O) (reg Try.f20 1) (reg Try.f20 1).toList ([b,c,l,f,g,i,j,k]) S =
  (zN (wH zi BinOp.eql 24 (dem b) (Value.slice none 0 0) S) (fun o d=>some ([b,c,l,dem b,o,i,j,k],d)) ()):=by
 kernel_rfl
theorem wK.r2 :jF zi ⟨false,false,false⟩ (jd zi O) (reg Try.f20 2) (reg Try.f20 2).toList ([b,c,l,f,g,i,j,k]) S =
  ( some ([b,c,Value.slice none 0 0,f,g,i,j,k],S)):=by
 kernel_rfl
theorem wK.r3 :jF zi ⟨false,false,false⟩ (jd zi O) (reg Try.f20 3) (reg Try.f20 3).toList ([b,c,l,f,g,i,j,k]) S =
  (zN (jU zi 24 0 [] S) (fun m d=>zN (yB zi 24 24 m (dem b) d) (fun n p=>some ([b,c,n,f,g,dem m,dem b,dem n],p)) ()) ()):=by
 kernel_rfl
theorem wK.rs:type_of% (alY @wK.r0 (alY @wK.r1 (alY @wK.r2 (@wK.r3)))):=alY @wK.r0 (alY @wK.r1 (alY @wK.r2 (@wK.r3)))
theorem wK.runs {b:Value} {S d:zx} {e:AEx} {T:List Value} (h:zL zi O false wK.code ([b,zh,zh,zh,zh,zh,zh,zh]) S=some (e,T,d)) (he:e=.normal∨e=.ret):jd zi O 20 [b] S=some (T.getD 2 zh,d) :=
 yK rfl rfl Try.func20 (by decide) wK.body (by exact h) he (yG (a:=T.getD 2 zh) ((show zQ zi T d Try.f20.results.toList=zQ zi T d [(ResultVar.tmp 2)] from by kernel_rfl).trans (by simp only [zQ])) (by kernel_rfl))
end Go.Proofs.Ytfjogganfjkckaa
namespace Go.Abs
variable {K:Type}
def MapAt (enc:K→Value) (S:zx) (q:Nat) (m:List (K×Value)):Prop :=
 ∃ es c,S.get q=some (.map es c)∧es.map (fun e=>(e.key,e.val))=m.map fun p=>(enc p.1,p.2)
theorem acJ {P:Program} {t:TypeId} (enc:K→Value) (S:zx):∃ S2,Zg P t none S=some (.map (some S.next),S2)∧MapAt enc S2 S.next []∧S2.next=S.next+1∧(∀ j,j < S.next→S2.get j=S.get j)∧Ext S S2 :=
 ⟨_,rfl,⟨[],0,by rw [zx.yA,if_pos rfl],rfl⟩,by simp,fun j hj=>by rw [zx.yA,if_neg (by omega)],Ext.push _ _⟩
theorem MapAt.keep {enc:K→Value} {S:zx} {q:Nat} {m:List (K×Value)} {S2:zx} (h:MapAt enc S q m) (hg:S2.get q=S.get q):MapAt enc S2 q m:=by
 obtain ⟨es,c,h1,h2⟩:=h
 exact ⟨es,c,hg.trans h1,h2⟩
variable [DecidableEq K]
def Vs:List (K×Value)→K→Option Value
 | [],_=>none
 | (a,v)::m,k=>if a=k then some v else Vs m k
def midx:List (K×Value)→K→Nat
 | [],_=>0
 | (a,_)::m,k=>if a=k then 0 else midx m k+1
def ahT:List (K×Value)→K→Value→List (K×Value)
 | [],k,x=>[(k,x)]
 | (a,v)::m,k,x=>if a=k then (k,x)::m else (a,v)::ahT m k x
theorem aaQ {m:List (K×Value)} {k:K} {x:Value} (h:Vs m k=none):ahT m k x=m++[(k,x)]:=by
 induction m with
 | nil=>rfl
 | cons p m ih =>
  obtain ⟨a,v⟩:=p
  unfold Vs at h
  split at h
  ·
   cases h
  ·
   rename_i hn
   simp only [ahT,if_neg hn,ih h,List.cons_append]
structure aef (enc:K→Value) (kd:TypeDesc):Prop where
 kind:∀ k,Yx kd (enc k)=true
 same:∀ a b,Instr.sameNow kd (enc a) (enc b)=some (decide (a=b))
theorem Xi:aef (fun n:Int=>Value.int .i64 n) (.int .i64):=⟨fun _=>rfl,fun a b=>by
 show (if IntKind.i64=IntKind.i64 then some (a == b) else none)=_
 rw [if_pos rfl];by_cases h:a=b <;> simp [h]⟩
theorem Yu {enc:K→Value} {kd:TypeDesc} (hK:aef enc kd) (k:K):∀ (es:List MapEntry) (m:List (K×Value)) (i:Nat),es.map (fun e=>(e.key,e.val))=m.map (fun p=>(enc p.1,p.2)) →
  Instr.findNow kd (enc k) es i=some ((Vs m k).map fun v=>(i+midx m k,v)):=by
 intro es
 induction es with
 | nil =>
  intro m i h
  cases m with
  | nil=>rfl
  | cons p m=>simp at h
 | cons e es ih =>
  intro m i h
  cases m with
  | nil=>simp at h
  | cons p m =>
   obtain ⟨a,v⟩:=p
   simp only [List.map_cons,List.cons.injEq,Prod.mk.injEq] at h
   obtain ⟨⟨h1,h2⟩,h3⟩:=h
   simp only [Instr.findNow,h1,hK.same,Vs,midx]
   by_cases hk:k=a
   ·
    simp [hk,h2]
   ·
    rw [decide_eq_false hk,if_neg (fun h=>hk h.symm),if_neg (fun h=>hk h.symm)]
    simp only []
    rw [ih m (i+1) h3]
    congr 2
    funext x
    congr 1
    omega
theorem afJ {enc:K→Value} {k:K} {x:Value}:∀ (es:List MapEntry) (m:List (K×Value)),es.map (fun e=>(e.key,e.val))=m.map (fun p=>(enc p.1,p.2))→Vs m k≠none →
  (es.modify (midx m k) fun e=>{ e with key:=enc k,val:=x }).map (fun e=>(e.key,e.val))=(ahT m k x).map fun p=>(enc p.1,p.2):=by
 intro es
 induction es with
 | nil =>
  intro m h hn
  cases m with
  | nil=>exact absurd rfl hn
  | cons p m=>simp at h
 | cons e es ih =>
  intro m h hn
  cases m with
  | nil=>simp at h
  | cons p m =>
   obtain ⟨a,v⟩:=p
   simp only [List.map_cons,List.cons.injEq,Prod.mk.injEq] at h
   obtain ⟨⟨h1,h2⟩,h3⟩:=h
   simp only [midx,ahT]
   by_cases hk:a=k
   ·
    simp [hk,h3]
   ·
    rw [if_neg hk,if_neg hk,List.modify_succ_cons]
    have hn':Vs m k≠none:=by unfold Vs at hn;rwa [if_neg hk] at hn
    simp only [List.map_cons,ih m h3 hn',h1,h2]
variable {P:Program} {t kt et:TypeId} {kd:TypeDesc} {z:Value} {enc:K→Value} {S S0:zx} {q:Nat} {m:List (K×Value)}
theorem agJ (hK:aef enc kd) (hm:MapAt enc S q m) (ht:P.underlying t=some (.map kt et)) (hk:P.underlying kt=some kd) (hz:zeroOf P et=some z) (hg:ground z=true) (k:K) :
  vY P false t (.map (some q)) (enc k) false S=some ((Vs m k).getD z,S):=by
 obtain ⟨es,c,h1,h2⟩:=hm
 unfold vY qO
 simp only [Bool.false_eq_true,if_false,ht,hk,hK.kind,if_true,h1,Yu hK k es m 0 h2]
 cases Vs m k with
 | none=>simp [hz,hg]
 | some v=>simp
theorem adQ (hK:aef enc kd) (hm:MapAt enc S q m) (ht:P.underlying t=some (.map kt et)) (hk:P.underlying kt=some kd) (hz:zeroOf P et=some z) (hg:ground z=true) (k:K) :
  vY P false t (.map (some q)) (enc k) true S=some (.tuple #[(Vs m k).getD z,.bool (Vs m k).isSome],S):=by
 obtain ⟨es,c,h1,h2⟩:=hm
 unfold vY qO
 simp only [Bool.false_eq_true,if_false,ht,hk,hK.kind,if_true,h1,Yu hK k es m 0 h2]
 cases Vs m k with
 | none=>simp [hz,hg]
 | some v=>simp
theorem ab7 (hK:aef enc kd) (hm:MapAt enc S q m) (ht:P.underlying t=some (.map kt et)) (hk:P.underlying kt=some kd) (k:K) (x:Value) :
  ∃ S2,yZ P t (.map (some q)) (enc k) x S=some (zh,S2)∧MapAt enc S2 q (ahT m k x)∧S2.next=S.next∧(∀ j,j≠q→S2.get j=S.get j)∧(∀ S0,Ext S0 S→S0.next≤q→Ext S0 S2):=by
 obtain ⟨es,c,h1,h2⟩:=hm
 unfold yZ
 simp only [ht,hk,hK.kind,if_true,h1,Yu hK k es m 0 h2]
 cases hg:Vs m k with
 | none =>
  refine ⟨_,rfl,⟨es++[{ key:=enc k,val:=x,born:=c }],c+1,by rw [zx.qx,if_pos rfl],?_⟩,by simp,fun j hj=>by rw [zx.qx,if_neg hj],fun S0 hE hq=>hE.set hq _⟩
  rw [aaQ hg]
  simp [h2]
 | some v =>
  refine ⟨_,rfl,⟨_,c,by simp only [Option.map_some,Nat.zero_add,zx.qx,if_true],afJ es m h2 (by rw [hg];simp)⟩,by simp,fun j hj=>by rw [zx.qx,if_neg hj],fun S0 hE hq=>hE.set hq _⟩
end Go.Abs
namespace Go.Proofs.Ytfjogganfjkckaa
open Go.Abs
abbrev slices_Index.id:FuncId:=47
noncomputable def slices_Index.jS:Code:=(.seq (.region 2 (reg Try.f47 2) false) (.seq (.cond (.tmp 9) Code.skip (.exit 0)) (.seq (.block 1 (.seq (.region 3 (reg Try.f47 3) false) (.seq (.region 4 (reg Try.f47 4) false) (.cond (.tmp 16) (.seq (.region 5 (reg Try.f47 5) false) Code.ret) Code.skip)))) (.region 6 (reg Try.f47 6) false))))
noncomputable def slices_Index.code:Code:=(.seq (.region 0 (reg Try.f47 0) false) (.seq (.seq (.region 1 (reg Try.f47 1) false) (.block 0 (.loop slices_Index.jS))) (.seq (.region 7 (reg Try.f47 7) false) Code.ret)))
theorem slices_Index.body:Try.f47.body=some slices_Index.code:=by kernel_rfl
theorem slices_Index.eta {T:List Value} (h:T.length=19):T=[T.getD 0 zh,T.getD 1 zh,T.getD 2 zh,T.getD 3 zh,T.getD 4 zh,T.getD 5 zh,T.getD 6 zh,T.getD 7 zh,T.getD 8 zh,T.getD 9 zh,T.getD 10 zh,T.getD 11 zh,T.getD 12 zh,T.getD 13 zh,T.getD 14 zh,T.getD 15 zh,T.getD 16 zh,T.getD 17 zh,T.getD 18 zh]:=(qQ T 19 h).trans (by kernel_rfl)
variable (b n q r v o t s p u c d f g i j k l m:Value) (S:zx)
theorem slices_Index.r0 :jF zi ⟨false,false,false⟩ (jd zi O) (reg Try.f47 0) (reg Try.f47 0).toList ([b,n,q,r,v,o,t,s,p,u,c,d,f,g,i,j,k,l,m]) S =
  ( some ([b,n,q,r,.int .i64 0,o,t,s,p,u,c,d,f,g,i,j,k,l,m],S)):=by
 kernel_rfl
theorem slices_Index.r1 :jF zi ⟨false,false,false⟩ (jd zi O) (reg Try.f47 1) (reg Try.f47 1).toList ([b,n,q,r,v,o,t,s,p,u,c,d,f,g,i,j,k,l,m]) S =
  (zN (ZY zi 24 (dem b) S) (fun A w=>some ([b,n,q,r,v,o,dem b,A,.int .i64 0,u,c,d,f,g,i,j,k,l,m],w)) ()):=by
 kernel_rfl
theorem slices_Index.r2 :jF zi ⟨false,false,false⟩ (jd zi O) (reg Try.f47 2) (reg Try.f47 2).toList ([b,n,q,r,v,o,t,s,p,u,c,d,f,g,i,j,k,l,m]) S =
  (zN (wH zi BinOp.lss 3 p s S) (fun x w=>some ([b,n,q,r,v,o,t,s,p,x,c,d,f,g,i,j,k,l,m],w)) ()):=by
 kernel_rfl
theorem slices_Index.r3 :jF zi ⟨false,false,false⟩ (jd zi O) (reg Try.f47 3) (reg Try.f47 3).toList ([b,n,q,r,v,o,t,s,p,u,c,d,f,g,i,j,k,l,m]) S =
  ( some ([b,n,q,r,v,p,t,s,dem p,u,dem p,d,f,g,i,j,k,l,m],S)):=by
 kernel_rfl
theorem slices_Index.r4 :jF zi ⟨false,false,false⟩ (jd zi O) (reg Try.f47 4) (reg Try.f47 4).toList ([b,n,q,r,v,o,t,s,p,u,c,d,f,g,i,j,k,l,m]) S =
  (zN (jr zi 24 (dem b) (dem o) S) (fun y w=>zN (jl zi false 3 y w) (fun z B=>zN (wH zi BinOp.eql 3 (dem n) z B) (fun C D=>some ([b,n,q,r,v,o,t,s,p,u,c,dem n,dem b,dem o,y,z,C,l,m],D)) ()) ()) ()):=by
 kernel_rfl
theorem slices_Index.r5 :jF zi ⟨false,false,false⟩ (jd zi O) (reg Try.f47 5) (reg Try.f47 5).toList ([b,n,q,r,v,o,t,s,p,u,c,d,f,g,i,j,k,l,m]) S =
  ( some ([b,n,q,r,o,dem o,t,s,p,u,c,d,f,g,i,j,k,dem o,m],S)):=by
 kernel_rfl
theorem slices_Index.r6 :jF zi ⟨false,false,false⟩ (jd zi O) (reg Try.f47 6) (reg Try.f47 6).toList ([b,n,q,r,v,o,t,s,p,u,c,d,f,g,i,j,k,l,m]) S =
  (zN (wH zi BinOp.add 3 p (.int .i64 1) S) (fun x w=>some ([b,n,q,r,v,o,t,s,dem x,u,c,d,f,g,i,j,k,l,x],w)) ()):=by
 kernel_rfl
theorem slices_Index.r7 :jF zi ⟨false,false,false⟩ (jd zi O) (reg Try.f47 7) (reg Try.f47 7).toList ([b,n,q,r,v,o,t,s,p,u,c,d,f,g,i,j,k,l,m]) S =
  ( some ([b,n,q,r,.int .i64 (-1),o,t,s,p,u,c,d,f,g,i,j,k,l,m],S)):=by
 kernel_rfl
theorem slices_Index.rs:type_of% (alY @slices_Index.r0 (alY @slices_Index.r1 (alY @slices_Index.r2 (alY @slices_Index.r3 (alY @slices_Index.r4 (alY @slices_Index.r5 (alY @slices_Index.r6 (@slices_Index.r7)))))))):=alY @slices_Index.r0 (alY @slices_Index.r1 (alY @slices_Index.r2 (alY @slices_Index.r3 (alY @slices_Index.r4 (alY @slices_Index.r5 (alY @slices_Index.r6 (@slices_Index.r7)))))))
theorem slices_Index.runs {b n:Value} {S w:zx} {e:AEx} {T:List Value} (h:zL zi O false slices_Index.code ([b,n,zh,zh,zh,zh,zh,zh,zh,zh,zh,zh,zh,zh,zh,zh,zh,zh,zh]) S=some (e,T,w)) (he:e=.normal∨e=.ret):jd zi O 47 [b,n] S=some (T.getD 4 zh,w) :=
 yK rfl rfl Try.func47 (by decide) slices_Index.body (by exact h) he (yG (a:=T.getD 4 zh) ((show zQ zi T w Try.f47.results.toList=zQ zi T w [(ResultVar.tmp 4)] from by kernel_rfl).trans (by simp only [zQ])) (by kernel_rfl))
end Go.Proofs.Ytfjogganfjkckaa
namespace Go.Proofs.Ytfjogganfjkckaa
open Go.Abs
abbrev slices_Contains.id:FuncId:=25
noncomputable def slices_Contains.code:Code:=(.seq (.region 0 (reg Try.f25 0) false) (.seq (.region 1 (reg Try.f25 1) false) Code.ret))
theorem slices_Contains.body:Try.f25.body=some slices_Contains.code:=by kernel_rfl
variable (b c f g m i j k l:Value) (S:zx)
theorem slices_Contains.r0 :jF zi ⟨false,false,false⟩ (jd zi O) (reg Try.f25 0) (reg Try.f25 0).toList ([b,c,f,g,m,i,j,k,l]) S =
  ( some ([b,c,f,g,Value.bool false,i,j,k,l],S)):=by
 kernel_rfl
theorem slices_Contains.r1 :jF zi ⟨false,false,false⟩ (jd zi O) (reg Try.f25 1) (reg Try.f25 1).toList ([b,c,f,g,m,i,j,k,l]) S =
  (zN ((jd zi O) 47 [(dem (dem b)),(dem (dem c))] S) (fun n d=>zN (wH zi BinOp.geq 3 n (.int .i64 0) d) (fun o p=>some ([b,c,f,g,o,dem b,dem c,n,dem o],p)) ()) ()):=by
 kernel_rfl
theorem slices_Contains.rs:type_of% (alY @slices_Contains.r0 (@slices_Contains.r1)):=alY @slices_Contains.r0 (@slices_Contains.r1)
theorem slices_Contains.runs {b c:Value} {S d:zx} {e:AEx} {T:List Value} (h:zL zi O false slices_Contains.code ([b,c,zh,zh,zh,zh,zh,zh,zh]) S=some (e,T,d)) (he:e=.normal∨e=.ret):jd zi O 25 [b,c] S=some (T.getD 4 zh,d) :=
 yK rfl rfl Try.func25 (by decide) slices_Contains.body (by exact h) he (yG (a:=T.getD 4 zh) ((show zQ zi T d Try.f25.results.toList=zQ zi T d [(ResultVar.tmp 4)] from by kernel_rfl).trans (by simp only [zQ])) (by kernel_rfl))
end Go.Proofs.Ytfjogganfjkckaa
namespace Go.Proofs.Ytfjogganfjkckaa
open Go.Abs
theorem abv:zi.underlying 3=some (TypeDesc.int IntKind.i64):=by kernel_rfl
theorem abx:ZU zi 3=some 1:=by kernel_rfl
theorem alc:bytesOf zi 3=some 8:=by kernel_rfl
theorem ak9:zeroOf zi 3=(some (Value.int IntKind.i64 0)):=by kernel_rfl
theorem ZW:xM zi 3=some false:=by kernel_rfl
theorem ai4:zeroOf zi 4=(some (Value.bool false)):=by kernel_rfl
theorem aaF:zi.underlying 5=some (TypeDesc.int IntKind.u8):=by kernel_rfl
theorem Qo:ZU zi 5=some 1:=by kernel_rfl
theorem aft:bytesOf zi 5=some 1:=by kernel_rfl
theorem agt:zeroOf zi 5=(some (Value.int IntKind.u8 0)):=by kernel_rfl
theorem ajs:xM zi 5=some false:=by kernel_rfl
theorem aal:zi.underlying 9=some TypeDesc.string:=by kernel_rfl
theorem adg:zeroOf zi 9=(some (Value.string { data:=#[] })):=by kernel_rfl
theorem Yp:zi.underlying 24=some (TypeDesc.slice 3):=by kernel_rfl
theorem ajA:xM zi 24=some false:=by kernel_rfl
theorem ab5:zi.underlying 29=some (TypeDesc.slice 33):=by kernel_rfl
theorem xZ:zi.underlying 33=some (TypeDesc.slice 5):=by kernel_rfl
theorem afN:ZU zi 33=some 1:=by kernel_rfl
theorem agu:xM zi 33=some false:=by kernel_rfl
theorem ah9:zi.underlying 43=some (TypeDesc.struct #[{ name:= "ID",type:=3,offset:=0,embedded:=false,tag:= "",pkgPath:= "",byteOffset:=0 },{ name:= "Fee",type:=3,offset:=1,embedded:=false,tag:= "",pkgPath:= "",byteOffset:=8 }]):=by kernel_rfl
theorem ZT:ZU zi 43=some 2:=by kernel_rfl
theorem ahE:bytesOf zi 43=some 16:=by kernel_rfl
theorem ah8:zeroOf zi 43=(some (Value.agg #[(Value.int IntKind.i64 0),(Value.int IntKind.i64 0)])):=by kernel_rfl
theorem V4:xM zi 43=some true:=by kernel_rfl
theorem JH:zi.underlying 44=some (TypeDesc.slice 43):=by kernel_rfl
theorem ad4:xM zi 44=some false:=by kernel_rfl
theorem Jd:ZU zi 46=some 5:=by kernel_rfl
theorem Ku:xM zi 46=some true:=by kernel_rfl
theorem Qc:ZU zi 48=some 13:=by kernel_rfl
theorem afU:xM zi 48=some true:=by kernel_rfl
theorem ahj:zi.underlying 56=some (TypeDesc.array 2 3):=by kernel_rfl
theorem Ws:zi.underlying 59=some (TypeDesc.map 9 4):=by kernel_rfl
theorem WG:xM zi 59=some false:=by kernel_rfl
theorem Jw:zi.underlying 60=some (TypeDesc.map 3 9):=by kernel_rfl
theorem Yf:xM zi 60=some false:=by kernel_rfl
theorem Q5:zi.underlying 73=some (TypeDesc.int IntKind.u64):=by kernel_rfl
theorem QG:zi.underlying 126=some (TypeDesc.map 3 4):=by kernel_rfl
theorem kZ (q o:Nat) (S:zx):zG zi 43 (.pointer (some ⟨q,o,none⟩)) 0 S=some (.pointer (some ⟨q,o+0,none⟩),S):=by kernel_rfl
theorem Jf (q o:Nat) (S:zx):zG zi 43 (.pointer (some ⟨q,o,none⟩)) 1 S=some (.pointer (some ⟨q,o+1,none⟩),S):=by kernel_rfl
theorem jW (q o:Nat) (S:zx):zG zi 46 (.pointer (some ⟨q,o,none⟩)) 0 S=some (.pointer (some ⟨q,o+0,none⟩),S):=by kernel_rfl
theorem jR (q o:Nat) (S:zx):zG zi 46 (.pointer (some ⟨q,o,none⟩)) 1 S=some (.pointer (some ⟨q,o+1,none⟩),S):=by kernel_rfl
theorem jV (q o:Nat) (S:zx):zG zi 46 (.pointer (some ⟨q,o,none⟩)) 2 S=some (.pointer (some ⟨q,o+2,none⟩),S):=by kernel_rfl
theorem jX (q o:Nat) (S:zx):zG zi 46 (.pointer (some ⟨q,o,none⟩)) 3 S=some (.pointer (some ⟨q,o+3,none⟩),S):=by kernel_rfl
theorem jY (q o:Nat) (S:zx):zG zi 46 (.pointer (some ⟨q,o,none⟩)) 4 S=some (.pointer (some ⟨q,o+4,none⟩),S):=by kernel_rfl
theorem zO (q o:Nat) (S:zx):zG zi 48 (.pointer (some ⟨q,o,none⟩)) 0 S=some (.pointer (some ⟨q,o+0,none⟩),S):=by kernel_rfl
theorem jc (q o:Nat) (S:zx):zG zi 48 (.pointer (some ⟨q,o,none⟩)) 1 S=some (.pointer (some ⟨q,o+1,none⟩),S):=by kernel_rfl
theorem jh (q o:Nat) (S:zx):zG zi 48 (.pointer (some ⟨q,o,none⟩)) 2 S=some (.pointer (some ⟨q,o+2,none⟩),S):=by kernel_rfl
theorem ji (q o:Nat) (S:zx):zG zi 48 (.pointer (some ⟨q,o,none⟩)) 3 S=some (.pointer (some ⟨q,o+3,none⟩),S):=by kernel_rfl
theorem zY (q o:Nat) (S:zx):zG zi 48 (.pointer (some ⟨q,o,none⟩)) 4 S=some (.pointer (some ⟨q,o+4,none⟩),S):=by kernel_rfl
theorem jm (q o:Nat) (S:zx):zG zi 48 (.pointer (some ⟨q,o,none⟩)) 5 S=some (.pointer (some ⟨q,o+5,none⟩),S):=by kernel_rfl
theorem jk (q o:Nat) (S:zx):zG zi 48 (.pointer (some ⟨q,o,none⟩)) 6 S=some (.pointer (some ⟨q,o+6,none⟩),S):=by kernel_rfl
theorem jg (q o:Nat) (S:zx):zG zi 48 (.pointer (some ⟨q,o,none⟩)) 7 S=some (.pointer (some ⟨q,o+8,none⟩),S):=by kernel_rfl
theorem XI (q o:Nat) (S:zx):zG zi 62 (.pointer (some ⟨q,o,none⟩)) 0 S=some (.pointer (some ⟨q,o+0,none⟩),S):=by kernel_rfl
theorem qJ (q o:Nat) (S:zx):zG zi 62 (.pointer (some ⟨q,o,none⟩)) 1 S=some (.pointer (some ⟨q,o+1,none⟩),S):=by kernel_rfl
theorem vS (q o:Nat) (S:zx):zG zi 62 (.pointer (some ⟨q,o,none⟩)) 2 S=some (.pointer (some ⟨q,o+2,none⟩),S):=by kernel_rfl
theorem xw {fx:Bool} {x0 x1:Value} {S:zx}:jl zi fx 43 (EP [x0,x1]) S=some (.agg [x0,x1].toArray,S):=aeW V4 ZT rfl
theorem KR {q:Nat} {x0 x1:Value} {own:Own} {e:Nat} {S:zx} (h:S.get q=some (.cells [x0,x1] own e)):jl zi false 43 (.pointer (some ⟨q,0,none⟩)) S=some (.agg [vX x0,vX x1].toArray,S):=(Y6 (o:=0) h V4 ZT (by simp)).trans (by simp)
theorem aby {q:Nat} {x0 x1 x2 x3 x4:Value} {own:Own} {e:Nat} {S:zx} (h:S.get q=some (.cells [x0,x1,x2,x3,x4] own e)):jl zi false 46 (.pointer (some ⟨q,0,none⟩)) S=some (.agg [vX x0,vX x1,vX x2,vX x3,vX x4].toArray,S):=(Y6 (o:=0) h Ku Jd (by simp)).trans (by simp)
theorem adZ {q:Nat} {x0 x1 x2 x3 x4 x5 x6 x7 x8 x9 x10 x11 x12:Value} {own:Own} {e:Nat} {S:zx} (h:S.get q=some (.cells [x0,x1,x2,x3,x4,x5,x6,x7,x8,x9,x10,x11,x12] own e)):jl zi false 48 (.pointer (some ⟨q,0,none⟩)) S=some (.agg [vX x0,vX x1,vX x2,vX x3,vX x4,vX x5,vX x6,vX x7,vX x8,vX x9,vX x10,vX x11,vX x12].toArray,S):=(Y6 (o:=0) h afU Qc (by simp)).trans (by simp)
theorem wC  (S:zx):yw zi 43 [] S=some (.agg [(Value.int IntKind.i64 0),(Value.int IntKind.i64 0)].toArray,S):=by
 kernel_rfl
theorem acB {y0:Value} (h0:y0.cells=#[y0]) (S:zx):yw zi 43 [(0,y0)] S=some (.agg [y0,(Value.int IntKind.i64 0)].toArray,S):=by
 rw [show yw zi 43 [(0,y0)] S=(match vP ([(0,1),(1,1)][·]?) [(Value.int IntKind.i64 0),(Value.int IntKind.i64 0)] [(0,y0)] with | some l=>some (.agg l.toArray,S) | none=>none) from by kernel_rfl]
 simp [vP,splice,qG,h0]
theorem ZV {y0 y1:Value} (h0:y0.cells=#[y0]) (h1:y1.cells=#[y1]) (S:zx):yw zi 43 [(0,y0),(1,y1)] S=some (.agg [y0,y1].toArray,S):=by
 rw [show yw zi 43 [(0,y0),(1,y1)] S=(match vP ([(0,1),(1,1)][·]?) [(Value.int IntKind.i64 0),(Value.int IntKind.i64 0)] [(0,y0),(1,y1)] with | some l=>some (.agg l.toArray,S) | none=>none) from by kernel_rfl]
 simp [vP,splice,qG,h0,h1]
theorem WH  (S:zx):yw zi 46 [] S=some (.agg [(Value.int IntKind.i64 0),(Value.int IntKind.i64 0),(Value.int IntKind.i64 0),(Value.int IntKind.i64 0),(Value.slice none 0 0)].toArray,S):=by
 kernel_rfl
theorem QN {y0 y1:Value} (h0:y0.cells=#[y0]) (h1:y1.cells=#[y1]) (S:zx):yw zi 46 [(0,y0),(1,y1)] S=some (.agg [y0,y1,(Value.int IntKind.i64 0),(Value.int IntKind.i64 0),(Value.slice none 0 0)].toArray,S):=by
 rw [show yw zi 46 [(0,y0),(1,y1)] S=(match vP ([(0,1),(1,1),(2,1),(3,1),(4,1)][·]?) [(Value.int IntKind.i64 0),(Value.int IntKind.i64 0),(Value.int IntKind.i64 0),(Value.int IntKind.i64 0),(Value.slice none 0 0)] [(0,y0),(1,y1)] with | some l=>some (.agg l.toArray,S) | none=>none) from by kernel_rfl]
 simp [vP,splice,qG,h0,h1]
theorem Zt {y0 y1 y2 y3 y4:Value} (h0:y0.cells=#[y0]) (h1:y1.cells=#[y1]) (h2:y2.cells=#[y2]) (h3:y3.cells=#[y3]) (h4:y4.cells=#[y4]) (S:zx):yw zi 46 [(0,y0),(1,y1),(2,y2),(3,y3),(4,y4)] S=some (.agg [y0,y1,y2,y3,y4].toArray,S):=by
 rw [show yw zi 46 [(0,y0),(1,y1),(2,y2),(3,y3),(4,y4)] S=(match vP ([(0,1),(1,1),(2,1),(3,1),(4,1)][·]?) [(Value.int IntKind.i64 0),(Value.int IntKind.i64 0),(Value.int IntKind.i64 0),(Value.int IntKind.i64 0),(Value.slice none 0 0)] [(0,y0),(1,y1),(2,y2),(3,y3),(4,y4)] with | some l=>some (.agg l.toArray,S) | none=>none) from by kernel_rfl]
 simp [vP,splice,qG,h0,h1,h2,h3,h4]
theorem Qd {y0 y1 y4:Value} (h0:y0.cells=#[y0]) (h1:y1.cells=#[y1]) (h4:y4.cells=#[y4]) (S:zx):yw zi 46 [(0,y0),(1,y1),(4,y4)] S=some (.agg [y0,y1,(Value.int IntKind.i64 0),(Value.int IntKind.i64 0),y4].toArray,S):=by
 rw [show yw zi 46 [(0,y0),(1,y1),(4,y4)] S=(match vP ([(0,1),(1,1),(2,1),(3,1),(4,1)][·]?) [(Value.int IntKind.i64 0),(Value.int IntKind.i64 0),(Value.int IntKind.i64 0),(Value.int IntKind.i64 0),(Value.slice none 0 0)] [(0,y0),(1,y1),(4,y4)] with | some l=>some (.agg l.toArray,S) | none=>none) from by kernel_rfl]
 simp [vP,splice,qG,h0,h1,h4]
theorem Vh  (S:zx):yw zi 48 [] S=some (.agg [(Value.int IntKind.i64 0),(Value.int IntKind.i64 0),(Value.int IntKind.i64 0),(Value.int IntKind.i64 0),(Value.int IntKind.i64 0),(Value.int IntKind.i64 0),(Value.int IntKind.i64 0),(Value.int IntKind.i64 0),(Value.int IntKind.i64 0),(Value.int IntKind.i64 0),(Value.int IntKind.i64 0),(Value.int IntKind.i64 0),(Value.slice none 0 0)].toArray,S):=by
 kernel_rfl
theorem kT {y0 y1:Value} (h0:y0.cells=#[y0]) (h1:y1.cells=#[y1]) (S:zx):yw zi 48 [(0,y0),(1,y1)] S=some (.agg [y0,y1,(Value.int IntKind.i64 0),(Value.int IntKind.i64 0),(Value.int IntKind.i64 0),(Value.int IntKind.i64 0),(Value.int IntKind.i64 0),(Value.int IntKind.i64 0),(Value.int IntKind.i64 0),(Value.int IntKind.i64 0),(Value.int IntKind.i64 0),(Value.int IntKind.i64 0),(Value.slice none 0 0)].toArray,S):=by
 rw [show yw zi 48 [(0,y0),(1,y1)] S=(match vP ([(0,1),(1,1),(2,1),(3,1),(4,1),(5,1),(6,2),(8,5)][·]?) [(Value.int IntKind.i64 0),(Value.int IntKind.i64 0),(Value.int IntKind.i64 0),(Value.int IntKind.i64 0),(Value.int IntKind.i64 0),(Value.int IntKind.i64 0),(Value.int IntKind.i64 0),(Value.int IntKind.i64 0),(Value.int IntKind.i64 0),(Value.int IntKind.i64 0),(Value.int IntKind.i64 0),(Value.int IntKind.i64 0),(Value.slice none 0 0)] [(0,y0),(1,y1)] with | some l=>some (.agg l.toArray,S) | none=>none) from by kernel_rfl]
 simp [vP,splice,qG,h0,h1]
theorem Zr {y0 y1 y2 y3 y4 y5:Value} (h0:y0.cells=#[y0]) (h1:y1.cells=#[y1]) (h2:y2.cells=#[y2]) (h3:y3.cells=#[y3]) (h4:y4.cells=#[y4]) (h5:y5.cells=#[y5]) (S:zx):yw zi 48 [(0,y0),(1,y1),(2,y2),(3,y3),(4,y4),(5,y5)] S=some (.agg [y0,y1,y2,y3,y4,y5,(Value.int IntKind.i64 0),(Value.int IntKind.i64 0),(Value.int IntKind.i64 0),(Value.int IntKind.i64 0),(Value.int IntKind.i64 0),(Value.int IntKind.i64 0),(Value.slice none 0 0)].toArray,S):=by
 rw [show yw zi 48 [(0,y0),(1,y1),(2,y2),(3,y3),(4,y4),(5,y5)] S=(match vP ([(0,1),(1,1),(2,1),(3,1),(4,1),(5,1),(6,2),(8,5)][·]?) [(Value.int IntKind.i64 0),(Value.int IntKind.i64 0),(Value.int IntKind.i64 0),(Value.int IntKind.i64 0),(Value.int IntKind.i64 0),(Value.int IntKind.i64 0),(Value.int IntKind.i64 0),(Value.int IntKind.i64 0),(Value.int IntKind.i64 0),(Value.int IntKind.i64 0),(Value.int IntKind.i64 0),(Value.int IntKind.i64 0),(Value.slice none 0 0)] [(0,y0),(1,y1),(2,y2),(3,y3),(4,y4),(5,y5)] with | some l=>some (.agg l.toArray,S) | none=>none) from by kernel_rfl]
 simp [vP,splice,qG,h0,h1,h2,h3,h4,h5]
theorem QL {y0 y1 y7_0 y7_1 y7_2 y7_3 y7_4:Value} (h0:y0.cells=#[y0]) (h1:y1.cells=#[y1]) (S:zx):yw zi 48 [(0,y0),(1,y1),(7,.agg [y7_0,y7_1,y7_2,y7_3,y7_4].toArray)] S=some (.agg [y0,y1,(Value.int IntKind.i64 0),(Value.int IntKind.i64 0),(Value.int IntKind.i64 0),(Value.int IntKind.i64 0),(Value.int IntKind.i64 0),(Value.int IntKind.i64 0),y7_0,y7_1,y7_2,y7_3,y7_4].toArray,S):=by
 rw [show yw zi 48 [(0,y0),(1,y1),(7,.agg [y7_0,y7_1,y7_2,y7_3,y7_4].toArray)] S=(match vP ([(0,1),(1,1),(2,1),(3,1),(4,1),(5,1),(6,2),(8,5)][·]?) [(Value.int IntKind.i64 0),(Value.int IntKind.i64 0),(Value.int IntKind.i64 0),(Value.int IntKind.i64 0),(Value.int IntKind.i64 0),(Value.int IntKind.i64 0),(Value.int IntKind.i64 0),(Value.int IntKind.i64 0),(Value.int IntKind.i64 0),(Value.int IntKind.i64 0),(Value.int IntKind.i64 0),(Value.int IntKind.i64 0),(Value.slice none 0 0)] [(0,y0),(1,y1),(7,.agg [y7_0,y7_1,y7_2,y7_3,y7_4].toArray)] with | some l=>some (.agg l.toArray,S) | none=>none) from by kernel_rfl]
 simp [vP,splice,qG,h0,h1]
theorem Jj {y0 y1 y2:Value} (h0:y0.cells=#[y0]) (h1:y1.cells=#[y1]) (h2:y2.cells=#[y2]) (S:zx):yw zi 62 [(0,y0),(1,y1),(2,y2)] S=some (.agg [y0,y1,y2].toArray,S):=by
 rw [show yw zi 62 [(0,y0),(1,y1),(2,y2)] S=(match vP ([(0,1),(1,1),(2,1)][·]?) [(Value.slice none 0 0),(Value.map none),(Value.map none)] [(0,y0),(1,y1),(2,y2)] with | some l=>some (.agg l.toArray,S) | none=>none) from by kernel_rfl]
 simp [vP,splice,qG,h0,h1,h2]
@[simp] theorem WE (k:IntKind) (n:Int) (H:zx):kH zi 3 5 (.int k n) H=some (.int IntKind.u8 (IntKind.wrap IntKind.u8 n),H):=Wn abv aaF k n
@[simp] theorem JO (k:IntKind) (n:Int) (H:zx):kH zi 3 73 (.int k n) H=some (.int IntKind.u64 (IntKind.wrap IntKind.u64 n),H):=Wn abv Q5 k n
@[simp] theorem Zh (k:IntKind) (n:Int) (H:zx):kH zi 5 73 (.int k n) H=some (.int IntKind.u64 (IntKind.wrap IntKind.u64 n),H):=Wn aaF Q5 k n
@[simp] theorem Qb (k:IntKind) (n:Int) (H:zx):kH zi 73 3 (.int k n) H=some (.int IntKind.i64 (IntKind.wrap IntKind.i64 n),H):=Wn Q5 abv k n
@[simp] theorem Jb (k:IntKind) (n:Int) (H:zx):kH zi 73 5 (.int k n) H=some (.int IntKind.u8 (IntKind.wrap IntKind.u8 n),H):=Wn Q5 aaF k n
theorem Vp (S:zx):jU zi 24 0 [] S=some (sv 2 1 0 [],S):=by kernel_rfl
theorem WY (x0:Int) (S:zx):jU zi 24 1 [(0,.int IntKind.i64 x0)] S=some (sv 2 1 1 [.int IntKind.i64 x0],S):=by kernel_rfl
theorem Qj (x0 x1:Int) (S:zx):jU zi 24 2 [(0,.int IntKind.i64 x0),(1,.int IntKind.i64 x1)] S=some (sv 2 1 2 [.int IntKind.i64 x0,.int IntKind.i64 x1],S):=by kernel_rfl
theorem Ze (S:zx):jU zi 33 0 [] S=some (sv 2 1 0 [],S):=by kernel_rfl
theorem Jm (x0:Int) (S:zx):jU zi 33 1 [(0,.int IntKind.u8 x0)] S=some (sv 2 1 1 [.int IntKind.u8 x0],S):=by kernel_rfl
theorem V5 (S:zx):jU zi 44 0 [] S=some (sv 2 2 0 [],S):=by kernel_rfl
theorem Zv {k:Nat} {l:List UInt8} {S:zx} (h:Okl k l):ZY zi 33 (by_ k l) S=some (goInt l.length,S):=afI xZ h
theorem agL {k:Nat} {l:List UInt8} {S:zx} {ki:IntKind} {i:Int} (h:Okl k l) (h0:0≤i) (hi:i < l.length):jr zi 33 (by_ k l) (.int ki i) S=some (EP [.int .u8 (l[i.toNat]'(by omega)).toNat],S):=akp xZ Qo abD h h0 hi
theorem Wv {fx:Bool} {v:Value} {S:zx}:jl zi fx 5 (EP [v]) S=some (v,S):=Xo ajs
theorem adw {k:Nat} {l:List UInt8} {S:zx} {lo hi:Option Value} {i j:Int} (h:Okl k l) (hlo:ZA 0 lo=some i) (hhi:ZA l.length hi=some j) (h0:0≤i) (hij:i≤j) (hj:j≤l.length):Z9 zi 33 (by_ k l) lo hi S=some (by_ (if k=2 then 1 else k) ((l.drop i.toNat).take (j.toNat - i.toNat)),S):=adB xZ Qo abD h hlo hhi h0 hij hj
theorem xu {k:Nat} {l:List UInt8} {S:zx} {j:Nat} {m:List UInt8} (h:Okl k l) (hk:k≠1) (hm:Okl j m) (hl:l.length+m.length≤140737488355328):yB zi 33 33 (by_ k l) (by_ j m) S=some (by_ (if k=0∧m.length=0 then 0 else 2) (l++m),S):=Xz xZ Qo agt rfl aft (by omega) xZ abD ak0 h hk hm (by omega) (by omega)
theorem ajv {k:Nat} {l:List UInt8} {S:zx} (h:Okl k l) (hl:l.length≤140737488355328):yB zi 33 33 (by_ 2 []) (by_ k l) S=some (by_ 2 l,S):=by
 rw [xu Okl.own (by decide) h (by simpa using hl)];rfl
theorem aht {k:Nat} {l:List UInt8} {S:zx} (h:Okl k l):wH zi .eql 33 (by_ k l) (.slice none 0 0) S=some (.bool (decide (k=0)),S):=ac9 xZ h
theorem Kt {k:Nat} {l:List UInt8} {S:zx} (h:Okl k l):Jv zi 33 9 (by_ k l) S=some (.string ⟨l.toArray⟩,S):=agG xZ aaF aal h
theorem Vq {k:Nat} {l:List Int} {S:zx} (h:Okl k l):ZY zi 24 (iz k l) S=some (goInt l.length,S):=afI Yp h
theorem acS {k:Nat} {l:List Int} {S:zx} {ki:IntKind} {i:Int} (h:Okl k l) (h0:0≤i) (hi:i < l.length):jr zi 24 (iz k l) (.int ki i) S=some (EP [.int .i64 (l[i.toNat]'(by omega))],S):=akp Yp abx ajd h h0 hi
theorem qA {fx:Bool} {v:Value} {S:zx}:jl zi fx 3 (EP [v]) S=some (v,S):=Xo ZW
theorem Ky {k:Nat} {l:List Int} {S:zx} {j:Nat} {m:List Int} (h:Okl k l) (hk:k≠1) (hm:Okl j m) (hl:l.length+m.length≤17592186044416):yB zi 24 24 (iz k l) (iz j m) S=some (iz (if k=0∧m.length=0 then 0 else 2) (l++m),S):=Xz Yp abx ak9 rfl alc (by omega) Yp ajd ak2 h hk hm (by omega) (by omega)
theorem ahy {k:Nat} {l:List Int} {S:zx} (h:Okl k l):wH zi .eql 24 (iz k l) (.slice none 0 0) S=some (.bool (decide (k=0)),S):=ac9 Yp h
theorem wk:type_of% (alY @VD (alY @Y1 (alY @QF (alY @Xy (alY @X0 (alY @Xm (alY @KF (alY @KW (alY @QE (alY @aaY (alY @KJ (alY @aa1 (alY @adD (alY @Y0 (alY @Vl (alY @Xt (alY @X4 (alY @KH (alY @KE (alY @aiB (alY @ai8 (alY @aiN (alY @aiL (alY @ajg (alY @ach (alY @aci (alY @afv (alY @afl (alY @agV (alY @adb (alY @QI (alY @xX (alY @Bool.and_true (alY @Bool.true_and (alY @Bool.and_self (alY @adR (alY @Ja (alY @Vm (alY @aa8 (alY @KN (alY @aiZ (alY @aja (alY @ai0 (alY @ai9 (alY @akC (alY @akT (alY @ak6 (alY @akQ (alY @akP (alY @ai2 (alY @ajj (alY @aiR (alY @aiF (alY @aji (alY @afF (alY @XR (alY @Bool.false_eq_true (alY @adO (alY @ae7 (alY @VA (alY @abj (alY @abd (alY @aiS (alY @abu (alY @aiP (alY @Xv (alY @agU (alY @ads (alY @Vx (alY @agE (alY @afZ (alY @ac6 (alY @Kw (alY @abz (alY @afa (alY @Vz (alY @ac3 (alY @VY (alY @adM (alY @KY (alY @abL (alY @abk (alY @Vj (alY @YF (alY @Yn (alY @Xg (alY @YM (alY @Qs (alY @Vf (alY @Yj (alY @Yo (alY @Yi (alY @aaf (alY @aaw (alY @YV (alY @VQ (alY @V3 (alY @VX (alY @VZ (alY @VF (alY @aaT (alY @aha (alY @Bool.not_true (alY @Bool.not_false (alY @Bool.true_eq_false (alY @decide_true (alY @decide_false (alY @agv (alY @aff (alY @afr (alY @agd (alY @agP (alY @afc (alY @agK (alY @afm (alY @agn (alY @agO (alY @agS (alY @afL (alY @ag1 (alY @afo (@afp)))))))))))))))))))))))))))))))))))))))))))))))))))))))))))))))))))))))))))))))))))))))))))))))))))))))))))))))))))))))))):=alY @VD (alY @Y1 (alY @QF (alY @Xy (alY @X0 (alY @Xm (alY @KF (alY @KW (alY @QE (alY @aaY (alY @KJ (alY @aa1 (alY @adD (alY @Y0 (alY @Vl (alY @Xt (alY @X4 (alY @KH (alY @KE (alY @aiB (alY @ai8 (alY @aiN (alY @aiL (alY @ajg (alY @ach (alY @aci (alY @afv (alY @afl (alY @agV (alY @adb (alY @QI (alY @xX (alY @Bool.and_true (alY @Bool.true_and (alY @Bool.and_self (alY @adR (alY @Ja (alY @Vm (alY @aa8 (alY @KN (alY @aiZ (alY @aja (alY @ai0 (alY @ai9 (alY @akC (alY @akT (alY @ak6 (alY @akQ (alY @akP (alY @ai2 (alY @ajj (alY @aiR (alY @aiF (alY @aji (alY @afF (alY @XR (alY @Bool.false_eq_true (alY @adO (alY @ae7 (alY @VA (alY @abj (alY @abd (alY @aiS (alY @abu (alY @aiP (alY @Xv (alY @agU (alY @ads (alY @Vx (alY @agE (alY @afZ (alY @ac6 (alY @Kw (alY @abz (alY @afa (alY @Vz (alY @ac3 (alY @VY (alY @adM (alY @KY (alY @abL (alY @abk (alY @Vj (alY @YF (alY @Yn (alY @Xg (alY @YM (alY @Qs (alY @Vf (alY @Yj (alY @Yo (alY @Yi (alY @aaf (alY @aaw (alY @YV (alY @VQ (alY @V3 (alY @VX (alY @VZ (alY @VF (alY @aaT (alY @aha (alY @Bool.not_true (alY @Bool.not_false (alY @Bool.true_eq_false (alY @decide_true (alY @decide_false (alY @agv (alY @aff (alY @afr (alY @agd (alY @agP (alY @afc (alY @agK (alY @afm (alY @agn (alY @agO (alY @agS (alY @afL (alY @ag1 (alY @afo (@afp)))))))))))))))))))))))))))))))))))))))))))))))))))))))))))))))))))))))))))))))))))))))))))))))))))))))))))))))))))))))))
theorem zSs:type_of% (alY wk (alY (@List.getD_cons_succ Value) (alY (@List.getD_cons_zero Value) (alY @if_true.{1} (alY @if_false.{1} (alY (@List.getElem?_cons_succ Value) (alY (@List.getElem?_cons_zero Value) (alY @Option.map_some.{0,0} @eq_self.{1})))))))):=alY wk (alY (@List.getD_cons_succ Value) (alY (@List.getD_cons_zero Value) (alY @if_true.{1} (alY @if_false.{1} (alY (@List.getElem?_cons_succ Value) (alY (@List.getElem?_cons_zero Value) (alY @Option.map_some.{0,0} @eq_self.{1})))))))
end Go.Proofs.Ytfjogganfjkckaa
namespace Go.Proofs.Ytfjogganfjkckaa
open Go.Abs
theorem bz0 (S:zx):jU zi 24 0 [] S=some (iz 2 [],S):=by rw [Vp];rfl
theorem ahN (x:Int):sv 2 1 1 [.int .i64 x]=iz 2 [x]:=rfl
theorem af6 {k:Nat} {l:List Int} {x:Int} {S:zx} (h:Okl k l) (hk:k≠1) (hl:l.length≤17592186044000):yB zi 24 24 (iz k l) (iz 2 [x]) S=some (iz 2 (l++[x]),S):=by
 rw [Ky h hk Okl.own (by simp;omega),if_neg (fun h=>by have:=h.2;simp at this)]
end Go.Proofs.Ytfjogganfjkckaa
