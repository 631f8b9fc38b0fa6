/-
The law GateOnce returns true for every input, and leaves it as it was; no condition. Part 3 of 7 of the texts (put together by a program: own names are short, what isn't needed is left out).
-/
import Derived.Test.YtfjogganfjkckaaZGateOnce2
import Derived.KernelRfl
import Derived.Test.YtfjogganfjkckaaChecked
set_option linter.unusedVariables false
set_option linter.unusedSimpArgs false
set_option maxRecDepth 100000
open Go renaming undef → zh
open Go.Proofs.Try renaming prog → zi
namespace Go.Abs
open Go.RowKit
def QS (P:Program) (call:FuncId→List Value→M Value):Prop:=∀ g args aargs S v S',call g args S=some (v,S')→∀ μ H ω,GI μ S H→L0 μ H args aargs→Dom μ H ω→(∀ r s,ω r=some s→s=.ext) →
 ∃ a H' μ' ω',lim P g aargs H=some (a,H')∧GI μ' S' H'∧Later μ H μ' H'∧Kept ω H ω' H'∧Dom μ' H' ω'∧VV μ' H' ω' (some (.res none)) v a
section
variable {P:Program} {call:FuncId→List Value→M Value} {μ:Mu} {ω:Nat→Option xB} {S S' H:zy} {T A:List Value}
theorem ah9 (hc:QS P call) {g:FuncId} {args aargs:List Value} {v:Value} (hG:GI μ S H) (hT:TI μ H ω T A) (h:call g args S=some (v,S')) (ha:L0 μ H args aargs):Out μ ω H A T S' v (lim P g aargs H):=by
 obtain ⟨a,H',μ',ω',h1,h2,h3,h4,h5,h6⟩:=hc g args aargs S v S' h μ H (fun r=>(ω r).map fun _=>.ext) hG ha (fun r s hs=>by
  cases hr:ω r with
  | none=>simp [hr] at hs
  | some s0=>exact hT.dom r s0 hr) (fun r s hs=>by
  cases hr:ω r with
  | none=>simp [hr] at hs
  | some s0=>simp [hr] at hs;exact hs.symm)
 have kept:∀ r s,ω r=some s→ω' r=some .ext∧H'.get r=H.get r:=fun r s hs=>h4 r (by dsimp only;rw [hs];rfl)
 refine ⟨a,H',μ',fun r=>match ω' r with | some .ext=>ω r | some (.slot _ _)=>none | x=>x,h1,h2,h3,fun r hr=>?_,fun r s hs=>?_,hT.len,fun i=>?_,?_⟩
 ·
  obtain ⟨k1,k2⟩:=kept r _ hr
  exact ⟨by (try dsimp only);rw [k1];exact hr,k2⟩
 ·
  dsimp only at hs
  cases hr:ω' r with
  | none=>rw [hr] at hs;cases hs
  | some s0 =>
   have:=h5 r s0 hr
   exact this
 ·
  refine (hT.slots i).later h3 (K:=fun _=>True) (fun _ _ _ _ _=>trivial) (fun r s _ hr=>?_) (fun _ _=>trivial)
  obtain ⟨k1,k2⟩:=kept r s hr
  exact ⟨by (try dsimp only);rw [k1];exact hr,k2⟩
 ·
  refine h6.later (Later.refl _ _) (K:=fun s=>∃ j,s=.res j) (fun s i t ⟨j,hj⟩ ht=>by subst hj;cases j <;> cases ht;exact ⟨_,rfl⟩) (fun r s ⟨j,hj⟩ hr=>?_) (fun s hs=>by cases hs;exact ⟨_,rfl⟩)
  subst hj
  exact ⟨by (try dsimp only);rw [hr],rfl⟩
def YB (t:Nat):xB→Option xB
 | .slot i j=>if i=t then some (.res j) else some (.slot i j)
 | s=>some s
def Q8 (t k:Nat):xB→Option xB
 | .slot i (some j)=>if i=t∧j=k then some (.res none) else some (.slot i (some j))
 | s=>some s
theorem adB {x:Operand} (hG:GI μ S H) (hT:TI μ H ω T A) (hx:vS x=true):Out μ ω H A (kD T x) S (wK T x) (some (wK A x,H)):=by
 cases x with
 | const v=>exact Out.same hG hT (VV.kH hx)
 | global g=>cases hx
 | func f=>exact Out.same hG hT (hT.eval (x:=.func f) rfl)
 | tmp t =>
  refine ⟨_,H,μ,fun r=>(ω r).bind (YB t),rfl,hG,Later.refl μ H,fun r hr=>⟨by dsimp only;rw [hr];rfl,rfl⟩,fun r s hs=>?_,by simp [kD,vN,hT.len],fun i=>?_,?_⟩
  ·
   dsimp only at hs
   cases hr:ω r with
   | none=>rw [hr] at hs;cases hs
   | some s0=>exact hT.dom r s0 hr
  ·
   dsimp only [kD,vN]
   rw [xA]
   by_cases hi:i=t
   ·
    subst hi
    by_cases hlt:i < T.length
    ·
     rw [if_pos ⟨rfl,hlt⟩]
     exact (hT.slots i).v0.at0
    ·
     rw [if_neg (fun h=>hlt h.2)]
     rw [List.getD_eq_getElem?_getD,List.getElem?_eq_none (Nat.le_of_not_lt hlt),List.getD_eq_getElem?_getD,List.getElem?_eq_none (by rw [← hT.len];omega)]
     exact .nores
   ·
    rw [if_neg (fun h=>hi h.1)]
    refine (hT.slots i).VY (fun _=>rfl) _ (fun s hs=>?_)
    cases hs
    refine ⟨_,rfl,by simp only [YB];rw [if_neg hi],fun k t' ht=>?_⟩
    cases ht
    exact ⟨_,rfl,by simp only [YB];rw [if_neg hi]⟩
  ·
   refine (hT.slots t).VY (fun _=>rfl) _ (fun s hs=>?_)
   cases hs
   refine ⟨_,rfl,by simp only [YB,if_true],fun k t' ht=>?_⟩
   cases ht
   exact ⟨_,rfl,by simp only [YB,if_true]⟩
theorem getD_modify (vs:Array Value) (i k:Nat) (f:Value→Value) (hf:f zh=zh):(vs.modify i f).getD k zh=if k=i then f (vs.getD k zh) else vs.getD k zh:=by
 rw [Array.getD_eq_getD_getElem?,Array.getD_eq_getD_getElem?,Array.getElem?_modify]
 by_cases h:i=k
 ·
  subst h
  rw [if_pos rfl,if_pos rfl]
  cases vs[i]? with
  | none=>exact hf.symm
  | some v=>rfl
 ·
  rw [if_neg h,if_neg (fun e=>h e.symm)]
theorem VV.part {ω':Nat→Option xB} {ℓ ℓ':Option xB} {v a:Value} (h:VV μ H ω ℓ v a) (hℓ:∀ s,ℓ=some s→∀ k,s.comp k=none):VV μ H ω' ℓ' (Go.Abs.vV v) a:=by
 by_cases ht:∃ x,v=.tuple x
 ·
  obtain ⟨x,rfl⟩:=ht
  show VV μ H ω' ℓ' (.tuple x) a
  cases h with
  | sg hs=>simp [Go.Abs.sg] at hs
  | nores=>exact .nores
  | tuple hx hh =>
   refine .tuple hx fun i=>?_
   have:=hh i
   cases ℓ with
   | none=>exact this.at0
   | some s =>
    have e:(some s).bind (·.comp i)=none:=hℓ s rfl i
    rw [e] at this
    exact this.at0
 ·
  have e:Go.Abs.dem v=Go.Abs.vV v:=by
   cases v <;> first | rfl | exact absurd ⟨_,rfl⟩ ht
  rw [← e]
  exact h.v0.at0
def Qi (T:List Value) (i:Nat):Operand→List Value
 | .tmp t=>T.set t (zV i (T.getD t zh))
 | _=>T
theorem acW {x:Operand} {i:Nat} {v:Value} (hG:GI μ S H) (hT:TI μ H ω T A) (hx:vS x=true) (h:jc (wK T x) i S=some (v,S')) :
  Out μ ω H A (Qi T i x) S' v (jc (wK A x) i H):=by
 cases x with
 | const w =>
  exfalso
  unfold jc at h
  split at h
  ·
   rename_i vs he
   simp only [wK] at he
   subst he
   simp [vS,ground,Go.Abs.sg] at hx
  ·
   cases h
 | global g=>cases hx
 | func f=>simp [wK,jc] at h
 | tmp t =>
  simp only [wK,Qi] at h ⊢
  unfold jc at h
  split at h
  ·
   rename_i vs hvs
   split at h <;> first | (cases h;done) | skip
   rename_i w hw
   cases h
   have hs:=hT.slots t
   rw [hvs] at hs
   have hil:i < vs.size:=(Array.getElem?_eq_some_iff.1 hw).1
   have hlt:t < T.length:=by
    rcases Nat.lt_or_ge t T.length with h | h
    ·
     exact h
    ·
     rw [List.getD_eq_getElem?_getD,List.getElem?_eq_none h] at hvs
     cases hvs
     simp at hil
   generalize hA:A.getD t zh=at' at hs
   cases hs with
   | sg hs=>simp [Go.Abs.sg] at hs
   | nores=>simp at hil
   | @tuple _ _ y hxs hxx =>
    have hiy:i < y.size:=by rw [← hxs];exact hil
    have hrun:jc (.tuple y) i H=some (y[i],H):=by simp only [jc,Array.getElem?_eq_getElem hiy]
    rw [hrun]
    have hcomp:=hxx i
    rw [Array.getD_eq_getD_getElem?,hw,Array.getD_eq_getD_getElem?,Array.getElem?_eq_getElem hiy] at hcomp
    simp only [Option.getD_some] at hcomp
    refine ⟨_,H,μ,fun r=>(ω r).bind (Q8 t i),rfl,hG,Later.refl μ H,fun r hr=>⟨by dsimp only;rw [hr];rfl,rfl⟩,fun r s hs=>?_,by simp [hT.len],fun k=>?_,?_⟩
    ·
     dsimp only at hs
     cases hr:ω r with
     | none=>rw [hr] at hs;cases hs
     | some s0=>exact hT.dom r s0 hr
    ·
     rw [xA]
     by_cases hk:k=t
     ·
      subst hk
      rw [if_pos ⟨rfl,hlt⟩,hA,hvs]
      simp only [zV]
      refine .tuple (by simpa using hxs) fun j=>?_
      rw [getD_modify _ _ _ _ rfl]
      by_cases hj:j=i
      ·
       subst hj
       rw [if_pos rfl]
       exact (hxx j).part (fun s hs k=>by cases hs;rfl)
      ·
       rw [if_neg hj]
       refine (hxx j).VY (fun _=>rfl) _ (fun s hs=>?_)
       cases hs
       refine ⟨_,rfl,by simp only [Q8];rw [if_neg (fun e=>hj e.2)],fun a b hb=>by cases hb⟩
     ·
      rw [if_neg (fun e=>hk e.1)]
      refine (hT.slots k).VY (fun _=>rfl) _ (fun s hs=>?_)
      cases hs
      refine ⟨_,rfl,rfl,fun a b hb=>?_⟩
      cases hb
      exact ⟨_,rfl,by simp only [Q8];rw [if_neg (fun e=>hk e.1)]⟩
    ·
     refine hcomp.VY (fun _=>rfl) _ (fun s hs=>?_)
     cases hs
     exact ⟨_,rfl,by simp [Q8],fun a b hb=>by cases hb⟩
  ·
   cases h
theorem ajn (hT:TI μ H ω T A):∀ (xs:List Operand),xs.all vS=true→L0 μ H (xs.map fun x=>dem (wK T x)) (xs.map (wK A)):=by
 intro xs h
 exact LV.map fun x hx=>hT.eval (List.all_eq_true.1 h x hx)
theorem KW {xs:List Operand} (hT:TI μ H ω T A) (h:xs.all vS=true) (hg:(xs.map (wK T)).all ground=true):xs.map (wK A)=xs.map (wK T):=by
 apply List.map_congr_left
 intro x hx
 exact yj (hT.eval (List.all_eq_true.1 h x hx)) (List.all_eq_true.1 hg _ (List.mem_map.2 ⟨x,hx,rfl⟩))
theorem ahB {o:Oper} (h:hands o=false) (hc:∀ c,o.op≠.call c):moved o T=T:=by
 unfold moved
 unfold hands at h
 split <;> first | rfl | (rename_i he;exact absurd he (hc _)) | (rename_i he;rw [he] at h;cases h)
theorem ah5 {fx:Fx} (hc:QS P call) {o:Oper} {v:Value} (hG:GI μ S H) (hT:TI μ H ω T A) (h:kC P fx call T o S=some (v,S')):Out μ ω H A (moved o T) S' v (kM P (lim P) A o H):=by
 unfold kC at h
 split at h <;> first | (cases h;done) | skip
 rename_i hok
 unfold kM
 rw [if_pos hok]
 have hargs:o.op.operands.toList.all vS=true:=hok
 have hev:∀ x ∈ o.op.operands.toList,V0 μ H (dem (wK T x)) (wK A x):=fun x hx=>hT.eval (List.all_eq_true.1 hargs x hx)
 have hoka:∀ x ∈ o.op.operands.toList,vS x=true:=fun x hx=>List.all_eq_true.1 hargs x hx
 obtain ⟨dst,op,type,pos,after,guard⟩:=o
 by_cases hcall:∃ c,op=.call c
 ·
  obtain ⟨c,rfl⟩:=hcall
  dsimp only at h hev hoka hargs ⊢
  have hcargs:c.args.toList.all vS=true:=by
   rw [List.all_eq_true]
   intro x hx
   refine hoka x ?_
   simp only [Op.operands,Call.operands]
   cases c.callee <;> simp <;> first | exact .inr (by simpa using hx) | exact (by simpa using hx)
  cases hcal:c.callee with
  | value f =>
   rw [hcal] at h
   dsimp only at h ⊢
   have hf:=hev f (by simp [Op.operands,Call.operands,hcal])
   split at h <;> first | (cases h;done) | skip
   rename_i g first captured hfe
   rw [hfe] at hf
   have hf:V0 μ H (.func (.func g) first captured) (wK A f):=hf
   generalize hfa:wK A f=fa at hf
   cases hf with
   | sg hs=>simp [Go.Abs.sg] at hs
   | func _ hx hcs h1 h2 =>
    rename_i x' c'
    dsimp only
    have l1:L0 μ H first.toList x'.toList:=⟨by simpa using hx,fun i=>by rw [getD_toList,getD_toList];exact h1 i⟩
    have l2:L0 μ H captured.toList c'.toList:=⟨by simpa using hcs,fun i=>by rw [getD_toList,getD_toList];exact h2 i⟩
    have hm:moved ⟨dst,.call c,type,pos,after,guard⟩ T=T:=by simp only [moved,hcal]
    rw [hm]
    exact ah9 hc hG hT h ((l1.append (ajn hT _ hcargs)).append l2)
  | invoke r m=>rw [hcal] at h;cases h
  | builtin b =>
   rw [hcal] at h
   dsimp only at h ⊢
   unfold aaI at h
   unfold ZH
   cases b <;> dsimp only at h ⊢ <;> first | (cases h;done) | skip
   case len =>
    split at h <;> first | (cases h;done) | skip
    rename_i t x0 ht ha
    obtain ⟨x,hx,rfl⟩:∃ x,c.args.toList=[x]∧wK T x=x0:=by
     match hl:c.args.toList with
     | []=>rw [hl] at ha;cases ha
     | [y]=>rw [hl] at ha;simp at ha;exact ⟨y,rfl,ha⟩
     | y::z::w=>rw [hl] at ha;simp at ha
    have hm:moved ⟨dst,.call c,type,pos,after,guard⟩ T=T:=by simp only [moved,hcal]
    rw [hm,ht,hx]
    rw [hx] at hcargs
    obtain ⟨rfl,a,h1,h2⟩:=afh h (hT.eval (List.all_eq_true.1 hcargs x (by simp)))
    simp only [List.map_cons,List.map_nil]
    rw [h1]
    exact Out.same hG hT h2
   case append =>
    split at h <;> first | (cases h;done) | skip
    rename_i t tx s0 x0 ht ha
    obtain ⟨so,x,hx,rfl,rfl⟩:∃ so x,c.args.toList=[so,x]∧wK T so=s0∧wK T x=x0:=by
     match hl:c.args.toList with
     | []=>rw [hl] at ha;cases ha
     | [y]=>rw [hl] at ha;simp at ha
     | [y,z]=>rw [hl] at ha;simp at ha;exact ⟨y,z,rfl,ha.1,ha.2⟩
     | y::z::w::u=>rw [hl] at ha;simp at ha
    rw [hx] at hcargs
    have hso:=List.all_eq_true.1 hcargs so (by simp)
    have hm:moved ⟨dst,.call c,type,pos,after,guard⟩ T=kD T so:=by
     simp only [moved,hcal,hx]
     cases so <;> rfl
    rw [hm,ht,hx]
    exact aef hG hT hso h (hT.eval (List.all_eq_true.1 hcargs x (by simp)))
   case copy =>
    split at h <;> first | (cases h;done) | skip
    rename_i t tx s0 x0 ht ha
    obtain ⟨so,x,hx,rfl,rfl⟩:∃ so x,c.args.toList=[so,x]∧wK T so=s0∧wK T x=x0:=by
     match hl:c.args.toList with
     | []=>rw [hl] at ha;cases ha
     | [y]=>rw [hl] at ha;simp at ha
     | [y,z]=>rw [hl] at ha;simp at ha;exact ⟨y,z,rfl,ha.1,ha.2⟩
     | y::z::w::u=>rw [hl] at ha;simp at ha
    rw [hx] at hcargs
    have hm:moved ⟨dst,.call c,type,pos,after,guard⟩ T=T:=by simp only [moved,hcal]
    rw [hm,ht,hx]
    exact ahh hG hT h (hT.eval (List.all_eq_true.1 hcargs so (by simp))) (hT.eval (List.all_eq_true.1 hcargs x (by simp)))
   case clear =>
    split at h <;> first | (cases h;done) | skip
    rename_i t x0 ht ha
    obtain ⟨x,hx,rfl⟩:∃ x,c.args.toList=[x]∧wK T x=x0:=by
     match hl:c.args.toList with
     | []=>rw [hl] at ha;cases ha
     | [y]=>rw [hl] at ha;simp at ha;exact ⟨y,rfl,ha⟩
     | y::z::w=>rw [hl] at ha;simp at ha
    have hm:moved ⟨dst,.call c,type,pos,after,guard⟩ T=T:=by simp only [moved,hcal]
    rw [hm,ht,hx]
    rw [hx] at hcargs
    exact afA hG hT h (hT.eval (List.all_eq_true.1 hcargs x (by simp)))
   case min =>
    obtain ⟨rfl,hg,hga,hh⟩:=qR (H:=H) h
    have hm:moved ⟨dst,.call c,type,pos,after,guard⟩ T=T:=by simp only [moved,hcal]
    rw [hm,KW hT hcargs hga,hh]
    exact Out.same hG hT (V0.ground hg)
   case max =>
    obtain ⟨rfl,hg,hga,hh⟩:=qR (H:=H) h
    have hm:moved ⟨dst,.call c,type,pos,after,guard⟩ T=T:=by simp only [moved,hcal]
    rw [hm,KW hT hcargs hga,hh]
    exact Out.same hG hT (V0.ground hg)
 ·
  have hnc:∀ c,op≠.call c:=fun c hc=>hcall ⟨c,hc⟩
  have hV:vOp P fx (wK T) ⟨dst,op,type,pos,after,guard⟩ S=some (v,S'):=by
   cases op <;> first | exact h | exact absurd rfl (hnc _)
  suffices hs:Out μ ω H A (moved ⟨dst,op,type,pos,after,guard⟩ T) S' v (aOp P (wK A) ⟨dst,op,type,pos,after,guard⟩ H) by
   cases op <;> first | exact hs | exact absurd rfl (hnc _)
  by_cases hh:hands ⟨dst,op,type,pos,after,guard⟩=true
  ·
   cases op <;> first | (cases hh;done) | skip
   case move x =>
    cases hV
    have:=adB hG hT (hoka x (by simp [Op.operands]))
    have hm:moved ⟨dst,.move x,type,pos,after,guard⟩ T=kD T x:=by cases x <;> rfl
    rw [hm];exact this
   case assign x =>
    cases hV
    have:=adB hG hT (hoka x (by simp [Op.operands]))
    have hm:moved ⟨dst,.assign x,type,pos,after,guard⟩ T=kD T x:=by cases x <;> rfl
    rw [hm];exact this
   case extract x i =>
    have:=acW hG hT (hoka x (by simp [Op.operands])) hV
    have hm:moved ⟨dst,.extract x i,type,pos,after,guard⟩ T=(Qi T i x):=by cases x <;> rfl
    rw [hm];exact this
  ·
   have hh:hands ⟨dst,op,type,pos,after,guard⟩=false:=by simpa using hh
   rw [ahB hh hnc]
   by_cases hch:J5 P ⟨dst,op,type,pos,after,guard⟩=false
   ·
    obtain ⟨rfl,a,h1,h2,h3⟩:=abp hV hch hev (.inr hG) (.inr hG)
    rw [h1]
    exact Out.same hG hT (h3 hh)
   ·
    unfold vOp at hV
    unfold aOp
    cases op <;> dsimp only at hV hev ⊢ <;> first | (cases hV;done) | (exact absurd rfl hch) | (cases hh;done) | skip
    case alloc e=>exact afv hG hT hV
    case box x _=>exact ajb hG hT hV (hev x (by simp [Op.operands]))
    case buildSlice t len parts _ =>
     have hps:=abt (μ:=μ) (H:=H) (parts:=parts.toList) (ρ:=wK T) (ρA:=wK A) fun p hp=>hev p.2 (by simp [Op.operands];exact ⟨p.1,by simpa using hp⟩)
     split at hV
     ·
      exact abw hG hT hV hps
     ·
      exact XI hG hT hV hps
    case makeMap t r _=>exact acS hG hT hV (fun h=>by cases r <;> simp at h ⊢)
    case mapUpdate t x k w _=>exact aag hG hT hV (hev x (by simp [Op.operands])) (hev k (by simp [Op.operands])) (hev w (by simp [Op.operands]))
    case store a x _=>exact af5 hG hT hV (hev a (by simp [Op.operands])) (hev x (by simp [Op.operands]))
    case makeSlice l c _ =>
     split at hV
     ·
      exact abV hG hT hV (hev l (by simp [Op.operands])) (hev c (by simp [Op.operands]))
     ·
      exact aau hG hT hV (hev l (by simp [Op.operands])) (hev c (by simp [Op.operands]))
    case convert dst' x _ =>
     have hd:∃ e,P.underlying dst'=some (.slice e):=by
      unfold J5 at hch
      dsimp only at hch
      split at hch
      ·
       exact ⟨_,by assumption⟩
      ·
       exact absurd rfl hch
     obtain ⟨e,hd⟩:=hd
     cases x with
     | tmp t=>exact Xu hG hT hV (hT.slots t) hd
     | const w=>exact Xu hG hT hV (VV.kH (ℓ:=none) (hoka (.const w) (by simp [Op.operands]))) hd
     | global g=>have:=hoka (.global g) (by simp [Op.operands]);cases this
     | func f=>exact Xu hG hT hV (ℓ:=none) ((hT.eval (x:=.func f) rfl).at0) hd
theorem ae9 {ops:Array Oper} (hT:TI μ H ω T A) (j:Nat):ynd ops T j=ynd ops A j:=by
 unfold ynd
 cases hd:(ops[j]?).bind (·.dst) with
 | none=>rfl
 | some d =>
  simp only [Option.bind_some]
  have:=hT.slots d
  have e:=hT.len
  by_cases hlt:d < T.length
  ·
   have hlt':d < A.length:=by rw [← e];exact hlt
   simp only [List.getD_eq_getElem?_getD,List.getElem?_eq_getElem hlt,List.getElem?_eq_getElem hlt',Option.getD_some] at this
   rw [List.getElem?_eq_getElem hlt,List.getElem?_eq_getElem hlt']
   generalize T[d]=u at *
   generalize A[d]=u' at *
   cases this <;> rfl
  ·
   have hlt':A.length≤d:=by rw [← e];exact Nat.le_of_not_lt hlt
   rw [List.getElem?_eq_none (Nat.le_of_not_lt hlt),List.getElem?_eq_none hlt']
theorem TI.moved (hT:TI μ H ω T A) (o:Oper):TI μ H ω (moved o T) A:=by
 have slot:∀ t,TI μ H ω (vN T t) A:=by
  intro t
  refine ⟨by simp [vN,hT.len],fun i=>?_,hT.dom,hT.nores⟩
  rw [vN,xA]
  split
  ·
   rename_i h;rw [h.1];exact (hT.slots t).dem
  ·
   exact hT.slots i
 unfold Go.Abs.moved
 split
 ·
  exact slot _
 ·
  exact slot _
 ·
  rename_i t i _
  refine ⟨by simp [hT.len],fun k=>?_,hT.dom,hT.nores⟩
  rw [xA]
  split
  ·
   rename_i h
   rw [h.1]
   have:=hT.slots t
   generalize T.getD t zh=w at this
   cases w with
   | tuple vs =>
    simp only [zV]
    generalize A.getD t zh=a at this
    cases this with
    | sg hs=>simp [Go.Abs.sg] at hs
    | nores=>rw [show (#[]:Array Value).modify i Go.Abs.vV=#[] by simp];exact .nores
    | @tuple _ _ y hxs hxx =>
     refine .tuple (by simpa using hxs) fun j=>?_
     rw [getD_modify _ _ _ _ rfl]
     by_cases hj:j=i
     ·
      subst hj
      rw [if_pos rfl]
      exact (hxx j).part (fun s hs k=>by cases hs;rfl)
     ·
      rw [if_neg hj];exact hxx j
   | _=>exact this
  ·
   exact hT.slots k
 ·
  split
  ·
   exact slot _
  ·
   exact hT
 ·
  exact hT
def After (μ:Mu) (ω:Nat→Option xB) (H:zy) (T':List Value) (S':zy) (R:Option (List Value×zy)):Prop :=
 ∃ A' H' μ' ω',R=some (A',H')∧GI μ' S' H'∧Later μ H μ' H'∧Kept ω H ω' H'∧TI μ' H' ω' T' A'
theorem adA {fx:Fx} (hc:QS P call) {o:Oper} {rest:List Oper} {v:Value} (hG:GI μ S H) (hT:TI μ H ω T A) (h:kC P fx call T o S=some (v,S')) :
  ∃ a H' μ' ω',kM P (lim P) A o H=some (a,H')∧GI μ' S' H'∧Later μ H μ' H'∧Kept ω H ω' H'∧TI μ' H' ω' (JA o rest T v) (YO A o.dst a):=by
 unfold JA
 split
 ·
  rename_i hl
  have hm:∃ x,o.op=.move x:=by
   unfold alq at hl
   split at hl
   ·
    rename_i x _ he _;exact ⟨x,he⟩
   ·
    cases hl
  obtain ⟨x,hx⟩:=hm
  unfold kC at h
  split at h <;> first | (cases h;done) | skip
  rename_i hok
  have hox:vS x=true:=List.all_eq_true.1 (show o.op.operands.toList.all vS=true from hok) x (by rw [hx];simp [Op.operands])
  rw [hx] at h
  dsimp only at h
  unfold vOp at h
  rw [hx] at h
  cases h
  have ha:kM P (lim P) A o H=some (wK A x,H):=by
   unfold kM
   rw [if_pos hok,hx]
   dsimp only
   unfold aOp
   rw [hx]
   rfl
  rw [ha]
  exact (Out.same hG hT (hT.eval hox)).put o.dst
 ·
  exact (ah5 hc hG hT h).put o.dst
theorem QL {o:Oper} {rest:List Oper} (hG:GI μ S H) (hT:TI μ H ω T A):∃ μ' ω',GI μ' S H∧Later μ H μ' H∧Kept ω H ω' H∧TI μ' H ω' (JA o rest T zh) (YO A o.dst zh):=by
 unfold JA
 split
 ·
  rw [show dem zh=zh from WC]
  obtain ⟨a,H1,μ1,ω1,h1,h2,h3,h4,h5⟩:=(Out.same hG hT (VV.zh)).put o.dst
  cases h1
  exact ⟨μ1,ω1,h2,h3,h4,h5⟩
 ·
  obtain ⟨a,H1,μ1,ω1,h1,h2,h3,h4,h5⟩:=(Out.same hG (hT.moved o) (VV.zh)).put o.dst
  cases h1
  exact ⟨μ1,ω1,h2,h3,h4,h5⟩
theorem ajI {fx:Fx} (hc:QS P call) {ops:Array Oper}:∀ (l:List Oper) (T T' A:List Value) (S S' H:zy) (μ:Mu) (ω:Nat→Option xB),jD P fx call ops l T S=some (T',S')→GI μ S H→TI μ H ω T A→After μ ω H T' S' (abP P (lim P) ops l A H):=by
 intro l
 induction l with
 | nil =>
  intro T T' A S S' H μ ω h hG hT
  simp only [jD,Option.some.injEq,Prod.mk.injEq] at h
  obtain ⟨rfl,rfl⟩:=h
  exact ⟨A,H,μ,ω,rfl,hG,Later.refl _ _,Kept.refl _ _,hT⟩
 | cons o l ih =>
  intro T T' A S S' H μ ω h hG hT
  have hy:(ynd ops T)=ynd ops A:=funext fun j=>ae9 hT j
  simp only [jD] at h
  simp only [abP,← hy]
  split at h
  ·
   rename_i hw
   split at h
   ·
    rename_i v S1 hs
    obtain ⟨a,H1,μ1,ω1,h1,h2,h3,h4,h5⟩:=adA (rest:=l) hc hG hT hs
    obtain ⟨A2,H2,μ2,ω2,k1,k2,k3,k4,k5⟩:=ih _ _ _ _ _ _ _ _ h h2 h5
    refine ⟨A2,H2,μ2,ω2,?_,k2,h3.trans k3,h4.trans k4,k5⟩
    rw [if_pos hw,h1]
    exact k1
   ·
    cases h
  ·
   rename_i hw
   obtain ⟨μ1,ω1,h2,h3,h4,h5⟩:=QL (o:=o) (rest:=l) hG hT
   obtain ⟨A2,H2,μ2,ω2,k1,k2,k3,k4,k5⟩:=ih _ _ _ _ _ _ _ _ h h2 h5
   refine ⟨A2,H2,μ2,ω2,?_,k2,h3.trans k3,h4.trans k4,k5⟩
   rw [if_neg hw]
   exact k1
end
end Go.Abs
namespace Go.Abs
open Go.RowKit
section
variable {P:Program} {call:FuncId→List Value→M Value} {μ μ2:Mu} {S S' G H H2:zy} {T A:List Value}
theorem J7.two {s:M Value} (hs:J7 s) {a:Value} {G':zy} (h:s G=some (a,G')):∀ H,s H=some (a,H):=by
 obtain ⟨o,ho⟩:=hs
 rw [ho] at h
 cases o with
 | none=>cases h
 | some w =>
  simp only [Option.map_some,Option.some.injEq,Prod.mk.injEq] at h
  intro H
  rw [ho,h.1];rfl
theorem acO {t:TypeId} {ps:List (Nat×Value)}:J7 (yA P t ps):=by
 refine ⟨(yA P t ps zy.empty).map (·.1),fun H=>?_⟩
 unfold yA
 split
 ·
  split
  ·
   split
   ·
    split
    ·
     split <;> rfl
    ·
     rfl
   ·
    split
    ·
     split <;> rfl
    ·
     rfl
   ·
    rfl
  ·
   rfl
 ·
  rfl
theorem XM {x:Value}:J7 (ZK x):=by
 refine ⟨(ZK x zy.empty).map (·.1),fun H=>?_⟩
 unfold ZK
 split <;> rfl
theorem acv {t:TypeId} {x i:Value}:J7 (Jq P t x i):=by
 unfold Jq
 refine ⟨(Jq P t x i zy.empty).map (·.1),fun H=>?_⟩
 unfold Jq
 dsimp only
 split
 ·
  split
  ·
   split
   ·
    split <;> rfl
   ·
    rfl
  ·
   rfl
 ·
  obtain ⟨o,ho⟩:=kR (P:=P) _ _
  rw [ho,ho]
  cases o <;> rfl
 ·
  rfl
theorem aeQ {t:TypeId} {x:Value} (hx:∀ m,x≠.map m):J7 (abR P t x):=by
 refine ⟨(abR P t x zy.empty).map (·.1),fun H=>?_⟩
 unfold abR
 split <;> first | rfl | exact absurd rfl (hx _)
theorem Xc {d:Nat} {v:Value} (h:okq d v=true):okq d (dem v)=true:=by
 cases v with
 | iface k v=>cases d <;> rfl
 | tuple vs=>cases d <;> cases h
 | _=>exact h
theorem Xw:∀ (d:Nat) {v a:Value},okq d v=true→V0 μ H v a→aeJ d a a=true:=by
 intro d
 induction d with
 | zero =>
  intro v a h hv
  cases hv <;> first | (cases h;done) | (simp [aeJ];done) | skip
  rename_i hs
  cases v <;> first | (simp [aeJ];done) | (simp [Go.Abs.sg] at hs;done) | skip
 | succ d ih =>
  intro v a h hv
  cases hv <;> first | (cases h;done) | (simp [aeJ];done) | skip
  ·
   rename_i hs
   cases v <;> first | (simp [aeJ];done) | (simp [Go.Abs.sg] at hs;done) | skip
  ·
   rename_i x x' hx hh
   unfold aeJ
   simp only [decide_true,Bool.true_and]
   rw [List.all_eq_true]
   intro p hp
   obtain ⟨i,hi,he⟩:=List.mem_iff_getElem.1 hp
   simp only [List.length_zip,Nat.min_self] at hi
   rw [List.getElem_zip] at he
   subst he
   have hi':i < x'.size:=by simpa using hi
   have hi2:i < x.size:=by rw [hx];exact hi'
   have h2:=hh i
   rw [Array.getD_eq_getD_getElem?,Array.getElem?_eq_getElem hi2,Array.getD_eq_getD_getElem?,Array.getElem?_eq_getElem hi'] at h2
   have h3:okq d x[i]=true:=List.all_eq_true.1 (show x.toList.all (okq d)=true from h) _ (by simp)
   have:=ih h3 h2
   simpa using this
theorem adk (x:Value):abM (dem x)=abM x:=by cases x <;> rfl
theorem aiq {fx:Fx} {o:Oper} {v:Value} (hdr:fx.dr=true) (h:kC P fx call T o S=some (v,S')) (hn:J5 P o=false) (hr:ZQ o=false) (ho:∀ x ∈ o.op.operands.toList,V0 μ G (dem (wK T x)) (wK A x)) :
  ∃ a,V0 μ G (dem v) a∧∀ H,aOp P (wK A) o H=some (a,H)∧kM P (lim P) A o H=some (a,H):=by
 have hrm:Zq o=false:=by
  unfold ZQ at hr
  unfold Zq
  split <;> simp_all
 unfold kC at h
 split at h <;> first | (cases h;done) | skip
 rename_i hok
 obtain ⟨dst,op,type,pos,after,guard⟩:=o
 by_cases hcall:∃ c,op=.call c
 ·
  obtain ⟨c,rfl⟩:=hcall
  dsimp only at h ho
  unfold J5 at hn
  dsimp only at hn
  have hcargs:∀ x ∈ c.args.toList,V0 μ G (dem (wK T x)) (wK A x):=by
   intro x hx
   refine ho x ?_
   simp only [Op.operands,Call.operands]
   cases c.callee <;> simp <;> first | exact .inr (by simpa using hx) | exact (by simpa using hx)
  have step:∀ {b:Builtin} (a:Value),c.callee=.builtin b→(∀ H,ZH P b c.argTypes type (c.args.toList.map (wK A)) H=some (a,H))→∀ H,aOp P (wK A) ⟨dst,.call c,type,pos,after,guard⟩ H=some (a,H)∧kM P (lim P) A ⟨dst,.call c,type,pos,after,guard⟩ H=some (a,H):=by
   intro b a hb hall H
   constructor
   ·
    unfold aOp;dsimp only;rw [hb];exact hall H
   ·
    unfold kM;rw [if_pos hok];dsimp only;rw [hb];exact hall H
  cases hcal:c.callee with
  | value f=>rw [hcal] at hn;cases hn
  | invoke r m=>rw [hcal] at hn;cases hn
  | builtin b =>
   rw [hcal] at h
   dsimp only at h
   unfold aaI at h
   rw [hcal] at hn
   have gargs:(c.args.toList.map (wK T)).all ground=true→c.args.toList.map (wK A)=c.args.toList.map (wK T):=by
    intro hg
    apply List.map_congr_left
    intro x hx
    exact yj (hcargs x hx) (List.all_eq_true.1 hg _ (List.mem_map.2 ⟨x,hx,rfl⟩))
   cases b <;> dsimp only at h hn <;> first | (cases h;done) | (cases hn;done) | skip
   case len =>
    split at h <;> first | (cases h;done) | skip
    rename_i t x0 ht ha
    obtain ⟨x,hx,rfl⟩:∃ x,c.args.toList=[x]∧wK T x=x0:=by
     match hl:c.args.toList with
     | []=>rw [hl] at ha;cases ha
     | [y]=>rw [hl] at ha;simp at ha;exact ⟨y,rfl,ha⟩
     | y::z::w=>rw [hl] at ha;simp at ha
    have hxv:=hcargs x (by rw [hx];simp)
    obtain ⟨rfl,a,h1,h2⟩:=afh h hxv
    have hmap:∀ m,wK A x≠.map m:=by
     intro m hm
     rw [hm] at hxv
     generalize hu:dem (wK T x)=u at hxv
     have hum:∃ m',u=.map m':=by cases hxv <;> exact ⟨_,rfl⟩
     obtain ⟨m',rfl⟩:=hum
     have:wK T x=.map m':=by
      cases hv:wK T x <;> rw [hv] at hu <;> simp [dem,vV] at hu <;> rw [hu]
     rw [this] at h
     simp [Zu] at h
    refine ⟨a,h2.dem,step a hcal fun H=>?_⟩
    unfold ZH
    dsimp only
    rw [ht,hx]
    exact (aeQ hmap).two h1 H
   case min =>
    obtain ⟨rfl,hg,hga,hh⟩:=qR (H:=G) h
    refine ⟨v,(V0.ground hg).dem,step v hcal fun H=>?_⟩
    unfold ZH
    dsimp only
    rw [gargs hga]
    exact (kR _ _).two hh H
   case max =>
    obtain ⟨rfl,hg,hga,hh⟩:=qR (H:=G) h
    refine ⟨v,(V0.ground hg).dem,step v hcal fun H=>?_⟩
    unfold ZH
    dsimp only
    rw [gargs hga]
    exact (kR _ _).two hh H
 ·
  have hnc:∀ c,op≠.call c:=fun c hc=>hcall ⟨c,hc⟩
  have hV:vOp P fx (wK T) ⟨dst,op,type,pos,after,guard⟩ S=some (v,S'):=by
   cases op <;> first | exact h | exact absurd rfl (hnc _)
  obtain ⟨rfl,a,h1,h2,h3⟩:=abp (ρA:=wK A) hV hn ho (.inl (Qg hrm)) (.inl hdr)
  have hA:∀ H,kM P (lim P) A ⟨dst,op,type,pos,after,guard⟩ H=aOp P (wK A) ⟨dst,op,type,pos,after,guard⟩ H:=by
   intro H
   unfold kM
   rw [if_pos hok]
   cases op <;> first | rfl | exact absurd rfl (hnc _)
  refine ⟨a,h2,fun H=>?_⟩
  rw [hA]
  have key:aOp P (wK A) ⟨dst,op,type,pos,after,guard⟩ H=some (a,H):=by
   have hf:J7 (aOp P (wK A) ⟨dst,op,type,pos,after,guard⟩):=by
    unfold J5 at hn
    unfold ZQ at hr
    unfold aOp
    unfold vOp at hV
    cases op <;> dsimp only at hn hr hV ⊢ <;> first | (cases hn;done) | (cases hr;done) | (cases hV;done) | skip
    ·
     exact Xa _
    ·
     exact Xa _
    ·
     exact aex _ _ _
    ·
     exact acO
    ·
     exact XM
    ·
     exact abJ _ _ _ _
    ·
     exact ahW _ _
    ·
     exact Xa _
    ·
     exact Xb _ _ _
    ·
     exact acd _ _ _
    ·
     exact Xe _ _ _
    ·
     exact acv
    ·
     exact aaw _ _
   exact hf.two h1 H
  exact ⟨key,key⟩
theorem afe {t:TypeId} {r o e:Nat} {l:List Value} {own own':Own} {a:Value} (hg:G.get r=some (.cells l own e)) (hg':H2.get r=some (.cells l own' e)) (h:xM P t (.pointer (some ⟨r,o,none⟩)) G=some (a,G)) :
  xM P t (.pointer (some ⟨r,o,none⟩)) H2=some (a,H2):=by
 simp only [xM,hg] at h
 simp only [xM,hg']
 (repeat' split at h) <;> first | (cases h;done) | skip
 all_goals simp_all
theorem VV.backed {v:Value} {r o n c:Nat} (h:V0 μ G v (.slice (some ⟨r,o,none⟩) n c)) (hv:abM v=false):∃ l own e,r < G.next∧XA μ r∧G.get r=some (.cells l own e):=by
 cases h with
 | sg hs=>simp [Go.Abs.sg] at hs
 | slm hm=>simp [abM] at hv
 | sl hr hp hg _ _ _=>exact ⟨_,_,_,hr,hp,hg⟩
theorem aeb {x:Value} {n:Nat} {cs:List Value} (hx:∀ r o n c,x=.slice (some ⟨r,o,none⟩) n c→∃ l own own' e,G.get r=some (.cells l own e)∧H2.get r=some (.cells l own' e)) (h:xR x n G=some cs):xR x n H2=some cs:=by
 unfold xR at h ⊢
 split at h
 ·
  rename_i r o k c
  obtain ⟨l,own,own',e,hg,hg'⟩:=hx _ _ _ _ rfl
  rw [hg] at h
  rw [hg']
  exact h
 ·
  exact h
 ·
  exact h
 ·
  cases h
theorem afj {src dst:TypeId} {x a:Value} (hd:∀ e,P.underlying dst≠some (.slice e)) (hx:∀ r o n c,x=.slice (some ⟨r,o,none⟩) n c→∃ l own own' e,G.get r=some (.cells l own e)∧H2.get r=some (.cells l own' e)) (h:kJ P src dst x G=some (a,G)) :
  kJ P src dst x H2=some (a,H2):=by
 unfold kJ at h ⊢
 split at h
 ·
  rename_i b n c
  (try dsimp only)
  split at h
  ·
   rename_i e hs hdd
   split at h <;> first | (cases h;done) | skip
   rename_i he
   split at h <;> first | (cases h;done) | skip
   rename_i cs hcs
   rw [aeb hx hcs]
   (try dsimp only)
   split at h <;> first | (cases h;done) | skip
   rename_i bs hbs
   (try rw [hbs])
   cases h
   rfl
  ·
   rename_i e0 e hs hdd
   exact absurd hdd (hd e)
  ·
   cases h
 ·
  rename_i s
  (try dsimp only)
  split at h
  ·
   rename_i d e hs hdd
   exact absurd hdd (hd e)
  ·
   exact (kR _ _).two h H2
 ·
  exact (kR _ _).two h H2
theorem aew {t:TypeId} {x a:Value} {lo hi:Option Value} (hx:∀ r o n c,x=.slice (some ⟨r,o,none⟩) n c→∃ l own own' e,G.get r=some (.cells l own e)∧H2.get r=some (.cells l own' e)) (h:Zy P t x lo hi G=some (a,G)) :
  Zy P t x lo hi H2=some (a,H2):=by
 unfold Zy at h ⊢
 split at h
 ·
  rename_i s hu
  exact (kR _ _).two h H2
 ·
  rename_i e b n c hu
  (try dsimp only)
  split at h <;> first | (cases h;done) | skip
  rename_i size l hh hs hl hhi
  (try simp only [hs,hl,hhi])
  split at h <;> first | (cases h;done) | skip
  rename_i c0
  split at h <;> first | (cases h;done) | skip
  rename_i c1
  split at h <;> first | (cases h;done) | skip
  rename_i c2
  rw [if_pos c0,if_pos c1,if_pos c2]
  split at h
  ·
   split at h <;> first | (cases h;done) | skip
   rename_i hn
   cases h
   rw [if_pos hn]
  ·
   rename_i r o
   obtain ⟨l2,own,own',e2,hg,hg'⟩:=hx _ _ _ _ rfl
   rw [hg] at h
   rw [hg']
   dsimp only at h ⊢
   split at h <;> first | (cases h;done) | skip
   rename_i he
   rw [if_pos he]
   cases h
   rfl
  ·
   split at h <;> first | (cases h;done) | skip
   rename_i hn
   cases h
   rw [if_pos hn]
  ·
   cases h
 ·
  cases h
theorem aez {t:TypeId} {r o:Nat} {a:Value} {G':zy} (hg:H2.get r=G.get r) (h:xM P t (.pointer (some ⟨r,o,none⟩)) G=some (a,G')):xM P t (.pointer (some ⟨r,o,none⟩)) H2=some (a,H2):=by
 simp only [xM] at h ⊢
 rw [hg]
 (repeat' split at h) <;> first | (cases h;done) | skip
 all_goals simp_all
theorem abg {t:TypeId} {x k:Value} {ok:Bool} {a:Value} {G':zy} (hg:∀ r,x=.map (some r)→H2.get r=G.get r) (h:qO P t x k ok G=some (a,G')):qO P t x k ok H2=some (a,H2):=by
 have e:∀ H:zy,qO P t x k ok H=(qO P t x k ok H).map (fun r=>(r.1,H)):=by
  intro H
  unfold qO
  (try dsimp only)
  (repeat' split) <;> rfl
 have e2:(qO P t x k ok H2).map (·.1)=(qO P t x k ok G).map (·.1):=by
  cases x with
  | map b =>
   cases b with
   | none=>unfold qO;dsimp only;(repeat' split) <;> rfl
   | some r =>
    unfold qO
    dsimp only
    rw [hg r rfl]
    (repeat' split) <;> rfl
  | _=>unfold qO;(try dsimp only) <;> (try ((repeat' split) <;> rfl))
 rw [h] at e2
 rw [e H2]
 cases hh:qO P t x k ok H2 with
 | none=>rw [hh] at e2;cases e2
 | some w =>
  rw [hh] at e2
  simp only [Option.map_some,Option.some.injEq] at e2 ⊢
  rw [e2]
theorem ajE {fx:Fx} {o:Oper} {v:Value} (hdr:fx.dr=true) (h:kC P fx call T o S=some (v,S')) (hn:J5 P o=false) (hm:JL (wK T) o) (ho:∀ x ∈ o.op.operands.toList,V0 μ G (dem (wK T x)) (wK A x)) (hL:Later μ G μ2 H2) :
  ∃ a,V0 μ G (dem v) a∧aOp P (wK A) o G=some (a,G)∧aOp P (wK A) o H2=some (a,H2)∧kM P (lim P) A o G=some (a,G)∧kM P (lim P) A o H2=some (a,H2):=by
 by_cases hr:ZQ o=false
 ·
  obtain ⟨a,h1,h2⟩:=aiq hdr h hn hr ho
  exact ⟨a,h1,(h2 G).1,(h2 H2).1,(h2 G).2,(h2 H2).2⟩
 ·
  unfold kC at h
  split at h <;> first | (cases h;done) | skip
  rename_i hok
  obtain ⟨dst,op,type,pos,after,guard⟩:=o
  unfold ZQ at hr
  cases op <;> dsimp only at h hr <;> first | (exact absurd rfl hr) | skip
  case load t addr =>
   obtain ⟨rfl,a,h1,h2,h3⟩:=abp (ρA:=wK A) h hn ho (.inl hm) (.inl hdr)
   have hA:∀ H,kM P (lim P) A ⟨dst,.load t addr,type,pos,after,guard⟩ H=aOp P (wK A) ⟨dst,.load t addr,type,pos,after,guard⟩ H:=fun H=>by unfold kM;rw [if_pos hok]
   have key:aOp P (wK A) ⟨dst,.load t addr,type,pos,after,guard⟩ H2=some (a,H2):=by
    have hx:=ho addr (by simp [Op.operands])
    have h:jh P fx.nm t (wK T addr) S'=some (v,S'):=h
    unfold aOp at h1 ⊢
    dsimp only at h1 ⊢
    unfold jh at h
    split at h
    ·
     rename_i k cs he
     split at h <;> first | (cases h;done) | skip
     rename_i hk
     subst hk
     rw [he] at hx
     have hx:V0 μ G (.iface 3 (.agg cs)) (wK A addr):=hx
     generalize hq:wK A addr=q at hx h1 ⊢
     cases hx with
     | sg hs=>simp [Go.Abs.sg] at hs
     | ep hr hp hg hl hc =>
      obtain ⟨own',hg'⟩:=hL.cells _ _ _ _ hr hp hg
      exact afe hg hg' h1
    ·
     rename_i ad he
     exact absurd he (hm ad)
    ·
     cases h
   exact ⟨a,h2,h1,key,by rw [hA];exact h1,by rw [hA];exact key⟩
  case convert src d x =>
   obtain ⟨rfl,a,h1,h2,h3⟩:=abp (ρA:=wK A) h hn ho (.inl hm) (.inl hdr)
   have hA:∀ H,kM P (lim P) A ⟨dst,.convert src d x,type,pos,after,guard⟩ H=aOp P (wK A) ⟨dst,.convert src d x,type,pos,after,guard⟩ H:=fun H=>by unfold kM;rw [if_pos hok]
   have key:aOp P (wK A) ⟨dst,.convert src d x,type,pos,after,guard⟩ H2=some (a,H2):=by
    have hx:=ho x (by simp [Op.operands])
    unfold aOp at h1 ⊢
    dsimp only at h1 ⊢
    refine afj (fun e he=>?_) (fun r o n c hq=>?_) h1
    ·
     unfold J5 at hn
     dsimp only at hn
     rw [he] at hn;cases hn
    ·
     rw [hq] at hx
     have hh:abM (dem (wK T x))=false:=by
      rw [adk]
      have h:qU P fx.hp fx.dr src d (wK T x) S'=some (v,S'):=h
      unfold qU at h
      split at h
      ·
       first | (cases h;done) | (rw [hdr] at h;simp at h)
      ·
       rename_i hh;simpa using hh
     obtain ⟨l,own,e,hr,hp,hg⟩:=hx.backed hh
     obtain ⟨own',hg'⟩:=hL.cells _ _ _ _ hr hp hg
     exact ⟨l,own,own',e,hg,hg'⟩
   exact ⟨a,h2,h1,key,by rw [hA];exact h1,by rw [hA];exact key⟩
  case slice t x lo hi mx =>
   obtain ⟨rfl,a,h1,h2,h3⟩:=abp (ρA:=wK A) h hn ho (.inl hm) (.inl hdr)
   have hA:∀ H,kM P (lim P) A ⟨dst,.slice t x lo hi mx,type,pos,after,guard⟩ H=aOp P (wK A) ⟨dst,.slice t x lo hi mx,type,pos,after,guard⟩ H:=fun H=>by unfold kM;rw [if_pos hok]
   have key:aOp P (wK A) ⟨dst,.slice t x lo hi mx,type,pos,after,guard⟩ H2=some (a,H2):=by
    have hx:=ho x (by simp [Op.operands])
    unfold aOp at h1 ⊢
    cases mx with
    | some m=>cases h1
    | none =>
     dsimp only at h1 ⊢
     refine aew (fun r o n c hq=>?_) h1
     rw [hq] at hx
     have hh:abM (dem (wK T x))=false:=by
      rw [adk]
      have h:ZU P fx.dr t (wK T x) (lo.map (wK T)) (hi.map (wK T)) S'=some (v,S'):=h
      unfold ZU at h
      split at h
      ·
       first | (cases h;done) | (rw [hdr] at h;simp at h)
      ·
       rename_i hh;simpa using hh
     obtain ⟨l,own,e,hr,hp,hg⟩:=hx.backed hh
     obtain ⟨own',hg'⟩:=hL.cells _ _ _ _ hr hp hg
     exact ⟨l,own,own',e,hg,hg'⟩
   exact ⟨a,h2,h1,key,by rw [hA];exact h1,by rw [hA];exact key⟩
  case lookup t x k ok =>
   exact hm.elim
end
end Go.Abs
namespace Go.Abs
open Go.RowKit
structure Line (P : Program) (fx : Fx) (chk : List Nat) (call : FuncId → List Value → M Value) (ops : Array Oper) (k0 : Nat) (l : List Oper) (Ts As : Nat → List Value) (Ss Hs : Nat → zy) (μs : Nat → Mu) (ωs : Nat → Nat → Option xB) (vs zf : Nat → Value) : Prop where
  inv : ∀ k, k ≤ l.length → GI (μs k) (Ss k) (Hs k) ∧ TI (μs k) (Hs k) (ωs k) (Ts k) (As k)
  step : ∀ k o, l[k]? = some o → Later (μs k) (Hs k) (μs (k + 1)) (Hs (k + 1)) ∧ Kept (ωs k) (Hs k) (ωs (k + 1)) (Hs (k + 1)) ∧
    ((Region.wanted o (ynd ops (As k)) = true ∧ kC P fx call (Ts k) o (Ss k) = some (vs k, Ss (k + 1)) ∧ kM P (lim P) (As k) o (Hs k) = some (zf k, Hs (k + 1)) ∧
        Ts (k + 1) = JA o (l.drop (k + 1)) (Ts k) (vs k) ∧ As (k + 1) = YO (As k) o.dst (zf k) ∧ (chk.contains (k0 + k) = true → okq 3 (vs k) = true)) ∨
     (Region.wanted o (ynd ops (As k)) = false ∧ zf k = zh ∧ Ts (k + 1) = JA o (l.drop (k + 1)) (Ts k) zh ∧ As (k + 1) = YO (As k) o.dst zh ∧ Hs (k + 1) = Hs k))
section
variable {P:Program} {call:FuncId→List Value→M Value}
theorem line_of {fx : Fx} {chk : List Nat} {nl : List (Nat × Nat)} (hc : QS P call) {ops : Array Oper} : ∀ (l : List Oper) (k0 : Nat) (hist : List (Value × zy)) (T T' A : List Value) (S S' H : zy) (μ : Mu) (ω : Nat → Option xB), qx P fx chk nl call ops k0 hist l T S = some (T', S') → GI μ S H → TI μ H ω T A →
    ∃ Ts As Ss Hs μs ωs vs zf tr, Line P fx chk call ops k0 l Ts As Ss Hs μs ωs vs zf ∧ Ts 0 = T ∧ As 0 = A ∧ Ss 0 = S ∧ Hs 0 = H ∧ μs 0 = μ ∧ ωs 0 = ω ∧ Ts l.length = T' ∧ Ss l.length = S' ∧
      vI P (lim P) ops l A H = some (tr, As l.length, Hs l.length) ∧ (∀ k, k < l.length → tr[k]? = some (As k, Hs k, zf k)) ∧ (∀ k, k ≤ l.length → (tr.map (·.2.1) ++ [Hs l.length])[k]? = some (Hs k)) ∧
      ∃ hs : List (Value × zy), hs.length = l.length ∧ (∀ k o, l[k]? = some o → hs[k]? = some (Jk (Ts k) o, Ss k)) ∧ (nl.isEmpty = false → nl.all (adq (hist ++ hs ++ [(zh, S')])) = true) := by
  intro l
  induction l with
  | nil =>
    intro k0 hist T T' A S S' H μ ω h hG hT
    simp only [qx] at h
    split at h <;> first | (cases h; done) | skip
    rename_i hst
    cases h
    refine ⟨fun _ => T, fun _ => A, fun _ => S, fun _ => H, fun _ => μ, fun _ => ω, fun _ => zh, fun _ => zh, [], ⟨fun k _ => ⟨hG, hT⟩, fun k o ho => by simp at ho⟩, rfl, rfl, rfl, rfl, rfl, rfl, rfl, rfl, rfl, fun k hk => by simp at hk, fun k hk => ?_, [], rfl, fun k o ho => by simp at ho, fun he => ?_⟩
    · have : k = 0 := by simpa using hk
      subst this
      rfl
    · simpa [ZM, he] using hst
  | cons o l ih =>
    intro k0 hist T T' A S S' H μ ω h hG hT
    have hy : (ynd ops T) = ynd ops A := funext fun j => ae9 hT j
    simp only [qx] at h
    have glue : ∀ (T1 A1 : List Value) (S1 H1 : zy) (μ1 : Mu) (ω1 : Nat → Option xB) (v a : Value), qx P fx chk nl call ops (k0 + 1) (ZM nl hist (Jk T o) S) l T1 S1 = some (T', S') → GI μ1 S1 H1 → TI μ1 H1 ω1 T1 A1 → Later μ H μ1 H1 → Kept ω H ω1 H1 →
        ((Region.wanted o (ynd ops A) = true ∧ kC P fx call T o S = some (v, S1) ∧ kM P (lim P) A o H = some (a, H1) ∧ T1 = JA o l T v ∧ A1 = YO A o.dst a ∧ (chk.contains k0 = true → okq 3 v = true)) ∨
         (Region.wanted o (ynd ops A) = false ∧ a = zh ∧ T1 = JA o l T zh ∧ A1 = YO A o.dst zh ∧ H1 = H)) →
        (∀ tr A2 H2, vI P (lim P) ops l A1 H1 = some (tr, A2, H2) → vI P (lim P) ops (o :: l) A H = some ((A, H, a) :: tr, A2, H2)) →
        ∃ Ts As Ss Hs μs ωs vs zf tr, Line P fx chk call ops k0 (o :: l) Ts As Ss Hs μs ωs vs zf ∧ Ts 0 = T ∧ As 0 = A ∧ Ss 0 = S ∧ Hs 0 = H ∧ μs 0 = μ ∧ ωs 0 = ω ∧ Ts (o :: l).length = T' ∧ Ss (o :: l).length = S' ∧
          vI P (lim P) ops (o :: l) A H = some (tr, As (o :: l).length, Hs (o :: l).length) ∧ (∀ k, k < (o :: l).length → tr[k]? = some (As k, Hs k, zf k)) ∧ (∀ k, k ≤ (o :: l).length → (tr.map (·.2.1) ++ [Hs (o :: l).length])[k]? = some (Hs k)) ∧
          ∃ hs : List (Value × zy), hs.length = (o :: l).length ∧ (∀ k o', (o :: l)[k]? = some o' → hs[k]? = some (Jk (Ts k) o', Ss k)) ∧ (nl.isEmpty = false → nl.all (adq (hist ++ hs ++ [(zh, S')])) = true) := by
      intro T1 A1 S1 H1 μ1 ω1 v a hrest hG1 hT1 hL hK hstep htr
      obtain ⟨Ts, As, Ss, Hs, μs, ωs, vs, zf, tr, hline, e1, e2, e3, e4, e5, e6, e7, e8, e9, e10, e11, hs, e12, e13, e14⟩ := ih _ _ _ _ _ _ _ _ _ _ hrest hG1 hT1
      refine ⟨fun k => match k with | 0 => T | k + 1 => Ts k, fun k => match k with | 0 => A | k + 1 => As k, fun k => match k with | 0 => S | k + 1 => Ss k, fun k => match k with | 0 => H | k + 1 => Hs k,
        fun k => match k with | 0 => μ | k + 1 => μs k, fun k => match k with | 0 => ω | k + 1 => ωs k, fun k => match k with | 0 => v | k + 1 => vs k, fun k => match k with | 0 => a | k + 1 => zf k, (A, H, a) :: tr,
        ⟨fun k hk => ?_, fun k o' ho => ?_⟩, rfl, rfl, rfl, rfl, rfl, rfl, e7, e8, htr _ _ _ e9, fun k hk => ?_, fun k hk => ?_, (Jk T o, S) :: hs, by simp [e12], fun k o' ho => ?_, fun he => ?_⟩
      · cases k with
        | zero => exact ⟨hG, hT⟩
        | succ k => exact hline.inv k (by simpa using hk)
      · cases k with
        | zero =>
          simp only [List.getElem?_cons_zero, Option.some.injEq] at ho
          subst ho
          dsimp only
          rw [e1, e2, e3, e4, e5, e6]
          exact ⟨hL, hK, hstep⟩
        | succ k =>
          have := hline.step k o' (by simpa using ho)
          rw [show k0 + 1 + k = k0 + (k + 1) by omega] at this
          exact this
      · cases k with
        | zero => rfl
        | succ k => simpa using e10 k (by simpa using hk)
      · cases k with
        | zero => rfl
        | succ k => simpa using e11 k (by simpa using hk)
      · cases k with
        | zero =>
          simp only [List.getElem?_cons_zero, Option.some.injEq] at ho
          subst ho
          rfl
        | succ k => simpa using e13 k o' (by simpa using ho)
      · have := e14 he
        rw [show ZM nl hist (Jk T o) S = hist ++ [(Jk T o, S)] by simp [ZM, he]] at this
        simpa using this
    split at h
    · rename_i hw
      split at h
      · rename_i v S1 hs
        split at h <;> first | (cases h; done) | skip
        rename_i hchk
        obtain ⟨a, H1, μ1, ω1, h1, h2, h3, h4, h5⟩ := adA (rest := l) hc hG hT hs
        have hw' : Region.wanted o (ynd ops A) = true := by rw [← hy]; exact hw
        refine glue _ _ _ H1 μ1 ω1 v a h h2 h5 h3 h4 (.inl ⟨hw', hs, h1, rfl, rfl, fun hk => ?_⟩) (fun tr A2 H2 ht => ?_)
        · rw [hk] at hchk; simpa using hchk
        · simp only [vI, hw', if_true, h1, ht]
      · cases h
    · rename_i hw
      obtain ⟨μ1, ω1, h2, h3, h4, h5⟩ := QL (o := o) (rest := l) hG hT
      have hw' : Region.wanted o (ynd ops A) = false := by rw [← hy]; simpa using hw
      refine glue _ _ _ H μ1 ω1 zh zh h h2 h5 h3 h4 (.inr ⟨hw', rfl, rfl, rfl, rfl⟩) (fun tr A2 H2 ht => ?_)
      simp only [vI, hw', ht]
      rfl
variable {fx:Fx} {chk:List Nat} {ops:Array Oper} {k0:Nat} {l:List Oper} {Ts As:Nat→List Value} {Ss Hs:Nat→zy} {μs:Nat→Mu} {ωs:Nat→Nat→Option xB} {vs zf:Nat→Value}
theorem Line.later (hl:Line P fx chk call ops k0 l Ts As Ss Hs μs ωs vs zf) {i:Nat}:∀ (d:Nat),i+d≤l.length→Later (μs i) (Hs i) (μs (i+d)) (Hs (i+d)):=by
 intro d
 induction d with
 | zero=>intro _;exact Later.refl _ _
 | succ d ih =>
  intro hd
  have ho:l[i+d]?=some l[i+d]:=List.getElem?_eq_getElem (by omega)
  exact (ih (by omega)).trans (hl.step (i+d) _ ho).1
theorem Line.kept (hl:Line P fx chk call ops k0 l Ts As Ss Hs μs ωs vs zf):∀ (d:Nat),d≤l.length→Kept (ωs 0) (Hs 0) (ωs d) (Hs d):=by
 intro d
 induction d with
 | zero=>intro _;exact Kept.refl _ _
 | succ d ih =>
  intro hd
  have ho:l[d]?=some l[d]:=List.getElem?_eq_getElem (by omega)
  exact (ih (by omega)).trans (hl.step d _ ho).2.1
theorem ab1 (i:Nat) (w:Value):dem (zV i w)=dem w:=by
 cases w with
 | tuple vs =>
  simp only [zV,dem]
  congr 1
  apply Array.ext (by simp)
  intro k h1 h2
  rw [Array.getElem_map,Array.getElem_map,Array.getElem_modify]
  split
  ·
   have:∀ v,vV (vV v)=vV v:=by
    intro v
    cases v with
    | iface k v =>
     simp only [vV]
     by_cases h:k=2
     ·
      rw [if_pos h,if_neg (by decide)]
     ·
      rw [if_neg h,if_neg h]
    | _=>rfl
   exact this _
  ·
   rfl
 | _=>rfl
theorem aa1 (o:Oper) (T:List Value) (t:Nat):dem ((moved o T).getD t zh)=dem (T.getD t zh):=by
 have slot:∀ t',dem ((vN T t').getD t zh)=dem (T.getD t zh):=by
  intro t'
  rw [vN,xA]
  split
  ·
   rename_i h;rw [h.1,aaK]
  ·
   rfl
 unfold moved
 split
 ·
  exact slot _
 ·
  exact slot _
 ·
  rw [xA]
  split
  ·
   rename_i h;rw [h.1,ab1]
  ·
   rfl
 ·
  split
  ·
   exact slot _
  ·
   rfl
 ·
  rfl
theorem moved_length (o:Oper) (T:List Value):(moved o T).length=T.length:=by
 unfold moved
 split <;> first | simp [vN] | rfl | skip
 split <;> first | simp [vN] | rfl
theorem abn {o:Oper} {rest:List Oper} {T:List Value} {v:Value} (hd:o.dst=none) (t:Nat):dem ((JA o rest T v).getD t zh)=dem (T.getD t zh):=by
 unfold JA
 rw [hd]
 split
 ·
  rfl
 ·
  exact aa1 o T t
theorem abE {o:Oper} {rest:List Oper} {T:List Value} {v:Value} {d:Nat} (hd:o.dst=some d) (t:Nat):dem ((JA o rest T v).getD t zh)=if t=d∧d < T.length then dem v else dem (T.getD t zh):=by
 unfold JA
 rw [hd]
 split
 ·
  simp only [YO]
  rw [xA]
  split
  ·
   exact aaK v
  ·
   rfl
 ·
  simp only [YO]
  rw [xA,moved_length]
  split
  ·
   rfl
  ·
   exact aa1 o T t
def Clear (μ:Mu) (G:zy) (bad:List Nat) (T A:List Value):Prop:=∀ t,bad.contains t=false→V0 μ G (dem (T.getD t zh)) (A.getD t zh)
theorem Clear.operands {μ:Mu} {G:zy} {bad:List Nat} {T A:List Value} (h:Clear μ G bad T A) {o:Oper} (hok:ahj o=true) (hc:vC bad o=true):∀ x ∈ o.op.operands.toList,V0 μ G (dem (wK T x)) (wK A x):=by
 intro x hx
 have h1:=List.all_eq_true.1 (show o.op.operands.toList.all vS=true from hok) x hx
 have h2:=List.all_eq_true.1 hc x hx
 cases x with
 | tmp t=>exact h t (by simpa using h2)
 | const v=>exact (VV.kH (μ:=μ) (H:=G) (ω:=W0) (ℓ:=none) h1).v0
 | global g=>cases h1
 | func f =>
  have:V0 μ G (.func (.func f) #[] #[]) (.func (.func f) #[] #[]):=.func _ rfl rfl (fun i=>by simpa using VV.zh) (fun i=>by simpa using VV.zh)
  exact this
theorem WI {T:List Value} {o:Oper} {S S':zy} {v:Value} (h:kC P fx call T o S=some (v,S')):ahj o=true:=by
 unfold kC at h
 split at h
 ·
  assumption
 ·
  cases h
theorem ad4 {fx:Fx} {o:Oper} {T A:List Value} {v:Value} {S S' H:zy} {μ:Mu} (h:kC P fx call T o S=some (v,S')) (hnm:fx.nm=true) (hm:¬ JL (wK T) o) (hG:GI μ S H) (ho:∀ x ∈ o.op.operands.toList,V0 μ H (dem (wK T x)) (wK A x)) :
  ground v=true∧∃ a,kM P (lim P) A o H=some (a,H)∧a=v:=by
 have hok:=WI h
 unfold kC at h
 rw [if_pos hok] at h
 obtain ⟨dst,op,type,pos,after,guard⟩:=o
 unfold JL at hm
 cases op <;> dsimp only at h hm <;> first | (exact absurd True.intro hm) | skip
 case load t a =>
  have h:jh P fx.nm t (wK T a) S=some (v,S'):=h
  obtain ⟨q,hq⟩:∃ q,wK T a=.pointer q:=Classical.byContradiction fun hn=>hm fun q hq=>hn ⟨q,hq⟩
  obtain ⟨rfl,w,k1,k2⟩:=QU h (ho a (by simp [Op.operands])) (.inr hG)
  rw [hnm] at h
  have hgr:ground v=true:=by
   unfold jh at h
   rw [hq] at h
   dsimp only at h
   split at h <;> first | (cases h;done) | skip
   ·
    split at h
    ·
     split at h <;> first | (cases h;done) | skip
     rename_i hg
     cases h
     exact hg
    ·
     rename_i hf;exact absurd rfl hf
   ·
    split at h
    ·
     split at h <;> first | (cases h;done) | skip
     rename_i hg
     cases h
     exact hg
    ·
     rename_i hf;exact absurd rfl hf
  refine ⟨hgr,w,?_,k2.ZO hgr⟩
  unfold kM
  rw [if_pos hok]
  exact k1
 case lookup t x k ok =>
  have h:vX P fx.nm t (wK T x) (wK T k) ok S=some (v,S'):=h
  unfold vX at h
  rw [hnm] at h
  simp at h
theorem Line.clear (hdr:fx.dr=true) (hl:Line P fx chk call ops k0 l Ts As Ss Hs μs ωs vs zf) {j:Nat} (hj:j≤l.length):∀ (rest:List Oper) (bad:List Nat) (k:Nat),j≤k→l.drop k=rest→Clear (μs j) (Hs j) bad (Ts k) (As k) →
  ∀ d,d≤rest.length→Clear (μs j) (Hs j) ((afm P fx.nm rest bad).getD d []) (Ts (k+d)) (As (k+d)):=by
 intro rest
 induction rest with
 | nil =>
  intro bad k hjk hr hC d hd
  have:d=0:=by simpa using hd
  subst this
  exact hC
 | cons o rest ih =>
  intro bad k hjk hr hC d hd
  have hkl:k < l.length:=by
   have:=congrArg List.length hr
   simp at this;omega
  have ho:l[k]?=some o:=by
   have:=congrArg (·[0]?) hr
   simpa [List.getElem?_drop] using this
  cases d with
  | zero=>exact hC
  | succ d =>
   simp only [afm,List.getD_cons_succ]
   rw [show k+(d+1)=k+1+d by omega]
   refine ih _ (k+1) (by omega) ?_ ?_ d (by simpa using hd)
   ·
    rw [← List.drop_drop,hr];rfl
   ·
    obtain ⟨hL,_,hor⟩:=hl.step k o ho
    obtain ⟨hG,hT⟩:=hl.inv k (by omega)
    have hlen:=hT.len
    intro t ht
    cases hd:o.dst with
    | none =>
     rw [hd] at ht
     rcases hor with ⟨_,_,_,e1,e2,_⟩ | ⟨_,_,e1,e2,_⟩
     ·
      rw [e1,abn hd,e2,hd];exact hC t ht
     ·
      rw [e1,abn hd,e2,hd];exact hC t ht
    | some dd =>
     rw [hd] at ht
     dsimp only at ht
     have htb:bad.contains t=false:=by
      split at ht
      ·
       simp only [List.contains_cons,Bool.or_eq_false_iff] at ht;exact ht.2
      ·
       exact ht
     rcases hor with ⟨hw,hv,ha,e1,e2,_⟩ | ⟨_,_,e1,e2,_⟩
     ·
      rw [e1,abE hd,e2,hd]
      simp only [YO]
      rw [xA,hlen]
      by_cases hc:t=dd∧dd < (As k).length
      ·
       rw [if_pos hc,if_pos hc]
       have hcond:¬ (J5 P o || !vC bad o || (Zq o && !fx.nm))=true:=by
        intro hh
        rw [if_pos hh] at ht
        simp [hc.1] at ht
       simp only [Bool.or_eq_true,not_or,Bool.not_eq_true,Bool.not_eq_eq_eq_not,Bool.not_true,Bool.and_eq_true,not_and] at hcond
       obtain ⟨⟨q1,q2⟩,q3⟩:=hcond
       have q2':vC bad o=true:=by simpa using q2
       have hLj:Later (μs j) (Hs j) (μs k) (Hs k):=by
        have:=hl.later (i:=j) (k - j) (by omega)
        rwa [show j+(k - j)=k by omega] at this
       by_cases hm:JL (wK (Ts k)) o
       ·
        obtain ⟨a,h1,_,_,_,h5⟩:=ajE hdr hv q1 hm (hC.operands (WI hv) q2') hLj
        rw [ha] at h5
        have e:zf k=a:=by simpa using congrArg (Option.map Prod.fst) h5
        subst e
        exact h1
       ·
        have hrm:Zq o=true:=by
         cases hrm:Zq o with
         | true=>rfl
         | false=>exact absurd (Qg hrm) hm
        have hnm:fx.nm=true:=by have:=q3 hrm;simpa using this
        obtain ⟨g1,a,g2,g3⟩:=ad4 hv hnm hm hG (fun x hx=>hT.eval (List.all_eq_true.1 (show o.op.operands.toList.all vS=true from WI hv) x hx))
        rw [ha] at g2
        have e:zf k=a:=by simpa using congrArg (Option.map Prod.fst) g2
        subst e
        rw [g3,Vm g1]
        exact V0.ground g1
      ·
       rw [if_neg hc,if_neg hc]
       exact hC t htb
     ·
      rw [e1,abE hd,e2,hd]
      simp only [YO]
      rw [xA,hlen]
      by_cases hc:t=dd∧dd < (As k).length
      ·
       rw [if_pos hc,if_pos hc,show dem zh=zh from WC]
       exact .nores
      ·
       rw [if_neg hc,if_neg hc]
       exact hC t htb
theorem afK {hp0:Bool} (hc:QS P call) {T T' A:List Value} {S S' H:zy} {μ:Mu} {ω:Nat→Option xB} (hd:qW P ops=true) (h:qx P ⟨hp0,!(checked P ops).isEmpty,fixed P ops⟩ (checked P ops) (again P ops) call ops 0 [] ops.toList T S=some (T',S')) (hG:GI μ S H) (hT:TI μ H ω T A) :
  After μ ω H T' S' (JY P (lim P) ops A H):=by
 obtain ⟨Ts,As,Ss,Hs,μs,ωs,vs,zf,tr,hline,rfl,rfl,rfl,rfl,rfl,rfl,rfl,rfl,e9,e10,e11,hs,e12,e13,e14⟩:=line_of hc _ _ _ _ _ _ _ _ _ _ _ h hG hT
 obtain ⟨hGn,hTn⟩:=hline.inv ops.toList.length (Nat.le_refl _)
 have hLn:=hline.later (i:=0) ops.toList.length (by omega)
 rw [Nat.zero_add] at hLn
 refine ⟨As ops.toList.length,Hs ops.toList.length,μs ops.toList.length,ωs ops.toList.length,?_,hGn,hLn,hline.kept _ (Nat.le_refl _),hTn⟩
 simp only [qW,aaz,Bool.and_eq_true] at hd
 refine ahD hd.1 e9 fun p hp=>?_
 have hchk:(checked P ops).contains p.1=true:=by
  unfold checked
  simp only [List.contains_eq_mem,decide_eq_true_eq]
  exact List.mem_map.2 ⟨p,hp,rfl⟩
 have hdr:(Fx.mk hp0 (!(checked P ops).isEmpty) (fixed P ops)).dr=true:=by
  show (!(checked P ops).isEmpty)=true
  cases hl:checked P ops with
  | nil=>rw [hl] at hchk;cases hchk
  | cons a b=>rfl
 have hp2:=List.all_eq_true.1 hd.2 p hp
 have hp0:=hp
 unfold need at hp
 obtain ⟨i,hi,hp⟩:=List.mem_flatMap.1 hp
 obtain ⟨j,hj,hp⟩:=List.mem_filterMap.1 hp
 have hi:i < ops.toList.length:=List.mem_range.1 hi
 have hj:j < ops.toList.length:=List.mem_range.1 hj
 split at hp <;> first | (cases hp;done) | skip
 rename_i oi oj hoi hoj
 split at hp <;> first | (cases hp;done) | skip
 rename_i hcond
 cases hp
 simp only [Bool.and_eq_true,Bool.not_eq_true'] at hcond
 obtain ⟨⟨hni,hcj⟩,_⟩:=hcond
 dsimp only at hp2 hchk ⊢
 rw [hoi] at hp2
 dsimp only at hp2
 have hij:i≠j:=by
  intro e;subst e
  rw [hoi] at hoj;cases hoj
  rw [hni] at hcj;cases hcj
 have hGj:(tr.map (·.2.1)++[Hs ops.toList.length])[if j < i then j else j+1]?=some (Hs (if j < i then j else j+1)):=e11 _ (by split <;> omega)
 unfold Ku
 rw [hoi,e10 i hi,hGj]
 dsimp only
 obtain ⟨_,_,hor⟩:=hline.step i oi hoi
 rcases hor with ⟨hw,hv,ha,heT,heA,hq⟩ | ⟨hw,_⟩
 ·
  rw [hw]
  simp only [Bool.not_true,Bool.false_or]
  obtain ⟨hGi,hTi⟩:=hline.inv i (by omega)
  have hops:∀ x ∈ oi.op.operands.toList,V0 (μs i) (Hs i) (dem (wK (Ts i) x)) (wK (As i) x):=fun x hx=>hTi.eval (List.all_eq_true.1 (show oi.op.operands.toList.all vS=true from WI hv) x hx)
  have hq3:okq 3 (vs i)=true:=hq (by rw [Nat.zero_add];exact hchk)
  have same:∃ G',aOp P (wK (As i)) oi (Hs (if j < i then j else j+1))=some (zf i,G')∧aeJ 3 (zf i) (zf i)=true:=by
   by_cases hm:JL (wK (Ts i)) oi
   case neg =>
    have hrm:Zq oi=true:=by
     cases hrm:Zq oi with
     | true=>rfl
     | false=>exact absurd (Qg hrm) hm
    have hin:(i,j) ∈ again P ops:=List.mem_filter.2 ⟨hp0,by dsimp only;rw [hoi];exact hrm⟩
    have hne:(again P ops).isEmpty=false:=by
     cases hl:again P ops with
     | nil=>rw [hl] at hin;cases hin
     | cons a b=>rfl
    have hst:=List.all_eq_true.1 (e14 hne) _ hin
    rw [List.nil_append] at hst
    have hi1:(hs++[(zh,Ss ops.toList.length)])[i]?=some (Jk (Ts i) oi,Ss i):=by
     rw [List.getElem?_append_left (by omega)];exact e13 i oi hoi
    have hj1:∃ p2,(hs++[(zh,Ss ops.toList.length)])[if j < i then j else j+1]?=some (p2,Ss (if j < i then j else j+1)):=by
     by_cases hjl:(if j < i then j else j+1) < ops.toList.length
     ·
      rw [List.getElem?_append_left (by omega)]
      exact ⟨_,e13 _ _ (List.getElem?_eq_getElem hjl)⟩
     ·
      have:(if j < i then j else j+1)=ops.toList.length:=by split at hjl <;> (rename_i hh;simp only [hh,if_true,if_false];omega)
      rw [this,List.getElem?_append_right (by omega),e12,Nat.sub_self]
      exact ⟨_,rfl⟩
    obtain ⟨p2,hj1⟩:=hj1
    unfold adq at hst
    dsimp only at hst
    rw [hi1,hj1] at hst
    dsimp only at hst
    have obj:∀ q r b,μs i q=some (r,b)→(∀ Sa Sb,qN (Jk (Ts i) oi) Sa Sb=true→(∃ o,Sa.get q=some o∧o.alive=true)∧q ∉ Sb.log.take (Sb.log.length - Sa.log.length))→(Hs (if j < i then j else j+1)).get r=(Hs i).get r:=by
     intro q r b hq hQ
     by_cases hji:j < i
     ·
      rw [if_pos hji] at hst ⊢
      rw [if_pos hji] at hst
      obtain ⟨⟨o1,g1,g2⟩,g3⟩:=hQ _ _ hst
      obtain ⟨hGj3,_⟩:=hline.inv j (by omega)
      obtain ⟨r0,_,g4,_⟩:=hGj3.obj q o1 g1 g2
      have hL:=hline.later (i:=j) (i - j) (by omega)
      rw [show j+(i - j)=i by omega] at hL
      obtain ⟨b',hb'⟩:=hL.mu q r0 true g4
      rw [hq] at hb'
      cases hb'
      obtain ⟨new,n1,n2⟩:=hL.still
      rw [hGj3.log,hGi.log] at n1
      rw [n1] at g3
      simp only [List.length_append,Nat.add_sub_cancel,List.take_left] at g3
      exact (n2 q r g4 g3).2.symm
     ·
      rw [if_neg hji] at hst ⊢
      rw [if_neg hji] at hst
      obtain ⟨⟨o1,g1,g2⟩,g3⟩:=hQ _ _ hst
      have hb:=hGi.at hq g1 g2
      subst hb
      have hL:=hline.later (i:=i) (j+1 - i) (by omega)
      rw [show i+(j+1 - i)=j+1 by omega] at hL
      obtain ⟨hGj3,_⟩:=hline.inv (j+1) (by omega)
      obtain ⟨new,n1,n2⟩:=hL.still
      rw [hGj3.log,hGi.log] at n1
      rw [n1] at g3
      simp only [List.length_append,Nat.add_sub_cancel,List.take_left] at g3
      exact (n2 q r hq g3).2
    clear hst hi1 hj1
    have hok:=WI hv
    have hvo:=hv
    unfold kC at hv
    rw [if_pos hok] at hv
    obtain ⟨dst,op,type,pos,after,guard⟩:=oi
    unfold JL at hm
    cases op <;> dsimp only at hv hm <;> first | (exact absurd True.intro hm) | skip
    case load t a =>
     have hv:jh P (fixed P ops) t (wK (Ts i) a) (Ss i)=some (vs i,Ss (i+1)):=hv
     obtain ⟨ad,hq⟩:∃ q,wK (Ts i) a=.pointer q:=Classical.byContradiction fun hn=>hm fun q hq=>hn ⟨q,hq⟩
     have hx:=hops a (by simp [Op.operands])
     obtain ⟨_,w,k1,k2⟩:=QU hv hx (.inr hGi)
     have hA:kM P (lim P) (As i) ⟨dst,.load t a,type,pos,after,guard⟩ (Hs i)=xM P t (wK (As i) a) (Hs i):=by unfold kM;rw [if_pos hok];rfl
     rw [hA,k1] at ha
     have e:w=zf i:=by simpa using congrArg (Option.map Prod.fst) ha
     subst e
     rw [hq] at hx
     have hx:V0 (μs i) (Hs i) (.pointer ad) (wK (As i) a):=hx
     generalize hpa:wK (As i) a=pa at hx k1
     have hres:xM P t pa (Hs (if j < i then j else j+1))=some (zf i,Hs (if j < i then j else j+1)):=by
      cases hx with
      | sg hs =>
       cases ad with
       | none=>simp [xM] at k1
       | some ad=>simp [Go.Abs.sg] at hs
      | @ptr _ q o r b hmq =>
       refine aez (obj q r b hmq fun Sa Sb hQ=>?_) k1
       have hQ:qN (wK (Ts i) a) Sa Sb=true:=hQ
       rw [hq] at hQ
       simp only [qN,Bool.and_eq_true,Bool.not_eq_true',List.contains_eq_mem,decide_eq_false_iff_not] at hQ
       refine ⟨?_,hQ.2⟩
       have h1:=hQ.1
       split at h1 <;> first | (cases h1;done) | skip
       rename_i hsa
       exact ⟨_,hsa,rfl⟩
     rw [← hpa] at hres
     exact ⟨_,hres,Xw 3 (Xc hq3) k2.dem⟩
    case lookup t x k ok =>
     have hv:vX P (fixed P ops) t (wK (Ts i) x) (wK (Ts i) k) ok (Ss i)=some (vs i,Ss (i+1)):=hv
     have hx:=hops x (by simp [Op.operands])
     obtain ⟨_,w,k1,k2⟩:=Vp hv hx (hops k (by simp [Op.operands])) (.inr hGi)
     have hA:kM P (lim P) (As i) ⟨dst,.lookup t x k ok,type,pos,after,guard⟩ (Hs i)=qO P t (wK (As i) x) (wK (As i) k) ok (Hs i):=by unfold kM;rw [if_pos hok];rfl
     rw [hA,k1] at ha
     have e:w=zf i:=by simpa using congrArg (Option.map Prod.fst) ha
     subst e
     have hres:qO P t (wK (As i) x) (wK (As i) k) ok (Hs (if j < i then j else j+1))=some (zf i,Hs (if j < i then j else j+1)):=by
      refine abg (fun r hr=>?_) k1
      rw [hr] at hx
      generalize hu:dem (wK (Ts i) x)=u at hx
      have hum:∃ q b,u=.map (some q)∧μs i q=some (r,b):=by
       cases hx with
       | sg hs=>simp [Go.Abs.sg] at hs
       | map hmq=>exact ⟨_,_,rfl,hmq⟩
      obtain ⟨q,b,rfl,hmq⟩:=hum
      have hxe:wK (Ts i) x=.map (some q):=by
       cases hvx:wK (Ts i) x <;> rw [hvx] at hu <;> simp [dem,vV] at hu <;> rw [hu]
      refine obj q r b hmq fun Sa Sb hQ=>?_
      have hQ:qN (wK (Ts i) x) Sa Sb=true:=hQ
      rw [hxe] at hQ
      simp only [qN,Bool.and_eq_true,Bool.not_eq_true',List.contains_eq_mem,decide_eq_false_iff_not] at hQ
      refine ⟨?_,hQ.2⟩
      have h1:=hQ.1
      split at h1 <;> first | (cases h1;done) | skip
      rename_i hsa
      exact ⟨_,hsa,rfl⟩
     exact ⟨_,hres,Xw 3 (Xc hq3) k2.dem⟩
   by_cases hrd:ZQ oi=false
   ·
    obtain ⟨a,h1,h2⟩:=aiq hdr hv hni hrd hops
    have h3:=(h2 (Hs i)).2
    rw [ha] at h3
    have e:zf i=a:=by simpa using congrArg (Option.map Prod.fst) h3
    subst e
    exact ⟨_,(h2 _).1,Xw 3 (Xc hq3) h1⟩
   ·
    have hrd:ZQ oi=true:=by simpa using hrd
    by_cases hlt:i < j
    ·
     rw [if_neg (by omega)]
     have hL:=hline.later (i:=i) (j+1 - i) (by omega)
     rw [show i+(j+1 - i)=j+1 by omega] at hL
     obtain ⟨a,h1,_,h3,h4,_⟩:=ajE hdr hv hni hm hops hL
     rw [ha] at h4
     have e:zf i=a:=by simpa using congrArg (Option.map Prod.fst) h4
     subst e
     exact ⟨_,h3,Xw 3 (Xc hq3) h1⟩
    ·
     rw [if_pos (by omega)]
     rw [hrd] at hp2
     have hcl:vC ((afm P (fixed P ops) (ops.toList.drop j) []).getD (i - j) []) oi=true:=by
      simpa [hlt] using hp2
     obtain ⟨hGj2,hTj⟩:=hline.inv j (by omega)
     have hC0:Clear (μs j) (Hs j) [] (Ts j) (As j):=fun t _=>(hTj.slots t).v0
     have hC:=hline.clear hdr (j:=j) (by omega) _ [] j (Nat.le_refl _) rfl hC0 (i - j) (by rw [List.length_drop];omega)
     rw [show j+(i - j)=i by omega] at hC
     have hL:=hline.later (i:=j) (i - j) (by omega)
     rw [show j+(i - j)=i by omega] at hL
     obtain ⟨a,h1,h2,_,_,h5⟩:=ajE hdr hv hni hm (hC.operands (WI hv) hcl) hL
     rw [ha] at h5
     have e:zf i=a:=by simpa using congrArg (Option.map Prod.fst) h5
     subst e
     exact ⟨_,h2,Xw 3 (Xc hq3) h1⟩
  obtain ⟨G',h1,h2⟩:=same
  unfold recheck
  rw [h1]
  exact h2
 ·
  rw [hw]
  rfl
end
end Go.Abs
namespace Go.Abs
open Go.RowKit
section
variable {P:Program} {call:FuncId→List Value→M Value}
def ai5 (μ:Mu) (ω:Nat→Option xB) (H:zy) (e:AEx) (T':List Value) (S':zy) (R:St):Prop :=
 ∃ A' H' μ' ω',R=some (e,A',H')∧GI μ' S' H'∧Later μ H μ' H'∧Kept ω H ω' H'∧TI μ' H' ω' T' A'
theorem ahc {hp:Bool} (hc:QS P call) (fuel:Nat):∀ (c:Code) (T T' A:List Value) (S S' H:zy) (μ:Mu) (ω:Nat→Option xB) (e:AEx),kT P hp call fuel c T S=some (e,T',S')→GI μ S H→TI μ H ω T A→ai5 μ ω H e T' S' (kW P c A H):=by
 intro c
 induction c with
 | skip =>
  intro T T' A S S' H μ ω e h hG hT
  simp only [kT,Option.some.injEq,Prod.mk.injEq] at h
  obtain ⟨rfl,rfl,rfl⟩:=h
  exact ⟨A,H,μ,ω,rfl,hG,Later.refl _ _,Kept.refl _ _,hT⟩
 | exit id =>
  intro T T' A S S' H μ ω e h hG hT
  simp only [kT,Option.some.injEq,Prod.mk.injEq] at h
  obtain ⟨rfl,rfl,rfl⟩:=h
  exact ⟨A,H,μ,ω,rfl,hG,Later.refl _ _,Kept.refl _ _,hT⟩
 | ret =>
  intro T T' A S S' H μ ω e h hG hT
  simp only [kT,Option.some.injEq,Prod.mk.injEq] at h
  obtain ⟨rfl,rfl,rfl⟩:=h
  exact ⟨A,H,μ,ω,rfl,hG,Later.refl _ _,Kept.refl _ _,hT⟩
 | region i ops d =>
  intro T T' A S S' H μ ω e h hG hT
  cases d with
  | false =>
   simp only [kT] at h
   split at h <;> first | (cases h;done) | skip
   rename_i T1 S1 ho
   cases h
   obtain ⟨A',H',μ',ω',h1,h2,h3,h4,h5⟩:=ajI hc _ _ _ _ _ _ _ _ _ ho hG hT
   exact ⟨A',H',μ',ω',by simp only [kW,h1],h2,h3,h4,h5⟩
  | true =>
   simp only [kT] at h
   split at h <;> first | (cases h;done) | skip
   rename_i hd
   split at h <;> first | (cases h;done) | skip
   rename_i T1 S1 ho
   cases h
   obtain ⟨A',H',μ',ω',h1,h2,h3,h4,h5⟩:=afK hc hd ho hG hT
   exact ⟨A',H',μ',ω',by simp only [kW,h1],h2,h3,h4,h5⟩
 | seq x y ihx ihy =>
  intro T T' A S S' H μ ω e h hG hT
  simp only [kT] at h
  split at h
  ·
   rename_i T1 S1 hx
   obtain ⟨A1,H1,μ1,ω1,h1,h2,h3,h4,h5⟩:=ihx _ _ _ _ _ _ _ _ _ hx hG hT
   obtain ⟨A2,H2,μ2,ω2,k1,k2,k3,k4,k5⟩:=ihy _ _ _ _ _ _ _ _ _ h h2 h5
   exact ⟨A2,H2,μ2,ω2,by simp only [kW,h1];exact k1,k2,h3.trans k3,h4.trans k4,k5⟩
  ·
   rename_i hne
   obtain ⟨A1,H1,μ1,ω1,h1,h2,h3,h4,h5⟩:=ihx _ _ _ _ _ _ _ _ _ h hG hT
   refine ⟨A1,H1,μ1,ω1,?_,h2,h3,h4,h5⟩
   simp only [kW,h1]
   cases e with
   | normal=>exact absurd h (hne _ _)
   | exit id=>rfl
   | ret=>rfl
 | cond c x y ihx ihy =>
  intro T T' A S S' H μ ω e h hG hT
  simp only [kT] at h
  split at h <;> first | (cases h;done) | skip
  rename_i hok
  have hv:=hT.eval hok
  split at h
  ·
   rename_i hb
   have:wK A c=.bool true:=yj hv (by rw [hb];rfl) |>.trans hb
   obtain ⟨A1,H1,μ1,ω1,h1,h2,h3,h4,h5⟩:=ihx _ _ _ _ _ _ _ _ _ h hG hT
   exact ⟨A1,H1,μ1,ω1,by simp only [kW,hok,if_true,this];exact h1,h2,h3,h4,h5⟩
  ·
   rename_i hb
   have:wK A c=.bool false:=yj hv (by rw [hb];rfl) |>.trans hb
   obtain ⟨A1,H1,μ1,ω1,h1,h2,h3,h4,h5⟩:=ihy _ _ _ _ _ _ _ _ _ h hG hT
   exact ⟨A1,H1,μ1,ω1,by simp only [kW,hok,if_true,this];exact h1,h2,h3,h4,h5⟩
  ·
   cases h
 | block id c ih =>
  intro T T' A S S' H μ ω e h hG hT
  simp only [kT] at h
  split at h
  ·
   rename_i id' T1 S1 hx
   obtain ⟨A1,H1,μ1,ω1,h1,h2,h3,h4,h5⟩:=ih _ _ _ _ _ _ _ _ _ hx hG hT
   by_cases hid:id'=id
   ·
    rw [if_pos hid] at h
    cases h
    exact ⟨A1,H1,μ1,ω1,by simp only [kW,h1,if_pos hid],h2,h3,h4,h5⟩
   ·
    rw [if_neg hid] at h
    cases h
    exact ⟨A1,H1,μ1,ω1,by simp only [kW,h1,if_neg hid],h2,h3,h4,h5⟩
  ·
   rename_i hne
   obtain ⟨A1,H1,μ1,ω1,h1,h2,h3,h4,h5⟩:=ih _ _ _ _ _ _ _ _ _ h hG hT
   refine ⟨A1,H1,μ1,ω1,?_,h2,h3,h4,h5⟩
   simp only [kW,h1]
   cases e with
   | normal=>rfl
   | exit id'=>exact absurd h (hne _ _ _)
   | ret=>rfl
 | loop c ih =>
  have key:∀ (n:Nat) (T T' A:List Value) (S S' H:zy) (μ:Mu) (ω:Nat→Option xB) (e:AEx),xX n (kT P hp call fuel c) T S=some (e,T',S')→GI μ S H→TI μ H ω T A→ai5 μ ω H e T' S' (qE (kW P c) A H):=by
   intro n
   induction n with
   | zero=>intro T T' A S S' H μ ω e h;cases h
   | succ n ihn =>
    intro T T' A S S' H μ ω e h hG hT
    simp only [xX] at h
    split at h
    ·
     rename_i T1 S1 hx
     obtain ⟨A1,H1,μ1,ω1,h1,h2,h3,h4,h5⟩:=ih _ _ _ _ _ _ _ _ _ hx hG hT
     obtain ⟨A2,H2,μ2,ω2,k1,k2,k3,k4,k5⟩:=ihn _ _ _ _ _ _ _ _ _ h h2 h5
     exact ⟨A2,H2,μ2,ω2,by rw [wZ h1];exact k1,k2,h3.trans k3,h4.trans k4,k5⟩
    ·
     rename_i hne
     obtain ⟨A1,H1,μ1,ω1,h1,h2,h3,h4,h5⟩:=ih _ _ _ _ _ _ _ _ _ h hG hT
     exact ⟨A1,H1,μ1,ω1,wu h1 (fun he=>by subst he;exact hne _ _ h),h2,h3,h4,h5⟩
  intro T T' A S S' H μ ω e h hG hT
  simp only [kT] at h
  obtain ⟨A1,H1,μ1,ω1,h1,h2⟩:=key fuel _ _ _ _ _ _ _ _ _ h hG hT
  exact ⟨A1,H1,μ1,ω1,by simp only [kW];exact h1,h2⟩
 | _=>intro T T' A S S' H μ ω e h;simp only [kT] at h;cases h
theorem VV.akW {μ:Mu} {H:zy} {ω ω':Nat→Option xB} {f:xB→Option xB} (hω:∀ r,ω' r=(ω r).bind f) {s s':xB} (hs:f s=some s') {v a:Value} (h:VV μ H ω (some s) v a) (hv:wG v=true):VV μ H ω' (some s') v a:=by
 cases h with
 | sg h=>exact .sg h
 | ptr h=>exact .ptr h
 | map h=>exact .map h
 | slm h=>exact .slm h
 | slE=>exact .slE
 | sl hr hp hg hl hl' hc=>exact .sl hr hp hg hl hl' (fun i hi=>(hc i hi).at0)
 | so h hr hp hg hl hl' hc=>exact .so (by rw [hω,h];exact hs) hr hp hg hl hl' (fun i hi=>(hc i hi).at0)
 | ep hr hp hg hl hc=>exact .ep hr hp hg hl (fun i hi=>(hc i hi).at0)
 | func fn hx hc h1 h2=>exact .func fn hx hc (fun i=>(h1 i).at0) (fun i=>(h2 i).at0)
 | agg hx hh=>exact .agg hx (fun i=>(hh i).at0)
 | nores=>exact .nores
 | @tuple _ x x' hx hh =>
  have h0:x.size=0:=by simpa [wG] using hv
  have e1:x=#[]:=Array.eq_empty_of_size_eq_zero h0
  have e2:x'=#[]:=Array.eq_empty_of_size_eq_zero (by rw [← hx];exact h0)
  subst e1 e2
  exact .nores
def place (rs:List ResultVar):xB→Option xB
 | .ext=>some .ext
 | .res _=>none
 | .slot i j=>match rs with
  | [.tmp t]=>if i=t then some (.res j) else none
  | _=>match j with
   | none=>(rs.findIdx? (ah4 i)).map fun k=>.res (some k)
   | some _=>none
theorem aeg {rs:List ResultVar} {i:Nat} (h:∀ t,rs≠[.tmp t]):place rs (.slot i none)=(rs.findIdx? (ah4 i)).map fun k=>.res (some k):=by
 match rs,h with
 | [],_=>rfl
 | [.tmp t],h=>exact absurd rfl (h t)
 | [.cell _ _],_=>rfl
 | .tmp _::_::_,_=>rfl
 | .cell _ _::_::_,_=>rfl
theorem abX {μ:Mu} {ω:Nat→Option xB} {S H:zy} {T A:List Value} (hG:GI μ S H) (hT:TI μ H ω T A):∀ (l:List ResultVar) (vs:List Value),zQ P T S l=some vs →
  ∃ zf,Jz P A H l=some zf∧vs.length=l.length∧zf.length=l.length∧∀ i:Nat,match (l[i]?:Option ResultVar) with
   | some (.tmp t)=>vs.getD i zh=T.getD t zh∧zf.getD i zh=A.getD t zh
   | _=>V0 μ H (vs.getD i zh) (zf.getD i zh):=by
 intro l
 induction l with
 | nil =>
  intro vs h
  simp only [zQ,Option.some.injEq] at h
  subst h
  exact ⟨[],rfl,rfl,rfl,fun i=>by simpa using VV.zh⟩
 | cons x l ih =>
  intro vs h
  cases x with
  | tmp t =>
   simp only [zQ] at h
   split at h <;> first | (cases h;done) | skip
   rename_i vs' hr
   cases h
   obtain ⟨zf,h1,h2,h3,h4⟩:=ih _ hr
   refine ⟨A.getD t zh::zf,by simp only [Jz,h1],by simp [h2],by simp [h3],fun i=>?_⟩
   cases i with
   | zero=>exact ⟨rfl,rfl⟩
   | succ i=>simpa using h4 i
  | cell a t =>
   simp only [zQ] at h
   split at h <;> first | (cases h;done) | skip
   rename_i v S1 vs' hl hr
   cases h
   obtain ⟨zf,h1,h2,h3,h4⟩:=ih _ hr
   obtain ⟨_,w,k1,k2⟩:=QU hl (hT.slots a).v0 (.inr hG)
   refine ⟨w::zf,by simp only [Jz,k1,h1],by simp [h2],by simp [h3],fun i=>?_⟩
   cases i with
   | zero=>exact k2
   | succ i=>simpa using h4 i
theorem aj0 {μ:Mu} {ω:Nat→Option xB} {S S' H:zy} {T A:List Value} {fn:Func} {v:Value} (hG:GI μ S H) (hT:TI μ H ω T A) (h:ae5 P fn T S=some (v,S')) :
  S'=S∧∃ a,ahl P fn A H=some (a,H)∧VV μ H (fun r=>(ω r).bind (place fn.results.toList)) (some (.res none)) v a:=by
 unfold ae5 at h
 split at h <;> first | (cases h;done) | skip
 rename_i vs hvs
 split at h <;> first | (cases h;done) | skip
 rename_i hok
 obtain ⟨zf,h1,h2,h3,h4⟩:=abX hG hT _ _ hvs
 generalize hrs:fn.results.toList=rs at *
 split at h
 ·
  rename_i v1
  cases h
  obtain ⟨a,rfl⟩:∃ a,zf=[a]:=by
   match zf,h3.trans h2.symm with
   | [a],_=>exact ⟨a,rfl⟩
  refine ⟨rfl,a,by simp only [ahl,hrs,h1],?_⟩
  match rs,h2 with
  | [x],_ =>
   have:=h4 0
   cases x with
   | tmp t =>
    simp only [List.getElem?_cons_zero,List.getD_cons_zero] at this
    obtain ⟨rfl,rfl⟩:=this
    refine (hT.slots t).VY (fun _=>rfl) _ (fun s hs=>?_)
    cases hs
    refine ⟨_,rfl,by simp only [place,if_true],fun k t' ht=>?_⟩
    cases ht
    exact ⟨_,rfl,by simp only [place,if_true]⟩
   | cell b t=>exact (show V0 μ H v a from this).at0
 ·
  rename_i hne
  split at h <;> first | (cases h;done) | skip
  rename_i hnt
  cases h
  refine ⟨rfl,.tuple zf.toArray,?_,.tuple (by simp [h2,h3]) fun i=>?_⟩
  ·
   simp only [ahl,hrs,h1]
   match zf,vs,h3.trans h2.symm,hne with
   | [],_,_,_=>rfl
   | [a],[v],_,hne=>exact absurd rfl (hne v)
   | a::b::c,_,_,_=>rfl
  ·
   have e1:vs.toArray.getD i zh=vs.getD i zh:=by rw [← getD_toList,List.toList_toArray]
   have e2:zf.toArray.getD i zh=zf.getD i zh:=by rw [← getD_toList,List.toList_toArray]
   rw [e1,e2]
   have h5:=h4 i
   cases hx:rs[i]? with
   | none=>rw [hx] at h5;exact (show V0 μ H _ _ from h5).at0
   | some x =>
    rw [hx] at h5
    cases x with
    | cell b t=>exact (show V0 μ H _ _ from h5).at0
    | tmp t =>
     dsimp only at h5
     have hi:i < rs.length:=(List.getElem?_eq_some_iff.1 hx).1
     have hid:rs.findIdx? (ah4 t)=some i:=by
      have:=List.all_eq_true.1 hok i (List.mem_range.2 hi)
      rw [hx] at this
      simpa using this
     have hnt2:wG (T.getD t zh)=true:=by
      rw [← h5.1,List.getD_eq_getElem?_getD,List.getElem?_eq_getElem (by omega)]
      exact List.all_eq_true.1 hnt _ (List.getElem_mem _)
     rw [h5.1,h5.2]
     refine (hT.slots t).akW (fun _=>rfl) (s':=.res (some i)) ?_ hnt2
     have hne1:∀ t',rs≠[.tmp t']:=by
      intro t' e
      rw [e] at h2
      match vs,h2 with
      | [v],_=>exact hne v rfl
     rw [aeg hne1,hid];rfl
def agx (P:Program) (O:Ora):Prop:=∀ f q,O.fn f=some q→QS P (fun g args=>if g=f then q args else fun _=>none)
open Classical in
noncomputable def aco (μ μ1:Mu) (ω:Nat→Option xB):Nat→Option xB:=fun r=>if ∃ q,μ q=some (r,true)∧¬ μ1 q=some (r,true) then some .ext else ω r
theorem ahV {call:FuncId→List Value→M Value} (hc:QS P call) {hps:FuncId→Bool} {hp:Bool}:QS P (Jy hps hp call):=by
 cases hp with
 | false=>exact hc
 | true =>
  intro g args aargs S v S' h μ H ω hG hA hD hE
  unfold Jy at h
  dsimp only at h
  split at h
  ·
   exact hc g args aargs S v S' h μ H ω hG hA hD hE
  ·
   split at h <;> first | (cases h;done) | skip
   rename_i m S1 hf
   obtain ⟨μ1,h1,h2,h3⟩:=abS _ _ _ _ _ _ hf hG hA
   split at h <;> first | (cases h;done) | skip
   rename_i r0 hr0
   obtain ⟨v0,S2⟩:=r0
   simp only [Option.some.injEq] at h
   unfold agk at h
   dsimp only at h
   split at h
   ·
    rename_i hb
    cases h
    simp only [Bool.and_eq_true,beq_iff_eq] at hb
    obtain ⟨⟨_,hgr⟩,hlog⟩:=hb
    have hlent:∀ q r,μ q=some (r,true)→¬ μ1 q=some (r,true)→r < H.next∧XA μ1 r:=fun q r hq hn =>
     ⟨hG.lt q r _ hq,fun q' hq'=>by
      rcases h2.new q' r hq' with h5 | h5
      ·
       have:=hG.inj q q' r hq h5
       subst this
       exact hn hq'
      ·
       have:=hG.lt q r _ hq;omega,by rw [h2.hid];exact hG.vis q r hq⟩
    have hDL:Dom μ1 H (aco μ μ1 ω):=fun r s hs=>by
     unfold aco at hs
     split at hs
     ·
      rename_i hx
      obtain ⟨q,hq,hn⟩:=hx
      exact hlent q r hq hn
     ·
      exact ⟨(hD r s hs).1,h2.priv (hD r s hs).1 (hD r s hs).2⟩
    have hEL:∀ r s,aco μ μ1 ω r=some s→s=.ext:=fun r s hs=>by
     unfold aco at hs
     split at hs
     ·
      cases hs;rfl
     ·
      exact hE r s hs
    obtain ⟨a,H',μ',ω',k1,k2,k3,k4,k5,k6⟩:=hc g m aargs S1 v S2 hr0 μ1 H (aco μ μ1 ω) h1 h3 hDL hEL
    have hsame:∀ q r,μ q=some (r,true)→H'.get r=H.get r:=fun q r hq=>by
     by_cases hn:μ1 q=some (r,true)
     ·
      obtain ⟨new,e1,e2⟩:=k3.still
      have:new=[]:=by
       rw [k2.log,h1.log,hlog] at e1
       exact List.append_cancel_right (bs:=S1.log) (by rw [← e1];rfl)
      subst this
      exact (e2 q r hn (by simp)).2
     ·
      exact (k4 r (by unfold aco;rw [if_pos ⟨q,hq,hn⟩])).2
    have hL:Later μ H μ H':=⟨fun _ _ b h=>⟨b,h⟩,k3.next,fun _ _ h=>.inl h,rfl,fun r hr hh=>k3.same r hr (by rw [h2.hid];exact hh),⟨[],rfl,fun q r hq _=>⟨hq,hsame q r hq⟩⟩,
     fun r l own e hr hp hg=>k3.cells r l own e hr (h2.priv hr hp) hg⟩
    refine ⟨a,H',μ,ω,k1,hG.later hL rfl hsame,hL,fun r hr=>⟨hr,(k4 r ?_).2⟩,fun r s hs=>⟨Nat.lt_of_lt_of_le (hD r s hs).1 k3.next,(hD r s hs).2⟩,?_⟩
    ·
     unfold aco
     split
     ·
      rfl
     ·
      exact hr
    ·
     rw [VV.ZO hgr k6]
     exact VV.kH hgr
   ·
    cases h
    obtain ⟨a,H',μ',ω',k1,k2,k3,k4,k5,k6⟩:=hc g m aargs S1 v S' hr0 μ1 H ω h1 h3 (fun r s hs=>⟨(hD r s hs).1,h2.priv (hD r s hs).1 (hD r s hs).2⟩) hE
    exact ⟨a,H',μ',ω',k1,k2,h2.trans k3,k4,k5,k6⟩
theorem VV.clean {μ μ':Mu} {H:zy} {ω:Nat→Option xB} (hp:∀ r,XA μ r→XA μ' r) {ℓ:Option xB} {v a:Value} (h:VV μ H ω ℓ v a):∀ d,jW d v=true→VV μ' H ω ℓ v a:=by
 induction h with
 | sg h=>exact fun _ _=>.sg h
 | ptr h=>intro d hc;cases d <;> simp [jW] at hc
 | map h=>intro d hc;cases d <;> simp [jW] at hc
 | slm h=>intro d hc;cases d <;> simp [jW] at hc
 | slE=>exact fun _ _=>.slE
 | sl hr hpr hg hl hn hc ih =>
  intro d hcl
  obtain ⟨d,rfl⟩:∃ k,d=k+4:=by
   match d,hcl with
   | 0,h=>cases h
   | 1,h=>simp [jW] at h
   | 2,h=>simp [jW] at h
   | 3,h=>simp [jW] at h
   | k+4,_=>exact ⟨k,rfl⟩
  simp only [jW] at hcl
  refine .sl hr (hp _ hpr) hg hl hn (fun i hi=>ih i hi d ?_)
  rw [List.getD_eq_getElem?_getD,List.getElem?_eq_getElem (by omega)]
  exact List.all_eq_true.1 hcl _ (List.getElem_mem _)
 | so hω hr hpr hg hl hn hc ih =>
  intro d hcl
  obtain ⟨d,rfl⟩:∃ k,d=k+4:=by
   match d,hcl with
   | 0,h=>cases h
   | 1,h=>simp [jW] at h
   | 2,h=>simp [jW] at h
   | 3,h=>simp [jW] at h
   | k+4,_=>exact ⟨k,rfl⟩
  simp only [jW] at hcl
  refine .so hω hr (hp _ hpr) hg hl hn (fun i hi=>ih i hi d ?_)
  rw [List.getD_eq_getElem?_getD,List.getElem?_eq_getElem (by omega)]
  exact List.all_eq_true.1 hcl _ (List.getElem_mem _)
 | ep hr hpr hg hl hc ih =>
  intro d hcl
  obtain ⟨d,rfl⟩:∃ k,d=k+2:=by
   match d,hcl with
   | 0,h=>cases h
   | 1,h=>simp [jW] at h
   | k+2,_=>exact ⟨k,rfl⟩
  simp only [jW] at hcl
  refine .ep hr (hp _ hpr) hg hl (fun i hi=>ih i hi d ?_)
  rw [List.getD_eq_getElem?_getD,List.getElem?_eq_getElem hi]
  exact List.all_eq_true.1 hcl _ (List.getElem_mem _)
 | func fn hx hc h1 h2=>intro d hc;cases d <;> simp [jW] at hc
 | @agg ℓ x x' hx hh ih =>
  intro d hcl
  obtain ⟨d,rfl⟩:∃ k,d=k+1:=by
   match d,hcl with
   | 0,h=>cases h
   | k+1,_=>exact ⟨k,rfl⟩
  simp only [jW] at hcl
  refine .agg hx (fun i=>?_)
  by_cases hi:i < x.size
  ·
   refine ih i d ?_
   rw [Array.getD_eq_getD_getElem?,Array.getElem?_eq_getElem hi]
   exact List.all_eq_true.1 hcl _ (by simp)
  ·
   rw [Array.getD_eq_getD_getElem?,Array.getElem?_eq_none (Nat.le_of_not_lt hi),Array.getD_eq_getD_getElem?,Array.getElem?_eq_none (by omega)]
   exact .nores
 | nores=>exact fun _ _=>.nores
 | @tuple ℓ x x' hx hh ih =>
  intro d hcl
  obtain ⟨d,rfl⟩:∃ k,d=k+1:=by
   match d,hcl with
   | 0,h=>cases h
   | k+1,_=>exact ⟨k,rfl⟩
  simp only [jW] at hcl
  refine .tuple hx (fun i=>?_)
  by_cases hi:i < x.size
  ·
   refine ih i d ?_
   rw [Array.getD_eq_getD_getElem?,Array.getElem?_eq_getElem hi]
   exact List.all_eq_true.1 hcl _ (by simp)
  ·
   rw [Array.getD_eq_getD_getElem?,Array.getElem?_eq_none (Nat.le_of_not_lt hi),Array.getD_eq_getD_getElem?,Array.getElem?_eq_none (by omega)]
   exact .nores
open Classical in
noncomputable def WH (μ:Mu):Mu:=⟨fun _=>none,fun r=>μ.hid r || decide (∃ q,μ q=some (r,true)),[]⟩
theorem Xl {μ:Mu} {r:Nat} (h:XA μ r):XA (WH μ) r:=⟨fun q hq=>(by cases hq),by
 simp only [WH,h.2,Bool.false_or,decide_eq_false_iff_not]
 rintro ⟨q,hq⟩
 exact h.1 q hq⟩
theorem agE {μ:Mu} {r:Nat} (h:(WH μ).hid r=false):XA μ r:=by
 simp only [WH,Bool.or_eq_false_iff,decide_eq_false_iff_not] at h
 exact ⟨fun q hq=>h.2 ⟨q,hq⟩,h.1⟩
def alh (P:Program) (g:FuncId) (args:List Value) (run:M Value):Prop:=∀ aargs S v S',run S=some (v,S')→∀ μ H ω,GI μ S H→L0 μ H args aargs→Dom μ H ω→(∀ r s,ω r=some s→s=.ext) →
 ∃ a H' μ' ω',lim P g aargs H=some (a,H')∧GI μ' S' H'∧Later μ H μ' H'∧Kept ω H ω' H'∧Dom μ' H' ω'∧VV μ' H' ω' (some (.res none)) v a
theorem ag6 {g:FuncId} {args:List Value} {run:M Value} (hr:alh P g args run):alh P g args (agD run args):=by
 intro aargs S v S' h μ H ω hG hA hD hE
 unfold agD at h
 split at h <;> first | (cases h;done) | skip
 rename_i hca
 split at h <;> first | (cases h;done) | skip
 rename_i w S1 hrun
 split at h <;> first | (cases h;done) | skip
 rename_i hcw
 cases h
 have hG0:GI (WH μ) zy.empty H:=⟨fun q o h=>(by cases h),fun q q' r h=>(by cases h),fun q r b h=>(by cases h),fun q _=>rfl,fun q r h=>(by cases h),fun r h=>by
  simp only [WH,Bool.or_eq_true,decide_eq_true_eq] at h
  rcases h with h | ⟨q,hq⟩
  ·
   exact hG.hlt r h
  ·
   exact hG.lt q r _ hq,rfl,fun q cs anc e h=>(by cases h)⟩
 have hA0:L0 (WH μ) H args aargs:=⟨hA.1,fun i=>by
  by_cases hi:i < args.length
  ·
   refine (hA.2 i).clean (fun r h=>Xl h) 16 ?_
   rw [List.getD_eq_getElem?_getD,List.getElem?_eq_getElem hi]
   exact List.all_eq_true.1 hca _ (List.getElem_mem _)
  ·
   rw [List.getD_eq_getElem?_getD,List.getElem?_eq_none (Nat.le_of_not_lt hi),List.getD_eq_getElem?_getD,List.getElem?_eq_none (by rw [← hA.1];omega)]
   exact .nores⟩
 obtain ⟨a,H1,μ1,ω1,k1,k2,k3,k4,k5,k6⟩:=hr aargs _ _ _ hrun (WH μ) H ω hG0 hA0 (fun r s h=>⟨(hD r s h).1,Xl (hD r s h).2⟩) hE
 have hp1:∀ r,XA μ1 r→XA μ r:=fun r h=>agE (by rw [← k3.hid];exact h.2)
 have hL:Later μ H μ H1:=⟨fun _ _ b h=>⟨b,h⟩,k3.next,fun _ _ h=>.inl h,rfl,fun r hr hh=>k3.same r hr (by simp only [WH,hh,Bool.true_or]),⟨[],rfl,fun q r hq _=>⟨hq,k3.same r (hG.lt q r _ hq) (by
  simp only [WH,Bool.or_eq_true,decide_eq_true_eq]
  exact .inr ⟨q,hq⟩)⟩⟩,fun r l own e hr hp hg=>k3.cells r l own e hr (Xl hp) hg⟩
 refine ⟨a,H1,μ,ω1,k1,?_,hL,k4,fun r s h=>⟨(k5 r s h).1,hp1 r (k5 r s h).2⟩,k6.clean hp1 16 hcw⟩
 exact hG.later hL rfl fun q r hq=>k3.same r (hG.lt q r _ hq) (by
  simp only [WH,Bool.or_eq_true,decide_eq_true_eq]
  exact .inr ⟨q,hq⟩)
theorem ahk {O:Ora} (hO:agx P O):∀ n,QS P (JG P O n):=by
 intro n
 induction n with
 | zero=>intro g args aargs S v S' h;cases h
 | succ n ih =>
  intro g args aargs S v S' h μ H ω hG hA hD hE
  simp only [JG] at h
  cases ho:O.fn g with
  | some q =>
   rw [ho] at h
   exact hO g q ho g args aargs S v S' (by simpa using h) μ H ω hG hA hD hE
  | none =>
   rw [ho] at h
   dsimp only at h
   cases hf:P.funcs[g]? with
   | none=>rw [hf] at h;cases h
   | some fn =>
    rw [hf] at h
    dsimp only at h
    split at h <;> first | (cases h;done) | skip
    rename_i hn
    cases hb:fn.body with
    | none=>rw [hb] at h;cases h
    | some c =>
     rw [hb] at h
     dsimp only at h
     have hrun:alh P g args (ag5 P (O.hp g) (Jy O.hp (O.hp g) (JG P O n)) n fn c args):=by
      intro aargs S v S' h μ H ω hG hA hD hE
      have hT0:TI μ H ω (args++List.replicate (fn.ntmps - args.length) zh) (aargs++List.replicate (fn.ntmps - aargs.length) zh):=by
       have hl:L0 μ H (args++List.replicate (fn.ntmps - args.length) zh) (aargs++List.replicate (fn.ntmps - aargs.length) zh):=by
        refine hA.append (VL.ofRange (by rw [hA.1]) fun i hi=>?_)
        have hi2:i < fn.ntmps - args.length:=by simpa using hi
        rw [List.getD_eq_getElem?_getD,List.getElem?_replicate,if_pos hi2,List.getD_eq_getElem?_getD,List.getElem?_replicate,if_pos (by rw [← hA.1];exact hi2)]
        exact .nores
       exact ⟨hl.1,fun i=>(hl.2 i).at0,hD,fun r j hr=>by have:=hE r _ hr;cases this⟩
      have fin:∀ (e:AEx) (T1:List Value) (S1:zy),(e=.normal∨e=.ret)→kT P (O.hp g) (Jy O.hp (O.hp g) (JG P O n)) n c (args++List.replicate (fn.ntmps - args.length) zh) S=some (e,T1,S1)→ae5 P fn T1 S1=some (v,S') →
        ∃ a H' μ' ω',lim P g aargs H=some (a,H')∧GI μ' S' H'∧Later μ H μ' H'∧Kept ω H ω' H'∧Dom μ' H' ω'∧VV μ' H' ω' (some (.res none)) v a:=by
       intro e T1 S1 he hcode hres
       obtain ⟨A1,H1,μ1,ω1,h1,h2,h3,h4,h5⟩:=ahc (ahV ih) n c _ _ _ _ _ _ _ _ _ hcode hG hT0
       obtain ⟨rfl,a,k1,k2⟩:=aj0 (P:=P) h2 h5 hres
       refine ⟨a,H1,μ1,fun r=>(ω1 r).bind (place fn.results.toList),ahG hf hn hb h1 he k1,h2,h3,fun r hr=>?_,fun r s hs=>?_,k2⟩
       ·
        obtain ⟨q1,q2⟩:=h4 r hr
        exact ⟨by simp [q1,place],q2⟩
       ·
        cases hr:ω1 r with
        | none=>simp [hr] at hs
        | some s0=>exact h5.dom r s0 hr
      unfold ag5 at h
      split at h
      ·
       rename_i T1 S1 hx;exact fin .normal _ _ (.inl rfl) hx h
      ·
       rename_i T1 S1 hx;exact fin .ret _ _ (.inr rfl) hx h
      ·
       cases h
     split at h
     ·
      exact ag6 hrun aargs S v S' h μ H ω hG hA hD hE
     ·
      exact hrun aargs S v S' h μ H ω hG hA hD hE
end
end Go.Abs
namespace Go.Abs
open Go.RowKit
open Classical
noncomputable def zZ (P:Program) (O:Ora) (g:FuncId) (args:List Value):M Value:=fun S =>
 if h:∃ r,∃ k0,∀ k,k0≤k→JG P O k g args S=some r then some (Classical.choose h) else none
section
variable {P:Program} {O:Ora}
theorem aaU {g:FuncId} {args:List Value} {S:zy} {r:Value×zy} (h:zZ P O g args S=some r):∃ k0,∀ k,k0≤k→JG P O k g args S=some r:=by
 unfold zZ at h
 split at h
 ·
  rename_i hx
  have:=Classical.choose_spec hx
  cases h
  exact this
 ·
  cases h
theorem abW {g:FuncId} {args:List Value} {S:zy} {r:Value×zy} (h:∃ k0,∀ k,k0≤k→JG P O k g args S=some r):zZ P O g args S=some r:=by
 have hx:∃ r,∃ k0,∀ k,k0≤k→JG P O k g args S=some r:=⟨r,h⟩
 unfold zZ
 rw [dif_pos hx]
 obtain ⟨k0,h0⟩:=h
 obtain ⟨k1,h1⟩:=Classical.choose_spec hx
 have e0:=h0 (max k0 k1) (Nat.le_max_left _ _)
 have e1:=h1 (max k0 k1) (Nat.le_max_right _ _)
 rw [e0] at e1
 exact e1.symm
theorem ajG (hO:agx P O):QS P (zZ P O):=by
 intro g args aargs S v S' h
 obtain ⟨k,hk⟩:=aaU h
 exact ahk hO k g args aargs S v S' (hk k (Nat.le_refl k))
def aj6 (c:FuncId→List Value→M Value) (ck:Nat→FuncId→List Value→M Value):Prop:=∀ g args S r,c g args S=some r→∃ k0,∀ k,k0≤k→ck k g args S=some r
theorem abH:aj6 (zZ P O) (fun k=>JG P O k):=fun g args S r h=>aaU h
theorem XV {c:FuncId→List Value→M Value} {ck:Nat→FuncId→List Value→M Value} (hl:aj6 c ck) {hps:FuncId→Bool} {hp:Bool}:aj6 (Jy hps hp c) (fun k=>Jy hps hp (ck k)):=by
 cases hp with
 | false=>exact hl
 | true =>
  intro g args S r h
  unfold Jy at h
  dsimp only at h
  split at h
  ·
   rename_i hg
   obtain ⟨k0,h0⟩:=hl _ _ _ _ h
   exact ⟨k0,fun k hk=>by unfold Jy;dsimp only;rw [if_pos hg];exact h0 k hk⟩
  ·
   rename_i hg
   split at h <;> first | (cases h;done) | skip
   rename_i m S1 hf
   split at h <;> first | (cases h;done) | skip
   rename_i r0 hr0
   obtain ⟨k0,h0⟩:=hl _ _ _ _ hr0
   exact ⟨k0,fun k hk=>by unfold Jy;dsimp only;rw [if_neg hg,hf];dsimp only;rw [h0 k hk];exact h⟩
section
variable {c:FuncId→List Value→M Value} {ck:Nat→FuncId→List Value→M Value}
theorem aa8 (hl:aj6 c ck) {fx:Fx} {T:List Value} {o:Oper} {S:zy} {r:Value×zy} (h:kC P fx c T o S=some r):∃ k0,∀ k,k0≤k→kC P fx (ck k) T o S=some r:=by
 unfold kC at h
 split at h
 ·
  rename_i hok
  split at h
  ·
   rename_i q0 hop
   split at h
   ·
    rename_i f hf
    split at h
    ·
     rename_i g first captured hev
     obtain ⟨k0,hk⟩:=hl _ _ _ _ h
     refine ⟨k0,fun k hkk=>?_⟩
     unfold kC
     rw [if_pos hok]
     simp only [hop,hf,hev]
     exact hk k hkk
    ·
     cases h
   ·
    rename_i b hb
    refine ⟨0,fun k _=>?_⟩
    unfold kC
    rw [if_pos hok]
    simp only [hop,hb]
    exact h
   ·
    cases h
  ·
   rename_i hop
   refine ⟨0,fun k _=>?_⟩
   unfold kC
   rw [if_pos hok]
   split
   ·
    rename_i q0 hc;exact absurd hc (hop q0)
   ·
    exact h
 ·
  cases h
theorem ahH (hl:aj6 c ck) {fx:Fx} {ops:Array Oper}:∀ (l:List Oper) (T:List Value) (S:zy) (r:List Value×zy),jD P fx c ops l T S=some r→∃ k0,∀ k,k0≤k→jD P fx (ck k) ops l T S=some r:=by
 intro l
 induction l with
 | nil=>intro T S r h;exact ⟨0,fun k _=>h⟩
 | cons o l ih =>
  intro T S r h
  simp only [jD] at h
  split at h
  ·
   rename_i hw
   split at h
   ·
    rename_i v S' hs
    obtain ⟨k1,h1⟩:=aa8 hl hs
    obtain ⟨k2,h2⟩:=ih _ _ _ h
    refine ⟨max k1 k2,fun k hk=>?_⟩
    simp only [jD,hw,if_true,h1 k (by omega)]
    exact h2 k (by omega)
   ·
    cases h
  ·
   rename_i hw
   obtain ⟨k2,h2⟩:=ih _ _ _ h
   refine ⟨k2,fun k hk=>?_⟩
   simp only [jD,hw,if_false]
   exact h2 k hk
theorem agA (hl:aj6 c ck) {fx:Fx} {chk:List Nat} {nl:List (Nat×Nat)} {ops:Array Oper}:∀ (l:List Oper) (i:Nat) (hist:List (Value×zy)) (T:List Value) (S:zy) (r:List Value×zy),qx P fx chk nl c ops i hist l T S=some r→∃ k0,∀ k,k0≤k→qx P fx chk nl (ck k) ops i hist l T S=some r:=by
 intro l
 induction l with
 | nil=>intro i hist T S r h;exact ⟨0,fun k _=>h⟩
 | cons o l ih =>
  intro i hist T S r h
  simp only [qx] at h
  split at h
  ·
   rename_i hw
   split at h
   ·
    rename_i v S' hs
    split at h
    ·
     rename_i hq
     obtain ⟨k1,h1⟩:=aa8 hl hs
     obtain ⟨k2,h2⟩:=ih _ _ _ _ _ h
     refine ⟨max k1 k2,fun k hk=>?_⟩
     simp only [qx,hw,if_true,h1 k (by omega),hq]
     exact h2 k (by omega)
    ·
     cases h
   ·
    cases h
  ·
   rename_i hw
   obtain ⟨k2,h2⟩:=ih _ _ _ _ _ h
   refine ⟨k2,fun k hk=>?_⟩
   simp only [qx,hw,if_false]
   exact h2 k hk
end
noncomputable def zJ (P:Program) (O:Ora) (hp:Bool):Code→List Value→zy→St
 | .skip,T,H=>some (.normal,T,H)
 | .region _ ops false,T,H=>match jD P ⟨hp,false,false⟩ (Jy O.hp hp (zZ P O)) ops ops.toList T H with
  | some (T1,H1)=>some (.normal,T1,H1)
  | none=>none
 | .region _ ops true,T,H=>if qW P ops then match qx P ⟨hp,!(checked P ops).isEmpty,fixed P ops⟩ (checked P ops) (again P ops) (Jy O.hp hp (zZ P O)) ops 0 [] ops.toList T H with
  | some (T1,H1)=>some (.normal,T1,H1)
  | none=>none
  else none
 | .seq x y,T,H=>match zJ P O hp x T H with
  | some (.normal,T1,H1)=>zJ P O hp y T1 H1
  | r=>r
 | .cond c x y,T,H=>if vS c then
   match wK T c with
   | .bool true=>zJ P O hp x T H
   | .bool false=>zJ P O hp y T H
   | _=>none
  else none
 | .block id c,T,H=>match zJ P O hp c T H with
  | some (.exit id',T1,H1)=>if id'=id then some (.normal,T1,H1) else some (.exit id',T1,H1)
  | r=>r
 | .loop c,T,H=>qE (zJ P O hp c) T H
 | .exit id,T,H=>some (.exit id,T,H)
 | .ret,T,H=>some (.ret,T,H)
 | _,_,_=>none
theorem Vx {hp:Bool}:∀ (c:Code) (T:List Value) (H:zy) (r),zJ P O hp c T H=some r→∃ k0,∀ k fuel,k0≤k→k0≤fuel→kT P hp (Jy O.hp hp (JG P O k)) fuel c T H=some r:=by
 intro c
 induction c with
 | skip=>intro T H r h;exact ⟨0,fun k fuel _ _=>h⟩
 | region i ops d =>
  intro T H r h
  cases d with
  | false =>
   simp only [zJ] at h
   split at h
   ·
    rename_i T1 H1 ho
    obtain ⟨k0,h0⟩:=ahH (XV abH) _ _ _ _ ho
    exact ⟨k0,fun k fuel hk _=>by simp only [kT,h0 k hk];exact h⟩
   ·
    cases h
  | true =>
   simp only [zJ] at h
   split at h
   ·
    rename_i hd
    split at h
    ·
     rename_i T1 H1 ho
     obtain ⟨k0,h0⟩:=agA (XV abH) _ _ _ _ _ _ ho
     exact ⟨k0,fun k fuel hk _=>by simp only [kT,hd,if_true,h0 k hk];exact h⟩
    ·
     cases h
   ·
    cases h
 | seq x y ihx ihy =>
  intro T H r h
  simp only [zJ] at h
  split at h
  ·
   rename_i T1 H1 hx
   obtain ⟨k1,h1⟩:=ihx _ _ _ hx
   obtain ⟨k2,h2⟩:=ihy _ _ _ h
   exact ⟨max k1 k2,fun k fuel hk hf=>by simp only [kT,h1 k fuel (by omega) (by omega)];exact h2 k fuel (by omega) (by omega)⟩
  ·
   rename_i hne
   obtain ⟨k1,h1⟩:=ihx _ _ _ h
   refine ⟨k1,fun k fuel hk hf=>?_⟩
   simp only [kT,h1 k fuel hk hf]
   split
   ·
    rename_i T1 H1 he;exact absurd (h.trans he) (hne T1 H1)
   ·
    rfl
 | cond c x y ihx ihy =>
  intro T H r h
  simp only [zJ] at h
  split at h
  ·
   rename_i hok
   split at h
   ·
    rename_i hb
    obtain ⟨k1,h1⟩:=ihx _ _ _ h
    exact ⟨k1,fun k fuel hk hf=>by simp only [kT,hok,if_true,hb];exact h1 k fuel hk hf⟩
   ·
    rename_i hb
    obtain ⟨k1,h1⟩:=ihy _ _ _ h
    exact ⟨k1,fun k fuel hk hf=>by simp only [kT,hok,if_true,hb];exact h1 k fuel hk hf⟩
   ·
    cases h
  ·
   cases h
 | block id c ih =>
  intro T H r h
  simp only [zJ] at h
  split at h
  ·
   rename_i id' T1 H1 hc
   obtain ⟨k1,h1⟩:=ih _ _ _ hc
   exact ⟨k1,fun k fuel hk hf=>by simp only [kT,h1 k fuel hk hf];exact h⟩
  ·
   rename_i hne
   obtain ⟨k1,h1⟩:=ih _ _ _ h
   refine ⟨k1,fun k fuel hk hf=>?_⟩
   simp only [kT,h1 k fuel hk hf]
   split
   ·
    rename_i id' T1 H1 he;exact absurd (h.trans he) (hne id' T1 H1)
   ·
    rfl
 | loop c ih =>
  intro T H r h
  simp only [zJ] at h
  obtain ⟨n,hn⟩:=WV h
  have key:∀ (n:Nat) (T:List Value) (H:zy),xX n (zJ P O hp c) T H=some r→∃ k0,∀ k fuel,k0≤k→k0≤fuel→∀ j,n≤j→xX j (kT P hp (Jy O.hp hp (JG P O k)) fuel c) T H=some r:=by
   intro n
   induction n with
   | zero=>intro T H h;cases h
   | succ n ihn =>
    intro T H h
    simp only [xX] at h
    split at h
    ·
     rename_i T1 H1 hf
     obtain ⟨k1,h1⟩:=ih _ _ _ hf
     obtain ⟨k2,h2⟩:=ihn _ _ h
     refine ⟨max k1 k2,fun k fuel hk hfu j hj=>?_⟩
     obtain ⟨j,rfl⟩:∃ i,j=i+1:=⟨j - 1,by omega⟩
     simp only [xX,h1 k fuel (by omega) (by omega)]
     exact h2 k fuel (by omega) (by omega) j (by omega)
    ·
     rename_i hne
     obtain ⟨k1,h1⟩:=ih _ _ _ h
     refine ⟨k1,fun k fuel hk hfu j hj=>?_⟩
     obtain ⟨j,rfl⟩:∃ i,j=i+1:=⟨j - 1,by omega⟩
     simp only [xX,h1 k fuel hk hfu]
     split
     ·
      rename_i T1 H1 he;exact absurd (h.trans he) (hne T1 H1)
     ·
      rfl
  obtain ⟨k0,h0⟩:=key n T H hn
  exact ⟨max k0 n,fun k fuel hk hf=>by simp only [kT];exact h0 k fuel (by omega) (by omega) fuel (by omega)⟩
 | exit id=>intro T H r h;exact ⟨0,fun k fuel _ _=>h⟩
 | ret=>intro T H r h;exact ⟨0,fun k fuel _ _=>h⟩
 | _=>intro T H r h;simp only [zJ] at h;cases h
theorem yL {f:FuncId} {fn:Func} {c:Code} {args:List Value} {H H1 H':zy} {e:AEx} {T:List Value} {v:Value} (ho:O.fn f=none) (hpu:O.pu f=false) (hf:P.funcs[f]?=some fn) (hn:fn.name≠ "runtime.NumGoroutine") (hb:fn.body=some c)
  (h:zJ P O (O.hp f) c (args++List.replicate (fn.ntmps - args.length) zh) H=some (e,T,H1)) (he:e=.normal∨e=.ret) (hres:ae5 P fn T H1=some (v,H')):zZ P O f args H=some (v,H'):=by
 obtain ⟨k0,h0⟩:=Vx _ _ _ _ h
 refine abW ⟨k0+1,fun k hk=>?_⟩
 obtain ⟨k,rfl⟩:∃ i,k=i+1:=⟨k - 1,by omega⟩
 simp only [JG,ho,hf,if_neg hn,hb,hpu,Bool.false_eq_true,if_false,ag5,h0 k k (by omega) (by omega)]
 rcases he with rfl | rfl <;> exact hres
theorem yC {f:FuncId} {fn:Func} {c:Code} {args:List Value} {S H1 H':zy} {e:AEx} {T:List Value} {v:Value} (ho:O.fn f=none) (hpu:O.pu f=true) (hf:P.funcs[f]?=some fn) (hn:fn.name≠ "runtime.NumGoroutine") (hb:fn.body=some c)
  (h:zJ P O (O.hp f) c (args++List.replicate (fn.ntmps - args.length) zh) zy.empty=some (e,T,H1)) (he:e=.normal∨e=.ret) (hres:ae5 P fn T H1=some (v,H')) (hca:args.all (jW 16)=true) (hcv:jW 16 v=true):zZ P O f args S=some (v,S):=by
 obtain ⟨k0,h0⟩:=Vx _ _ _ _ h
 refine abW ⟨k0+1,fun k hk=>?_⟩
 obtain ⟨k,rfl⟩:∃ i,k=i+1:=⟨k - 1,by omega⟩
 have hr:ag5 P (O.hp f) (Jy O.hp (O.hp f) (JG P O k)) k fn c args zy.empty=some (v,H'):=by
  simp only [ag5,h0 k k (by omega) (by omega)]
  rcases he with rfl | rfl <;> exact hres
 simp only [JG,ho,hf,if_neg hn,hb,hpu,if_true,agD,if_pos hca,hr,if_pos hcv]
def Ty.QJ:(t:Ty)→t.Val→List Value
 | .int k,n=>[.int k n]
 | .bool,b=>[.bool b]
 | .str,s=>[.string s]
 | .slc _ e,l=>match l with
  | none=>[.slice none 0 0]
  | some l=>[SL 1 e.sz l.length (l.flatMap e.QJ)]
 | .pair a b,(x,y)=>a.QJ x++b.QJ y
 | .unit,_=>[]
theorem Ty.acV:∀ (t:Ty) (x:t.Val),(t.QJ x).length=t.sz:=by
 intro t
 induction t with
 | pair a b iha ihb=>rintro ⟨x,y⟩;simp [Ty.QJ,Ty.sz,iha,ihb]
 | slc bytes e ih=>intro x;cases x <;> rfl
 | _=>intro x;rfl
theorem QD {e:Ty} (l:List e.Val):(l.flatMap e.QJ).length=l.length * e.sz:=by
 induction l with
 | nil=>simp
 | cons x l ih=>simp [List.flatMap_cons,Ty.acV,ih,Nat.add_mul];omega
def M0:Mu:=⟨fun _=>none,fun _=>false,[]⟩
theorem GI.none {H:zy}:GI M0 zy.empty H:=⟨(fun q o h=>by cases h),(fun q q' r h=>by cases h),(fun q r b h=>by cases h),(fun q _=>rfl),(fun q r h=>by cases h),(fun r h=>by cases h),rfl,(fun q cs anc e h=>by cases h)⟩
theorem Ty.aaF:∀ (t:Ty) (x:t.Val) (H:zy),Later M0 H M0 (t.place x H).2∧L0 M0 (t.place x H).2 (t.QJ x) (t.place x H).1:=by
 intro t
 induction t with
 | int k=>intro x H;exact ⟨Later.refl _ _,VL.cons (.sg rfl) VL.nil⟩
 | bool=>intro x H;exact ⟨Later.refl _ _,VL.cons (.sg rfl) VL.nil⟩
 | str=>intro x H;exact ⟨Later.refl _ _,VL.cons (.sg rfl) VL.nil⟩
 | unit=>intro x H;exact ⟨Later.refl _ _,VL.nil⟩
 | pair a b iha ihb =>
  rintro ⟨x,y⟩ H
  obtain ⟨h1,h2⟩:=iha x H
  obtain ⟨h3,h4⟩:=ihb y (a.place x H).2
  exact ⟨h1.trans h3,(h2.later h3).append h4⟩
 | slc bytes e ih =>
  intro x H
  match x with
  | none=>exact ⟨Later.refl _ _,VL.cons (.sg rfl) VL.nil⟩
  | some []=>exact ⟨Later.refl _ _,VL.cons (.slE (e:=e.sz)) VL.nil⟩
  | some (x::l) =>
   have key:∀ (l:List e.Val) (H:zy),Later M0 H M0 (qV e.place l H).2∧L0 M0 (qV e.place l H).2 (l.flatMap e.QJ) (qV e.place l H).1:=by
    intro l
    induction l with
    | nil=>intro H;exact ⟨Later.refl _ _,VL.nil⟩
    | cons x l ihl =>
     intro H
     obtain ⟨h1,h2⟩:=ih x H
     obtain ⟨h3,h4⟩:=ihl (e.place x H).2
     exact ⟨h1.trans h3,(h2.later h3).append h4⟩
   obtain ⟨h1,h2⟩:=key (x::l) H
   have hL:Later M0 (qV e.place (x::l) H).2 M0 ((qV e.place (x::l) H).2.push (.cells (qV e.place (x::l) H).1 .ro e.sz)):=Vj (fun q r h=>by cases h) _
   refine ⟨h1.trans hL,VL.cons ?_ VL.nil⟩
   have hlen:(qV e.place (x::l) H).1.length=(l.length+1) * e.sz:=by rw [← h2.1,QD];rfl
   show V0 M0 ((qV e.place (x::l) H).2.push (.cells (qV e.place (x::l) H).1 .ro e.sz)) (SL 1 e.sz (l.length+1) ((x::l).flatMap e.QJ)) (.slice (some ⟨(qV e.place (x::l) H).2.next,0,none⟩) (l.length+1) (l.length+1))
   refine VV.sl (o:=0) (l:=(qV e.place (x::l) H).1) (own:=.ro) (by simp) ⟨fun q h=>(by cases h),rfl⟩ (by rw [zy.yR,if_pos rfl]) (by omega) (by rw [List.toList_toArray,QD];rfl) (fun i hi=>?_)
   rw [Nat.zero_add,List.toList_toArray]
   exact (h2.2 i).JD hL
def Args.QJ:(l:List (Bool×Ty))→Args l→List Value
 | [],_=>[]
 | (b,c)::l,(x,xs)=>Wu b (c.QJ x)::Args.QJ l xs
theorem ahs {H:zy} {b:Bool} {cs cs':List Value} (h:L0 M0 H cs cs'):V0 M0 H (Wu b cs) (Wu b cs'):=by
 unfold Wu
 split
 ·
  exact KX h
 ·
  rw [WX,WX];exact h.2 0
theorem Args.aaF:∀ (l:List (Bool×Ty)) (x:Args l) (H:zy),Later M0 H M0 (Args.place l x H).2∧L0 M0 (Args.place l x H).2 (Args.QJ l x) (Args.place l x H).1:=by
 intro l
 induction l with
 | nil=>intro x H;exact ⟨Later.refl _ _,VL.nil⟩
 | cons p l ih =>
  obtain ⟨b,c⟩:=p
  rintro ⟨x,xs⟩ H
  obtain ⟨h1,h2⟩:=c.aaF x H
  obtain ⟨h3,h4⟩:=ih xs (c.place x H).2
  exact ⟨h1.trans h3,VL.cons ((ahs h2).JD h3) h4⟩
theorem acJ (hO:agx P O) {f:FuncId} {codes:List (Bool×Ty)} {x:Args codes} {S':zy} (h:zZ P O f (Args.QJ codes x) zy.empty=some (.bool true,S')) :
  ∃ k,(JC P k f (Args.place codes x zy.empty).1 (Args.place codes x zy.empty).2).map (·.1)=some (.bool true):=by
 obtain ⟨h1,h2⟩:=Args.aaF codes x zy.empty
 obtain ⟨a,H',μ',ω',k1,k2,k3,k4,k5,k6⟩:=ajG hO f _ _ _ _ _ h M0 _ W0 GI.none h2 (fun r s hs=>by cases hs) (fun r s hs=>by cases hs)
 have:a=.bool true:=yj (k6.v0) rfl
 subst this
 exact adX k1
theorem aij {hps pus:FuncId→Bool}:agx P ⟨fun _=>none,hps,pus⟩:=fun f q h=>by cases h
end
end Go.Abs
namespace Go.Abs
open Go.RowKit
section
variable {R:Type} {P:Program} {O:Ora} {fx:Fx} {hp nm:Bool} {chk:List Nat} {call:FuncId→List Value→M Value} {ops:Array Oper}
def okC (v:Value) (r:Option R):Option R:=if okq 3 v=true then r else none
@[simp] theorem ac2 (b:Bool) (r:Option R):okC (.bool b) r=r:=Eq.trans rfl rfl
@[simp] theorem af2 (k:IntKind) (n:Int) (r:Option R):okC (.int k n) r=r:=Eq.trans rfl rfl
@[simp] theorem X5 (s:ByteArray) (r:Option R):okC (.string s) r=r:=Eq.trans rfl rfl
@[simp] theorem abk (a:Option Addr) (n c:Nat) (r:Option R):okC (.slice a n c) r=r:=Eq.trans rfl rfl
@[simp] theorem abz (k:Nat) (v:Value) (r:Option R):okC (.iface k v) r=r:=Eq.trans rfl rfl
@[simp] theorem ajT (a:Option Addr) (r:Option R):okC (.pointer a) r=r:=Eq.trans rfl rfl
def gdC (v:Value) (b:Bool) (s:M Value) (S:zy) (K:Value→zy→Option R):Option R :=
 if (vb v == some b)=true then andThen (s S) (fun v S1=>okC v (K v S1)) else K zh S
@[simp] theorem aiG (s:M Value) (H:zy) (K:Value→zy→Option R):gdC (.bool true) true s H K=andThen (s H) (fun v S1=>okC v (K v S1)):=Eq.trans rfl rfl
@[simp] theorem aiz (s:M Value) (H:zy) (K:Value→zy→Option R):gdC (.bool false) false s H K=andThen (s H) (fun v S1=>okC v (K v S1)):=Eq.trans rfl rfl
@[simp] theorem ais (s:M Value) (H:zy) (K:Value→zy→Option R):gdC (.bool true) false s H K=K zh H:=Eq.trans rfl rfl
@[simp] theorem aiT (s:M Value) (H:zy) (K:Value→zy→Option R):gdC (.bool false) true s H K=K zh H:=Eq.trans rfl rfl
@[simp] theorem aip (s:M Value) (b:Bool) (H:zy) (K:Value→zy→Option R):gdC zh b s H K=K zh H:=Eq.trans rfl rfl
abbrev Zv {α:Type} (a:α):Type:=Unit
def zN (s:Option (Value×zy)) (K:Value→zy→Option R) (p:Zv K):Option R:=andThen s K
def gdK (v:Value) (b:Bool) (s:M Value) (S:zy) (K:Value→zy→Option R) (p:Zv K):Option R:=gd v b s S K
def aeV (v:Value) (b:Bool) (s:M Value) (S:zy) (K:Value→zy→Option R) (p:Zv K):Option R:=gdC v b s S K
def okK (v:Value) (r:Option R) (p:Zv r):Option R:=okC v r
@[simp] theorem KL (v:Value) (H:zy) (K:Value→zy→Option R) (p:Zv K):zN (some (v,H)) K p=K v H:=Eq.trans rfl rfl
@[simp] theorem air (s:M Value) (H:zy) (K:Value→zy→Option R) (p:Zv K):gdK (.bool true) true s H K p=zN (s H) K p:=Eq.trans rfl rfl
@[simp] theorem aiL (s:M Value) (H:zy) (K:Value→zy→Option R) (p:Zv K):gdK (.bool false) false s H K p=zN (s H) K p:=Eq.trans rfl rfl
@[simp] theorem aiY (s:M Value) (H:zy) (K:Value→zy→Option R) (p:Zv K):gdK (.bool true) false s H K p=K zh H:=Eq.trans rfl rfl
@[simp] theorem aiU (s:M Value) (H:zy) (K:Value→zy→Option R) (p:Zv K):gdK (.bool false) true s H K p=K zh H:=Eq.trans rfl rfl
@[simp] theorem aiP (s:M Value) (b:Bool) (H:zy) (K:Value→zy→Option R) (p:Zv K):gdK zh b s H K p=K zh H:=Eq.trans rfl rfl
@[simp] theorem acU (s:M Value) (H:zy) (K:Value→zy→Option R) (p:Zv K):aeV (.bool true) true s H K p=zN (s H) (fun v S1=>okK v (K v S1) ()) ():=Eq.trans rfl rfl
@[simp] theorem acB (s:M Value) (H:zy) (K:Value→zy→Option R) (p:Zv K):aeV (.bool false) false s H K p=zN (s H) (fun v S1=>okK v (K v S1) ()) ():=Eq.trans rfl rfl
@[simp] theorem af8 (s:M Value) (H:zy) (K:Value→zy→Option R) (p:Zv K):aeV (.bool true) false s H K p=K zh H:=Eq.trans rfl rfl
@[simp] theorem afF (s:M Value) (H:zy) (K:Value→zy→Option R) (p:Zv K):aeV (.bool false) true s H K p=K zh H:=Eq.trans rfl rfl
@[simp] theorem agw (s:M Value) (b:Bool) (H:zy) (K:Value→zy→Option R) (p:Zv K):aeV zh b s H K p=K zh H:=Eq.trans rfl rfl
@[simp] theorem acZ (b:Bool) (r:Option R) (p:Zv r):okK (.bool b) r p=r:=Eq.trans rfl rfl
@[simp] theorem Jf (k:IntKind) (n:Int) (r:Option R) (p:Zv r):okK (.int k n) r p=r:=Eq.trans rfl rfl
@[simp] theorem Vy (s:ByteArray) (r:Option R) (p:Zv r):okK (.string s) r p=r:=Eq.trans rfl rfl
@[simp] theorem abO (a:Option Addr) (n c:Nat) (r:Option R) (p:Zv r):okK (.slice a n c) r p=r:=Eq.trans rfl rfl
@[simp] theorem KN (a:Option Addr) (r:Option R) (p:Zv r):okK (.pointer a) r p=r:=Eq.trans rfl rfl
theorem kF {v:Value} (h:okq 3 v=true) (r:Option R) (p:Zv r):okK v r p=r:=if_pos h
theorem ae1 {l rest:List Oper} {o:Oper} {T:List Value} {T1:Value→List Value} {S:zy} {v:Value} {r:Option (List Value×zy)} (hl:l=o::rest) (hg:o.guard=none) (hm:∀ v,JA o rest T v=T1 v)
  (hs:kC P fx call T o S=some (v,S)) (hK:jD P fx call ops rest (T1 v) S=r):jD P fx call ops l T S=r:=by
 subst hl
 simp only [jD,Region.wanted,hg,if_true,hs,hm]
 exact hK
theorem ajU {l rest:List Oper} {o:Oper} {T:List Value} {T1:Value→List Value} {S:zy} {s:Option (Value×zy)} {K:Value→zy→Option (List Value×zy)} (hl:l=o::rest) (hg:o.guard=none) (hm:∀ v,JA o rest T v=T1 v)
  (hs:kC P fx call T o S=s) (hK:∀ v S1,jD P fx call ops rest (T1 v) S1=K v S1):jD P fx call ops l T S=zN s K ():=by
 show _=andThen s K
 subst hl hs
 simp only [jD,Region.wanted,hg,if_true,hm,hK]
 rfl
theorem aj2 {l rest:List Oper} {o:Oper} {T:List Value} {T1:Value→List Value} {S:zy} {j:Nat} {b:Bool} {g:Value} {s:M Value} {K:Value→zy→Option (List Value×zy)} (hl:l=o::rest) (hg:o.guard=some (j,b)) (hm:∀ v,JA o rest T v=T1 v)
  (hy:ynd ops T j=vb g) (hs:kC P fx call T o S=s S) (hK:∀ v S1,jD P fx call ops rest (T1 v) S1=K v S1):jD P fx call ops l T S=gdK g b s S K ():=by
 show _=gd g b s S K
 subst hl
 simp only [jD,Region.wanted,hg,hy,hs,hm,hK,gd]
 rfl
theorem ahI {l rest:List Oper} {o:Oper} {T:List Value} {T1:Value→List Value} {S:zy} {k:Nat} {s:Option (Value×zy)} {K:Value→zy→Option (List Value×zy)} (hc:chk.contains k=false) (hl:l=o::rest) (hg:o.guard=none) (hm:∀ v,JA o rest T v=T1 v)
  (hs:kC P fx call T o S=s) (hK:∀ v S1,qx P fx chk [] call ops (k+1) [] rest (T1 v) S1=K v S1):qx P fx chk [] call ops k [] l T S=zN s K ():=by
 show _=andThen s K
 subst hl hs
 simp only [qx,ZM,List.isEmpty_nil,if_true,Region.wanted,hg,if_true,hm,hK,hc,Bool.not_false,Bool.true_or]
 rfl
theorem adT {l rest:List Oper} {o:Oper} {T:List Value} {T1:Value→List Value} {S:zy} {k:Nat} {v:Value} {r:Option (List Value×zy)} (hc:chk.contains k=false) (hl:l=o::rest) (hg:o.guard=none) (hm:∀ v,JA o rest T v=T1 v)
  (hs:kC P fx call T o S=some (v,S)) (hK:qx P fx chk [] call ops (k+1) [] rest (T1 v) S=r):qx P fx chk [] call ops k [] l T S=r:=by
 subst hl
 simp only [qx,ZM,List.isEmpty_nil,if_true,Region.wanted,hg,if_true,hs,hm,hc,Bool.not_false,Bool.true_or]
 exact hK
theorem ab2 {l rest:List Oper} {o:Oper} {T:List Value} {T1:Value→List Value} {S:zy} {k:Nat} {v:Value} {r:Option (List Value×zy)} (hc:chk.contains k=true) (hl:l=o::rest) (hg:o.guard=none) (hm:∀ v,JA o rest T v=T1 v)
  (hs:kC P fx call T o S=some (v,S)) (hK:qx P fx chk [] call ops (k+1) [] rest (T1 v) S=r):qx P fx chk [] call ops k [] l T S=okK v r ():=by
 show _=okC v r
 subst hl
 simp only [qx,ZM,List.isEmpty_nil,if_true,Region.wanted,hg,if_true,hs,hm,hc,Bool.not_true,Bool.false_or]
 rw [← hK]
 rfl
theorem aib {l rest:List Oper} {o:Oper} {T:List Value} {T1:Value→List Value} {S:zy} {j k:Nat} {b:Bool} {g:Value} {s:M Value} {K:Value→zy→Option (List Value×zy)} (hc:chk.contains k=false) (hl:l=o::rest) (hg:o.guard=some (j,b)) (hm:∀ v,JA o rest T v=T1 v)
  (hy:ynd ops T j=vb g) (hs:kC P fx call T o S=s S) (hK:∀ v S1,qx P fx chk [] call ops (k+1) [] rest (T1 v) S1=K v S1):qx P fx chk [] call ops k [] l T S=gdK g b s S K ():=by
 show _=gd g b s S K
 subst hl
 simp only [qx,ZM,List.isEmpty_nil,if_true,Region.wanted,hg,hy,hs,hm,hK,gd,hc,Bool.not_false,Bool.true_or,if_true]
 rfl
theorem ahK {l rest:List Oper} {o:Oper} {T:List Value} {T1:Value→List Value} {S:zy} {k:Nat} {s:Option (Value×zy)} {K:Value→zy→Option (List Value×zy)} (hc:chk.contains k=false) {x:Nat×Nat} {nl:List (Nat×Nat)} {hist:List (Value×zy)} {pe:Value} (hpe:Jk T o=pe) (hl:l=o::rest) (hg:o.guard=none) (hm:∀ v,JA o rest T v=T1 v)
  (hs:kC P fx call T o S=s) (hK:∀ v S1,qx P fx chk (x::nl) call ops (k+1) (hist++[(pe,S)]) rest (T1 v) S1=K v S1):qx P fx chk (x::nl) call ops k hist l T S=zN s K ():=by
 show _=andThen s K
 subst hl hs
 simp only [qx,ZM,List.isEmpty_cons,Bool.false_eq_true,if_false,hpe,Region.wanted,hg,if_true,hm,hK,hc,Bool.not_false,Bool.true_or]
 rfl
theorem aeW {l rest:List Oper} {o:Oper} {T:List Value} {T1:Value→List Value} {S:zy} {k:Nat} {s:Option (Value×zy)} {K:Value→zy→Option (List Value×zy)} (hc:chk.contains k=true) {x:Nat×Nat} {nl:List (Nat×Nat)} {hist:List (Value×zy)} {pe:Value} (hpe:Jk T o=pe) (hl:l=o::rest) (hg:o.guard=none) (hm:∀ v,JA o rest T v=T1 v)
  (hs:kC P fx call T o S=s) (hK:∀ v S1,qx P fx chk (x::nl) call ops (k+1) (hist++[(pe,S)]) rest (T1 v) S1=K v S1):qx P fx chk (x::nl) call ops k hist l T S=zN s (fun v S1=>okK v (K v S1) ()) ():=by
 show _=andThen s (fun v S1=>okC v (K v S1))
 subst hl hs
 simp only [qx,ZM,List.isEmpty_cons,Bool.false_eq_true,if_false,hpe,Region.wanted,hg,if_true,hm,hK,hc,Bool.not_true,Bool.false_or]
 rfl
theorem aeE {l rest:List Oper} {o:Oper} {T:List Value} {T1:Value→List Value} {S:zy} {k:Nat} {v:Value} {r:Option (List Value×zy)} (hc:chk.contains k=false) {x:Nat×Nat} {nl:List (Nat×Nat)} {hist:List (Value×zy)} {pe:Value} (hpe:Jk T o=pe) (hl:l=o::rest) (hg:o.guard=none) (hm:∀ v,JA o rest T v=T1 v)
  (hs:kC P fx call T o S=some (v,S)) (hK:qx P fx chk (x::nl) call ops (k+1) (hist++[(pe,S)]) rest (T1 v) S=r):qx P fx chk (x::nl) call ops k hist l T S=r:=by
 subst hl
 simp only [qx,ZM,List.isEmpty_cons,Bool.false_eq_true,if_false,hpe,Region.wanted,hg,if_true,hs,hm,hc,Bool.not_false,Bool.true_or]
 exact hK
theorem acT {l rest:List Oper} {o:Oper} {T:List Value} {T1:Value→List Value} {S:zy} {k:Nat} {v:Value} {r:Option (List Value×zy)} (hc:chk.contains k=true) {x:Nat×Nat} {nl:List (Nat×Nat)} {hist:List (Value×zy)} {pe:Value} (hpe:Jk T o=pe) (hl:l=o::rest) (hg:o.guard=none) (hm:∀ v,JA o rest T v=T1 v)
  (hs:kC P fx call T o S=some (v,S)) (hK:qx P fx chk (x::nl) call ops (k+1) (hist++[(pe,S)]) rest (T1 v) S=r):qx P fx chk (x::nl) call ops k hist l T S=okK v r ():=by
 show _=okC v r
 subst hl
 simp only [qx,ZM,List.isEmpty_cons,Bool.false_eq_true,if_false,hpe,Region.wanted,hg,if_true,hs,hm,hc,Bool.not_true,Bool.false_or]
 rw [← hK]
 rfl
theorem ahb {l rest:List Oper} {o:Oper} {T:List Value} {T1:Value→List Value} {S:zy} {j k:Nat} {b:Bool} {g:Value} {s:M Value} {K:Value→zy→Option (List Value×zy)} (hc:chk.contains k=false) {x:Nat×Nat} {nl:List (Nat×Nat)} {hist:List (Value×zy)} {pe:Value} (hpe:Jk T o=pe) (hl:l=o::rest) (hg:o.guard=some (j,b)) (hm:∀ v,JA o rest T v=T1 v)
  (hy:ynd ops T j=vb g) (hs:kC P fx call T o S=s S) (hK:∀ v S1,qx P fx chk (x::nl) call ops (k+1) (hist++[(pe,S)]) rest (T1 v) S1=K v S1):qx P fx chk (x::nl) call ops k hist l T S=gdK g b s S K ():=by
 show _=gd g b s S K
 subst hl
 simp only [qx,ZM,List.isEmpty_cons,Bool.false_eq_true,if_false,hpe,Region.wanted,hg,hy,hs,hm,hK,gd,hc,Bool.not_false,Bool.true_or,if_true]
 rfl
theorem afc {l rest:List Oper} {o:Oper} {T:List Value} {T1:Value→List Value} {S:zy} {j k:Nat} {b:Bool} {g:Value} {s:M Value} {K:Value→zy→Option (List Value×zy)} (hc:chk.contains k=true) {x:Nat×Nat} {nl:List (Nat×Nat)} {hist:List (Value×zy)} {pe:Value} (hpe:Jk T o=pe) (hl:l=o::rest) (hg:o.guard=some (j,b)) (hm:∀ v,JA o rest T v=T1 v)
  (hy:ynd ops T j=vb g) (hs:kC P fx call T o S=s S) (hK:∀ v S1,qx P fx chk (x::nl) call ops (k+1) (hist++[(pe,S)]) rest (T1 v) S1=K v S1):qx P fx chk (x::nl) call ops k hist l T S=aeV g b s S K ():=by
 show _=gdC g b s S K
 subst hl
 simp only [qx,ZM,List.isEmpty_cons,Bool.false_eq_true,if_false,hpe,Region.wanted,hg,hy,hs,hm,hK,gdC,hc,Bool.not_true,Bool.false_or]
 rfl
def ckK (c:Bool) (r:Option R) (p:Zv r):Option R:=if c then r else none
@[simp] theorem adu (r:Option R) (p:Zv r):ckK true r p=r:=Eq.trans rfl rfl
noncomputable def ajr (P:Program) (O:Ora) (hp:Bool) (v:Value) (x y:Code) (T:List Value) (S:zy):St:=ah1 v (zJ P O hp x T S) (zJ P O hp y T S)
@[simp] theorem VA (x y:Code) (T:List Value) (S:zy):ajr P O hp (.bool true) x y T S=zJ P O hp x T S:=Eq.trans rfl rfl
@[simp] theorem KP (x y:Code) (T:List Value) (S:zy):ajr P O hp (.bool false) x y T S=zJ P O hp y T S:=Eq.trans rfl rfl
@[simp] theorem Kr (T:List Value) (H:zy):zJ P O hp .skip T H=some (.normal,T,H):=Eq.trans rfl rfl
@[simp] theorem XT (T:List Value) (H:zy):zJ P O hp .ret T H=some (.ret,T,H):=Eq.trans rfl rfl
@[simp] theorem KG (i:Nat) (T:List Value) (H:zy):zJ P O hp (.exit i) T H=some (.exit i,T,H):=Eq.trans rfl rfl
@[simp] theorem Y9 (i:Nat) (ops:Array Oper) (T:List Value) (H:zy):zJ P O false (.region i ops false) T H=Ja (jD P ⟨false,false,false⟩ (zZ P O) ops ops.toList T H):=Eq.trans rfl rfl
@[simp] theorem Yl (i:Nat) (ops:Array Oper) (T:List Value) (H:zy):zJ P O true (.region i ops false) T H=Ja (jD P ⟨true,false,false⟩ (Jy O.hp true (zZ P O)) ops ops.toList T H):=Eq.trans rfl rfl
theorem yF {i:Nat} {ops:Array Oper} (hd:qW P ops=true) (hf:fixed P ops=nm) (hc:checked P ops=chk) {nl:List (Nat×Nat)} (hn:again P ops=nl) (T:List Value) (H:zy):zJ P O false (.region i ops true) T H=Ja (qx P ⟨false,!chk.isEmpty,nm⟩ chk nl (zZ P O) ops 0 [] ops.toList T H):=by
 subst hf hc hn
 simp only [zJ,hd,if_true,Jy]
 rfl
@[simp] theorem Va (x y:Code) (T:List Value) (H:zy):zJ P O hp (.seq x y) T H=akY (zJ P O hp x T H) (zJ P O hp y):=Eq.trans rfl rfl
@[simp] theorem Qw (i:Nat) (c:Code) (T:List Value) (H:zy):zJ P O hp (.block i c) T H=abd i (zJ P O hp c T H):=Eq.trans rfl rfl
@[simp] theorem Kz (c:Code) (T:List Value) (H:zy):zJ P O hp (.loop c) T H=qE (zJ P O hp c) T H:=Eq.trans rfl rfl
@[simp] theorem Ko (t:Tmp) (x y:Code) (T:List Value) (H:zy):zJ P O hp (.cond (.tmp t) x y) T H=ajr P O hp (T.getD t zh) x y T H:=by
 simp only [zJ,vS,if_true,wK]
 rfl
@[simp] theorem Xo:dem zh=zh:=WC
@[simp] theorem aeK (k:IntKind) (n:Int):dem (.int k n)=.int k n:=Eq.trans rfl rfl
@[simp] theorem adF (b:Bool):dem (.bool b)=.bool b:=Eq.trans rfl rfl
@[simp] theorem XR (s:ByteArray):dem (.string s)=.string s:=Eq.trans rfl rfl
@[simp] theorem afZ:dem (.slice none 0 0)=.slice none 0 0:=Eq.trans rfl rfl
@[simp] theorem agO (x:Array Value):dem (.agg x)=.agg x:=Eq.trans rfl rfl
@[simp] theorem ac1 (f:Fn) (x c:Array Value):dem (.func f x c)=.func f x c:=Eq.trans rfl rfl
@[simp] theorem KT (a:Option Addr):dem (.pointer a)=.pointer a:=Eq.trans rfl rfl
@[simp] theorem alg (e n:Nat) (cs:List Value):dem (SL 1 e n cs)=SL 1 e n cs:=Eq.trans rfl rfl
@[simp] theorem ak9 (e n:Nat) (cs:List Value):dem (SL 2 e n cs)=SL 1 e n cs:=Eq.trans rfl rfl
@[simp] theorem aiV (k e n:Nat) (cs:List Value) (r:Option R) (p:Zv r):okK (SL k e n cs) r p=r:=Eq.trans rfl rfl
@[simp] theorem aiB (cs:List Value) (r:Option R) (p:Zv r):okK (EP cs) r p=r:=Eq.trans rfl rfl
@[simp] theorem als (k e n:Nat) (cs:List Value) (r:Option R):okC (SL k e n cs) r=r:=Eq.trans rfl rfl
@[simp] theorem aiJ (cs:List Value) (r:Option R):okC (EP cs) r=r:=Eq.trans rfl rfl
def sv (k e n:Nat) (cs:List Value):Value:=if k=0 then .slice none 0 0 else SL k e n cs
structure Okv (k n:Nat) (cs:List Value):Prop where
 le:k≤2
 nil:k=0→n=0∧cs=[]
theorem sv0 {e n:Nat} {cs:List Value}:sv 0 e n cs=.slice none 0 0:=rfl
theorem sv1 {e n:Nat} {cs:List Value}:sv 1 e n cs=SL 1 e n cs:=rfl
theorem sv2 {e n:Nat} {cs:List Value}:sv 2 e n cs=SL 2 e n cs:=rfl
@[simp] theorem ado (k e n:Nat) (cs:List Value):dem (sv k e n cs)=sv (if k=2 then 1 else k) e n cs:=by
 unfold sv
 by_cases h0:k=0
 ·
  subst h0;rfl
 ·
  by_cases h2:k=2
  ·
   subst h2;rfl
  ·
   rw [if_neg h0,if_neg h2,if_neg h0]
   simp only [SL,dem,vV,if_neg h2]
@[simp] theorem aa7 (k e n:Nat) (cs:List Value) (r:Option R):okC (sv k e n cs) r=r:=by
 unfold sv;split <;> rfl
@[simp] theorem aiK (k e n:Nat) (cs:List Value) (r:Option R) (p:Zv r):okK (sv k e n cs) r p=r:=aa7 k e n cs r
theorem agj {k e n:Nat} {cs:List Value} (h:Okv k n cs):∃ e',vSl (sv k e n cs)=some (e',n,cs)∧(e'=e∨n=0∧cs=[]):=by
 unfold sv
 by_cases h0:k=0
 ·
  obtain ⟨rfl,rfl⟩:=h.nil h0
  rw [if_pos h0]
  exact ⟨0,rfl,.inr ⟨rfl,rfl⟩⟩
 ·
  rw [if_neg h0]
  have:k=1∨k=2:=by have:=h.le;omega
  exact ⟨e,by simp [SL,vSl,this],.inl rfl⟩
theorem ajF {t te:TypeId} {k e n:Nat} {cs:List Value} {S:zy} (ht:P.underlying t=some (.slice te)) (h:Okv k n cs):Zu P t (sv k e n cs) S=some (goInt n,S):=by
 by_cases h0:k=0
 ·
  obtain ⟨rfl,rfl⟩:=h.nil h0
  subst h0
  simp only [sv0,Zu,abR,ht]
 ·
  obtain ⟨e',h1,_⟩:=agj (e:=e) h
  simp only [sv,if_neg h0] at h1 ⊢
  simp only [SL] at h1 ⊢
  simp only [Zu,ht,h1]
theorem YG {t te:TypeId} {k e n:Nat} {cs:List Value} {S:zy} {ki:IntKind} {i:Int} (ht:P.underlying t=some (.slice te)) (he:Jb P te=some e) (h:Okv k n cs) (h0:0≤i) (hi:i < n) :
  jy P t (sv k e n cs) (.int ki i) S=some (EP ((cs.drop (i.toNat * e)).take e),S):=by
 have hk:k≠0:=fun e=>by have:=(h.nil e).1;omega
 have hk2:k=1∨k=2:=by have:=h.le;omega
 have h1:vSl (SL k e n cs)=some (e,n,cs):=by simp [SL,vSl,hk2]
 simp only [sv,if_neg hk]
 simp only [SL] at h1 ⊢
 simp only [jy,ht,h1,he,if_true]
 rw [if_pos ⟨h0,hi⟩]
@[simp] theorem KR {t:TypeId} {v:Value} {S:zy} (ht:xC P t=some false):jh P nm t (EP [v]) S=some (v,S):=by
 simp [EP,jh,ht]
theorem Xk {t:TypeId} {n:Nat} {cs:List Value} {S:zy} (ht:xC P t=some true) (hn:Jb P t=some n) (hc:cs.length=n):jh P nm t (EP cs) S=some (.agg cs.toArray,S):=by
 simp only [EP,jh,ht,hn,if_true,List.toList_toArray]
 rw [if_pos (by omega),← hc,List.take_length]
theorem afo {t te:TypeId} {k e n:Nat} {cs:List Value} {S:zy} {lo hi:Option Value} {i j:Int} (ht:P.underlying t=some (.slice te)) (he:Jb P te=some e) (h:Okv k n cs) (hlo:ZF 0 lo=some i) (hhi:ZF n hi=some j)
  (h0:0≤i) (hij:i≤j) (hj:j≤n):Jj P t (sv k e n cs) lo hi S=some (sv (if k=2 then 1 else k) e (j.toNat - i.toNat) ((cs.drop (i.toNat * e)).take ((j.toNat - i.toNat) * e)),S):=by
 by_cases hk:k=0
 ·
  obtain ⟨rfl,rfl⟩:=h.nil hk
  subst hk
  simp only [sv0,Jj,ht,vSl,he,hlo,hhi,if_pos h0,if_pos hij,if_pos hj]
  rfl
 ·
  have hk2:k=1∨k=2:=by have:=h.le;omega
  have h1:vSl (SL k e n cs)=some (e,n,cs):=by simp [SL,vSl,hk2]
  have h3:(if k=2 then 1 else k)=1:=by rcases hk2 with rfl | rfl <;> rfl
  rw [h3]
  simp only [sv,if_neg hk]
  simp only [SL] at h1 ⊢
  simp only [Jj,ht,h1,he,hlo,hhi,if_pos h0,if_pos hij,if_pos hj,if_true]
  rfl
theorem ahU {t te:TypeId} {k e n:Nat} {cs:List Value} {S:zy} (ht:P.underlying t=some (.slice te)) (h:Okv k n cs):wI P .eql t (sv k e n cs) (.slice none 0 0) S=some (.bool (decide (k=0)),S):=by
 by_cases hk:k=0
 ·
  subst hk
  simp only [sv0,wI,JZ,vM,ht,J6]
  rfl
 ·
  have hk2:k=1∨k=2:=by have:=h.le;omega
  have h1:vSl (SL k e n cs)=some (e,n,cs):=by simp [SL,vSl,hk2]
  simp only [sv,if_neg hk]
  simp only [SL] at h1 ⊢
  simp only [wI,ht,h1]
  simp [hk]
@[simp] theorem V5 (k e n:Nat) (cs:List Value):abM (sv k e n cs)=false:=by unfold sv;split <;> rfl
@[simp] theorem Qm (dr:Bool) (t:TypeId) (k e n:Nat) (cs:List Value) (lo hi:Option Value) (S:zy):ZU P dr t (sv k e n cs) lo hi S=Jj P t (sv k e n cs) lo hi S:=by
 unfold ZU;rw [V5];rfl
@[simp] theorem Yi (dr:Bool) (t:TypeId) (s:ByteArray) (lo hi:Option Value) (S:zy):ZU P dr t (.string s) lo hi S=Jj P t (.string s) lo hi S:=Eq.trans rfl rfl
@[simp] theorem KZ (hp dr:Bool) (src dst:TypeId) (k e n:Nat) (cs:List Value) (S:zy):qU P hp dr src dst (sv k e n cs) S=Jt P src dst (sv k e n cs) S:=by
 unfold qU
 rw [V5]
 have:∀ s,sv k e n cs≠.string s:=by intro s;unfold sv;split <;> (intro h;cases h)
 cases hp <;> simp only [Bool.false_eq_true,if_false] <;> (split <;> first | rfl | (rename_i h;exact absurd h (this _)) | skip)
@[simp] theorem X3 (hp dr:Bool) (src dst:TypeId) (k:IntKind) (n:Int) (S:zy):qU P hp dr src dst (.int k n) S=Jt P src dst (.int k n) S:=by cases hp <;> rfl
@[simp] theorem Qa (dr:Bool) (src dst:TypeId) (s:ByteArray) (S:zy):qU P false dr src dst (.string s) S=Jt P src dst (.string s) S:=Eq.trans rfl rfl
@[simp] theorem Yg (dr:Bool) (src dst:TypeId) (s:ByteArray) (S:zy):qU P true dr src dst (.string s) S=kJ P src dst (.string s) S:=Eq.trans rfl rfl
theorem aeA {t te tx tex:TypeId} {k e n j m bytes:Nat} {cs ds:List Value} {z:Value} {S:zy} (ht:P.underlying t=some (.slice te)) (he:Jb P te=some e) (hz:zeroOf P te=some z) (hzs:z.cells.size=e) (hb:bytesOf P te=some bytes) (hp:0 < e)
  (htx:P.underlying tx=some (.slice tex)) (h:Okv k n cs) (hk:k≠1) (hx:Okv j m ds) (hn:cs.length=n * e) (hm:ds.length=m * e) (h1:cs.all (·.oneCell')=true) (h2:ds.all (·.oneCell')=true) (hl:(n+m) * bytes≤140737488355328) (hmax:n+m≤4611686018427387903) :
  wR P t tx (sv k e n cs) (sv j e m ds) S=some (sv (if k=0∧m=0 then 0 else 2) e (n+m) (cs++ds),S):=by
 have hel:ZT P t=some te:=by simp only [ZT,ht]
 have hsrc:akw P tx e (sv j e m ds)=some (m,ds):=by
  obtain ⟨e',q1,q2⟩:=agj (e:=e) hx
  have hns:∀ s,sv j e m ds≠.string s:=by intro s;unfold sv;split <;> (intro h;cases h)
  have hcond:m=0∨e'=e:=q2.elim .inr fun h=>.inl h.1
  unfold akw
  split
  ·
   rename_i s hs;exact absurd hs (hns s)
  ·
   simp only [htx,q1,if_pos hcond,if_pos hm,h2,if_true]
 have hsrc:agq P tx e (sv j e m ds) S=some (m,ds):=by
  unfold agq
  rw [V5]
  exact hsrc
 by_cases hk0:k=0
 ·
  obtain ⟨rfl,rfl⟩:=h.nil hk0
  subst hk0
  simp only [sv0,wR,WZ,hel,he,hz,hb,if_pos hp,if_pos hzs,hsrc]
  by_cases hm0:m=0
  ·
   subst hm0
   simp [sv0]
  ·
   rw [Nat.zero_add] at hl hmax
   rw [if_neg hm0,if_pos hl,if_pos hmax,if_neg Bool.false_ne_true,if_neg (fun h=>hm0 h.2),sv2,Nat.zero_add,List.nil_append]
 ·
  have hk2:k=2:=by have:=h.le;omega
  subst hk2
  rw [if_neg (fun h=>hk0 h.1)]
  have h1':cs.toArray.toList.all (·.oneCell')=true:=by simpa using h1
  simp only [sv2,SL,wR,WZ,hel,he,hz,hb,if_pos hp,if_pos hzs,hsrc,if_true,if_pos hl,if_pos hmax,h1']
@[simp] theorem adh (op:BinOp) (t:TypeId) (k k':IntKind) (a b:Int) (S:zy):wI P op t (.int k a) (.int k' b) S=JZ P op t (.int k a) (.int k' b) S:=Eq.trans rfl rfl
@[simp] theorem Xp (op:BinOp) (t:TypeId) (a b:ByteArray) (S:zy):wI P op t (.string a) (.string b) S=JZ P op t (.string a) (.string b) S:=Eq.trans rfl rfl
@[simp] theorem abD (op:BinOp) (t:TypeId) (a b:Bool) (S:zy):wI P op t (.bool a) (.bool b) S=JZ P op t (.bool a) (.bool b) S:=Eq.trans rfl rfl
@[simp] theorem adK (op:BinOp) (t:TypeId) (a b:Array Value) (S:zy):wI P op t (.agg a) (.agg b) S=JZ P op t (.agg a) (.agg b) S:=Eq.trans rfl rfl
@[simp] theorem Vf (b:Bool) (x y:Value) (S:zy):wX (.bool b) x y S=some (if b then dem x else dem y,S):=Eq.trans rfl rfl
@[simp] theorem aaS {src dst:TypeId} (k:IntKind) (n:Int) (S:zy):Jt P src dst (.int k n) S=kJ P src dst (.int k n) S:=Eq.trans rfl rfl
@[simp] theorem Yd (vs:List Value) (i:Nat) (S:zy):jc (.tuple vs.toArray) i S=(vs[i]?).map (·,S):=by
 simp only [jc,List.getElem?_toArray]
 cases vs[i]? <;> rfl
end
end Go.Abs
namespace Go.Abs
theorem ql {P:Program} {fn:Func} {a b:Value} {r:List Value} {T:List Value} {S:zy} (h:zQ P T S fn.results.toList=some (a::b::r)) (hn:ai9 fn.results.toList=true) (hall:(a::b::r).all wG=true) :
  ae5 P fn T S=some (.tuple (a::b::r).toArray,S):=by
 unfold ae5
 rw [h]
 dsimp only
 rw [if_pos hn,if_pos hall]
theorem yH {P:Program} {fn:Func} {a:Value} {T:List Value} {S:zy} (h:zQ P T S fn.results.toList=some [a]) (hn:ai9 fn.results.toList=true):ae5 P fn T S=some (a,S):=by
 unfold ae5
 rw [h]
 dsimp only
 rw [if_pos hn]
@[simp] theorem wC (k:IntKind) (n:Int):wG (.int k n)=true:=rfl
@[simp] theorem jY (b:Bool):wG (.bool b)=true:=rfl
@[simp] theorem ab5 (k e n:Nat) (cs:List Value):wG (sv k e n cs)=true:=by unfold sv;split <;> rfl
@[simp] theorem wB (x:Array Value):wG (.agg x)=true:=rfl
@[simp] theorem jS (a:Option Addr) (n c:Nat):wG (.slice a n c)=true:=rfl
end Go.Abs
namespace Go.Abs
open Go.RowKit
def vs {α:Type} (f:α→List Value) (e k:Nat) (l:List α):Value:=sv k e l.length (l.flatMap f)
structure Okl {α:Type} (k:Nat) (l:List α):Prop where
 le:k≤2
 nil:k=0→l=[]
theorem Okl.own {α:Type} {l:List α}:Okl 2 l:=⟨Nat.le_refl 2,(fun h=>by cases h)⟩
theorem Okl.read {α:Type} {l:List α}:Okl 1 l:=⟨by omega,(fun h=>by cases h)⟩
theorem Okl.none {α:Type}:Okl 0 ([]:List α):=⟨by omega,fun _=>rfl⟩
theorem Okl.dem {α:Type} {k:Nat} {l:List α} (h:Okl k l):Okl (if k=2 then 1 else k) l:=⟨by have:=h.le;split <;> omega,fun hk=>h.nil (by split at hk <;> omega)⟩
def cb (b:UInt8):List Value:=[.int .u8 b.toNat]
def ci (n:Int):List Value:=[.int .i64 n]
section
variable {R α:Type} {P:Program} {f:α→List Value} {e k j:Nat} {l m:List α} {t te tx tex:TypeId} {S:zy}
theorem Okl.okv (h:Okl k l):Okv k l.length (l.flatMap f):=⟨h.le,fun h0=>by rw [h.nil h0];exact ⟨rfl,rfl⟩⟩
theorem Yu (hf:∀ x,(f x).length=e) (l:List α):(l.flatMap f).length=l.length * e:=by
 induction l with
 | nil=>simp
 | cons x l ih=>simp only [List.flatMap_cons,List.length_append,hf,ih,List.length_cons,Nat.add_mul];omega
theorem QG (hf:∀ x,(f x).length=e) (l:List α):∀ (i:Nat),(l.flatMap f).drop (i * e)=(l.drop i).flatMap f:=by
 induction l with
 | nil=>intro i;simp
 | cons x l ih =>
  intro i
  cases i with
  | zero=>simp
  | succ i =>
   rw [List.flatMap_cons,List.drop_succ_cons,← ih i,List.drop_append,List.drop_eq_nil_of_le (by rw [hf,Nat.add_mul];omega),List.nil_append,hf]
   congr 1
   rw [Nat.add_mul];omega
theorem QC (hf:∀ x,(f x).length=e) (l:List α):∀ (i:Nat),(l.flatMap f).take (i * e)=(l.take i).flatMap f:=by
 induction l with
 | nil=>intro i;simp
 | cons x l ih =>
  intro i
  cases i with
  | zero=>simp
  | succ i =>
   rw [List.flatMap_cons,List.take_succ_cons,List.flatMap_cons,← ih i,List.take_append,List.take_of_length_le (by rw [hf,Nat.add_mul];omega),hf]
   congr 2
   rw [Nat.add_mul];omega
@[simp] theorem KC:dem (vs f e k l)=vs f e (if k=2 then 1 else k) l:=ado _ _ _ _
@[simp] theorem aiD (r:Option R):okC (vs f e k l) r=r:=aa7 _ _ _ _ _
@[simp] theorem aiH (r:Option R) (p:Zv r):okK (vs f e k l) r p=r:=aa7 _ _ _ _ _
@[simp] theorem ak3:abM (vs f e k l)=false:=V5 _ _ _ _
@[simp] theorem Vl (dr:Bool) (lo hi:Option Value):ZU P dr t (vs f e k l) lo hi S=Jj P t (vs f e k l) lo hi S:=Qm _ _ _ _ _ _ _ _ _
@[simp] theorem YV (hp dr:Bool) (src dst:TypeId):qU P hp dr src dst (vs f e k l) S=Jt P src dst (vs f e k l) S:=KZ _ _ _ _ _ _ _ _ _
@[simp] theorem wJ:wG (vs f e k l)=true:=ab5 _ _ _ _
theorem abA (ht:P.underlying t=some (.slice te)) (h:Okl k l):Zu P t (vs f e k l) S=some (goInt l.length,S):=ajF ht h.okv
theorem ac0 (ht:P.underlying t=some (.slice te)) (h:Okl k l):wI P .eql t (vs f e k l) (.slice none 0 0) S=some (.bool (decide (k=0)),S):=ahU ht h.okv
theorem agu {ki:IntKind} {i:Int} (ht:P.underlying t=some (.slice te)) (he:Jb P te=some e) (hf:∀ x,(f x).length=e) (h:Okl k l) (h0:0≤i) (hi:i < l.length) :
  jy P t (vs f e k l) (.int ki i) S=some (EP (f (l[i.toNat]'(by omega))),S):=by
 unfold vs
 rw [YG ht he h.okv h0 hi,QG hf]
 have hlt:i.toNat < l.length:=by omega
 have:=QC hf (l.drop i.toNat) 1
 rw [Nat.one_mul] at this
 rw [this,List.drop_eq_getElem_cons hlt,List.take_succ_cons,List.take_zero,List.flatMap_cons,List.flatMap_nil,List.append_nil]
theorem adE {lo hi:Option Value} {i j:Int} (ht:P.underlying t=some (.slice te)) (he:Jb P te=some e) (hf:∀ x,(f x).length=e) (h:Okl k l) (hlo:ZF 0 lo=some i) (hhi:ZF l.length hi=some j) (h0:0≤i) (hij:i≤j) (hj:j≤l.length) :
  Jj P t (vs f e k l) lo hi S=some (vs f e (if k=2 then 1 else k) ((l.drop i.toNat).take (j.toNat - i.toNat)),S):=by
 unfold vs
 rw [afo ht he h.okv hlo hhi h0 hij hj,QG hf,QC hf]
 congr 3
 simp;omega
theorem Y1 {bytes:Nat} {z:Value} (ht:P.underlying t=some (.slice te)) (he:Jb P te=some e) (hz:zeroOf P te=some z) (hzs:z.cells.size=e) (hb:bytesOf P te=some bytes) (hp:0 < e) (htx:P.underlying tx=some (.slice tex))
  (hf:∀ x,(f x).length=e) (h1:∀ x,(f x).all (·.oneCell')=true) (h:Okl k l) (hk:k≠1) (hm:Okl j m) (hl:(l.length+m.length) * bytes≤140737488355328) (hmax:l.length+m.length≤4611686018427387903) :
  wR P t tx (vs f e k l) (vs f e j m) S=some (vs f e (if k=0∧m.length=0 then 0 else 2) (l++m),S):=by
 have hone:∀ l:List α,(l.flatMap f).all (·.oneCell')=true:=by
  intro l
  rw [List.all_flatMap,List.all_eq_true]
  exact fun x _=>h1 x
 unfold vs
 rw [aeA ht he hz hzs hb hp htx h.okv hk hm.okv (Yu hf l) (Yu hf m) (hone l) (hone m) hl hmax,List.flatMap_append,List.length_append]
theorem adp (x:UInt8):(cb x).length=1:=rfl
theorem akq (x:UInt8):(cb x).all (·.oneCell')=true:=rfl
theorem ait (x:Int):(ci x).length=1:=rfl
theorem akr (x:Int):(ci x).all (·.oneCell')=true:=rfl
theorem ahu (l:List UInt8):kV (l.flatMap cb)=some l:=by
 induction l with
 | nil=>rfl
 | cons b l ih =>
  have:(b::l).flatMap cb=.int .u8 b.toNat::l.flatMap cb:=rfl
  rw [this]
  simp only [kV,KH,ih]
  simp
theorem yB {v:Value} {i j:Nat} {S:zy} (h:j≠i):jc (zV j v) i S=jc v i S:=by
 cases v with
 | tuple vs=>simp only [zV,jc,Array.getElem?_modify,if_neg h]
 | _=>rfl
theorem agR {v:Value} {S:zy}:jc (zV 0 v) 1 S=jc v 1 S:=yB (by decide)
theorem agv {v:Value} {S:zy}:jc (zV 0 v) 2 S=jc v 2 S:=yB (by decide)
theorem agY {v:Value} {S:zy}:jc (zV 1 v) 2 S=jc v 2 S:=yB (by decide)
theorem agM {v:Value} {S:zy}:jc (zV 0 v) 3 S=jc v 3 S:=yB (by decide)
theorem af0 {v:Value} {S:zy}:jc (zV 1 v) 3 S=jc v 3 S:=yB (by decide)
theorem aeR {v:Value} {S:zy}:jc (zV 2 v) 3 S=jc v 3 S:=yB (by decide)
theorem agl {v:Value} {S:zy}:jc (zV 0 v) 4 S=jc v 4 S:=yB (by decide)
theorem afg {v:Value} {S:zy}:jc (zV 1 v) 4 S=jc v 4 S:=yB (by decide)
theorem aeP {v:Value} {S:zy}:jc (zV 2 v) 4 S=jc v 4 S:=yB (by decide)
theorem aeO {v:Value} {S:zy}:jc (zV 3 v) 4 S=jc v 4 S:=yB (by decide)
theorem aeT {v:Value} {S:zy}:jc (zV 0 v) 5 S=jc v 5 S:=yB (by decide)
theorem afO {v:Value} {S:zy}:jc (zV 1 v) 5 S=jc v 5 S:=yB (by decide)
theorem agV {v:Value} {S:zy}:jc (zV 2 v) 5 S=jc v 5 S:=yB (by decide)
theorem afI {v:Value} {S:zy}:jc (zV 3 v) 5 S=jc v 5 S:=yB (by decide)
theorem afH {v:Value} {S:zy}:jc (zV 4 v) 5 S=jc v 5 S:=yB (by decide)
abbrev by_ (k:Nat) (l:List UInt8):Value:=vs cb 1 k l
abbrev iz (k:Nat) (l:List Int):Value:=vs ci 1 k l
theorem afC {src dst:TypeId} {k:Nat} {l:List UInt8} (hs:P.underlying src=some (.slice te)) (he:P.underlying te=some (.int .u8)) (hd:P.underlying dst=some .string) (h:Okl k l):Jt P src dst (by_ k l) S=some (.string ⟨l.toArray⟩,S):=by
 obtain ⟨e',h1,_⟩:=agj (e:=1) (h.okv (f:=cb))
 have hlen:(l.flatMap cb).length=l.length:=by rw [Yu adp];omega
 have hns:∀ s,by_ k l≠.string s:=by intro s;unfold by_ vs sv;split <;> (intro h;cases h)
 unfold Jt
 split
 ·
  rename_i s hs;exact absurd hs (hns s)
 ·
  unfold by_ vs
  rw [h1]
  simp only [hs,hd,he,if_pos hlen,ahu]
end
end Go.Abs
namespace Go.Abs
open Go.RowKit
def CLe (c d:FuncId→List Value→M Value):Prop:=∀ g a S r,c g a S=some r→d g a S=some r
section
variable {P:Program} {O:Ora} {c d:FuncId→List Value→M Value}
theorem Vs (h:CLe c d) {fx:Fx} {T:List Value} {o:Oper} {S:zy} {r:Value×zy} (hs:kC P fx c T o S=some r):kC P fx d T o S=some r:=by
 unfold kC at hs ⊢
 split at hs
 ·
  rename_i hok
  rw [if_pos hok]
  cases hop:o.op with
  | call q =>
   rw [hop] at hs
   dsimp only at hs ⊢
   cases hcal:q.callee with
   | value f =>
    rw [hcal] at hs
    dsimp only at hs ⊢
    split at hs
    ·
     rename_i g first captured hev
     exact h _ _ _ _ hs
    ·
     cases hs
   | builtin b=>rw [hcal] at hs;exact hs
   | invoke a b=>rw [hcal] at hs;cases hs
  | _=>rw [hop] at hs;exact hs
 ·
  cases hs
theorem afd (h:CLe c d) {fx:Fx} {ops:Array Oper}:∀ (l:List Oper) (T:List Value) (S:zy) (r:List Value×zy),jD P fx c ops l T S=some r→jD P fx d ops l T S=some r:=by
 intro l
 induction l with
 | nil=>intro T S r hs;exact hs
 | cons o l ih =>
  intro T S r hs
  simp only [jD] at hs ⊢
  split at hs
  ·
   rename_i hw
   rw [if_pos hw]
   split at hs
   ·
    rename_i v S' he
    rw [Vs h he]
    exact ih _ _ _ hs
   ·
    cases hs
  ·
   rename_i hw
   rw [if_neg hw]
   exact ih _ _ _ hs
theorem adL (h:CLe c d) {fx:Fx} {chk:List Nat} {nl:List (Nat×Nat)} {ops:Array Oper}:∀ (l:List Oper) (i:Nat) (hist:List (Value×zy)) (T:List Value) (S:zy) (r:List Value×zy),qx P fx chk nl c ops i hist l T S=some r→qx P fx chk nl d ops i hist l T S=some r:=by
 intro l
 induction l with
 | nil=>intro i hist T S r hs;exact hs
 | cons o l ih =>
  intro i hist T S r hs
  simp only [qx] at hs ⊢
  split at hs
  ·
   rename_i hw
   rw [if_pos hw]
   split at hs
   ·
    rename_i v S' he
    rw [Vs h he]
    dsimp only
    split at hs
    ·
     rename_i hq
     rw [if_pos hq]
     exact ih _ _ _ _ _ hs
    ·
     cases hs
   ·
    cases hs
  ·
   rename_i hw
   rw [if_neg hw]
   exact ih _ _ _ _ _ hs
theorem XZ (h:CLe c d) {hp:Bool} {n m:Nat} (hn:n≤m):∀ (q:Code) (T:List Value) (S:zy) (r),kT P hp c n q T S=some r→kT P hp d m q T S=some r:=by
 intro q
 induction q with
 | skip=>intro T S r hs;exact hs
 | exit id=>intro T S r hs;exact hs
 | ret=>intro T S r hs;exact hs
 | region i ops dr =>
  intro T S r hs
  cases dr with
  | false =>
   simp only [kT] at hs ⊢
   split at hs
   ·
    rename_i T1 S1 ho
    rw [afd h _ _ _ _ ho];exact hs
   ·
    cases hs
  | true =>
   simp only [kT] at hs ⊢
   split at hs
   ·
    rename_i hd
    rw [if_pos hd]
    split at hs
    ·
     rename_i T1 S1 ho
     rw [adL h _ _ _ _ _ _ ho];exact hs
    ·
     cases hs
   ·
    cases hs
 | seq x y ihx ihy =>
  intro T S r hs
  simp only [kT] at hs ⊢
  split at hs
  ·
   rename_i T1 S1 hx
   rw [ihx _ _ _ hx]
   exact ihy _ _ _ hs
  ·
   rename_i hne
   rw [ihx _ _ _ hs]
   split
   ·
    rename_i T1 S1 he;exact absurd (hs.trans he) (hne T1 S1)
   ·
    rfl
 | cond x y z ihy ihz =>
  intro T S r hs
  simp only [kT] at hs ⊢
  split at hs
  ·
   rename_i hok
   rw [if_pos hok]
   split at hs
   ·
    rename_i hb;exact ihy _ _ _ hs
   ·
    rename_i hb;exact ihz _ _ _ hs
   ·
    cases hs
  ·
   cases hs
 | block id x ih =>
  intro T S r hs
  simp only [kT] at hs ⊢
  split at hs
  ·
   rename_i id' T1 S1 hx
   rw [ih _ _ _ hx];exact hs
  ·
   rename_i hne
   rw [ih _ _ _ hs]
   split
   ·
    rename_i id' T1 S1 he;exact absurd (hs.trans he) (hne id' T1 S1)
   ·
    rfl
 | loop x ih =>
  intro T S r hs
  simp only [kT] at hs ⊢
  have key:∀ (n:Nat) (T:List Value) (S:zy),∀ k,xX k (kT P hp c n x) T S=some r→(∀ T S r,kT P hp c n x T S=some r→kT P hp d m x T S=some r)→xX k (kT P hp d m x) T S=some r:=by
   intro n T S k hk hx
   induction k generalizing T S with
   | zero=>cases hk
   | succ k ihk =>
    simp only [xX] at hk ⊢
    split at hk
    ·
     rename_i T1 S1 h1
     rw [hx _ _ _ h1]
     exact ihk _ _ hk
    ·
     rename_i hne
     rw [hx _ _ _ hk]
     split
     ·
      rename_i T1 S1 he;exact absurd (hk.trans he) (hne T1 S1)
     ·
      rfl
  exact VJ hn (key n T S n hs ih)
 | _=>intro T S r hs;simp only [kT] at hs;cases hs
theorem aei {hps:FuncId→Bool} {hp:Bool} (h:CLe c d):CLe (Jy hps hp c) (Jy hps hp d):=by
 cases hp with
 | false=>exact h
 | true =>
  intro g a S r hs
  unfold Jy at hs ⊢
  dsimp only at hs ⊢
  split at hs
  ·
   rename_i hg;rw [if_pos hg];exact h _ _ _ _ hs
  ·
   rename_i hg
   rw [if_neg hg]
   split at hs <;> first | (cases hs;done) | skip
   rename_i m S1 hf
   split at hs <;> first | (cases hs;done) | skip
   rename_i r0 hr0
   (try rw [hf])
   (try dsimp only)
   rw [h _ _ _ _ hr0]
   exact hs
theorem abh (h:CLe c d) {hp:Bool} {n m:Nat} (hn:n≤m) {fn:Func} {q:Code} {a:List Value} {S:zy} {r:Value×zy} (hs:ag5 P hp c n fn q a S=some r):ag5 P hp d m fn q a S=some r:=by
 unfold ag5 at hs ⊢
 split at hs
 ·
  rename_i T1 S1 hx
  rw [XZ h hn _ _ _ _ hx];exact hs
 ·
  rename_i T1 S1 hx
  rw [XZ h hn _ _ _ _ hx];exact hs
 ·
  cases hs
theorem ahf:∀ (n m:Nat),n≤m→CLe (JG P O n) (JG P O m):=by
 intro n
 induction n with
 | zero=>intro m _ g a S r h;cases h
 | succ n ih =>
  intro m hm g a S r h
  obtain ⟨m,rfl⟩:∃ k,m=k+1:=⟨m - 1,by omega⟩
  simp only [JG] at h ⊢
  cases ho:O.fn g with
  | some q=>rw [ho] at h;exact h
  | none =>
   rw [ho] at h
   dsimp only at h ⊢
   cases hf:P.funcs[g]? with
   | none=>rw [hf] at h;cases h
   | some fn =>
    rw [hf] at h
    dsimp only at h ⊢
    split at h
    ·
     cases h
    ·
     rename_i hn
     rw [if_neg hn]
     cases hb:fn.body with
     | none=>rw [hb] at h;cases h
     | some q =>
      rw [hb] at h
      dsimp only at h ⊢
      have hc:=aei (hps:=O.hp) (hp:=O.hp g) (ih m (by omega))
      split at h
      ·
       rename_i hpu
       rw [if_pos hpu]
       unfold agD at h ⊢
       split at h <;> first | (cases h;done) | skip
       rename_i hca
       rw [if_pos hca]
       split at h <;> first | (cases h;done) | skip
       rename_i v1 S1 hr
       rw [abh hc (by omega) hr]
       exact h
      ·
       rename_i hpu
       rw [if_neg hpu]
       exact abh hc (by omega) h
theorem JQ {n:Nat} {g:FuncId} {args:List Value} {S:zy} {r:Value×zy} (h:JG P O n g args S=some r):zZ P O g args S=some r :=
 abW ⟨n,fun k hk=>ahf n k hk _ _ _ _ h⟩
end
end Go.Abs
namespace Go.Abs
open Go.RowKit
theorem ahQ (x:(Ty.slc 1 (.int .u8)).Val) (hg:(Ty.slc 1 (.int .u8)).Good x):∃ k l,Okl k l∧k≠2∧(Ty.slc 1 (.int .u8)).QJ x=[by_ k l]∧l.length≤140737488351232:=by
 match x,hg with
 | none,_=>exact ⟨0,[],Okl.none,by decide,rfl,by simp⟩
 | some xs,hg =>
  obtain ⟨h1,h2,h3⟩:=hg
  have key:∀ xs:List Int,(∀ n ∈ xs,(Lit.int .u8 n).wf=true)→(xs.flatMap fun n=>[Value.int .u8 n])=(xs.map fun n=>UInt8.ofNat n.toNat).flatMap cb:=by
   intro xs
   induction xs with
   | nil=>intro _;rfl
   | cons n xs ih =>
    intro h
    have hw:=h n (by simp)
    simp [Lit.wf,IntKind.min,IntKind.max,IntKind.signed,IntKind.bits] at hw
    have e:(Value.int .u8 n)=.int .u8 ((UInt8.ofNat n.toNat).toNat:Int):=by
     simp only [UInt8.toNat_ofNat']
     congr 1
     omega
    rw [List.flatMap_cons,ih (fun m hm=>h m (by simp [hm])),List.map_cons,List.flatMap_cons,e]
    rfl
  refine ⟨1,(show List Int from xs).map fun n=>UInt8.ofNat n.toNat,Okl.read,by decide,?_,?_⟩
  ·
   have e:=key (show List Int from xs) h3
   show [SL 1 1 (show List Int from xs).length ((show List Int from xs).flatMap fun n=>[Value.int .u8 n])]=[_]
   unfold by_ vs
   rw [sv1,List.length_map,← e]
  ·
   have:(show List Int from xs).length * 1≤140737488351232:=h1
   rw [List.length_map];omega
theorem ajD (x:(Ty.slc 8 (.int .i64)).Val) (hg:(Ty.slc 8 (.int .i64)).Good x):∃ k l,Okl k l∧k≠2∧(Ty.slc 8 (.int .i64)).QJ x=[iz k l]∧l.length≤17592186043904∧∀ n ∈ l,-9223372036854775808≤n∧n < 9223372036854775808:=by
 match x,hg with
 | none,_=>exact ⟨0,[],Okl.none,by decide,rfl,by simp,fun n h=>by cases h⟩
 | some xs,hg =>
  obtain ⟨h1,h2,h3⟩:=hg
  refine ⟨1,(xs:List Int),Okl.read,by decide,rfl,?_,fun n hn=>?_⟩
  ·
   have:List.length (α:=Int) xs * 8≤140737488351232:=h1
   show List.length (α:=Int) xs≤17592186043904
   omega
  ·
   have hw:=h3 n hn
   simp [Ty.Good,Lit.wf,IntKind.min,IntKind.max,IntKind.signed,IntKind.bits] at hw
   omega
def ahi (call:FuncId→List Value→M Value) (g:FuncId) (args:List Value):M Value:=fun S=>match Qu args S with
 | some (m,S1)=>match call g m S1 with
  | some r=>some (agk S S1 args r)
  | none=>none
 | none=>none
end Go.Abs
namespace Go.Abs
open Go.RowKit
section
variable {P:Program} {μ μ1:Mu} {S S1 H H1:zy} {ω ω1:Nat→Option xB}
structure Ext (S S1:zy):Prop where
 next:S.next≤S1.next
 get:∀ k,k < S.next→S1.get k=S.get k
 log:∃ new,S1.log=new++S.log∧∀ k ∈ new,S.next≤k
theorem Ext.refl (S:zy):Ext S S:=⟨Nat.le_refl _,fun _ _=>rfl,[],rfl,fun k h=>by cases h⟩
theorem Ext.trans {S2:zy} (h:Ext S S1) (k:Ext S1 S2):Ext S S2:=⟨Nat.le_trans h.1 k.1,fun q hq=>(k.2 q (Nat.lt_of_lt_of_le hq h.1)).trans (h.2 q hq),by
 obtain ⟨n1,e1,f1⟩:=h.log
 obtain ⟨n2,e2,f2⟩:=k.log
 refine ⟨n2++n1,by rw [e2,e1,List.append_assoc],fun q hq=>?_⟩
 rcases List.mem_append.1 hq with hq | hq
 ·
  exact Nat.le_trans h.1 (f2 q hq)
 ·
  exact f1 q hq⟩
theorem Ext.push (S:zy) (o:vJ):Ext S (S.push o):=⟨by simp,fun k hk=>by rw [zy.yR,if_neg (by omega)],[],rfl,fun k h=>by cases h⟩
theorem Ext.set {S S1:zy} (h:Ext S S1) {r:Nat} (hr:S.next≤r) (o:vJ):Ext S (S1.set r o):=⟨by simpa using h.1,fun k hk=>by rw [zy.qC,if_neg (by omega)];exact h.2 k hk,by
 obtain ⟨n1,e1,f1⟩:=h.log
 refine ⟨r::n1,by rw [zy.V8,e1];rfl,fun q hq=>?_⟩
 rcases List.mem_cons.1 hq with rfl | hq
 ·
  exact hr
 ·
  exact f1 q hq⟩
inductive Lower (S:zy) (v1:Value) (S1:zy):Value→Prop
 | same (h:ground v1=true):Lower S v1 S1 v1
 | own {r n e:Nat} {cs:List Value} (hv:v1=.slice (some ⟨r,0,none⟩) n n) (hr:S.next≤r) (hg:S1.get r=some (.cells cs (.own []) e)) (hn:cs.length=n * e) (hs:cs.all sg=true):Lower S v1 S1 (SL 2 e n cs)
end
end Go.Abs
namespace Go.Abs
open Go.RowKit
section
variable {P:Program} {S:zy} {t te tx tex:TypeId} {q o n c e i r:Nat} {cs:List Value} {own:Own} {anc:List Nat} {v x:Value} {hp:Bool}
theorem qZ (a:Addr) (S:zy):xk (.pointer (some a)) S=some (.pointer (some a),S):=Eq.trans rfl rfl
theorem YW (h:S.get q=some (.cells cs own e)) (ha:xC P t=some false) (hv:cs[o]?=some v) (hn:∀ l,v≠.agg l):jh P false t (.pointer (some ⟨q,o,none⟩)) S=some (dem v,S):=by
 unfold jh
 simp only [Bool.false_eq_true,if_false]
 have:xM P t (.pointer (some ⟨q,o,none⟩)) S=some (v,S):=by simp only [xM,h,ha,hv]
 rw [this]
 split
 ·
  rename_i l S2 he;cases he;exact absurd rfl (hn _)
 ·
  rename_i v2 S2 _ he;cases he;rfl
 ·
  rename_i he;cases he
theorem qK {k:IntKind} {m:Int} (h:S.get q=some (.cells cs own e)) (ha:xC P t=some false) (hv:cs[o]?=some (.int k m)):jh P false t (.pointer (some ⟨q,o,none⟩)) S=some (.int k m,S) :=
 YW h ha hv (fun l h=>by cases h)
theorem QV {a:Option Nat} (h:S.get q=some (.cells cs own e)) (ha:xC P t=some false) (hv:cs[o]?=some (.map a)):jh P false t (.pointer (some ⟨q,o,none⟩)) S=some (.map a,S) :=
 YW h ha hv (fun l h=>by cases h)
theorem Y8 (h:S.get q=some (.cells cs own e)) (ha:xC P t=some true) (hs:Jb P t=some n) (hle:o+n≤cs.length):jh P false t (.pointer (some ⟨q,o,none⟩)) S=some (.agg (((cs.drop o).take n).toArray.map vV),S):=by
 unfold jh
 simp only [Bool.false_eq_true,if_false]
 have:xM P t (.pointer (some ⟨q,o,none⟩)) S=some (.agg ((cs.drop o).take n).toArray,S):=by simp only [xM,h,ha,hs,if_pos hle]
 rw [this]
theorem Zk (h:S.get q=some (.cells cs (.own anc) e)) (hs:Jb P t=some n) (hx:x.cells.size=n) (h1:x.cells.toList.all (·.oneCell')=true) (hle:o+n≤cs.length) :
  wU P t (.pointer (some ⟨q,o,none⟩)) x S=some (zh,(S.kills anc).set q (.cells (splice cs o x.cells.toList) (.own []) e)):=by
 simp only [wU,Ye,h,hs,if_pos hx,if_pos h1,if_pos hle]
end
theorem Jo {α:Type} {f:α→List Value} {e k d:Nat} {l:List α} (hk:k≤2) (h:∀ x ∈ l,(f x).all (jW d)=true):jW (d+4) (vs f e k l)=true:=by
 unfold vs sv
 split
 ·
  rfl
 ·
  show ((l.flatMap f).toArray.toList.all (jW d))=true
  rw [List.toList_toArray,List.all_flatMap,List.all_eq_true]
  exact h
theorem qH {k d:Nat} {l:List UInt8} (hk:k≤2):jW (d+5) (by_ k l)=true:=Jo hk (fun _ _=>rfl)
theorem aby {l:List Value} {d:Nat} (h:l.all (jW d)=true):jW (d+1) (.agg l.toArray)=true:=by
 show l.toArray.toList.all (jW d)=true
 simpa using h
theorem yV {l:List Value} {d:Nat} (h:l.all (jW d)=true):jW (d+1) (.tuple l.toArray)=true:=by
 show l.toArray.toList.all (jW d)=true
 simpa using h
theorem all1 {p:Value→Bool} {a:Value} (h:p a=true):[a].all p=true:=by simp [h]
theorem all2 {p:Value→Bool} {a b:Value} (h:p a=true) (k:p b=true):[a,b].all p=true:=by simp [h,k]
theorem alF {p:Value→Bool} {a b c:Value} (h:p a=true) (k:p b=true) (j:p c=true):[a,b,c].all p=true:=by simp [h,k,j]
theorem ahn {k e n:Nat} {cs:List Value}:(sv k e n cs).cells=#[sv k e n cs]:=by unfold sv;split <;> rfl
theorem YU {α:Type} {f:α→List Value} {e k:Nat} {l:List α}:(vs f e k l).cells=#[vs f e k l]:=ahn
theorem ajH {k e n:Nat} {cs:List Value}:vV (sv k e n cs)=sv (if k=2 then 1 else k) e n cs:=by rw [← ado];unfold sv;split <;> rfl
theorem acM {α:Type} {f:α→List Value} {e k:Nat} {l:List α}:vV (vs f e k l)=vs f e (if k=2 then 1 else k) l:=ajH
theorem Zr {k:IntKind} {n:Int}:vV (.int k n)=.int k n:=rfl
theorem qL {x:Array Value}:(Value.agg x).cells=x:=rfl
theorem yS {k:IntKind} {n:Int}:(Value.int k n).cells=#[.int k n]:=rfl
@[simp] theorem abx (a:Option Addr) (n c:Nat):dem (.slice a n c)=.slice a n c:=Eq.trans rfl rfl
@[simp] theorem afk (a:Option Nat):dem (.map a)=.map a:=Eq.trans rfl rfl
theorem wrap_i64 {n:Int} (h0:-9223372036854775808≤n) (h:n < 9223372036854775808):IntKind.i64.wrap n=n:=by
 simp [IntKind.wrap,IntKind.bits,IntKind.signed]
 split <;> omega
theorem KD {l pre suf:List Int} {n:Int} (hl:l=pre++n::suf) (h:Int.toNat (pre.length:Int) < l.length):l[Int.toNat (pre.length:Int)]=n:=by
 subst hl;simp
theorem Xt {α:Type} {l pre suf:List α} {n:α} (hl:l=pre++n::suf) (h:Int.toNat (pre.length:Int) < l.length):l[Int.toNat (pre.length:Int)]=n:=by
 subst hl;simp
theorem adz (k:Nat):(if (if k=2 then 1 else k)=2 then 1 else if k=2 then 1 else k)=if k=2 then 1 else k:=by split <;> simp_all
theorem Ws (k:Nat):(if k=2 then 1 else k)≠2:=by split <;> omega
theorem QE (Sa Sb:zy):qN zh Sa Sb=true:=rfl
theorem xW (cs:List Value) (Sa Sb:zy):qN (EP cs) Sa Sb=true:=rfl
theorem yP {q o e:Nat} {cs:List Value} {own:Own} {S:zy} (h:S.get q=some (.cells cs own e)):qN (.pointer (some ⟨q,o,none⟩)) S S=true:=by
 simp only [qN,h,Nat.sub_self,List.take_zero,List.contains_nil,Bool.not_false,Bool.and_self]
end Go.Abs
namespace Go.Abs
open Go.RowKit
section
variable {P:Program} {fx:Fx} {chk:List Nat} {call:FuncId→List Value→M Value} {ops:Array Oper}
theorem sP (f:Func) (i n:Nat) {l:List Oper} {T:List Value} {T1:Value→List Value} {S:zy} {v:Value} {r:Option (List Value×zy)} (hK:jD P fx call ops ((reg f i).toList.drop (n+1)) (T1 v) S=r) (hl:l=(opAt f i n)::((reg f i).toList.drop (n+1)):=by kernel_rfl) (hg:(opAt f i n).guard=none:=by kernel_rfl) (hm:∀ v,JA (opAt f i n) ((reg f i).toList.drop (n+1)) T v=T1 v:=by exact fun _=>rfl) (hs:kC P fx call T (opAt f i n) S=some (v,S):=by kernel_rfl):jD P fx call ops l T S=r :=
 ae1 hl hg hm hs hK
theorem sD (f:Func) (i n:Nat) {l:List Oper} {T:List Value} {T1:Value→List Value} {S:zy} {s:Option (Value×zy)} {K:Value→zy→Option (List Value×zy)} (hK:∀ v S1,jD P fx call ops ((reg f i).toList.drop (n+1)) (T1 v) S1=K v S1) (hl:l=(opAt f i n)::((reg f i).toList.drop (n+1)):=by kernel_rfl) (hg:(opAt f i n).guard=none:=by kernel_rfl) (hm:∀ v,JA (opAt f i n) ((reg f i).toList.drop (n+1)) T v=T1 v:=by exact fun _=>rfl) (hs:kC P fx call T (opAt f i n) S=s:=by kernel_rfl):jD P fx call ops l T S=zN s K () :=
 ajU hl hg hm hs hK
theorem sG (f:Func) (i n:Nat) {l:List Oper} {T:List Value} {T1:Value→List Value} {S:zy} {j:Nat} {b:Bool} {g:Value} {s:M Value} {K:Value→zy→Option (List Value×zy)} (hK:∀ v S1,jD P fx call ops ((reg f i).toList.drop (n+1)) (T1 v) S1=K v S1) (hl:l=(opAt f i n)::((reg f i).toList.drop (n+1)):=by kernel_rfl) (hg:(opAt f i n).guard=some (j,b):=by kernel_rfl) (hm:∀ v,JA (opAt f i n) ((reg f i).toList.drop (n+1)) T v=T1 v:=by exact fun _=>rfl) (hy:ynd ops T j=vb g:=by kernel_rfl) (hs:kC P fx call T (opAt f i n) S=s S:=by kernel_rfl):jD P fx call ops l T S=gdK g b s S K () :=
 aj2 hl hg hm hy hs hK
theorem tD (f:Func) (i n:Nat) {l:List Oper} {T:List Value} {T1:Value→List Value} {S:zy} {k:Nat} {s:Option (Value×zy)} {K:Value→zy→Option (List Value×zy)} (hK:∀ v S1,qx P fx chk [] call ops (k+1) [] ((reg f i).toList.drop (n+1)) (T1 v) S1=K v S1) (hc:chk.contains k=false:=by kernel_rfl) (hl:l=(opAt f i n)::((reg f i).toList.drop (n+1)):=by kernel_rfl) (hg:(opAt f i n).guard=none:=by kernel_rfl) (hm:∀ v,JA (opAt f i n) ((reg f i).toList.drop (n+1)) T v=T1 v:=by exact fun _=>rfl) (hs:kC P fx call T (opAt f i n) S=s:=by kernel_rfl):qx P fx chk [] call ops k [] l T S=zN s K () :=
 ahI hc hl hg hm hs hK
theorem tP (f:Func) (i n:Nat) {l:List Oper} {T:List Value} {T1:Value→List Value} {S:zy} {k:Nat} {v:Value} {r:Option (List Value×zy)} (hK:qx P fx chk [] call ops (k+1) [] ((reg f i).toList.drop (n+1)) (T1 v) S=r) (hc:chk.contains k=false:=by kernel_rfl) (hl:l=(opAt f i n)::((reg f i).toList.drop (n+1)):=by kernel_rfl) (hg:(opAt f i n).guard=none:=by kernel_rfl) (hm:∀ v,JA (opAt f i n) ((reg f i).toList.drop (n+1)) T v=T1 v:=by exact fun _=>rfl) (hs:kC P fx call T (opAt f i n) S=some (v,S):=by kernel_rfl):qx P fx chk [] call ops k [] l T S=r :=
 adT hc hl hg hm hs hK
theorem tPC (f:Func) (i n:Nat) {l:List Oper} {T:List Value} {T1:Value→List Value} {S:zy} {k:Nat} {v:Value} {r:Option (List Value×zy)} (hK:qx P fx chk [] call ops (k+1) [] ((reg f i).toList.drop (n+1)) (T1 v) S=r) (hc:chk.contains k=true:=by kernel_rfl) (hl:l=(opAt f i n)::((reg f i).toList.drop (n+1)):=by kernel_rfl) (hg:(opAt f i n).guard=none:=by kernel_rfl) (hm:∀ v,JA (opAt f i n) ((reg f i).toList.drop (n+1)) T v=T1 v:=by exact fun _=>rfl) (hs:kC P fx call T (opAt f i n) S=some (v,S):=by kernel_rfl):qx P fx chk [] call ops k [] l T S=okK v r () :=
 ab2 hc hl hg hm hs hK
theorem tG (f:Func) (i n:Nat) {l:List Oper} {T:List Value} {T1:Value→List Value} {S:zy} {j k:Nat} {b:Bool} {g:Value} {s:M Value} {K:Value→zy→Option (List Value×zy)} (hK:∀ v S1,qx P fx chk [] call ops (k+1) [] ((reg f i).toList.drop (n+1)) (T1 v) S1=K v S1) (hc:chk.contains k=false:=by kernel_rfl) (hl:l=(opAt f i n)::((reg f i).toList.drop (n+1)):=by kernel_rfl) (hg:(opAt f i n).guard=some (j,b):=by kernel_rfl) (hm:∀ v,JA (opAt f i n) ((reg f i).toList.drop (n+1)) T v=T1 v:=by exact fun _=>rfl) (hy:ynd ops T j=vb g:=by kernel_rfl) (hs:kC P fx call T (opAt f i n) S=s S:=by kernel_rfl):qx P fx chk [] call ops k [] l T S=gdK g b s S K () :=
 aib hc hl hg hm hy hs hK
theorem uD (f:Func) (i n:Nat) {l:List Oper} {T:List Value} {T1:Value→List Value} {S:zy} {k:Nat} {s:Option (Value×zy)} {K:Value→zy→Option (List Value×zy)} {x:Nat×Nat} {nl:List (Nat×Nat)} {hist:List (Value×zy)} {pe:Value} (hK:∀ v S1,qx P fx chk (x::nl) call ops (k+1) (hist++[(pe,S)]) ((reg f i).toList.drop (n+1)) (T1 v) S1=K v S1) (hc:chk.contains k=false:=by kernel_rfl) (hpe:Jk T (opAt f i n)=pe:=by kernel_rfl) (hl:l=(opAt f i n)::((reg f i).toList.drop (n+1)):=by kernel_rfl) (hg:(opAt f i n).guard=none:=by kernel_rfl) (hm:∀ v,JA (opAt f i n) ((reg f i).toList.drop (n+1)) T v=T1 v:=by exact fun _=>rfl) (hs:kC P fx call T (opAt f i n) S=s:=by kernel_rfl):qx P fx chk (x::nl) call ops k hist l T S=zN s K () :=
 ahK hc hpe hl hg hm hs hK
theorem uDC (f:Func) (i n:Nat) {l:List Oper} {T:List Value} {T1:Value→List Value} {S:zy} {k:Nat} {s:Option (Value×zy)} {K:Value→zy→Option (List Value×zy)} {x:Nat×Nat} {nl:List (Nat×Nat)} {hist:List (Value×zy)} {pe:Value} (hK:∀ v S1,qx P fx chk (x::nl) call ops (k+1) (hist++[(pe,S)]) ((reg f i).toList.drop (n+1)) (T1 v) S1=K v S1) (hc:chk.contains k=true:=by kernel_rfl) (hpe:Jk T (opAt f i n)=pe:=by kernel_rfl) (hl:l=(opAt f i n)::((reg f i).toList.drop (n+1)):=by kernel_rfl) (hg:(opAt f i n).guard=none:=by kernel_rfl) (hm:∀ v,JA (opAt f i n) ((reg f i).toList.drop (n+1)) T v=T1 v:=by exact fun _=>rfl) (hs:kC P fx call T (opAt f i n) S=s:=by kernel_rfl):qx P fx chk (x::nl) call ops k hist l T S=zN s (fun v S1=>okK v (K v S1) ()) () :=
 aeW hc hpe hl hg hm hs hK
theorem uP (f:Func) (i n:Nat) {l:List Oper} {T:List Value} {T1:Value→List Value} {S:zy} {k:Nat} {v:Value} {r:Option (List Value×zy)} {x:Nat×Nat} {nl:List (Nat×Nat)} {hist:List (Value×zy)} {pe:Value} (hK:qx P fx chk (x::nl) call ops (k+1) (hist++[(pe,S)]) ((reg f i).toList.drop (n+1)) (T1 v) S=r) (hc:chk.contains k=false:=by kernel_rfl) (hpe:Jk T (opAt f i n)=pe:=by kernel_rfl) (hl:l=(opAt f i n)::((reg f i).toList.drop (n+1)):=by kernel_rfl) (hg:(opAt f i n).guard=none:=by kernel_rfl) (hm:∀ v,JA (opAt f i n) ((reg f i).toList.drop (n+1)) T v=T1 v:=by exact fun _=>rfl) (hs:kC P fx call T (opAt f i n) S=some (v,S):=by kernel_rfl):qx P fx chk (x::nl) call ops k hist l T S=r :=
 aeE hc hpe hl hg hm hs hK
theorem uPC (f:Func) (i n:Nat) {l:List Oper} {T:List Value} {T1:Value→List Value} {S:zy} {k:Nat} {v:Value} {r:Option (List Value×zy)} {x:Nat×Nat} {nl:List (Nat×Nat)} {hist:List (Value×zy)} {pe:Value} (hK:qx P fx chk (x::nl) call ops (k+1) (hist++[(pe,S)]) ((reg f i).toList.drop (n+1)) (T1 v) S=r) (hc:chk.contains k=true:=by kernel_rfl) (hpe:Jk T (opAt f i n)=pe:=by kernel_rfl) (hl:l=(opAt f i n)::((reg f i).toList.drop (n+1)):=by kernel_rfl) (hg:(opAt f i n).guard=none:=by kernel_rfl) (hm:∀ v,JA (opAt f i n) ((reg f i).toList.drop (n+1)) T v=T1 v:=by exact fun _=>rfl) (hs:kC P fx call T (opAt f i n) S=some (v,S):=by kernel_rfl):qx P fx chk (x::nl) call ops k hist l T S=okK v r () :=
 acT hc hpe hl hg hm hs hK
theorem uG (f:Func) (i n:Nat) {l:List Oper} {T:List Value} {T1:Value→List Value} {S:zy} {j k:Nat} {b:Bool} {g:Value} {s:M Value} {K:Value→zy→Option (List Value×zy)} {x:Nat×Nat} {nl:List (Nat×Nat)} {hist:List (Value×zy)} {pe:Value} (hK:∀ v S1,qx P fx chk (x::nl) call ops (k+1) (hist++[(pe,S)]) ((reg f i).toList.drop (n+1)) (T1 v) S1=K v S1) (hc:chk.contains k=false:=by kernel_rfl) (hpe:Jk T (opAt f i n)=pe:=by kernel_rfl) (hl:l=(opAt f i n)::((reg f i).toList.drop (n+1)):=by kernel_rfl) (hg:(opAt f i n).guard=some (j,b):=by kernel_rfl) (hm:∀ v,JA (opAt f i n) ((reg f i).toList.drop (n+1)) T v=T1 v:=by exact fun _=>rfl) (hy:ynd ops T j=vb g:=by kernel_rfl) (hs:kC P fx call T (opAt f i n) S=s S:=by kernel_rfl):qx P fx chk (x::nl) call ops k hist l T S=gdK g b s S K () :=
 ahb hc hpe hl hg hm hy hs hK
theorem uGC (f:Func) (i n:Nat) {l:List Oper} {T:List Value} {T1:Value→List Value} {S:zy} {j k:Nat} {b:Bool} {g:Value} {s:M Value} {K:Value→zy→Option (List Value×zy)} {x:Nat×Nat} {nl:List (Nat×Nat)} {hist:List (Value×zy)} {pe:Value} (hK:∀ v S1,qx P fx chk (x::nl) call ops (k+1) (hist++[(pe,S)]) ((reg f i).toList.drop (n+1)) (T1 v) S1=K v S1) (hc:chk.contains k=true:=by kernel_rfl) (hpe:Jk T (opAt f i n)=pe:=by kernel_rfl) (hl:l=(opAt f i n)::((reg f i).toList.drop (n+1)):=by kernel_rfl) (hg:(opAt f i n).guard=some (j,b):=by kernel_rfl) (hm:∀ v,JA (opAt f i n) ((reg f i).toList.drop (n+1)) T v=T1 v:=by exact fun _=>rfl) (hy:ynd ops T j=vb g:=by kernel_rfl) (hs:kC P fx call T (opAt f i n) S=s S:=by kernel_rfl):qx P fx chk (x::nl) call ops k hist l T S=aeV g b s S K () :=
 afc hc hpe hl hg hm hy hs hK
end
end Go.Abs
namespace Go.Proofs.Ytfjogganfjkckaa
open Go.Abs
def O:Ora:=⟨fun _=>none,fun f=>([]:List Nat).contains f,fun f=>([9,13,14,15,16,17,18,19,22,23,24,26,27,30,31,32,34,36,37,42,45,46,48,50,52,56,57,58,62,64,65,66,67,68,69,70,71,73]:List Nat).contains f⟩
theorem akD:agx zi O:=aij
end Go.Proofs.Ytfjogganfjkckaa
namespace Go.Proofs.Ytfjogganfjkckaa
open Go.Abs
noncomputable def zu.jT:Code:=(.seq (.region 14 (reg Try.f5 14) false) (.seq (.cond (.tmp 65) Code.skip (.exit 2)) (.seq (.block 3 (.seq (.region 15 (reg Try.f5 15) false) (.seq (.region 16 (reg Try.f5 16) true) (.cond (.tmp 83) (.seq (.region 17 (reg Try.f5 17) false) Code.ret) Code.skip)))) (.region 18 (reg Try.f5 18) false))))
noncomputable def zu.kZ:Code:=(.seq (.region 25 (reg Try.f5 25) false) (.seq (.cond (.tmp 111) Code.skip (.exit 4)) (.seq (.block 5 (.seq (.region 26 (reg Try.f5 26) false) (.region 27 (reg Try.f5 27) false))) (.region 28 (reg Try.f5 28) false))))
noncomputable def zu.XJ:Code:=(.seq (.region 30 (reg Try.f5 30) false) (.seq (.cond (.tmp 129) Code.skip (.exit 6)) (.seq (.block 7 (.seq (.region 31 (reg Try.f5 31) false) (.seq (.region 32 (reg Try.f5 32) true) (.cond (.tmp 144) (.seq (.region 33 (reg Try.f5 33) false) Code.ret) Code.skip)))) (.region 34 (reg Try.f5 34) false))))
noncomputable def zu.Qh:Code:=(.seq (.region 8 (reg Try.f5 8) false) (.seq (.cond (.tmp 39) Code.skip (.exit 0)) (.seq (.block 1 (.seq (.region 9 (reg Try.f5 9) false) (.seq (.region 10 (reg Try.f5 10) false) (.seq (.region 11 (reg Try.f5 11) false) (.seq (.seq (.region 12 (reg Try.f5 12) false) (.cond (.tmp 57) (.seq (.seq (.region 13 (reg Try.f5 13) false) (.block 2 (.loop zu.jT))) (.seq (.region 19 (reg Try.f5 19) false) (.seq (.seq (.region 20 (reg Try.f5 20) false) (.cond (.tmp 91) (.region 21 (reg Try.f5 21) false) Code.skip)) (.exit 1)))) Code.skip)) (.seq (.seq (.region 22 (reg Try.f5 22) false) (.cond (.tmp 107) (.exit 1) Code.skip)) (.seq (.region 23 (reg Try.f5 23) false) (.seq (.seq (.region 24 (reg Try.f5 24) false) (.block 4 (.loop zu.kZ))) (.seq (.seq (.region 29 (reg Try.f5 29) false) (.block 6 (.loop zu.XJ))) (.seq (.seq (.region 35 (reg Try.f5 35) false) (.cond (.tmp 155) (.seq (.region 36 (reg Try.f5 36) false) Code.ret) Code.skip)) (.region 37 (reg Try.f5 37) false))))))))))) (.region 38 (reg Try.f5 38) false))))
noncomputable def zu.code:Code:=(.seq (.region 0 (reg Try.f5 0) false) (.seq (.seq (.region 1 (reg Try.f5 1) false) (.cond (.tmp 21) (.seq (.region 2 (reg Try.f5 2) false) Code.ret) Code.skip)) (.seq (.seq (.region 3 (reg Try.f5 3) false) (.cond (.tmp 29) (.seq (.region 4 (reg Try.f5 4) false) Code.ret) Code.skip)) (.seq (.region 5 (reg Try.f5 5) false) (.seq (.region 6 (reg Try.f5 6) false) (.seq (.seq (.region 7 (reg Try.f5 7) false) (.block 0 (.loop zu.Qh))) (.seq (.region 39 (reg Try.f5 39) false) Code.ret)))))))
theorem zu.body:Try.f5.body=some zu.code:=by kernel_rfl
theorem zu.eta {T:List Value} (h:T.length=162):T=[T.getD 0 zh,T.getD 1 zh,T.getD 2 zh,T.getD 3 zh,T.getD 4 zh,T.getD 5 zh,T.getD 6 zh,T.getD 7 zh,T.getD 8 zh,T.getD 9 zh,T.getD 10 zh,T.getD 11 zh,T.getD 12 zh,T.getD 13 zh,T.getD 14 zh,T.getD 15 zh,T.getD 16 zh,T.getD 17 zh,T.getD 18 zh,T.getD 19 zh,T.getD 20 zh,T.getD 21 zh,T.getD 22 zh,T.getD 23 zh,T.getD 24 zh,T.getD 25 zh,T.getD 26 zh,T.getD 27 zh,T.getD 28 zh,T.getD 29 zh,T.getD 30 zh,T.getD 31 zh,T.getD 32 zh,T.getD 33 zh,T.getD 34 zh,T.getD 35 zh,T.getD 36 zh,T.getD 37 zh,T.getD 38 zh,T.getD 39 zh,T.getD 40 zh,T.getD 41 zh,T.getD 42 zh,T.getD 43 zh,T.getD 44 zh,T.getD 45 zh,T.getD 46 zh,T.getD 47 zh,T.getD 48 zh,T.getD 49 zh,T.getD 50 zh,T.getD 51 zh,T.getD 52 zh,T.getD 53 zh,T.getD 54 zh,T.getD 55 zh,T.getD 56 zh,T.getD 57 zh,T.getD 58 zh,T.getD 59 zh,T.getD 60 zh,T.getD 61 zh,T.getD 62 zh,T.getD 63 zh,T.getD 64 zh,T.getD 65 zh,T.getD 66 zh,T.getD 67 zh,T.getD 68 zh,T.getD 69 zh,T.getD 70 zh,T.getD 71 zh,T.getD 72 zh,T.getD 73 zh,T.getD 74 zh,T.getD 75 zh,T.getD 76 zh,T.getD 77 zh,T.getD 78 zh,T.getD 79 zh,T.getD 80 zh,T.getD 81 zh,T.getD 82 zh,T.getD 83 zh,T.getD 84 zh,T.getD 85 zh,T.getD 86 zh,T.getD 87 zh,T.getD 88 zh,T.getD 89 zh,T.getD 90 zh,T.getD 91 zh,T.getD 92 zh,T.getD 93 zh,T.getD 94 zh,T.getD 95 zh,T.getD 96 zh,T.getD 97 zh,T.getD 98 zh,T.getD 99 zh,T.getD 100 zh,T.getD 101 zh,T.getD 102 zh,T.getD 103 zh,T.getD 104 zh,T.getD 105 zh,T.getD 106 zh,T.getD 107 zh,T.getD 108 zh,T.getD 109 zh,T.getD 110 zh,T.getD 111 zh,T.getD 112 zh,T.getD 113 zh,T.getD 114 zh,T.getD 115 zh,T.getD 116 zh,T.getD 117 zh,T.getD 118 zh,T.getD 119 zh,T.getD 120 zh,T.getD 121 zh,T.getD 122 zh,T.getD 123 zh,T.getD 124 zh,T.getD 125 zh,T.getD 126 zh,T.getD 127 zh,T.getD 128 zh,T.getD 129 zh,T.getD 130 zh,T.getD 131 zh,T.getD 132 zh,T.getD 133 zh,T.getD 134 zh,T.getD 135 zh,T.getD 136 zh,T.getD 137 zh,T.getD 138 zh,T.getD 139 zh,T.getD 140 zh,T.getD 141 zh,T.getD 142 zh,T.getD 143 zh,T.getD 144 zh,T.getD 145 zh,T.getD 146 zh,T.getD 147 zh,T.getD 148 zh,T.getD 149 zh,T.getD 150 zh,T.getD 151 zh,T.getD 152 zh,T.getD 153 zh,T.getD 154 zh,T.getD 155 zh,T.getD 156 zh,T.getD 157 zh,T.getD 158 zh,T.getD 159 zh,T.getD 160 zh,T.getD 161 zh]:=(qJ T 162 h).trans (by kernel_rfl)
variable (x0 x1 x2 x3 x4 x5 x6 x7 x8 x9 c0 c3 b8 c6 c1 b9 c7 c8 c9 c2 d4 d5 d6 d7 d8 d9 f0 f1 f2 f3 f4 f6 f7 f8 f9 g0 d0 d1 c4 g1 g2 g3 g4 g5 g6 g7 g8 g9 i0 i1 i2 i3 i4 i5 i6 i7 i8 i9 j0 j1 j2 j3 d2 d3 c5 j4 j5 j6 j7 j8 j9 k0 k1 k2 k3 k4 k5 k6 k7 k8 k9 l0 l1 l2 l3 l4 l5 l6 l7 l8 l9 m0 m1 m2 m3 m4 m5 m6 m7 m8 k l m n o p q r d f b s t u w x y z A B C D E F G H g i c I J K L M N P Q R U V W X Y Z a0 a1 a2 a3 a4 a5 a6 a7 a8 a9 b0 b1 b2 b3 b4 b5 b6 b7:Value) (S:zy)
theorem zu.r0 :jD zi ⟨false,false,false⟩ (zZ zi O) (reg Try.f5 0) (reg Try.f5 0).toList ([x0,x1,x2,x3,x4,x5,x6,x7,x8,x9,c0,c3,b8,c6,c1,b9,c7,c8,c9,c2,d4,d5,d6,d7,d8,d9,f0,f1,f2,f3,f4,f6,f7,f8,f9,g0,d0,d1,c4,g1,g2,g3,g4,g5,g6,g7,g8,g9,i0,i1,i2,i3,i4,i5,i6,i7,i8,i9,j0,j1,j2,j3,d2,d3,c5,j4,j5,j6,j7,j8,j9,k0,k1,k2,k3,k4,k5,k6,k7,k8,k9,l0,l1,l2,l3,l4,l5,l6,l7,l8,l9,m0,m1,m2,m3,m4,m5,m6,m7,m8,k,l,m,n,o,p,q,r,d,f,b,s,t,u,w,x,y,z,A,B,C,D,E,F,G,H,g,i,c,I,J,K,L,M,N,P,Q,R,U,V,W,X,Y,Z,a0,a1,a2,a3,a4,a5,a6,a7,a8,a9,b0,b1,b2,b3,b4,b5,b6,b7]) S =
  ( some ([x0,x1,x2,x3,Value.bool false,x5,x6,x7,x8,x9,c0,c3,b8,c6,c1,b9,c7,c8,c9,c2,d4,d5,d6,d7,d8,d9,f0,f1,f2,f3,f4,f6,f7,f8,f9,g0,d0,d1,c4,g1,g2,g3,g4,g5,g6,g7,g8,g9,i0,i1,i2,i3,i4,i5,i6,i7,i8,i9,j0,j1,j2,j3,d2,d3,c5,j4,j5,j6,j7,j8,j9,k0,k1,k2,k3,k4,k5,k6,k7,k8,k9,l0,l1,l2,l3,l4,l5,l6,l7,l8,l9,m0,m1,m2,m3,m4,m5,m6,m7,m8,k,l,m,n,o,p,q,r,d,f,b,s,t,u,w,x,y,z,A,B,C,D,E,F,G,H,g,i,c,I,J,K,L,M,N,P,Q,R,U,V,W,X,Y,Z,a0,a1,a2,a3,a4,a5,a6,a7,a8,a9,b0,b1,b2,b3,b4,b5,b6,b7],S)):=by
 kernel_rfl
theorem zu.r1 :jD zi ⟨false,false,false⟩ (zZ zi O) (reg Try.f5 1) (reg Try.f5 1).toList ([x0,x1,x2,x3,x4,x5,x6,x7,x8,x9,c0,c3,b8,c6,c1,b9,c7,c8,c9,c2,d4,d5,d6,d7,d8,d9,f0,f1,f2,f3,f4,f6,f7,f8,f9,g0,d0,d1,c4,g1,g2,g3,g4,g5,g6,g7,g8,g9,i0,i1,i2,i3,i4,i5,i6,i7,i8,i9,j0,j1,j2,j3,d2,d3,c5,j4,j5,j6,j7,j8,j9,k0,k1,k2,k3,k4,k5,k6,k7,k8,k9,l0,l1,l2,l3,l4,l5,l6,l7,l8,l9,m0,m1,m2,m3,m4,m5,m6,m7,m8,k,l,m,n,o,p,q,r,d,f,b,s,t,u,w,x,y,z,A,B,C,D,E,F,G,H,g,i,c,I,J,K,L,M,N,P,Q,R,U,V,W,X,Y,Z,a0,a1,a2,a3,a4,a5,a6,a7,a8,a9,b0,b1,b2,b3,b4,b5,b6,b7]) S =
  (zN ((zZ zi O) 9 [] S) (fun v0 S1=>zN (aUn zi UnOp.not v0 S1) (fun v1 S2=>some ([x0,x1,x2,x3,x4,x5,x6,x7,x8,x9,c0,c3,b8,c6,c1,b9,c7,c8,c9,c2,v0,v1,d6,d7,d8,d9,f0,f1,f2,f3,f4,f6,f7,f8,f9,g0,d0,d1,c4,g1,g2,g3,g4,g5,g6,g7,g8,g9,i0,i1,i2,i3,i4,i5,i6,i7,i8,i9,j0,j1,j2,j3,d2,d3,c5,j4,j5,j6,j7,j8,j9,k0,k1,k2,k3,k4,k5,k6,k7,k8,k9,l0,l1,l2,l3,l4,l5,l6,l7,l8,l9,m0,m1,m2,m3,m4,m5,m6,m7,m8,k,l,m,n,o,p,q,r,d,f,b,s,t,u,w,x,y,z,A,B,C,D,E,F,G,H,g,i,c,I,J,K,L,M,N,P,Q,R,U,V,W,X,Y,Z,a0,a1,a2,a3,a4,a5,a6,a7,a8,a9,b0,b1,b2,b3,b4,b5,b6,b7],S2)) ()) ()):=by
 kernel_rfl
theorem zu.r2 :jD zi ⟨false,false,false⟩ (zZ zi O) (reg Try.f5 2) (reg Try.f5 2).toList ([x0,x1,x2,x3,x4,x5,x6,x7,x8,x9,c0,c3,b8,c6,c1,b9,c7,c8,c9,c2,d4,d5,d6,d7,d8,d9,f0,f1,f2,f3,f4,f6,f7,f8,f9,g0,d0,d1,c4,g1,g2,g3,g4,g5,g6,g7,g8,g9,i0,i1,i2,i3,i4,i5,i6,i7,i8,i9,j0,j1,j2,j3,d2,d3,c5,j4,j5,j6,j7,j8,j9,k0,k1,k2,k3,k4,k5,k6,k7,k8,k9,l0,l1,l2,l3,l4,l5,l6,l7,l8,l9,m0,m1,m2,m3,m4,m5,m6,m7,m8,k,l,m,n,o,p,q,r,d,f,b,s,t,u,w,x,y,z,A,B,C,D,E,F,G,H,g,i,c,I,J,K,L,M,N,P,Q,R,U,V,W,X,Y,Z,a0,a1,a2,a3,a4,a5,a6,a7,a8,a9,b0,b1,b2,b3,b4,b5,b6,b7]) S =
  ( some ([x0,x1,x2,x3,Value.bool false,x5,x6,x7,x8,x9,c0,c3,b8,c6,c1,b9,c7,c8,c9,c2,d4,d5,d6,d7,d8,d9,f0,f1,f2,f3,f4,f6,f7,f8,f9,g0,d0,d1,c4,g1,g2,g3,g4,g5,g6,g7,g8,g9,i0,i1,i2,i3,i4,i5,i6,i7,i8,i9,j0,j1,j2,j3,d2,d3,c5,j4,j5,j6,j7,j8,j9,k0,k1,k2,k3,k4,k5,k6,k7,k8,k9,l0,l1,l2,l3,l4,l5,l6,l7,l8,l9,m0,m1,m2,m3,m4,m5,m6,m7,m8,k,l,m,n,o,p,q,r,d,f,b,s,t,u,w,x,y,z,A,B,C,D,E,F,G,H,g,i,c,I,J,K,L,M,N,P,Q,R,U,V,W,X,Y,Z,a0,a1,a2,a3,a4,a5,a6,a7,a8,a9,b0,b1,b2,b3,b4,b5,b6,b7],S)):=by
 kernel_rfl
theorem zu.r3 :jD zi ⟨false,false,false⟩ (zZ zi O) (reg Try.f5 3) (reg Try.f5 3).toList ([x0,x1,x2,x3,x4,x5,x6,x7,x8,x9,c0,c3,b8,c6,c1,b9,c7,c8,c9,c2,d4,d5,d6,d7,d8,d9,f0,f1,f2,f3,f4,f6,f7,f8,f9,g0,d0,d1,c4,g1,g2,g3,g4,g5,g6,g7,g8,g9,i0,i1,i2,i3,i4,i5,i6,i7,i8,i9,j0,j1,j2,j3,d2,d3,c5,j4,j5,j6,j7,j8,j9,k0,k1,k2,k3,k4,k5,k6,k7,k8,k9,l0,l1,l2,l3,l4,l5,l6,l7,l8,l9,m0,m1,m2,m3,m4,m5,m6,m7,m8,k,l,m,n,o,p,q,r,d,f,b,s,t,u,w,x,y,z,A,B,C,D,E,F,G,H,g,i,c,I,J,K,L,M,N,P,Q,R,U,V,W,X,Y,Z,a0,a1,a2,a3,a4,a5,a6,a7,a8,a9,b0,b1,b2,b3,b4,b5,b6,b7]) S =
  (zN (Zu zi 28 (dem x1) S) (fun v1 S1=>zN (wI zi BinOp.gtr 3 v1 (.int .i64 60) S1) (fun v2 S2=>gdK (dem v2) false (ret x0) S2 (fun v4 S3=>gdK (dem v2) false (Zu zi 24 (dem v4)) S3 (fun v5 S4=>gdK (dem v2) false (wI zi BinOp.gtr 3 v5 (.int .i64 20)) S4 (fun v6 S5=>zN (wX (dem v2) (Value.bool true) v6 S5) (fun v7 S6=>some ([x0,x1,x2,x3,x4,x5,x6,x7,x8,x9,c0,c3,b8,c6,c1,b9,c7,c8,c9,c2,d4,d5,dem x1,v1,v2,dem v2,dem v4,v5,v6,v7,f4,f6,f7,f8,f9,g0,d0,d1,c4,g1,g2,g3,g4,g5,g6,g7,g8,g9,i0,i1,i2,i3,i4,i5,i6,i7,i8,i9,j0,j1,j2,j3,d2,d3,c5,j4,j5,j6,j7,j8,j9,k0,k1,k2,k3,k4,k5,k6,k7,k8,k9,l0,l1,l2,l3,l4,l5,l6,l7,l8,l9,m0,m1,m2,m3,m4,m5,m6,m7,m8,k,l,m,n,o,p,q,r,d,f,b,s,t,u,w,x,y,z,A,B,C,D,E,F,G,H,g,i,c,I,J,K,L,M,N,P,Q,R,U,V,W,X,Y,Z,a0,a1,a2,a3,a4,a5,a6,a7,a8,a9,b0,b1,b2,b3,b4,b5,b6,b7],S6)) ()) ()) ()) ()) ()) ()):=by
 refine sP Try.f5 3 0 (v:=x1) ?_
 refine sD Try.f5 3 1 (fun v1 S1=>?_)
 refine sD Try.f5 3 2 (fun v2 S2=>?_)
 refine sP Try.f5 3 3 (v:=v2) ?_
 refine sG Try.f5 3 4 (j:=3) (fun v4 S3=>?_)
 refine sG Try.f5 3 5 (j:=3) (fun v5 S4=>?_)
 refine sG Try.f5 3 6 (j:=3) (fun v6 S5=>?_)
 refine sD Try.f5 3 7 (fun v7 S6=>?_)
 kernel_rfl
theorem zu.r4 :jD zi ⟨false,false,false⟩ (zZ zi O) (reg Try.f5 4) (reg Try.f5 4).toList ([x0,x1,x2,x3,x4,x5,x6,x7,x8,x9,c0,c3,b8,c6,c1,b9,c7,c8,c9,c2,d4,d5,d6,d7,d8,d9,f0,f1,f2,f3,f4,f6,f7,f8,f9,g0,d0,d1,c4,g1,g2,g3,g4,g5,g6,g7,g8,g9,i0,i1,i2,i3,i4,i5,i6,i7,i8,i9,j0,j1,j2,j3,d2,d3,c5,j4,j5,j6,j7,j8,j9,k0,k1,k2,k3,k4,k5,k6,k7,k8,k9,l0,l1,l2,l3,l4,l5,l6,l7,l8,l9,m0,m1,m2,m3,m4,m5,m6,m7,m8,k,l,m,n,o,p,q,r,d,f,b,s,t,u,w,x,y,z,A,B,C,D,E,F,G,H,g,i,c,I,J,K,L,M,N,P,Q,R,U,V,W,X,Y,Z,a0,a1,a2,a3,a4,a5,a6,a7,a8,a9,b0,b1,b2,b3,b4,b5,b6,b7]) S =
  ( some ([x0,x1,x2,x3,Value.bool true,x5,x6,x7,x8,x9,c0,c3,b8,c6,c1,b9,c7,c8,c9,c2,d4,d5,d6,d7,d8,d9,f0,f1,f2,f3,f4,f6,f7,f8,f9,g0,d0,d1,c4,g1,g2,g3,g4,g5,g6,g7,g8,g9,i0,i1,i2,i3,i4,i5,i6,i7,i8,i9,j0,j1,j2,j3,d2,d3,c5,j4,j5,j6,j7,j8,j9,k0,k1,k2,k3,k4,k5,k6,k7,k8,k9,l0,l1,l2,l3,l4,l5,l6,l7,l8,l9,m0,m1,m2,m3,m4,m5,m6,m7,m8,k,l,m,n,o,p,q,r,d,f,b,s,t,u,w,x,y,z,A,B,C,D,E,F,G,H,g,i,c,I,J,K,L,M,N,P,Q,R,U,V,W,X,Y,Z,a0,a1,a2,a3,a4,a5,a6,a7,a8,a9,b0,b1,b2,b3,b4,b5,b6,b7],S)):=by
 kernel_rfl
theorem zu.r5 :jD zi ⟨false,false,false⟩ (zZ zi O) (reg Try.f5 5) (reg Try.f5 5).toList ([x0,x1,x2,x3,x4,x5,x6,x7,x8,x9,c0,c3,b8,c6,c1,b9,c7,c8,c9,c2,d4,d5,d6,d7,d8,d9,f0,f1,f2,f3,f4,f6,f7,f8,f9,g0,d0,d1,c4,g1,g2,g3,g4,g5,g6,g7,g8,g9,i0,i1,i2,i3,i4,i5,i6,i7,i8,i9,j0,j1,j2,j3,d2,d3,c5,j4,j5,j6,j7,j8,j9,k0,k1,k2,k3,k4,k5,k6,k7,k8,k9,l0,l1,l2,l3,l4,l5,l6,l7,l8,l9,m0,m1,m2,m3,m4,m5,m6,m7,m8,k,l,m,n,o,p,q,r,d,f,b,s,t,u,w,x,y,z,A,B,C,D,E,F,G,H,g,i,c,I,J,K,L,M,N,P,Q,R,U,V,W,X,Y,Z,a0,a1,a2,a3,a4,a5,a6,a7,a8,a9,b0,b1,b2,b3,b4,b5,b6,b7]) S =
  (zN (jK zi 24 0 [] S) (fun v0 S1=>zN (wR zi 24 24 v0 (dem x0) S1) (fun v2 S2=>zN ((zZ zi O) 8 [(dem v2)] S2) (fun v3 S3=>some ([x0,x1,x2,x3,x4,v3,x6,x7,x8,x9,c0,c3,b8,c6,c1,b9,c7,c8,c9,c2,d4,d5,d6,d7,d8,d9,f0,f1,f2,f3,dem v0,dem x0,v2,dem v3,f9,g0,d0,d1,c4,g1,g2,g3,g4,g5,g6,g7,g8,g9,i0,i1,i2,i3,i4,i5,i6,i7,i8,i9,j0,j1,j2,j3,d2,d3,c5,j4,j5,j6,j7,j8,j9,k0,k1,k2,k3,k4,k5,k6,k7,k8,k9,l0,l1,l2,l3,l4,l5,l6,l7,l8,l9,m0,m1,m2,m3,m4,m5,m6,m7,m8,k,l,m,n,o,p,q,r,d,f,b,s,t,u,w,x,y,z,A,B,C,D,E,F,G,H,g,i,c,I,J,K,L,M,N,P,Q,R,U,V,W,X,Y,Z,a0,a1,a2,a3,a4,a5,a6,a7,a8,a9,b0,b1,b2,b3,b4,b5,b6,b7],S3)) ()) ()) ()):=by
 kernel_rfl
theorem zu.r6 :jD zi ⟨false,false,false⟩ (zZ zi O) (reg Try.f5 6) (reg Try.f5 6).toList ([x0,x1,x2,x3,x4,x5,x6,x7,x8,x9,c0,c3,b8,c6,c1,b9,c7,c8,c9,c2,d4,d5,d6,d7,d8,d9,f0,f1,f2,f3,f4,f6,f7,f8,f9,g0,d0,d1,c4,g1,g2,g3,g4,g5,g6,g7,g8,g9,i0,i1,i2,i3,i4,i5,i6,i7,i8,i9,j0,j1,j2,j3,d2,d3,c5,j4,j5,j6,j7,j8,j9,k0,k1,k2,k3,k4,k5,k6,k7,k8,k9,l0,l1,l2,l3,l4,l5,l6,l7,l8,l9,m0,m1,m2,m3,m4,m5,m6,m7,m8,k,l,m,n,o,p,q,r,d,f,b,s,t,u,w,x,y,z,A,B,C,D,E,F,G,H,g,i,c,I,J,K,L,M,N,P,Q,R,U,V,W,X,Y,Z,a0,a1,a2,a3,a4,a5,a6,a7,a8,a9,b0,b1,b2,b3,b4,b5,b6,b7]) S =
  (zN (jK zi 30 0 [] S) (fun v0 S1=>zN (jK zi 30 0 [] S1) (fun v1 S2=>some ([x0,x1,x2,x3,x4,x5,v0,v1,x8,x9,c0,c3,b8,c6,c1,b9,c7,c8,c9,c2,d4,d5,d6,d7,d8,d9,f0,f1,f2,f3,f4,f6,f7,f8,dem v0,dem v1,d0,d1,c4,g1,g2,g3,g4,g5,g6,g7,g8,g9,i0,i1,i2,i3,i4,i5,i6,i7,i8,i9,j0,j1,j2,j3,d2,d3,c5,j4,j5,j6,j7,j8,j9,k0,k1,k2,k3,k4,k5,k6,k7,k8,k9,l0,l1,l2,l3,l4,l5,l6,l7,l8,l9,m0,m1,m2,m3,m4,m5,m6,m7,m8,k,l,m,n,o,p,q,r,d,f,b,s,t,u,w,x,y,z,A,B,C,D,E,F,G,H,g,i,c,I,J,K,L,M,N,P,Q,R,U,V,W,X,Y,Z,a0,a1,a2,a3,a4,a5,a6,a7,a8,a9,b0,b1,b2,b3,b4,b5,b6,b7],S2)) ()) ()):=by
 kernel_rfl
theorem zu.r7 :jD zi ⟨false,false,false⟩ (zZ zi O) (reg Try.f5 7) (reg Try.f5 7).toList ([x0,x1,x2,x3,x4,x5,x6,x7,x8,x9,c0,c3,b8,c6,c1,b9,c7,c8,c9,c2,d4,d5,d6,d7,d8,d9,f0,f1,f2,f3,f4,f6,f7,f8,f9,g0,d0,d1,c4,g1,g2,g3,g4,g5,g6,g7,g8,g9,i0,i1,i2,i3,i4,i5,i6,i7,i8,i9,j0,j1,j2,j3,d2,d3,c5,j4,j5,j6,j7,j8,j9,k0,k1,k2,k3,k4,k5,k6,k7,k8,k9,l0,l1,l2,l3,l4,l5,l6,l7,l8,l9,m0,m1,m2,m3,m4,m5,m6,m7,m8,k,l,m,n,o,p,q,r,d,f,b,s,t,u,w,x,y,z,A,B,C,D,E,F,G,H,g,i,c,I,J,K,L,M,N,P,Q,R,U,V,W,X,Y,Z,a0,a1,a2,a3,a4,a5,a6,a7,a8,a9,b0,b1,b2,b3,b4,b5,b6,b7]) S =
  (zN (Zu zi 28 (dem x1) S) (fun v1 S1=>some ([x0,x1,x2,x3,x4,x5,x6,x7,x8,x9,c0,c3,b8,c6,c1,b9,c7,c8,c9,c2,d4,d5,d6,d7,d8,d9,f0,f1,f2,f3,f4,f6,f7,f8,f9,g0,dem x1,v1,.int .i64 0,g1,g2,g3,g4,g5,g6,g7,g8,g9,i0,i1,i2,i3,i4,i5,i6,i7,i8,i9,j0,j1,j2,j3,d2,d3,c5,j4,j5,j6,j7,j8,j9,k0,k1,k2,k3,k4,k5,k6,k7,k8,k9,l0,l1,l2,l3,l4,l5,l6,l7,l8,l9,m0,m1,m2,m3,m4,m5,m6,m7,m8,k,l,m,n,o,p,q,r,d,f,b,s,t,u,w,x,y,z,A,B,C,D,E,F,G,H,g,i,c,I,J,K,L,M,N,P,Q,R,U,V,W,X,Y,Z,a0,a1,a2,a3,a4,a5,a6,a7,a8,a9,b0,b1,b2,b3,b4,b5,b6,b7],S1)) ()):=by
 kernel_rfl
theorem zu.r8 :jD zi ⟨false,false,false⟩ (zZ zi O) (reg Try.f5 8) (reg Try.f5 8).toList ([x0,x1,x2,x3,x4,x5,x6,x7,x8,x9,c0,c3,b8,c6,c1,b9,c7,c8,c9,c2,d4,d5,d6,d7,d8,d9,f0,f1,f2,f3,f4,f6,f7,f8,f9,g0,d0,d1,c4,g1,g2,g3,g4,g5,g6,g7,g8,g9,i0,i1,i2,i3,i4,i5,i6,i7,i8,i9,j0,j1,j2,j3,d2,d3,c5,j4,j5,j6,j7,j8,j9,k0,k1,k2,k3,k4,k5,k6,k7,k8,k9,l0,l1,l2,l3,l4,l5,l6,l7,l8,l9,m0,m1,m2,m3,m4,m5,m6,m7,m8,k,l,m,n,o,p,q,r,d,f,b,s,t,u,w,x,y,z,A,B,C,D,E,F,G,H,g,i,c,I,J,K,L,M,N,P,Q,R,U,V,W,X,Y,Z,a0,a1,a2,a3,a4,a5,a6,a7,a8,a9,b0,b1,b2,b3,b4,b5,b6,b7]) S =
  (zN (wI zi BinOp.lss 3 c4 d1 S) (fun v0 S1=>some ([x0,x1,x2,x3,x4,x5,x6,x7,x8,x9,c0,c3,b8,c6,c1,b9,c7,c8,c9,c2,d4,d5,d6,d7,d8,d9,f0,f1,f2,f3,f4,f6,f7,f8,f9,g0,d0,d1,c4,v0,g2,g3,g4,g5,g6,g7,g8,g9,i0,i1,i2,i3,i4,i5,i6,i7,i8,i9,j0,j1,j2,j3,d2,d3,c5,j4,j5,j6,j7,j8,j9,k0,k1,k2,k3,k4,k5,k6,k7,k8,k9,l0,l1,l2,l3,l4,l5,l6,l7,l8,l9,m0,m1,m2,m3,m4,m5,m6,m7,m8,k,l,m,n,o,p,q,r,d,f,b,s,t,u,w,x,y,z,A,B,C,D,E,F,G,H,g,i,c,I,J,K,L,M,N,P,Q,R,U,V,W,X,Y,Z,a0,a1,a2,a3,a4,a5,a6,a7,a8,a9,b0,b1,b2,b3,b4,b5,b6,b7],S1)) ()):=by
 kernel_rfl
theorem zu.r9 :jD zi ⟨false,false,false⟩ (zZ zi O) (reg Try.f5 9) (reg Try.f5 9).toList ([x0,x1,x2,x3,x4,x5,x6,x7,x8,x9,c0,c3,b8,c6,c1,b9,c7,c8,c9,c2,d4,d5,d6,d7,d8,d9,f0,f1,f2,f3,f4,f6,f7,f8,f9,g0,d0,d1,c4,g1,g2,g3,g4,g5,g6,g7,g8,g9,i0,i1,i2,i3,i4,i5,i6,i7,i8,i9,j0,j1,j2,j3,d2,d3,c5,j4,j5,j6,j7,j8,j9,k0,k1,k2,k3,k4,k5,k6,k7,k8,k9,l0,l1,l2,l3,l4,l5,l6,l7,l8,l9,m0,m1,m2,m3,m4,m5,m6,m7,m8,k,l,m,n,o,p,q,r,d,f,b,s,t,u,w,x,y,z,A,B,C,D,E,F,G,H,g,i,c,I,J,K,L,M,N,P,Q,R,U,V,W,X,Y,Z,a0,a1,a2,a3,a4,a5,a6,a7,a8,a9,b0,b1,b2,b3,b4,b5,b6,b7]) S =
  (zN (jy zi 28 d0 c4 S) (fun v0 S1=>zN (jh zi false 35 v0 S1) (fun v1 S2=>zN (yI zi 35 S2) (fun v2 S3=>zN (wU zi 35 v2 (dem v1) S3) (fun v3 S4=>some ([x0,x1,x2,x3,x4,x5,x6,x7,x8,v2,c0,c3,b8,c6,c1,b9,c7,c8,c9,c2,d4,d5,d6,d7,d8,d9,f0,f1,f2,f3,f4,f6,f7,f8,f9,g0,d0,d1,c4,g1,v0,v1,g4,g5,g6,g7,g8,g9,i0,i1,i2,i3,i4,i5,i6,i7,i8,i9,j0,j1,j2,j3,d2,d3,c5,j4,j5,j6,j7,j8,j9,k0,k1,k2,k3,k4,k5,k6,k7,k8,k9,l0,l1,l2,l3,l4,l5,l6,l7,l8,l9,m0,m1,m2,m3,m4,m5,m6,m7,m8,k,l,m,n,o,p,q,r,d,f,b,s,t,u,w,x,y,z,A,B,C,D,E,F,G,H,g,i,c,I,J,K,L,M,N,P,Q,R,U,V,W,X,Y,Z,a0,a1,a2,a3,a4,a5,a6,a7,a8,a9,b0,b1,b2,b3,b4,b5,b6,b7],S4)) ()) ()) ()) ()):=by
 kernel_rfl
theorem zu.r10 :jD zi ⟨false,false,false⟩ (zZ zi O) (reg Try.f5 10) (reg Try.f5 10).toList ([x0,x1,x2,x3,x4,x5,x6,x7,x8,x9,c0,c3,b8,c6,c1,b9,c7,c8,c9,c2,d4,d5,d6,d7,d8,d9,f0,f1,f2,f3,f4,f6,f7,f8,f9,g0,d0,d1,c4,g1,g2,g3,g4,g5,g6,g7,g8,g9,i0,i1,i2,i3,i4,i5,i6,i7,i8,i9,j0,j1,j2,j3,d2,d3,c5,j4,j5,j6,j7,j8,j9,k0,k1,k2,k3,k4,k5,k6,k7,k8,k9,l0,l1,l2,l3,l4,l5,l6,l7,l8,l9,m0,m1,m2,m3,m4,m5,m6,m7,m8,k,l,m,n,o,p,q,r,d,f,b,s,t,u,w,x,y,z,A,B,C,D,E,F,G,H,g,i,c,I,J,K,L,M,N,P,Q,R,U,V,W,X,Y,Z,a0,a1,a2,a3,a4,a5,a6,a7,a8,a9,b0,b1,b2,b3,b4,b5,b6,b7]) S =
  (zN (zF zi 35 x9 1 S) (fun v0 S1=>zN (jh zi false 33 v0 S1) (fun v1 S2=>zN ((zZ zi O) 16 [(dem v1)] S2) (fun v2 S3=>zN (jc v2 0 S3) (fun v4 S4=>zN (jc (zV 0 v2) 1 S4) (fun v5 S5=>zN (yI zi 48 S5) (fun v6 S6=>zN (wU zi 48 v6 (dem v4) S6) (fun v7 S7=>some ([x0,x1,x2,x3,x4,x5,x6,x7,x8,x9,v6,v5,b8,c6,c1,b9,c7,c8,c9,c2,d4,d5,d6,d7,d8,d9,f0,f1,f2,f3,f4,f6,f7,f8,f9,g0,d0,d1,c4,g1,g2,g3,zV 1 (zV 0 v2),v0,v1,dem v2,v4,dem v5,i0,i1,i2,i3,i4,i5,i6,i7,i8,i9,j0,j1,j2,j3,d2,d3,c5,j4,j5,j6,j7,j8,j9,k0,k1,k2,k3,k4,k5,k6,k7,k8,k9,l0,l1,l2,l3,l4,l5,l6,l7,l8,l9,m0,m1,m2,m3,m4,m5,m6,m7,m8,k,l,m,n,o,p,q,r,d,f,b,s,t,u,w,x,y,z,A,B,C,D,E,F,G,H,g,i,c,I,J,K,L,M,N,P,Q,R,U,V,W,X,Y,Z,a0,a1,a2,a3,a4,a5,a6,a7,a8,a9,b0,b1,b2,b3,b4,b5,b6,b7],S7)) ()) ()) ()) ()) ()) ()) ()):=by
 kernel_rfl
theorem zu.r11 :jD zi ⟨false,false,false⟩ (zZ zi O) (reg Try.f5 11) (reg Try.f5 11).toList ([x0,x1,x2,x3,x4,x5,x6,x7,x8,x9,c0,c3,b8,c6,c1,b9,c7,c8,c9,c2,d4,d5,d6,d7,d8,d9,f0,f1,f2,f3,f4,f6,f7,f8,f9,g0,d0,d1,c4,g1,g2,g3,g4,g5,g6,g7,g8,g9,i0,i1,i2,i3,i4,i5,i6,i7,i8,i9,j0,j1,j2,j3,d2,d3,c5,j4,j5,j6,j7,j8,j9,k0,k1,k2,k3,k4,k5,k6,k7,k8,k9,l0,l1,l2,l3,l4,l5,l6,l7,l8,l9,m0,m1,m2,m3,m4,m5,m6,m7,m8,k,l,m,n,o,p,q,r,d,f,b,s,t,u,w,x,y,z,A,B,C,D,E,F,G,H,g,i,c,I,J,K,L,M,N,P,Q,R,U,V,W,X,Y,Z,a0,a1,a2,a3,a4,a5,a6,a7,a8,a9,b0,b1,b2,b3,b4,b5,b6,b7]) S =
  (zN (wI zi BinOp.eql 3 (dem c3) (.int .i64 0) S) (fun v1 S1=>gdK (dem v1) true (zF zi 48 c0 0) S1 (fun v3 S2=>gdK (dem v1) true (jh zi false 3 v3) S2 (fun v4 S3=>gdK (dem v1) true (wI zi BinOp.eql 3 v4 (.int .i64 1)) S3 (fun v5 S4=>zN (wX (dem v1) v5 (Value.bool false) S4) (fun v6 S5=>some ([x0,x1,x2,x3,x4,x5,x6,x7,x8,x9,c0,c3,v6,c6,c1,b9,c7,c8,c9,c2,d4,d5,d6,d7,d8,d9,f0,f1,f2,f3,f4,f6,f7,f8,f9,g0,d0,d1,c4,g1,g2,g3,g4,g5,g6,g7,g8,g9,dem c3,v1,dem v1,v3,v4,v5,dem v6,i7,i8,i9,j0,j1,j2,j3,d2,d3,c5,j4,j5,j6,j7,j8,j9,k0,k1,k2,k3,k4,k5,k6,k7,k8,k9,l0,l1,l2,l3,l4,l5,l6,l7,l8,l9,m0,m1,m2,m3,m4,m5,m6,m7,m8,k,l,m,n,o,p,q,r,d,f,b,s,t,u,w,x,y,z,A,B,C,D,E,F,G,H,g,i,c,I,J,K,L,M,N,P,Q,R,U,V,W,X,Y,Z,a0,a1,a2,a3,a4,a5,a6,a7,a8,a9,b0,b1,b2,b3,b4,b5,b6,b7],S5)) ()) ()) ()) ()) ()):=by
 refine sP Try.f5 11 0 (v:=c3) ?_
 refine sD Try.f5 11 1 (fun v1 S1=>?_)
 refine sP Try.f5 11 2 (v:=v1) ?_
 refine sG Try.f5 11 3 (j:=2) (fun v3 S2=>?_)
 refine sG Try.f5 11 4 (j:=2) (fun v4 S3=>?_)
 refine sG Try.f5 11 5 (j:=2) (fun v5 S4=>?_)
 refine sD Try.f5 11 6 (fun v6 S5=>?_)
 refine sP Try.f5 11 7 (v:=v6) ?_
 kernel_rfl
theorem zu.r12 :jD zi ⟨false,false,false⟩ (zZ zi O) (reg Try.f5 12) (reg Try.f5 12).toList ([x0,x1,x2,x3,x4,x5,x6,x7,x8,x9,c0,c3,b8,c6,c1,b9,c7,c8,c9,c2,d4,d5,d6,d7,d8,d9,f0,f1,f2,f3,f4,f6,f7,f8,f9,g0,d0,d1,c4,g1,g2,g3,g4,g5,g6,g7,g8,g9,i0,i1,i2,i3,i4,i5,i6,i7,i8,i9,j0,j1,j2,j3,d2,d3,c5,j4,j5,j6,j7,j8,j9,k0,k1,k2,k3,k4,k5,k6,k7,k8,k9,l0,l1,l2,l3,l4,l5,l6,l7,l8,l9,m0,m1,m2,m3,m4,m5,m6,m7,m8,k,l,m,n,o,p,q,r,d,f,b,s,t,u,w,x,y,z,A,B,C,D,E,F,G,H,g,i,c,I,J,K,L,M,N,P,Q,R,U,V,W,X,Y,Z,a0,a1,a2,a3,a4,a5,a6,a7,a8,a9,b0,b1,b2,b3,b4,b5,b6,b7]) S =
  (zN (zF zi 35 x9 0 S) (fun v0 S1=>zN (jh zi false 3 v0 S1) (fun v1 S2=>zN (wI zi BinOp.eql 3 v1 (.int .i64 0) S2) (fun v2 S3=>some ([x0,x1,x2,x3,x4,x5,x6,x7,x8,x9,c0,c3,b8,c6,c1,b9,c7,c8,c9,c2,d4,d5,d6,d7,d8,d9,f0,f1,f2,f3,f4,f6,f7,f8,f9,g0,d0,d1,c4,g1,g2,g3,g4,g5,g6,g7,g8,g9,i0,i1,i2,i3,i4,i5,i6,v0,v1,v2,j0,j1,j2,j3,d2,d3,c5,j4,j5,j6,j7,j8,j9,k0,k1,k2,k3,k4,k5,k6,k7,k8,k9,l0,l1,l2,l3,l4,l5,l6,l7,l8,l9,m0,m1,m2,m3,m4,m5,m6,m7,m8,k,l,m,n,o,p,q,r,d,f,b,s,t,u,w,x,y,z,A,B,C,D,E,F,G,H,g,i,c,I,J,K,L,M,N,P,Q,R,U,V,W,X,Y,Z,a0,a1,a2,a3,a4,a5,a6,a7,a8,a9,b0,b1,b2,b3,b4,b5,b6,b7],S3)) ()) ()) ()):=by
 kernel_rfl
theorem zu.r13 :jD zi ⟨false,false,false⟩ (zZ zi O) (reg Try.f5 13) (reg Try.f5 13).toList ([x0,x1,x2,x3,x4,x5,x6,x7,x8,x9,c0,c3,b8,c6,c1,b9,c7,c8,c9,c2,d4,d5,d6,d7,d8,d9,f0,f1,f2,f3,f4,f6,f7,f8,f9,g0,d0,d1,c4,g1,g2,g3,g4,g5,g6,g7,g8,g9,i0,i1,i2,i3,i4,i5,i6,i7,i8,i9,j0,j1,j2,j3,d2,d3,c5,j4,j5,j6,j7,j8,j9,k0,k1,k2,k3,k4,k5,k6,k7,k8,k9,l0,l1,l2,l3,l4,l5,l6,l7,l8,l9,m0,m1,m2,m3,m4,m5,m6,m7,m8,k,l,m,n,o,p,q,r,d,f,b,s,t,u,w,x,y,z,A,B,C,D,E,F,G,H,g,i,c,I,J,K,L,M,N,P,Q,R,U,V,W,X,Y,Z,a0,a1,a2,a3,a4,a5,a6,a7,a8,a9,b0,b1,b2,b3,b4,b5,b6,b7]) S =
  (zN (jK zi 30 0 [] S) (fun v0 S1=>zN (wR zi 30 30 v0 (dem x6) S1) (fun v2 S2=>zN (wR zi 30 30 v2 (dem x7) S2) (fun v4 S3=>zN (Zu zi 30 v4 S3) (fun v5 S4=>some ([x0,x1,x2,x3,x4,x5,x6,x7,x8,x9,c0,c3,b8,c6,c1,b9,c7,c8,c9,c2,d4,d5,d6,d7,d8,d9,f0,f1,f2,f3,f4,f6,f7,f8,f9,g0,d0,d1,c4,g1,g2,g3,g4,g5,g6,g7,g8,g9,i0,i1,i2,i3,i4,i5,i6,i7,i8,i9,dem v0,dem x6,dem v2,dem x7,v4,v5,.int .i64 0,j4,j5,j6,j7,j8,j9,k0,k1,k2,k3,k4,k5,k6,k7,k8,k9,l0,l1,l2,l3,l4,l5,l6,l7,l8,l9,m0,m1,m2,m3,m4,m5,m6,m7,m8,k,l,m,n,o,p,q,r,d,f,b,s,t,u,w,x,y,z,A,B,C,D,E,F,G,H,g,i,c,I,J,K,L,M,N,P,Q,R,U,V,W,X,Y,Z,a0,a1,a2,a3,a4,a5,a6,a7,a8,a9,b0,b1,b2,b3,b4,b5,b6,b7],S4)) ()) ()) ()) ()):=by
 kernel_rfl
theorem zu.r14 :jD zi ⟨false,false,false⟩ (zZ zi O) (reg Try.f5 14) (reg Try.f5 14).toList ([x0,x1,x2,x3,x4,x5,x6,x7,x8,x9,c0,c3,b8,c6,c1,b9,c7,c8,c9,c2,d4,d5,d6,d7,d8,d9,f0,f1,f2,f3,f4,f6,f7,f8,f9,g0,d0,d1,c4,g1,g2,g3,g4,g5,g6,g7,g8,g9,i0,i1,i2,i3,i4,i5,i6,i7,i8,i9,j0,j1,j2,j3,d2,d3,c5,j4,j5,j6,j7,j8,j9,k0,k1,k2,k3,k4,k5,k6,k7,k8,k9,l0,l1,l2,l3,l4,l5,l6,l7,l8,l9,m0,m1,m2,m3,m4,m5,m6,m7,m8,k,l,m,n,o,p,q,r,d,f,b,s,t,u,w,x,y,z,A,B,C,D,E,F,G,H,g,i,c,I,J,K,L,M,N,P,Q,R,U,V,W,X,Y,Z,a0,a1,a2,a3,a4,a5,a6,a7,a8,a9,b0,b1,b2,b3,b4,b5,b6,b7]) S =
  (zN (wI zi BinOp.lss 3 c5 d3 S) (fun v0 S1=>some ([x0,x1,x2,x3,x4,x5,x6,x7,x8,x9,c0,c3,b8,c6,c1,b9,c7,c8,c9,c2,d4,d5,d6,d7,d8,d9,f0,f1,f2,f3,f4,f6,f7,f8,f9,g0,d0,d1,c4,g1,g2,g3,g4,g5,g6,g7,g8,g9,i0,i1,i2,i3,i4,i5,i6,i7,i8,i9,j0,j1,j2,j3,d2,d3,c5,v0,j5,j6,j7,j8,j9,k0,k1,k2,k3,k4,k5,k6,k7,k8,k9,l0,l1,l2,l3,l4,l5,l6,l7,l8,l9,m0,m1,m2,m3,m4,m5,m6,m7,m8,k,l,m,n,o,p,q,r,d,f,b,s,t,u,w,x,y,z,A,B,C,D,E,F,G,H,g,i,c,I,J,K,L,M,N,P,Q,R,U,V,W,X,Y,Z,a0,a1,a2,a3,a4,a5,a6,a7,a8,a9,b0,b1,b2,b3,b4,b5,b6,b7],S1)) ()):=by
 kernel_rfl
theorem zu.r15 :jD zi ⟨false,false,false⟩ (zZ zi O) (reg Try.f5 15) (reg Try.f5 15).toList ([x0,x1,x2,x3,x4,x5,x6,x7,x8,x9,c0,c3,b8,c6,c1,b9,c7,c8,c9,c2,d4,d5,d6,d7,d8,d9,f0,f1,f2,f3,f4,f6,f7,f8,f9,g0,d0,d1,c4,g1,g2,g3,g4,g5,g6,g7,g8,g9,i0,i1,i2,i3,i4,i5,i6,i7,i8,i9,j0,j1,j2,j3,d2,d3,c5,j4,j5,j6,j7,j8,j9,k0,k1,k2,k3,k4,k5,k6,k7,k8,k9,l0,l1,l2,l3,l4,l5,l6,l7,l8,l9,m0,m1,m2,m3,m4,m5,m6,m7,m8,k,l,m,n,o,p,q,r,d,f,b,s,t,u,w,x,y,z,A,B,C,D,E,F,G,H,g,i,c,I,J,K,L,M,N,P,Q,R,U,V,W,X,Y,Z,a0,a1,a2,a3,a4,a5,a6,a7,a8,a9,b0,b1,b2,b3,b4,b5,b6,b7]) S =
  (zN (jy zi 30 d2 c5 S) (fun v0 S1=>zN (jh zi false 46 v0 S1) (fun v1 S2=>zN (yI zi 46 S2) (fun v2 S3=>zN (wU zi 46 v2 (dem v1) S3) (fun v3 S4=>some ([x0,x1,x2,x3,x4,x5,x6,x7,x8,x9,c0,c3,b8,c6,v2,b9,c7,c8,c9,c2,d4,d5,d6,d7,d8,d9,f0,f1,f2,f3,f4,f6,f7,f8,f9,g0,d0,d1,c4,g1,g2,g3,g4,g5,g6,g7,g8,g9,i0,i1,i2,i3,i4,i5,i6,i7,i8,i9,j0,j1,j2,j3,d2,d3,c5,j4,v0,v1,j7,j8,j9,k0,k1,k2,k3,k4,k5,k6,k7,k8,k9,l0,l1,l2,l3,l4,l5,l6,l7,l8,l9,m0,m1,m2,m3,m4,m5,m6,m7,m8,k,l,m,n,o,p,q,r,d,f,b,s,t,u,w,x,y,z,A,B,C,D,E,F,G,H,g,i,c,I,J,K,L,M,N,P,Q,R,U,V,W,X,Y,Z,a0,a1,a2,a3,a4,a5,a6,a7,a8,a9,b0,b1,b2,b3,b4,b5,b6,b7],S4)) ()) ()) ()) ()):=by
 kernel_rfl
theorem zu.d16:qW zi (reg Try.f5 16)=true:=by kernel_rfl
theorem zu.ak5:fixed zi (reg Try.f5 16)=false:=by kernel_rfl
theorem zu.k16:checked zi (reg Try.f5 16)=[4,5]:=by kernel_rfl
theorem zu.g16:again zi (reg Try.f5 16)=[(5,3)]:=by kernel_rfl
theorem zu.r16 :zJ zi O false (.region 16 (reg Try.f5 16) true) ([x0,x1,x2,x3,x4,x5,x6,x7,x8,x9,c0,c3,b8,c6,c1,b9,c7,c8,c9,c2,d4,d5,d6,d7,d8,d9,f0,f1,f2,f3,f4,f6,f7,f8,f9,g0,d0,d1,c4,g1,g2,g3,g4,g5,g6,g7,g8,g9,i0,i1,i2,i3,i4,i5,i6,i7,i8,i9,j0,j1,j2,j3,d2,d3,c5,j4,j5,j6,j7,j8,j9,k0,k1,k2,k3,k4,k5,k6,k7,k8,k9,l0,l1,l2,l3,l4,l5,l6,l7,l8,l9,m0,m1,m2,m3,m4,m5,m6,m7,m8,k,l,m,n,o,p,q,r,d,f,b,s,t,u,w,x,y,z,A,B,C,D,E,F,G,H,g,i,c,I,J,K,L,M,N,P,Q,R,U,V,W,X,Y,Z,a0,a1,a2,a3,a4,a5,a6,a7,a8,a9,b0,b1,b2,b3,b4,b5,b6,b7]) S =
  Ja (gdK (dem b8) true (jh zi false 46 c1) S (fun v2 S1=>gdK (dem b8) true ((zZ zi O) 17 [(dem v2)]) S1 (fun v3 S2=>aeV (dem b8) true (zF zi 48 c0 7) S2 (fun v4 S3=>aeV (dem b8) true (jh zi false 46 v4) S3 (fun v5 S4=>gdK (dem b8) true ((zZ zi O) 17 [(dem v5)]) S4 (fun v6 S5=>gdK (dem b8) true (wI zi BinOp.eql 3 v3 v6) S5 (fun v7 S6=>zN (wX (dem b8) v7 (Value.bool false) S6) (fun v8 S7=>gdK (dem v8) true (jh zi false 46 c1) S7 (fun m9 S8=>gdK (dem v8) true (zF zi 48 c0 7) S8 (fun n0 S9=>gdK (dem v8) true (jh zi false 46 n0) S9 (fun n1 n2=>gdK (dem v8) true ((zZ zi O) 18 [(dem m9),(dem n1)]) n2 (fun n5 n3=>gdK (dem v8) true (aUn zi UnOp.not n5) n3 (fun n6 n4=>zN (wX (dem v8) n6 (Value.bool false) n4) (fun n7 n8=>ckK (qN v4 S1 S3 && (true)) (some ([x0,x1,x2,x3,x4,x5,x6,x7,x8,x9,c0,c3,dem b8,c6,c1,b9,c7,c8,c9,c2,d4,d5,d6,d7,d8,d9,f0,f1,f2,f3,f4,f6,f7,f8,f9,g0,d0,d1,c4,g1,g2,g3,g4,g5,g6,g7,g8,g9,i0,i1,i2,i3,i4,i5,i6,i7,i8,i9,j0,j1,j2,j3,d2,d3,c5,j4,j5,j6,b8,dem b8,v2,v3,v4,v5,v6,v7,v8,dem v8,m9,n0,n1,n5,n6,n7,l3,l4,l5,l6,l7,l8,l9,m0,m1,m2,m3,m4,m5,m6,m7,m8,k,l,m,n,o,p,q,r,d,f,b,s,t,u,w,x,y,z,A,B,C,D,E,F,G,H,g,i,c,I,J,K,L,M,N,P,Q,R,U,V,W,X,Y,Z,a0,a1,a2,a3,a4,a5,a6,a7,a8,a9,b0,b1,b2,b3,b4,b5,b6,b7],n8)) ()) ()) ()) ()) ()) ()) ()) ()) ()) ()) ()) ()) ()) ()):=by
 rw [yF zu.d16 zu.ak5 zu.k16 zu.g16]
 refine congrArg Ja ?_
 refine uP Try.f5 16 0 (v:=b8) (pe:=zh) ?_
 refine uP Try.f5 16 1 (v:=b8) (pe:=zh) ?_
 refine uG Try.f5 16 2 (j:=1) (pe:=c1) (fun v2 S1=>?_)
 refine uG Try.f5 16 3 (j:=1) (pe:=zh) (fun v3 S2=>?_)
 refine uGC Try.f5 16 4 (j:=1) (pe:=zh) (fun v4 S3=>?_)
 refine uGC Try.f5 16 5 (j:=1) (pe:=v4) (fun v5 S4=>?_)
 refine uG Try.f5 16 6 (j:=1) (pe:=zh) (fun v6 S5=>?_)
 refine uG Try.f5 16 7 (j:=1) (pe:=zh) (fun v7 S6=>?_)
 refine uD Try.f5 16 8 (pe:=zh) (fun v8 S7=>?_)
 refine uP Try.f5 16 9 (v:=v8) (pe:=zh) ?_
 refine uG Try.f5 16 10 (j:=9) (pe:=c1) (fun m9 S8=>?_)
 refine uG Try.f5 16 11 (j:=9) (pe:=zh) (fun n0 S9=>?_)
 refine uG Try.f5 16 12 (j:=9) (pe:=n0) (fun n1 n2=>?_)
 refine uG Try.f5 16 13 (j:=9) (pe:=zh) (fun n5 n3=>?_)
 refine uG Try.f5 16 14 (j:=9) (pe:=zh) (fun n6 n4=>?_)
 refine uD Try.f5 16 15 (pe:=zh) (fun n7 n8=>?_)
 kernel_rfl
theorem zu.r17 :jD zi ⟨false,false,false⟩ (zZ zi O) (reg Try.f5 17) (reg Try.f5 17).toList ([x0,x1,x2,x3,x4,x5,x6,x7,x8,x9,c0,c3,b8,c6,c1,b9,c7,c8,c9,c2,d4,d5,d6,d7,d8,d9,f0,f1,f2,f3,f4,f6,f7,f8,f9,g0,d0,d1,c4,g1,g2,g3,g4,g5,g6,g7,g8,g9,i0,i1,i2,i3,i4,i5,i6,i7,i8,i9,j0,j1,j2,j3,d2,d3,c5,j4,j5,j6,j7,j8,j9,k0,k1,k2,k3,k4,k5,k6,k7,k8,k9,l0,l1,l2,l3,l4,l5,l6,l7,l8,l9,m0,m1,m2,m3,m4,m5,m6,m7,m8,k,l,m,n,o,p,q,r,d,f,b,s,t,u,w,x,y,z,A,B,C,D,E,F,G,H,g,i,c,I,J,K,L,M,N,P,Q,R,U,V,W,X,Y,Z,a0,a1,a2,a3,a4,a5,a6,a7,a8,a9,b0,b1,b2,b3,b4,b5,b6,b7]) S =
  ( some ([x0,x1,x2,x3,Value.bool true,x5,x6,x7,x8,x9,c0,c3,b8,c6,c1,b9,c7,c8,c9,c2,d4,d5,d6,d7,d8,d9,f0,f1,f2,f3,f4,f6,f7,f8,f9,g0,d0,d1,c4,g1,g2,g3,g4,g5,g6,g7,g8,g9,i0,i1,i2,i3,i4,i5,i6,i7,i8,i9,j0,j1,j2,j3,d2,d3,c5,j4,j5,j6,j7,j8,j9,k0,k1,k2,k3,k4,k5,k6,k7,k8,k9,l0,l1,l2,l3,l4,l5,l6,l7,l8,l9,m0,m1,m2,m3,m4,m5,m6,m7,m8,k,l,m,n,o,p,q,r,d,f,b,s,t,u,w,x,y,z,A,B,C,D,E,F,G,H,g,i,c,I,J,K,L,M,N,P,Q,R,U,V,W,X,Y,Z,a0,a1,a2,a3,a4,a5,a6,a7,a8,a9,b0,b1,b2,b3,b4,b5,b6,b7],S)):=by
 kernel_rfl
theorem zu.r18 :jD zi ⟨false,false,false⟩ (zZ zi O) (reg Try.f5 18) (reg Try.f5 18).toList ([x0,x1,x2,x3,x4,x5,x6,x7,x8,x9,c0,c3,b8,c6,c1,b9,c7,c8,c9,c2,d4,d5,d6,d7,d8,d9,f0,f1,f2,f3,f4,f6,f7,f8,f9,g0,d0,d1,c4,g1,g2,g3,g4,g5,g6,g7,g8,g9,i0,i1,i2,i3,i4,i5,i6,i7,i8,i9,j0,j1,j2,j3,d2,d3,c5,j4,j5,j6,j7,j8,j9,k0,k1,k2,k3,k4,k5,k6,k7,k8,k9,l0,l1,l2,l3,l4,l5,l6,l7,l8,l9,m0,m1,m2,m3,m4,m5,m6,m7,m8,k,l,m,n,o,p,q,r,d,f,b,s,t,u,w,x,y,z,A,B,C,D,E,F,G,H,g,i,c,I,J,K,L,M,N,P,Q,R,U,V,W,X,Y,Z,a0,a1,a2,a3,a4,a5,a6,a7,a8,a9,b0,b1,b2,b3,b4,b5,b6,b7]) S =
  (zN (wI zi BinOp.add 3 c5 (.int .i64 1) S) (fun v0 S1=>some ([x0,x1,x2,x3,x4,x5,x6,x7,x8,x9,c0,c3,b8,c6,c1,b9,c7,c8,c9,c2,d4,d5,d6,d7,d8,d9,f0,f1,f2,f3,f4,f6,f7,f8,f9,g0,d0,d1,c4,g1,g2,g3,g4,g5,g6,g7,g8,g9,i0,i1,i2,i3,i4,i5,i6,i7,i8,i9,j0,j1,j2,j3,d2,d3,dem v0,j4,j5,j6,j7,j8,j9,k0,k1,k2,k3,k4,k5,k6,k7,k8,k9,l0,l1,l2,v0,l4,l5,l6,l7,l8,l9,m0,m1,m2,m3,m4,m5,m6,m7,m8,k,l,m,n,o,p,q,r,d,f,b,s,t,u,w,x,y,z,A,B,C,D,E,F,G,H,g,i,c,I,J,K,L,M,N,P,Q,R,U,V,W,X,Y,Z,a0,a1,a2,a3,a4,a5,a6,a7,a8,a9,b0,b1,b2,b3,b4,b5,b6,b7],S1)) ()):=by
 kernel_rfl
theorem zu.r19 :jD zi ⟨false,false,false⟩ (zZ zi O) (reg Try.f5 19) (reg Try.f5 19).toList ([x0,x1,x2,x3,x4,x5,x6,x7,x8,x9,c0,c3,b8,c6,c1,b9,c7,c8,c9,c2,d4,d5,d6,d7,d8,d9,f0,f1,f2,f3,f4,f6,f7,f8,f9,g0,d0,d1,c4,g1,g2,g3,g4,g5,g6,g7,g8,g9,i0,i1,i2,i3,i4,i5,i6,i7,i8,i9,j0,j1,j2,j3,d2,d3,c5,j4,j5,j6,j7,j8,j9,k0,k1,k2,k3,k4,k5,k6,k7,k8,k9,l0,l1,l2,l3,l4,l5,l6,l7,l8,l9,m0,m1,m2,m3,m4,m5,m6,m7,m8,k,l,m,n,o,p,q,r,d,f,b,s,t,u,w,x,y,z,A,B,C,D,E,F,G,H,g,i,c,I,J,K,L,M,N,P,Q,R,U,V,W,X,Y,Z,a0,a1,a2,a3,a4,a5,a6,a7,a8,a9,b0,b1,b2,b3,b4,b5,b6,b7]) S =
  (zN (jK zi 33 0 [] S) (fun v1 S1=>zN (zF zi 35 x9 1 S1) (fun v2 S2=>zN (jh zi false 33 v2 S2) (fun v3 S3=>zN (wR zi 33 33 v1 v3 S3) (fun v4 S4=>zN ((zZ zi O) 12 [(dem (dem x5)),(dem v4)] S4) (fun v5 S5=>some ([x0,x1,x2,x3,x4,x5,x6,x7,x8,x9,c0,c3,b8,c6,c1,b9,c7,c8,c9,c2,d4,d5,d6,d7,d8,d9,f0,f1,f2,f3,f4,f6,f7,f8,f9,g0,d0,d1,c4,g1,g2,g3,g4,g5,g6,g7,g8,g9,i0,i1,i2,i3,i4,i5,i6,i7,i8,i9,j0,j1,j2,j3,d2,d3,c5,j4,j5,j6,j7,j8,j9,k0,k1,k2,k3,k4,k5,k6,k7,k8,k9,l0,l1,l2,l3,dem x5,dem v1,v2,v3,v4,v5,m0,m1,m2,m3,m4,m5,m6,m7,m8,k,l,m,n,o,p,q,r,d,f,b,s,t,u,w,x,y,z,A,B,C,D,E,F,G,H,g,i,c,I,J,K,L,M,N,P,Q,R,U,V,W,X,Y,Z,a0,a1,a2,a3,a4,a5,a6,a7,a8,a9,b0,b1,b2,b3,b4,b5,b6,b7],S5)) ()) ()) ()) ()) ()):=by
 kernel_rfl
theorem zu.r20 :jD zi ⟨false,false,false⟩ (zZ zi O) (reg Try.f5 20) (reg Try.f5 20).toList ([x0,x1,x2,x3,x4,x5,x6,x7,x8,x9,c0,c3,b8,c6,c1,b9,c7,c8,c9,c2,d4,d5,d6,d7,d8,d9,f0,f1,f2,f3,f4,f6,f7,f8,f9,g0,d0,d1,c4,g1,g2,g3,g4,g5,g6,g7,g8,g9,i0,i1,i2,i3,i4,i5,i6,i7,i8,i9,j0,j1,j2,j3,d2,d3,c5,j4,j5,j6,j7,j8,j9,k0,k1,k2,k3,k4,k5,k6,k7,k8,k9,l0,l1,l2,l3,l4,l5,l6,l7,l8,l9,m0,m1,m2,m3,m4,m5,m6,m7,m8,k,l,m,n,o,p,q,r,d,f,b,s,t,u,w,x,y,z,A,B,C,D,E,F,G,H,g,i,c,I,J,K,L,M,N,P,Q,R,U,V,W,X,Y,Z,a0,a1,a2,a3,a4,a5,a6,a7,a8,a9,b0,b1,b2,b3,b4,b5,b6,b7]) S =
  ( some ([x0,x1,x2,x3,x4,x5,x6,x7,x8,x9,c0,c3,b8,c6,c1,b9,c7,c8,c9,c2,d4,d5,d6,d7,d8,d9,f0,f1,f2,f3,f4,f6,f7,f8,f9,g0,d0,d1,c4,g1,g2,g3,g4,g5,g6,g7,g8,g9,i0,i1,i2,i3,i4,i5,i6,i7,i8,i9,j0,j1,j2,j3,d2,d3,c5,j4,j5,j6,j7,j8,j9,k0,k1,k2,k3,k4,k5,k6,k7,k8,k9,l0,l1,l2,l3,l4,l5,l6,l7,l8,l9,dem b8,m1,m2,m3,m4,m5,m6,m7,m8,k,l,m,n,o,p,q,r,d,f,b,s,t,u,w,x,y,z,A,B,C,D,E,F,G,H,g,i,c,I,J,K,L,M,N,P,Q,R,U,V,W,X,Y,Z,a0,a1,a2,a3,a4,a5,a6,a7,a8,a9,b0,b1,b2,b3,b4,b5,b6,b7],S)):=by
 kernel_rfl
theorem zu.r21 :jD zi ⟨false,false,false⟩ (zZ zi O) (reg Try.f5 21) (reg Try.f5 21).toList ([x0,x1,x2,x3,x4,x5,x6,x7,x8,x9,c0,c3,b8,c6,c1,b9,c7,c8,c9,c2,d4,d5,d6,d7,d8,d9,f0,f1,f2,f3,f4,f6,f7,f8,f9,g0,d0,d1,c4,g1,g2,g3,g4,g5,g6,g7,g8,g9,i0,i1,i2,i3,i4,i5,i6,i7,i8,i9,j0,j1,j2,j3,d2,d3,c5,j4,j5,j6,j7,j8,j9,k0,k1,k2,k3,k4,k5,k6,k7,k8,k9,l0,l1,l2,l3,l4,l5,l6,l7,l8,l9,m0,m1,m2,m3,m4,m5,m6,m7,m8,k,l,m,n,o,p,q,r,d,f,b,s,t,u,w,x,y,z,A,B,C,D,E,F,G,H,g,i,c,I,J,K,L,M,N,P,Q,R,U,V,W,X,Y,Z,a0,a1,a2,a3,a4,a5,a6,a7,a8,a9,b0,b1,b2,b3,b4,b5,b6,b7]) S =
  (zN (zF zi 48 c0 7 S) (fun v1 S1=>zN (jh zi false 46 v1 S1) (fun v2 S2=>zN (jK zi 30 1 [(0,v2)] S2) (fun v3 S3=>zN (wR zi 30 30 x6 v3 S3) (fun v4 S4=>some ([x0,x1,x2,x3,x4,x5,v4,x7,x8,x9,c0,c3,b8,c6,c1,b9,c7,c8,c9,c2,d4,d5,d6,d7,d8,d9,f0,f1,f2,f3,f4,f6,f7,f8,f9,g0,d0,d1,c4,g1,g2,g3,g4,g5,g6,g7,g8,g9,i0,i1,i2,i3,i4,i5,i6,i7,i8,i9,j0,j1,j2,j3,d2,d3,c5,j4,j5,j6,j7,j8,j9,k0,k1,k2,k3,k4,k5,k6,k7,k8,k9,l0,l1,l2,l3,l4,l5,l6,l7,l8,l9,m0,dem x6,v1,v2,v3,dem v4,m6,m7,m8,k,l,m,n,o,p,q,r,d,f,b,s,t,u,w,x,y,z,A,B,C,D,E,F,G,H,g,i,c,I,J,K,L,M,N,P,Q,R,U,V,W,X,Y,Z,a0,a1,a2,a3,a4,a5,a6,a7,a8,a9,b0,b1,b2,b3,b4,b5,b6,b7],S4)) ()) ()) ()) ()):=by
 kernel_rfl
theorem zu.r22 :jD zi ⟨false,false,false⟩ (zZ zi O) (reg Try.f5 22) (reg Try.f5 22).toList ([x0,x1,x2,x3,x4,x5,x6,x7,x8,x9,c0,c3,b8,c6,c1,b9,c7,c8,c9,c2,d4,d5,d6,d7,d8,d9,f0,f1,f2,f3,f4,f6,f7,f8,f9,g0,d0,d1,c4,g1,g2,g3,g4,g5,g6,g7,g8,g9,i0,i1,i2,i3,i4,i5,i6,i7,i8,i9,j0,j1,j2,j3,d2,d3,c5,j4,j5,j6,j7,j8,j9,k0,k1,k2,k3,k4,k5,k6,k7,k8,k9,l0,l1,l2,l3,l4,l5,l6,l7,l8,l9,m0,m1,m2,m3,m4,m5,m6,m7,m8,k,l,m,n,o,p,q,r,d,f,b,s,t,u,w,x,y,z,A,B,C,D,E,F,G,H,g,i,c,I,J,K,L,M,N,P,Q,R,U,V,W,X,Y,Z,a0,a1,a2,a3,a4,a5,a6,a7,a8,a9,b0,b1,b2,b3,b4,b5,b6,b7]) S =
  (zN (jK zi 33 0 [] S) (fun v1 S1=>zN (zF zi 35 x9 1 S1) (fun v2 S2=>zN (jh zi false 33 v2 S2) (fun v3 S3=>zN (wR zi 33 33 v1 v3 S3) (fun v4 S4=>zN ((zZ zi O) 10 [(dem (dem x5)),(dem v4)] S4) (fun v5 S5=>zN (aUn zi UnOp.not v5 S5) (fun v6 S6=>gdK (dem v6) false (ret b8) S6 (fun v8 S7=>gdK (dem v6) false (aUn zi UnOp.not (dem v8)) S7 (fun v9 S8=>zN (wX (dem v6) (Value.bool true) v9 S8) (fun m9 S9=>some ([x0,x1,x2,x3,x4,x5,x6,x7,x8,x9,c0,c3,b8,c6,c1,b9,c7,c8,c9,c2,d4,d5,d6,d7,d8,d9,f0,f1,f2,f3,f4,f6,f7,f8,f9,g0,d0,d1,c4,g1,g2,g3,g4,g5,g6,g7,g8,g9,i0,i1,i2,i3,i4,i5,i6,i7,i8,i9,j0,j1,j2,j3,d2,d3,c5,j4,j5,j6,j7,j8,j9,k0,k1,k2,k3,k4,k5,k6,k7,k8,k9,l0,l1,l2,l3,l4,l5,l6,l7,l8,l9,m0,m1,m2,m3,m4,m5,dem x5,dem v1,v2,v3,v4,v5,v6,dem v6,dem v8,v9,m9,d,f,b,s,t,u,w,x,y,z,A,B,C,D,E,F,G,H,g,i,c,I,J,K,L,M,N,P,Q,R,U,V,W,X,Y,Z,a0,a1,a2,a3,a4,a5,a6,a7,a8,a9,b0,b1,b2,b3,b4,b5,b6,b7],S9)) ()) ()) ()) ()) ()) ()) ()) ()) ()):=by
 refine sP Try.f5 22 0 (v:=x5) ?_
 refine sD Try.f5 22 1 (fun v1 S1=>?_)
 refine sD Try.f5 22 2 (fun v2 S2=>?_)
 refine sD Try.f5 22 3 (fun v3 S3=>?_)
 refine sD Try.f5 22 4 (fun v4 S4=>?_)
 refine sD Try.f5 22 5 (fun v5 S5=>?_)
 refine sD Try.f5 22 6 (fun v6 S6=>?_)
 refine sP Try.f5 22 7 (v:=v6) ?_
 refine sG Try.f5 22 8 (j:=7) (fun v8 S7=>?_)
 refine sG Try.f5 22 9 (j:=7) (fun v9 S8=>?_)
 refine sD Try.f5 22 10 (fun m9 S9=>?_)
 kernel_rfl
theorem zu.r23 :jD zi ⟨false,false,false⟩ (zZ zi O) (reg Try.f5 23) (reg Try.f5 23).toList ([x0,x1,x2,x3,x4,x5,x6,x7,x8,x9,c0,c3,b8,c6,c1,b9,c7,c8,c9,c2,d4,d5,d6,d7,d8,d9,f0,f1,f2,f3,f4,f6,f7,f8,f9,g0,d0,d1,c4,g1,g2,g3,g4,g5,g6,g7,g8,g9,i0,i1,i2,i3,i4,i5,i6,i7,i8,i9,j0,j1,j2,j3,d2,d3,c5,j4,j5,j6,j7,j8,j9,k0,k1,k2,k3,k4,k5,k6,k7,k8,k9,l0,l1,l2,l3,l4,l5,l6,l7,l8,l9,m0,m1,m2,m3,m4,m5,m6,m7,m8,k,l,m,n,o,p,q,r,d,f,b,s,t,u,w,x,y,z,A,B,C,D,E,F,G,H,g,i,c,I,J,K,L,M,N,P,Q,R,U,V,W,X,Y,Z,a0,a1,a2,a3,a4,a5,a6,a7,a8,a9,b0,b1,b2,b3,b4,b5,b6,b7]) S =
  ( some ([x0,x1,x2,x3,x4,x5,x6,x7,x8,x9,c0,c3,b8,c6,c1,Value.bool false,c7,c8,c9,c2,d4,d5,d6,d7,d8,d9,f0,f1,f2,f3,f4,f6,f7,f8,f9,g0,d0,d1,c4,g1,g2,g3,g4,g5,g6,g7,g8,g9,i0,i1,i2,i3,i4,i5,i6,i7,i8,i9,j0,j1,j2,j3,d2,d3,c5,j4,j5,j6,j7,j8,j9,k0,k1,k2,k3,k4,k5,k6,k7,k8,k9,l0,l1,l2,l3,l4,l5,l6,l7,l8,l9,m0,m1,m2,m3,m4,m5,m6,m7,m8,k,l,m,n,o,p,q,r,d,f,b,s,t,u,w,x,y,z,A,B,C,D,E,F,G,H,g,i,c,I,J,K,L,M,N,P,Q,R,U,V,W,X,Y,Z,a0,a1,a2,a3,a4,a5,a6,a7,a8,a9,b0,b1,b2,b3,b4,b5,b6,b7],S)):=by
 kernel_rfl
theorem zu.r24 :jD zi ⟨false,false,false⟩ (zZ zi O) (reg Try.f5 24) (reg Try.f5 24).toList ([x0,x1,x2,x3,x4,x5,x6,x7,x8,x9,c0,c3,b8,c6,c1,b9,c7,c8,c9,c2,d4,d5,d6,d7,d8,d9,f0,f1,f2,f3,f4,f6,f7,f8,f9,g0,d0,d1,c4,g1,g2,g3,g4,g5,g6,g7,g8,g9,i0,i1,i2,i3,i4,i5,i6,i7,i8,i9,j0,j1,j2,j3,d2,d3,c5,j4,j5,j6,j7,j8,j9,k0,k1,k2,k3,k4,k5,k6,k7,k8,k9,l0,l1,l2,l3,l4,l5,l6,l7,l8,l9,m0,m1,m2,m3,m4,m5,m6,m7,m8,k,l,m,n,o,p,q,r,d,f,b,s,t,u,w,x,y,z,A,B,C,D,E,F,G,H,g,i,c,I,J,K,L,M,N,P,Q,R,U,V,W,X,Y,Z,a0,a1,a2,a3,a4,a5,a6,a7,a8,a9,b0,b1,b2,b3,b4,b5,b6,b7]) S =
  (zN (Zu zi 30 (dem x6) S) (fun v1 S1=>some ([x0,x1,x2,x3,x4,x5,x6,x7,x8,x9,c0,c3,b8,c6,c1,b9,c7,c8,c9,c2,d4,d5,d6,d7,d8,d9,f0,f1,f2,f3,f4,f6,f7,f8,f9,g0,d0,d1,c4,g1,g2,g3,g4,g5,g6,g7,g8,g9,i0,i1,i2,i3,i4,i5,i6,i7,i8,i9,j0,j1,j2,j3,d2,d3,c5,j4,j5,j6,j7,j8,j9,k0,k1,k2,k3,k4,k5,k6,k7,k8,k9,l0,l1,l2,l3,l4,l5,l6,l7,l8,l9,m0,m1,m2,m3,m4,m5,m6,m7,m8,k,l,m,n,o,p,q,r,dem x6,v1,.int .i64 0,s,t,u,w,x,y,z,A,B,C,D,E,F,G,H,g,i,c,I,J,K,L,M,N,P,Q,R,U,V,W,X,Y,Z,a0,a1,a2,a3,a4,a5,a6,a7,a8,a9,b0,b1,b2,b3,b4,b5,b6,b7],S1)) ()):=by
 kernel_rfl
theorem zu.r25 :jD zi ⟨false,false,false⟩ (zZ zi O) (reg Try.f5 25) (reg Try.f5 25).toList ([x0,x1,x2,x3,x4,x5,x6,x7,x8,x9,c0,c3,b8,c6,c1,b9,c7,c8,c9,c2,d4,d5,d6,d7,d8,d9,f0,f1,f2,f3,f4,f6,f7,f8,f9,g0,d0,d1,c4,g1,g2,g3,g4,g5,g6,g7,g8,g9,i0,i1,i2,i3,i4,i5,i6,i7,i8,i9,j0,j1,j2,j3,d2,d3,c5,j4,j5,j6,j7,j8,j9,k0,k1,k2,k3,k4,k5,k6,k7,k8,k9,l0,l1,l2,l3,l4,l5,l6,l7,l8,l9,m0,m1,m2,m3,m4,m5,m6,m7,m8,k,l,m,n,o,p,q,r,d,f,b,s,t,u,w,x,y,z,A,B,C,D,E,F,G,H,g,i,c,I,J,K,L,M,N,P,Q,R,U,V,W,X,Y,Z,a0,a1,a2,a3,a4,a5,a6,a7,a8,a9,b0,b1,b2,b3,b4,b5,b6,b7]) S =
  (zN (wI zi BinOp.lss 3 b f S) (fun v0 S1=>some ([x0,x1,x2,x3,x4,x5,x6,x7,x8,x9,c0,c3,b8,c6,c1,b9,c7,c8,c9,c2,d4,d5,d6,d7,d8,d9,f0,f1,f2,f3,f4,f6,f7,f8,f9,g0,d0,d1,c4,g1,g2,g3,g4,g5,g6,g7,g8,g9,i0,i1,i2,i3,i4,i5,i6,i7,i8,i9,j0,j1,j2,j3,d2,d3,c5,j4,j5,j6,j7,j8,j9,k0,k1,k2,k3,k4,k5,k6,k7,k8,k9,l0,l1,l2,l3,l4,l5,l6,l7,l8,l9,m0,m1,m2,m3,m4,m5,m6,m7,m8,k,l,m,n,o,p,q,r,d,f,b,v0,t,u,w,x,y,z,A,B,C,D,E,F,G,H,g,i,c,I,J,K,L,M,N,P,Q,R,U,V,W,X,Y,Z,a0,a1,a2,a3,a4,a5,a6,a7,a8,a9,b0,b1,b2,b3,b4,b5,b6,b7],S1)) ()):=by
 kernel_rfl
theorem zu.r26 :jD zi ⟨false,false,false⟩ (zZ zi O) (reg Try.f5 26) (reg Try.f5 26).toList ([x0,x1,x2,x3,x4,x5,x6,x7,x8,x9,c0,c3,b8,c6,c1,b9,c7,c8,c9,c2,d4,d5,d6,d7,d8,d9,f0,f1,f2,f3,f4,f6,f7,f8,f9,g0,d0,d1,c4,g1,g2,g3,g4,g5,g6,g7,g8,g9,i0,i1,i2,i3,i4,i5,i6,i7,i8,i9,j0,j1,j2,j3,d2,d3,c5,j4,j5,j6,j7,j8,j9,k0,k1,k2,k3,k4,k5,k6,k7,k8,k9,l0,l1,l2,l3,l4,l5,l6,l7,l8,l9,m0,m1,m2,m3,m4,m5,m6,m7,m8,k,l,m,n,o,p,q,r,d,f,b,s,t,u,w,x,y,z,A,B,C,D,E,F,G,H,g,i,c,I,J,K,L,M,N,P,Q,R,U,V,W,X,Y,Z,a0,a1,a2,a3,a4,a5,a6,a7,a8,a9,b0,b1,b2,b3,b4,b5,b6,b7]) S =
  (zN (jy zi 30 d b S) (fun v0 S1=>zN (jh zi false 46 v0 S1) (fun v1 S2=>zN (yI zi 46 S2) (fun v2 S3=>zN (wU zi 46 v2 (dem v1) S3) (fun v3 S4=>some ([x0,x1,x2,x3,x4,x5,x6,x7,x8,x9,c0,c3,b8,c6,c1,b9,c7,v2,c9,c2,d4,d5,d6,d7,d8,d9,f0,f1,f2,f3,f4,f6,f7,f8,f9,g0,d0,d1,c4,g1,g2,g3,g4,g5,g6,g7,g8,g9,i0,i1,i2,i3,i4,i5,i6,i7,i8,i9,j0,j1,j2,j3,d2,d3,c5,j4,j5,j6,j7,j8,j9,k0,k1,k2,k3,k4,k5,k6,k7,k8,k9,l0,l1,l2,l3,l4,l5,l6,l7,l8,l9,m0,m1,m2,m3,m4,m5,m6,m7,m8,k,l,m,n,o,p,q,r,d,f,b,s,v0,v1,w,x,y,z,A,B,C,D,E,F,G,H,g,i,c,I,J,K,L,M,N,P,Q,R,U,V,W,X,Y,Z,a0,a1,a2,a3,a4,a5,a6,a7,a8,a9,b0,b1,b2,b3,b4,b5,b6,b7],S4)) ()) ()) ()) ()):=by
 kernel_rfl
theorem zu.r27 :jD zi ⟨false,false,false⟩ (zZ zi O) (reg Try.f5 27) (reg Try.f5 27).toList ([x0,x1,x2,x3,x4,x5,x6,x7,x8,x9,c0,c3,b8,c6,c1,b9,c7,c8,c9,c2,d4,d5,d6,d7,d8,d9,f0,f1,f2,f3,f4,f6,f7,f8,f9,g0,d0,d1,c4,g1,g2,g3,g4,g5,g6,g7,g8,g9,i0,i1,i2,i3,i4,i5,i6,i7,i8,i9,j0,j1,j2,j3,d2,d3,c5,j4,j5,j6,j7,j8,j9,k0,k1,k2,k3,k4,k5,k6,k7,k8,k9,l0,l1,l2,l3,l4,l5,l6,l7,l8,l9,m0,m1,m2,m3,m4,m5,m6,m7,m8,k,l,m,n,o,p,q,r,d,f,b,s,t,u,w,x,y,z,A,B,C,D,E,F,G,H,g,i,c,I,J,K,L,M,N,P,Q,R,U,V,W,X,Y,Z,a0,a1,a2,a3,a4,a5,a6,a7,a8,a9,b0,b1,b2,b3,b4,b5,b6,b7]) S =
  (gdK (dem b9) false (jh zi false 46 c8) S (fun v2 S1=>gdK (dem b9) false (zF zi 48 c0 7) S1 (fun v3 S2=>gdK (dem b9) false (jh zi false 46 v3) S2 (fun v4 S3=>gdK (dem b9) false ((zZ zi O) 18 [(dem v2),(dem v4)]) S3 (fun v5 S4=>zN (wX (dem b9) (Value.bool true) v5 S4) (fun v6 S5=>some ([x0,x1,x2,x3,x4,x5,x6,x7,x8,x9,c0,c3,b8,c6,c1,v6,c7,c8,c9,c2,d4,d5,d6,d7,d8,d9,f0,f1,f2,f3,f4,f6,f7,f8,f9,g0,d0,d1,c4,g1,g2,g3,g4,g5,g6,g7,g8,g9,i0,i1,i2,i3,i4,i5,i6,i7,i8,i9,j0,j1,j2,j3,d2,d3,c5,j4,j5,j6,j7,j8,j9,k0,k1,k2,k3,k4,k5,k6,k7,k8,k9,l0,l1,l2,l3,l4,l5,l6,l7,l8,l9,m0,m1,m2,m3,m4,m5,m6,m7,m8,k,l,m,n,o,p,q,r,d,f,b,s,t,u,b9,dem b9,v2,v3,v4,v5,dem v6,D,E,F,G,H,g,i,c,I,J,K,L,M,N,P,Q,R,U,V,W,X,Y,Z,a0,a1,a2,a3,a4,a5,a6,a7,a8,a9,b0,b1,b2,b3,b4,b5,b6,b7],S5)) ()) ()) ()) ()) ()):=by
 refine sP Try.f5 27 0 (v:=b9) ?_
 refine sP Try.f5 27 1 (v:=b9) ?_
 refine sG Try.f5 27 2 (j:=1) (fun v2 S1=>?_)
 refine sG Try.f5 27 3 (j:=1) (fun v3 S2=>?_)
 refine sG Try.f5 27 4 (j:=1) (fun v4 S3=>?_)
 refine sG Try.f5 27 5 (j:=1) (fun v5 S4=>?_)
 refine sD Try.f5 27 6 (fun v6 S5=>?_)
 refine sP Try.f5 27 7 (v:=v6) ?_
 kernel_rfl
theorem zu.r28 :jD zi ⟨false,false,false⟩ (zZ zi O) (reg Try.f5 28) (reg Try.f5 28).toList ([x0,x1,x2,x3,x4,x5,x6,x7,x8,x9,c0,c3,b8,c6,c1,b9,c7,c8,c9,c2,d4,d5,d6,d7,d8,d9,f0,f1,f2,f3,f4,f6,f7,f8,f9,g0,d0,d1,c4,g1,g2,g3,g4,g5,g6,g7,g8,g9,i0,i1,i2,i3,i4,i5,i6,i7,i8,i9,j0,j1,j2,j3,d2,d3,c5,j4,j5,j6,j7,j8,j9,k0,k1,k2,k3,k4,k5,k6,k7,k8,k9,l0,l1,l2,l3,l4,l5,l6,l7,l8,l9,m0,m1,m2,m3,m4,m5,m6,m7,m8,k,l,m,n,o,p,q,r,d,f,b,s,t,u,w,x,y,z,A,B,C,D,E,F,G,H,g,i,c,I,J,K,L,M,N,P,Q,R,U,V,W,X,Y,Z,a0,a1,a2,a3,a4,a5,a6,a7,a8,a9,b0,b1,b2,b3,b4,b5,b6,b7]) S =
  (zN (wI zi BinOp.add 3 b (.int .i64 1) S) (fun v0 S1=>some ([x0,x1,x2,x3,x4,x5,x6,x7,x8,x9,c0,c3,b8,c6,c1,b9,c7,c8,c9,c2,d4,d5,d6,d7,d8,d9,f0,f1,f2,f3,f4,f6,f7,f8,f9,g0,d0,d1,c4,g1,g2,g3,g4,g5,g6,g7,g8,g9,i0,i1,i2,i3,i4,i5,i6,i7,i8,i9,j0,j1,j2,j3,d2,d3,c5,j4,j5,j6,j7,j8,j9,k0,k1,k2,k3,k4,k5,k6,k7,k8,k9,l0,l1,l2,l3,l4,l5,l6,l7,l8,l9,m0,m1,m2,m3,m4,m5,m6,m7,m8,k,l,m,n,o,p,q,r,d,f,dem v0,s,t,u,w,x,y,z,A,B,C,v0,E,F,G,H,g,i,c,I,J,K,L,M,N,P,Q,R,U,V,W,X,Y,Z,a0,a1,a2,a3,a4,a5,a6,a7,a8,a9,b0,b1,b2,b3,b4,b5,b6,b7],S1)) ()):=by
 kernel_rfl
theorem zu.r29 :jD zi ⟨false,false,false⟩ (zZ zi O) (reg Try.f5 29) (reg Try.f5 29).toList ([x0,x1,x2,x3,x4,x5,x6,x7,x8,x9,c0,c3,b8,c6,c1,b9,c7,c8,c9,c2,d4,d5,d6,d7,d8,d9,f0,f1,f2,f3,f4,f6,f7,f8,f9,g0,d0,d1,c4,g1,g2,g3,g4,g5,g6,g7,g8,g9,i0,i1,i2,i3,i4,i5,i6,i7,i8,i9,j0,j1,j2,j3,d2,d3,c5,j4,j5,j6,j7,j8,j9,k0,k1,k2,k3,k4,k5,k6,k7,k8,k9,l0,l1,l2,l3,l4,l5,l6,l7,l8,l9,m0,m1,m2,m3,m4,m5,m6,m7,m8,k,l,m,n,o,p,q,r,d,f,b,s,t,u,w,x,y,z,A,B,C,D,E,F,G,H,g,i,c,I,J,K,L,M,N,P,Q,R,U,V,W,X,Y,Z,a0,a1,a2,a3,a4,a5,a6,a7,a8,a9,b0,b1,b2,b3,b4,b5,b6,b7]) S =
  (zN (jK zi 30 0 [] S) (fun v0 S1=>zN (wR zi 30 30 v0 (dem x6) S1) (fun v2 S2=>zN (wR zi 30 30 v2 (dem x7) S2) (fun v4 S3=>zN (Zu zi 30 v4 S3) (fun v5 S4=>some ([x0,x1,x2,x3,x4,x5,x6,x7,x8,x9,c0,c3,b8,c6,c1,b9,c7,c8,c9,c2,d4,d5,d6,d7,d8,d9,f0,f1,f2,f3,f4,f6,f7,f8,f9,g0,d0,d1,c4,g1,g2,g3,g4,g5,g6,g7,g8,g9,i0,i1,i2,i3,i4,i5,i6,i7,i8,i9,j0,j1,j2,j3,d2,d3,c5,j4,j5,j6,j7,j8,j9,k0,k1,k2,k3,k4,k5,k6,k7,k8,k9,l0,l1,l2,l3,l4,l5,l6,l7,l8,l9,m0,m1,m2,m3,m4,m5,m6,m7,m8,k,l,m,n,o,p,q,r,d,f,b,s,t,u,w,x,y,z,A,B,C,D,dem v0,dem x6,dem v2,dem x7,v4,v5,.int .i64 0,I,J,K,L,M,N,P,Q,R,U,V,W,X,Y,Z,a0,a1,a2,a3,a4,a5,a6,a7,a8,a9,b0,b1,b2,b3,b4,b5,b6,b7],S4)) ()) ()) ()) ()):=by
 kernel_rfl
theorem zu.r30 :jD zi ⟨false,false,false⟩ (zZ zi O) (reg Try.f5 30) (reg Try.f5 30).toList ([x0,x1,x2,x3,x4,x5,x6,x7,x8,x9,c0,c3,b8,c6,c1,b9,c7,c8,c9,c2,d4,d5,d6,d7,d8,d9,f0,f1,f2,f3,f4,f6,f7,f8,f9,g0,d0,d1,c4,g1,g2,g3,g4,g5,g6,g7,g8,g9,i0,i1,i2,i3,i4,i5,i6,i7,i8,i9,j0,j1,j2,j3,d2,d3,c5,j4,j5,j6,j7,j8,j9,k0,k1,k2,k3,k4,k5,k6,k7,k8,k9,l0,l1,l2,l3,l4,l5,l6,l7,l8,l9,m0,m1,m2,m3,m4,m5,m6,m7,m8,k,l,m,n,o,p,q,r,d,f,b,s,t,u,w,x,y,z,A,B,C,D,E,F,G,H,g,i,c,I,J,K,L,M,N,P,Q,R,U,V,W,X,Y,Z,a0,a1,a2,a3,a4,a5,a6,a7,a8,a9,b0,b1,b2,b3,b4,b5,b6,b7]) S =
  (zN (wI zi BinOp.lss 3 c i S) (fun v0 S1=>some ([x0,x1,x2,x3,x4,x5,x6,x7,x8,x9,c0,c3,b8,c6,c1,b9,c7,c8,c9,c2,d4,d5,d6,d7,d8,d9,f0,f1,f2,f3,f4,f6,f7,f8,f9,g0,d0,d1,c4,g1,g2,g3,g4,g5,g6,g7,g8,g9,i0,i1,i2,i3,i4,i5,i6,i7,i8,i9,j0,j1,j2,j3,d2,d3,c5,j4,j5,j6,j7,j8,j9,k0,k1,k2,k3,k4,k5,k6,k7,k8,k9,l0,l1,l2,l3,l4,l5,l6,l7,l8,l9,m0,m1,m2,m3,m4,m5,m6,m7,m8,k,l,m,n,o,p,q,r,d,f,b,s,t,u,w,x,y,z,A,B,C,D,E,F,G,H,g,i,c,v0,J,K,L,M,N,P,Q,R,U,V,W,X,Y,Z,a0,a1,a2,a3,a4,a5,a6,a7,a8,a9,b0,b1,b2,b3,b4,b5,b6,b7],S1)) ()):=by
 kernel_rfl
theorem zu.r31 :jD zi ⟨false,false,false⟩ (zZ zi O) (reg Try.f5 31) (reg Try.f5 31).toList ([x0,x1,x2,x3,x4,x5,x6,x7,x8,x9,c0,c3,b8,c6,c1,b9,c7,c8,c9,c2,d4,d5,d6,d7,d8,d9,f0,f1,f2,f3,f4,f6,f7,f8,f9,g0,d0,d1,c4,g1,g2,g3,g4,g5,g6,g7,g8,g9,i0,i1,i2,i3,i4,i5,i6,i7,i8,i9,j0,j1,j2,j3,d2,d3,c5,j4,j5,j6,j7,j8,j9,k0,k1,k2,k3,k4,k5,k6,k7,k8,k9,l0,l1,l2,l3,l4,l5,l6,l7,l8,l9,m0,m1,m2,m3,m4,m5,m6,m7,m8,k,l,m,n,o,p,q,r,d,f,b,s,t,u,w,x,y,z,A,B,C,D,E,F,G,H,g,i,c,I,J,K,L,M,N,P,Q,R,U,V,W,X,Y,Z,a0,a1,a2,a3,a4,a5,a6,a7,a8,a9,b0,b1,b2,b3,b4,b5,b6,b7]) S =
  (zN (jy zi 30 g c S) (fun v0 S1=>zN (jh zi false 46 v0 S1) (fun v1 S2=>zN (yI zi 46 S2) (fun v2 S3=>zN (wU zi 46 v2 (dem v1) S3) (fun v3 S4=>some ([x0,x1,x2,x3,x4,x5,x6,x7,x8,x9,c0,c3,b8,c6,c1,b9,c7,c8,c9,v2,d4,d5,d6,d7,d8,d9,f0,f1,f2,f3,f4,f6,f7,f8,f9,g0,d0,d1,c4,g1,g2,g3,g4,g5,g6,g7,g8,g9,i0,i1,i2,i3,i4,i5,i6,i7,i8,i9,j0,j1,j2,j3,d2,d3,c5,j4,j5,j6,j7,j8,j9,k0,k1,k2,k3,k4,k5,k6,k7,k8,k9,l0,l1,l2,l3,l4,l5,l6,l7,l8,l9,m0,m1,m2,m3,m4,m5,m6,m7,m8,k,l,m,n,o,p,q,r,d,f,b,s,t,u,w,x,y,z,A,B,C,D,E,F,G,H,g,i,c,I,v0,v1,L,M,N,P,Q,R,U,V,W,X,Y,Z,a0,a1,a2,a3,a4,a5,a6,a7,a8,a9,b0,b1,b2,b3,b4,b5,b6,b7],S4)) ()) ()) ()) ()):=by
 kernel_rfl
theorem zu.d32:qW zi (reg Try.f5 32)=true:=by kernel_rfl
theorem zu.alE:fixed zi (reg Try.f5 32)=false:=by kernel_rfl
theorem zu.k32:checked zi (reg Try.f5 32)=[2,3]:=by kernel_rfl
theorem zu.g32:again zi (reg Try.f5 32)=[(3,1)]:=by kernel_rfl
theorem zu.r32 :zJ zi O false (.region 32 (reg Try.f5 32) true) ([x0,x1,x2,x3,x4,x5,x6,x7,x8,x9,c0,c3,b8,c6,c1,b9,c7,c8,c9,c2,d4,d5,d6,d7,d8,d9,f0,f1,f2,f3,f4,f6,f7,f8,f9,g0,d0,d1,c4,g1,g2,g3,g4,g5,g6,g7,g8,g9,i0,i1,i2,i3,i4,i5,i6,i7,i8,i9,j0,j1,j2,j3,d2,d3,c5,j4,j5,j6,j7,j8,j9,k0,k1,k2,k3,k4,k5,k6,k7,k8,k9,l0,l1,l2,l3,l4,l5,l6,l7,l8,l9,m0,m1,m2,m3,m4,m5,m6,m7,m8,k,l,m,n,o,p,q,r,d,f,b,s,t,u,w,x,y,z,A,B,C,D,E,F,G,H,g,i,c,I,J,K,L,M,N,P,Q,R,U,V,W,X,Y,Z,a0,a1,a2,a3,a4,a5,a6,a7,a8,a9,b0,b1,b2,b3,b4,b5,b6,b7]) S =
  Ja (zN (jh zi false 46 c2 S) (fun v0 S1=>zN ((zZ zi O) 17 [(dem v0)] S1) (fun v1 S2=>zN (zF zi 48 c0 7 S2) (fun v2 S3=>okK v2 ( zN (jh zi false 46 v2 S3) (fun v3 S4=>okK v3 ( zN ((zZ zi O) 17 [(dem v3)] S4) (fun v4 S5=>zN (wI zi BinOp.eql 3 v1 v4 S5) (fun v5 S6=>gdK (dem v5) true (jh zi false 46 c2) S6 (fun v7 S7=>gdK (dem v5) true (zF zi 48 c0 7) S7 (fun v8 S8=>gdK (dem v5) true (jh zi false 46 v8) S8 (fun v9 S9=>gdK (dem v5) true ((zZ zi O) 18 [(dem v7),(dem v9)]) S9 (fun m9 n2=>gdK (dem v5) true (aUn zi UnOp.not m9) n2 (fun n0 n3=>zN (wX (dem v5) n0 (Value.bool false) n3) (fun n1 n4=>ckK (qN v2 S1 S3 && (true)) (some ([x0,x1,x2,x3,x4,x5,x6,x7,x8,x9,c0,c3,b8,c6,c1,b9,c7,c8,c9,c2,d4,d5,d6,d7,d8,d9,f0,f1,f2,f3,f4,f6,f7,f8,f9,g0,d0,d1,c4,g1,g2,g3,g4,g5,g6,g7,g8,g9,i0,i1,i2,i3,i4,i5,i6,i7,i8,i9,j0,j1,j2,j3,d2,d3,c5,j4,j5,j6,j7,j8,j9,k0,k1,k2,k3,k4,k5,k6,k7,k8,k9,l0,l1,l2,l3,l4,l5,l6,l7,l8,l9,m0,m1,m2,m3,m4,m5,m6,m7,m8,k,l,m,n,o,p,q,r,d,f,b,s,t,u,w,x,y,z,A,B,C,D,E,F,G,H,g,i,c,I,J,K,v0,v1,v2,v3,v4,v5,dem v5,v7,v8,v9,m9,n0,n1,a1,a2,a3,a4,a5,a6,a7,a8,a9,b0,b1,b2,b3,b4,b5,b6,b7],n4)) ()) ()) ()) ()) ()) ()) ()) ()) ()) ()) ()) ()) ()) ()) ()):=by
 rw [yF zu.d32 zu.alE zu.k32 zu.g32]
 refine congrArg Ja ?_
 refine uD Try.f5 32 0 (pe:=c2) (fun v0 S1=>?_)
 refine uD Try.f5 32 1 (pe:=zh) (fun v1 S2=>?_)
 refine uDC Try.f5 32 2 (pe:=zh) (fun v2 S3=>?_)
 refine uDC Try.f5 32 3 (pe:=v2) (fun v3 S4=>?_)
 refine uD Try.f5 32 4 (pe:=zh) (fun v4 S5=>?_)
 refine uD Try.f5 32 5 (pe:=zh) (fun v5 S6=>?_)
 refine uP Try.f5 32 6 (v:=v5) (pe:=zh) ?_
 refine uG Try.f5 32 7 (j:=6) (pe:=c2) (fun v7 S7=>?_)
 refine uG Try.f5 32 8 (j:=6) (pe:=zh) (fun v8 S8=>?_)
 refine uG Try.f5 32 9 (j:=6) (pe:=v8) (fun v9 S9=>?_)
 refine uG Try.f5 32 10 (j:=6) (pe:=zh) (fun m9 n2=>?_)
 refine uG Try.f5 32 11 (j:=6) (pe:=zh) (fun n0 n3=>?_)
 refine uD Try.f5 32 12 (pe:=zh) (fun n1 n4=>?_)
 kernel_rfl
theorem zu.r33 :jD zi ⟨false,false,false⟩ (zZ zi O) (reg Try.f5 33) (reg Try.f5 33).toList ([x0,x1,x2,x3,x4,x5,x6,x7,x8,x9,c0,c3,b8,c6,c1,b9,c7,c8,c9,c2,d4,d5,d6,d7,d8,d9,f0,f1,f2,f3,f4,f6,f7,f8,f9,g0,d0,d1,c4,g1,g2,g3,g4,g5,g6,g7,g8,g9,i0,i1,i2,i3,i4,i5,i6,i7,i8,i9,j0,j1,j2,j3,d2,d3,c5,j4,j5,j6,j7,j8,j9,k0,k1,k2,k3,k4,k5,k6,k7,k8,k9,l0,l1,l2,l3,l4,l5,l6,l7,l8,l9,m0,m1,m2,m3,m4,m5,m6,m7,m8,k,l,m,n,o,p,q,r,d,f,b,s,t,u,w,x,y,z,A,B,C,D,E,F,G,H,g,i,c,I,J,K,L,M,N,P,Q,R,U,V,W,X,Y,Z,a0,a1,a2,a3,a4,a5,a6,a7,a8,a9,b0,b1,b2,b3,b4,b5,b6,b7]) S =
  ( some ([x0,x1,x2,x3,Value.bool false,x5,x6,x7,x8,x9,c0,c3,b8,c6,c1,b9,c7,c8,c9,c2,d4,d5,d6,d7,d8,d9,f0,f1,f2,f3,f4,f6,f7,f8,f9,g0,d0,d1,c4,g1,g2,g3,g4,g5,g6,g7,g8,g9,i0,i1,i2,i3,i4,i5,i6,i7,i8,i9,j0,j1,j2,j3,d2,d3,c5,j4,j5,j6,j7,j8,j9,k0,k1,k2,k3,k4,k5,k6,k7,k8,k9,l0,l1,l2,l3,l4,l5,l6,l7,l8,l9,m0,m1,m2,m3,m4,m5,m6,m7,m8,k,l,m,n,o,p,q,r,d,f,b,s,t,u,w,x,y,z,A,B,C,D,E,F,G,H,g,i,c,I,J,K,L,M,N,P,Q,R,U,V,W,X,Y,Z,a0,a1,a2,a3,a4,a5,a6,a7,a8,a9,b0,b1,b2,b3,b4,b5,b6,b7],S)):=by
 kernel_rfl
theorem zu.r34 :jD zi ⟨false,false,false⟩ (zZ zi O) (reg Try.f5 34) (reg Try.f5 34).toList ([x0,x1,x2,x3,x4,x5,x6,x7,x8,x9,c0,c3,b8,c6,c1,b9,c7,c8,c9,c2,d4,d5,d6,d7,d8,d9,f0,f1,f2,f3,f4,f6,f7,f8,f9,g0,d0,d1,c4,g1,g2,g3,g4,g5,g6,g7,g8,g9,i0,i1,i2,i3,i4,i5,i6,i7,i8,i9,j0,j1,j2,j3,d2,d3,c5,j4,j5,j6,j7,j8,j9,k0,k1,k2,k3,k4,k5,k6,k7,k8,k9,l0,l1,l2,l3,l4,l5,l6,l7,l8,l9,m0,m1,m2,m3,m4,m5,m6,m7,m8,k,l,m,n,o,p,q,r,d,f,b,s,t,u,w,x,y,z,A,B,C,D,E,F,G,H,g,i,c,I,J,K,L,M,N,P,Q,R,U,V,W,X,Y,Z,a0,a1,a2,a3,a4,a5,a6,a7,a8,a9,b0,b1,b2,b3,b4,b5,b6,b7]) S =
  (zN (wI zi BinOp.add 3 c (.int .i64 1) S) (fun v0 S1=>some ([x0,x1,x2,x3,x4,x5,x6,x7,x8,x9,c0,c3,b8,c6,c1,b9,c7,c8,c9,c2,d4,d5,d6,d7,d8,d9,f0,f1,f2,f3,f4,f6,f7,f8,f9,g0,d0,d1,c4,g1,g2,g3,g4,g5,g6,g7,g8,g9,i0,i1,i2,i3,i4,i5,i6,i7,i8,i9,j0,j1,j2,j3,d2,d3,c5,j4,j5,j6,j7,j8,j9,k0,k1,k2,k3,k4,k5,k6,k7,k8,k9,l0,l1,l2,l3,l4,l5,l6,l7,l8,l9,m0,m1,m2,m3,m4,m5,m6,m7,m8,k,l,m,n,o,p,q,r,d,f,b,s,t,u,w,x,y,z,A,B,C,D,E,F,G,H,g,i,dem v0,I,J,K,L,M,N,P,Q,R,U,V,W,X,Y,Z,a0,v0,a2,a3,a4,a5,a6,a7,a8,a9,b0,b1,b2,b3,b4,b5,b6,b7],S1)) ()):=by
 kernel_rfl
theorem zu.r35 :jD zi ⟨false,false,false⟩ (zZ zi O) (reg Try.f5 35) (reg Try.f5 35).toList ([x0,x1,x2,x3,x4,x5,x6,x7,x8,x9,c0,c3,b8,c6,c1,b9,c7,c8,c9,c2,d4,d5,d6,d7,d8,d9,f0,f1,f2,f3,f4,f6,f7,f8,f9,g0,d0,d1,c4,g1,g2,g3,g4,g5,g6,g7,g8,g9,i0,i1,i2,i3,i4,i5,i6,i7,i8,i9,j0,j1,j2,j3,d2,d3,c5,j4,j5,j6,j7,j8,j9,k0,k1,k2,k3,k4,k5,k6,k7,k8,k9,l0,l1,l2,l3,l4,l5,l6,l7,l8,l9,m0,m1,m2,m3,m4,m5,m6,m7,m8,k,l,m,n,o,p,q,r,d,f,b,s,t,u,w,x,y,z,A,B,C,D,E,F,G,H,g,i,c,I,J,K,L,M,N,P,Q,R,U,V,W,X,Y,Z,a0,a1,a2,a3,a4,a5,a6,a7,a8,a9,b0,b1,b2,b3,b4,b5,b6,b7]) S =
  (zN (aUn zi UnOp.not (dem b9) S) (fun v1 S1=>gdK (dem v1) true (ret x5) S1 (fun v3 S2=>gdK (dem v1) true (zF zi 48 c0 7) S2 (fun v4 S3=>gdK (dem v1) true (zF zi 46 v4 1) S3 (fun v5 S4=>gdK (dem v1) true (jh zi false 3 v5) S4 (fun v6 S5=>gdK (dem v1) true ((zZ zi O) 11 [(dem (dem v3)),(dem v6)]) S5 (fun v7 S6=>gdK (dem v1) true (aUn zi UnOp.not v7) S6 (fun v8 S7=>zN (wX (dem v1) v8 (Value.bool false) S7) (fun v9 S8=>some ([x0,x1,x2,x3,x4,x5,x6,x7,x8,x9,c0,c3,b8,c6,c1,b9,c7,c8,c9,c2,d4,d5,d6,d7,d8,d9,f0,f1,f2,f3,f4,f6,f7,f8,f9,g0,d0,d1,c4,g1,g2,g3,g4,g5,g6,g7,g8,g9,i0,i1,i2,i3,i4,i5,i6,i7,i8,i9,j0,j1,j2,j3,d2,d3,c5,j4,j5,j6,j7,j8,j9,k0,k1,k2,k3,k4,k5,k6,k7,k8,k9,l0,l1,l2,l3,l4,l5,l6,l7,l8,l9,m0,m1,m2,m3,m4,m5,m6,m7,m8,k,l,m,n,o,p,q,r,d,f,b,s,t,u,w,x,y,z,A,B,C,D,E,F,G,H,g,i,c,I,J,K,L,M,N,P,Q,R,U,V,W,X,Y,Z,a0,a1,dem b9,v1,dem v1,dem v3,v4,v5,v6,v7,v8,v9,b2,b3,b4,b5,b6,b7],S8)) ()) ()) ()) ()) ()) ()) ()) ()):=by
 refine sP Try.f5 35 0 (v:=b9) ?_
 refine sD Try.f5 35 1 (fun v1 S1=>?_)
 refine sP Try.f5 35 2 (v:=v1) ?_
 refine sG Try.f5 35 3 (j:=2) (fun v3 S2=>?_)
 refine sG Try.f5 35 4 (j:=2) (fun v4 S3=>?_)
 refine sG Try.f5 35 5 (j:=2) (fun v5 S4=>?_)
 refine sG Try.f5 35 6 (j:=2) (fun v6 S5=>?_)
 refine sG Try.f5 35 7 (j:=2) (fun v7 S6=>?_)
 refine sG Try.f5 35 8 (j:=2) (fun v8 S7=>?_)
 refine sD Try.f5 35 9 (fun v9 S8=>?_)
 kernel_rfl
theorem zu.r36 :jD zi ⟨false,false,false⟩ (zZ zi O) (reg Try.f5 36) (reg Try.f5 36).toList ([x0,x1,x2,x3,x4,x5,x6,x7,x8,x9,c0,c3,b8,c6,c1,b9,c7,c8,c9,c2,d4,d5,d6,d7,d8,d9,f0,f1,f2,f3,f4,f6,f7,f8,f9,g0,d0,d1,c4,g1,g2,g3,g4,g5,g6,g7,g8,g9,i0,i1,i2,i3,i4,i5,i6,i7,i8,i9,j0,j1,j2,j3,d2,d3,c5,j4,j5,j6,j7,j8,j9,k0,k1,k2,k3,k4,k5,k6,k7,k8,k9,l0,l1,l2,l3,l4,l5,l6,l7,l8,l9,m0,m1,m2,m3,m4,m5,m6,m7,m8,k,l,m,n,o,p,q,r,d,f,b,s,t,u,w,x,y,z,A,B,C,D,E,F,G,H,g,i,c,I,J,K,L,M,N,P,Q,R,U,V,W,X,Y,Z,a0,a1,a2,a3,a4,a5,a6,a7,a8,a9,b0,b1,b2,b3,b4,b5,b6,b7]) S =
  ( some ([x0,x1,x2,x3,Value.bool false,x5,x6,x7,x8,x9,c0,c3,b8,c6,c1,b9,c7,c8,c9,c2,d4,d5,d6,d7,d8,d9,f0,f1,f2,f3,f4,f6,f7,f8,f9,g0,d0,d1,c4,g1,g2,g3,g4,g5,g6,g7,g8,g9,i0,i1,i2,i3,i4,i5,i6,i7,i8,i9,j0,j1,j2,j3,d2,d3,c5,j4,j5,j6,j7,j8,j9,k0,k1,k2,k3,k4,k5,k6,k7,k8,k9,l0,l1,l2,l3,l4,l5,l6,l7,l8,l9,m0,m1,m2,m3,m4,m5,m6,m7,m8,k,l,m,n,o,p,q,r,d,f,b,s,t,u,w,x,y,z,A,B,C,D,E,F,G,H,g,i,c,I,J,K,L,M,N,P,Q,R,U,V,W,X,Y,Z,a0,a1,a2,a3,a4,a5,a6,a7,a8,a9,b0,b1,b2,b3,b4,b5,b6,b7],S)):=by
 kernel_rfl
theorem zu.r37 :jD zi ⟨false,false,false⟩ (zZ zi O) (reg Try.f5 37) (reg Try.f5 37).toList ([x0,x1,x2,x3,x4,x5,x6,x7,x8,x9,c0,c3,b8,c6,c1,b9,c7,c8,c9,c2,d4,d5,d6,d7,d8,d9,f0,f1,f2,f3,f4,f6,f7,f8,f9,g0,d0,d1,c4,g1,g2,g3,g4,g5,g6,g7,g8,g9,i0,i1,i2,i3,i4,i5,i6,i7,i8,i9,j0,j1,j2,j3,d2,d3,c5,j4,j5,j6,j7,j8,j9,k0,k1,k2,k3,k4,k5,k6,k7,k8,k9,l0,l1,l2,l3,l4,l5,l6,l7,l8,l9,m0,m1,m2,m3,m4,m5,m6,m7,m8,k,l,m,n,o,p,q,r,d,f,b,s,t,u,w,x,y,z,A,B,C,D,E,F,G,H,g,i,c,I,J,K,L,M,N,P,Q,R,U,V,W,X,Y,Z,a0,a1,a2,a3,a4,a5,a6,a7,a8,a9,b0,b1,b2,b3,b4,b5,b6,b7]) S =
  (zN (zF zi 48 c0 7 S) (fun v1 S1=>zN (jh zi false 46 v1 S1) (fun v2 S2=>zN (jK zi 30 1 [(0,v2)] S2) (fun v3 S3=>zN (wR zi 30 30 x7 v3 S3) (fun v4 S4=>some ([x0,x1,x2,x3,x4,x5,x6,v4,x8,x9,c0,c3,b8,c6,c1,b9,c7,c8,c9,c2,d4,d5,d6,d7,d8,d9,f0,f1,f2,f3,f4,f6,f7,f8,f9,g0,d0,d1,c4,g1,g2,g3,g4,g5,g6,g7,g8,g9,i0,i1,i2,i3,i4,i5,i6,i7,i8,i9,j0,j1,j2,j3,d2,d3,c5,j4,j5,j6,j7,j8,j9,k0,k1,k2,k3,k4,k5,k6,k7,k8,k9,l0,l1,l2,l3,l4,l5,l6,l7,l8,l9,m0,m1,m2,m3,m4,m5,m6,m7,m8,k,l,m,n,o,p,q,r,d,f,b,s,t,u,w,x,y,z,A,B,C,D,E,F,G,H,g,i,c,I,J,K,L,M,N,P,Q,R,U,V,W,X,Y,Z,a0,a1,a2,a3,a4,a5,a6,a7,a8,a9,b0,b1,dem x7,v1,v2,v3,dem v4,b7],S4)) ()) ()) ()) ()):=by
 kernel_rfl
theorem zu.r38 :jD zi ⟨false,false,false⟩ (zZ zi O) (reg Try.f5 38) (reg Try.f5 38).toList ([x0,x1,x2,x3,x4,x5,x6,x7,x8,x9,c0,c3,b8,c6,c1,b9,c7,c8,c9,c2,d4,d5,d6,d7,d8,d9,f0,f1,f2,f3,f4,f6,f7,f8,f9,g0,d0,d1,c4,g1,g2,g3,g4,g5,g6,g7,g8,g9,i0,i1,i2,i3,i4,i5,i6,i7,i8,i9,j0,j1,j2,j3,d2,d3,c5,j4,j5,j6,j7,j8,j9,k0,k1,k2,k3,k4,k5,k6,k7,k8,k9,l0,l1,l2,l3,l4,l5,l6,l7,l8,l9,m0,m1,m2,m3,m4,m5,m6,m7,m8,k,l,m,n,o,p,q,r,d,f,b,s,t,u,w,x,y,z,A,B,C,D,E,F,G,H,g,i,c,I,J,K,L,M,N,P,Q,R,U,V,W,X,Y,Z,a0,a1,a2,a3,a4,a5,a6,a7,a8,a9,b0,b1,b2,b3,b4,b5,b6,b7]) S =
  (zN (wI zi BinOp.add 3 c4 (.int .i64 1) S) (fun v0 S1=>some ([x0,x1,x2,x3,x4,x5,x6,x7,x8,x9,c0,c3,b8,c6,c1,b9,c7,c8,c9,c2,d4,d5,d6,d7,d8,d9,f0,f1,f2,f3,f4,f6,f7,f8,f9,g0,d0,d1,dem v0,g1,g2,g3,g4,g5,g6,g7,g8,g9,i0,i1,i2,i3,i4,i5,i6,i7,i8,i9,j0,j1,j2,j3,d2,d3,c5,j4,j5,j6,j7,j8,j9,k0,k1,k2,k3,k4,k5,k6,k7,k8,k9,l0,l1,l2,l3,l4,l5,l6,l7,l8,l9,m0,m1,m2,m3,m4,m5,m6,m7,m8,k,l,m,n,o,p,q,r,d,f,b,s,t,u,w,x,y,z,A,B,C,D,E,F,G,H,g,i,c,I,J,K,L,M,N,P,Q,R,U,V,W,X,Y,Z,a0,a1,a2,a3,a4,a5,a6,a7,a8,a9,b0,b1,b2,b3,b4,b5,b6,v0],S1)) ()):=by
 kernel_rfl
theorem zu.r39 :jD zi ⟨false,false,false⟩ (zZ zi O) (reg Try.f5 39) (reg Try.f5 39).toList ([x0,x1,x2,x3,x4,x5,x6,x7,x8,x9,c0,c3,b8,c6,c1,b9,c7,c8,c9,c2,d4,d5,d6,d7,d8,d9,f0,f1,f2,f3,f4,f6,f7,f8,f9,g0,d0,d1,c4,g1,g2,g3,g4,g5,g6,g7,g8,g9,i0,i1,i2,i3,i4,i5,i6,i7,i8,i9,j0,j1,j2,j3,d2,d3,c5,j4,j5,j6,j7,j8,j9,k0,k1,k2,k3,k4,k5,k6,k7,k8,k9,l0,l1,l2,l3,l4,l5,l6,l7,l8,l9,m0,m1,m2,m3,m4,m5,m6,m7,m8,k,l,m,n,o,p,q,r,d,f,b,s,t,u,w,x,y,z,A,B,C,D,E,F,G,H,g,i,c,I,J,K,L,M,N,P,Q,R,U,V,W,X,Y,Z,a0,a1,a2,a3,a4,a5,a6,a7,a8,a9,b0,b1,b2,b3,b4,b5,b6,b7]) S =
  ( some ([x0,x1,x2,x3,Value.bool true,x5,x6,x7,x8,x9,c0,c3,b8,c6,c1,b9,c7,c8,c9,c2,d4,d5,d6,d7,d8,d9,f0,f1,f2,f3,f4,f6,f7,f8,f9,g0,d0,d1,c4,g1,g2,g3,g4,g5,g6,g7,g8,g9,i0,i1,i2,i3,i4,i5,i6,i7,i8,i9,j0,j1,j2,j3,d2,d3,c5,j4,j5,j6,j7,j8,j9,k0,k1,k2,k3,k4,k5,k6,k7,k8,k9,l0,l1,l2,l3,l4,l5,l6,l7,l8,l9,m0,m1,m2,m3,m4,m5,m6,m7,m8,k,l,m,n,o,p,q,r,d,f,b,s,t,u,w,x,y,z,A,B,C,D,E,F,G,H,g,i,c,I,J,K,L,M,N,P,Q,R,U,V,W,X,Y,Z,a0,a1,a2,a3,a4,a5,a6,a7,a8,a9,b0,b1,b2,b3,b4,b5,b6,b7],S)):=by
 kernel_rfl
theorem zu.rs:type_of% (alG @zu.r0 (alG @zu.r1 (alG @zu.r2 (alG @zu.r3 (alG @zu.r4 (alG @zu.r5 (alG @zu.r6 (alG @zu.r7 (alG @zu.r8 (alG @zu.r9 (alG @zu.r10 (alG @zu.r11 (alG @zu.r12 (alG @zu.r13 (alG @zu.r14 (alG @zu.r15 (alG @zu.r16 (alG @zu.r17 (alG @zu.r18 (alG @zu.r19 (alG @zu.r20 (alG @zu.r21 (alG @zu.r22 (alG @zu.r23 (alG @zu.r24 (alG @zu.r25 (alG @zu.r26 (alG @zu.r27 (alG @zu.r28 (alG @zu.r29 (alG @zu.r30 (alG @zu.r31 (alG @zu.r32 (alG @zu.r33 (alG @zu.r34 (alG @zu.r35 (alG @zu.r36 (alG @zu.r37 (alG @zu.r38 (@zu.r39)))))))))))))))))))))))))))))))))))))))):=alG @zu.r0 (alG @zu.r1 (alG @zu.r2 (alG @zu.r3 (alG @zu.r4 (alG @zu.r5 (alG @zu.r6 (alG @zu.r7 (alG @zu.r8 (alG @zu.r9 (alG @zu.r10 (alG @zu.r11 (alG @zu.r12 (alG @zu.r13 (alG @zu.r14 (alG @zu.r15 (alG @zu.r16 (alG @zu.r17 (alG @zu.r18 (alG @zu.r19 (alG @zu.r20 (alG @zu.r21 (alG @zu.r22 (alG @zu.r23 (alG @zu.r24 (alG @zu.r25 (alG @zu.r26 (alG @zu.r27 (alG @zu.r28 (alG @zu.r29 (alG @zu.r30 (alG @zu.r31 (alG @zu.r32 (alG @zu.r33 (alG @zu.r34 (alG @zu.r35 (alG @zu.r36 (alG @zu.r37 (alG @zu.r38 (@zu.r39)))))))))))))))))))))))))))))))))))))))
theorem zu.runs {x0 x1:Value} {S S1:zy} {e:AEx} {T:List Value} (h:zJ zi O false zu.code ([x0,x1,zh,zh,zh,zh,zh,zh,zh,zh,zh,zh,zh,zh,zh,zh,zh,zh,zh,zh,zh,zh,zh,zh,zh,zh,zh,zh,zh,zh,zh,zh,zh,zh,zh,zh,zh,zh,zh,zh,zh,zh,zh,zh,zh,zh,zh,zh,zh,zh,zh,zh,zh,zh,zh,zh,zh,zh,zh,zh,zh,zh,zh,zh,zh,zh,zh,zh,zh,zh,zh,zh,zh,zh,zh,zh,zh,zh,zh,zh,zh,zh,zh,zh,zh,zh,zh,zh,zh,zh,zh,zh,zh,zh,zh,zh,zh,zh,zh,zh,zh,zh,zh,zh,zh,zh,zh,zh,zh,zh,zh,zh,zh,zh,zh,zh,zh,zh,zh,zh,zh,zh,zh,zh,zh,zh,zh,zh,zh,zh,zh,zh,zh,zh,zh,zh,zh,zh,zh,zh,zh,zh,zh,zh,zh,zh,zh,zh,zh,zh,zh,zh,zh,zh,zh,zh,zh,zh,zh,zh,zh,zh]) S=some (e,T,S1)) (he:e=.normal∨e=.ret):zZ zi O 5 [x0,x1] S=some (T.getD 4 zh,S1) :=
 yL rfl rfl Try.func5 (by decide) zu.body (by exact h) he (yH (a:=T.getD 4 zh) ((show zQ zi T S1 Try.f5.results.toList=zQ zi T S1 [(ResultVar.tmp 4)] from by kernel_rfl).trans (by simp only [zQ])) (by kernel_rfl))
end Go.Proofs.Ytfjogganfjkckaa
namespace Go.Proofs.Ytfjogganfjkckaa
open Go.Abs
abbrev jR.id:FuncId:=21
noncomputable def jR.code:Code:=(.seq (.region 0 (reg Try.f21 0) false) (.seq (.region 1 (reg Try.f21 1) false) (.seq (.region 2 (reg Try.f21 2) false) Code.ret)))
theorem jR.body:Try.f21.body=some jR.code:=by kernel_rfl
variable (b c m n s l o p q r d f g i j:Value) (S:zy)
theorem jR.r0 :jD zi ⟨false,false,false⟩ (zZ zi O) (reg Try.f21 0) (reg Try.f21 0).toList ([b,c,m,n,s,l,o,p,q,r,d,f,g,i,j]) S =
  (zN (J3 (dem c) S) (fun y k=>some ([b,c,m,y,Value.slice none 0 0,l,o,p,q,r,d,f,g,i,j],k)) ()):=by
 kernel_rfl
theorem jR.r1 :jD zi ⟨false,false,false⟩ (zZ zi O) (reg Try.f21 1) (reg Try.f21 1).toList ([b,c,m,n,s,l,o,p,q,r,d,f,g,i,j]) S =
  (zN (jh zi false 46 n S) (fun u k=>zN (yA zi 48 [(0,(.int .i64 1)),(1,(dem (dem b))),(7,(dem u))] k) (fun v z=>zN ((zZ zi O) 19 [(dem v)] z) (fun t A=>zN (jc t 0 A) (fun w B=>zN (jc (zV 0 t) 1 B) (fun x C=>some ([b,c,m,n,s,w,x,zV 1 (zV 0 t),dem b,u,v,dem t,dem w,dem x,j],C)) ()) ()) ()) ()) ()):=by
 kernel_rfl
theorem jR.r2 :jD zi ⟨false,false,false⟩ (zZ zi O) (reg Try.f21 2) (reg Try.f21 2).toList ([b,c,m,n,s,l,o,p,q,r,d,f,g,i,j]) S =
  ( some ([b,c,m,n,l,dem l,o,p,q,r,d,f,g,i,dem l],S)):=by
 kernel_rfl
theorem jR.rs:type_of% (alG @jR.r0 (alG @jR.r1 (@jR.r2))):=alG @jR.r0 (alG @jR.r1 (@jR.r2))
theorem jR.runs {b c:Value} {S k:zy} {e:AEx} {T:List Value} (h:zJ zi O false jR.code ([b,c,zh,zh,zh,zh,zh,zh,zh,zh,zh,zh,zh,zh,zh]) S=some (e,T,k)) (he:e=.normal∨e=.ret):zZ zi O 21 [b,c] S=some (T.getD 4 zh,k) :=
 yL rfl rfl Try.func21 (by decide) jR.body (by exact h) he (yH (a:=T.getD 4 zh) ((show zQ zi T k Try.f21.results.toList=zQ zi T k [(ResultVar.tmp 4)] from by kernel_rfl).trans (by simp only [zQ])) (by kernel_rfl))
end Go.Proofs.Ytfjogganfjkckaa
namespace Go.Proofs.Ytfjogganfjkckaa
open Go.Abs
abbrev jg.id:FuncId:=9
noncomputable def jg.code:Code:=(.seq (.region 0 (reg Try.f9 0) false) (.seq (.region 1 (reg Try.f9 1) false) (.seq (.seq (.region 2 (reg Try.f9 2) false) (.cond (.tmp 8) (.seq (.region 3 (reg Try.f9 3) false) Code.ret) Code.skip)) (.seq (.region 4 (reg Try.f9 4) false) (.seq (.region 5 (reg Try.f9 5) false) (.seq (.region 6 (reg Try.f9 6) false) (.seq (.region 7 (reg Try.f9 7) false) Code.ret)))))))
theorem jg.body:Try.f9.body=some jg.code:=by kernel_rfl
variable (x0 b x2 x3 x4 x5 x6 x7 x8 x9 c d f g i k l m n o p q r s t u w x y z A B C D E F G H I J K L M N P Q R U V W X Y Z a0 a1 a2 a3 a4:Value) (S:zy)
theorem jg.r0 :jD zi ⟨false,false,false⟩ (zZ zi O) (reg Try.f9 0) (reg Try.f9 0).toList ([x0,b,x2,x3,x4,x5,x6,x7,x8,x9,c,d,f,g,i,k,l,m,n,o,p,q,r,s,t,u,w,x,y,z,A,B,C,D,E,F,G,H,I,J,K,L,M,N,P,Q,R,U,V,W,X,Y,Z,a0,a1,a2,a3,a4]) S =
  ( some ([Value.bool false,b,x2,x3,x4,x5,x6,x7,x8,x9,c,d,f,g,i,k,l,m,n,o,p,q,r,s,t,u,w,x,y,z,A,B,C,D,E,F,G,H,I,J,K,L,M,N,P,Q,R,U,V,W,X,Y,Z,a0,a1,a2,a3,a4],S)):=by
 kernel_rfl
theorem jg.r1 :jD zi ⟨false,false,false⟩ (zZ zi O) (reg Try.f9 1) (reg Try.f9 1).toList ([x0,b,x2,x3,x4,x5,x6,x7,x8,x9,c,d,f,g,i,k,l,m,n,o,p,q,r,s,t,u,w,x,y,z,A,B,C,D,E,F,G,H,I,J,K,L,M,N,P,Q,R,U,V,W,X,Y,Z,a0,a1,a2,a3,a4]) S =
  (zN (jK zi 24 1 [(0,(.int .i64 2))] S) (fun v0 S1=>zN ((zZ zi O) 8 [(dem v0)] S1) (fun v1 S2=>some ([x0,v1,x2,x3,x4,v0,dem v1,x7,x8,x9,c,d,f,g,i,k,l,m,n,o,p,q,r,s,t,u,w,x,y,z,A,B,C,D,E,F,G,H,I,J,K,L,M,N,P,Q,R,U,V,W,X,Y,Z,a0,a1,a2,a3,a4],S2)) ()) ()):=by
 kernel_rfl
theorem jg.r2 :jD zi ⟨false,false,false⟩ (zZ zi O) (reg Try.f9 2) (reg Try.f9 2).toList ([x0,b,x2,x3,x4,x5,x6,x7,x8,x9,c,d,f,g,i,k,l,m,n,o,p,q,r,s,t,u,w,x,y,z,A,B,C,D,E,F,G,H,I,J,K,L,M,N,P,Q,R,U,V,W,X,Y,Z,a0,a1,a2,a3,a4]) S =
  (zN (wI zi BinOp.eql 22 (dem b) (Value.pointer none) S) (fun v1 S1=>some ([x0,b,x2,x3,x4,x5,x6,dem b,v1,x9,c,d,f,g,i,k,l,m,n,o,p,q,r,s,t,u,w,x,y,z,A,B,C,D,E,F,G,H,I,J,K,L,M,N,P,Q,R,U,V,W,X,Y,Z,a0,a1,a2,a3,a4],S1)) ()):=by
 kernel_rfl
theorem jg.r3 :jD zi ⟨false,false,false⟩ (zZ zi O) (reg Try.f9 3) (reg Try.f9 3).toList ([x0,b,x2,x3,x4,x5,x6,x7,x8,x9,c,d,f,g,i,k,l,m,n,o,p,q,r,s,t,u,w,x,y,z,A,B,C,D,E,F,G,H,I,J,K,L,M,N,P,Q,R,U,V,W,X,Y,Z,a0,a1,a2,a3,a4]) S =
  ( some ([Value.bool false,b,x2,x3,x4,x5,x6,x7,x8,x9,c,d,f,g,i,k,l,m,n,o,p,q,r,s,t,u,w,x,y,z,A,B,C,D,E,F,G,H,I,J,K,L,M,N,P,Q,R,U,V,W,X,Y,Z,a0,a1,a2,a3,a4],S)):=by
 kernel_rfl
theorem jg.r4 :jD zi ⟨false,false,false⟩ (zZ zi O) (reg Try.f9 4) (reg Try.f9 4).toList ([x0,b,x2,x3,x4,x5,x6,x7,x8,x9,c,d,f,g,i,k,l,m,n,o,p,q,r,s,t,u,w,x,y,z,A,B,C,D,E,F,G,H,I,J,K,L,M,N,P,Q,R,U,V,W,X,Y,Z,a0,a1,a2,a3,a4]) S =
  (zN (yA zi 46 [(0,(.int .i64 1)),(1,(.int .i64 1))] S) (fun v0 S1=>zN (yA zi 43 [(0,(.int .i64 1))] S1) (fun v1 S2=>zN (jK zi 44 1 [(0,v1)] S2) (fun v2 S3=>zN (yA zi 46 [(0,(.int .i64 1)),(1,(.int .i64 1)),(4,(dem v2))] S3) (fun v3 S4=>zN (yI zi 46 S4) (fun v4 S5=>zN (yI zi 46 S5) (fun v5 S6=>zN (wU zi 46 v4 (dem v0) S6) (fun v6 S7=>zN (wU zi 46 v5 (dem v3) S7) (fun v7 S8=>some ([x0,b,v4,v5,x4,x5,x6,x7,x8,v0,v1,v2,v3,g,i,k,l,m,n,o,p,q,r,s,t,u,w,x,y,z,A,B,C,D,E,F,G,H,I,J,K,L,M,N,P,Q,R,U,V,W,X,Y,Z,a0,a1,a2,a3,a4],S8)) ()) ()) ()) ()) ()) ()) ()) ()):=by
 kernel_rfl
theorem jg.r5 :jD zi ⟨false,false,false⟩ (zZ zi O) (reg Try.f9 5) (reg Try.f9 5).toList ([x0,b,x2,x3,x4,x5,x6,x7,x8,x9,c,d,f,g,i,k,l,m,n,o,p,q,r,s,t,u,w,x,y,z,A,B,C,D,E,F,G,H,I,J,K,L,M,N,P,Q,R,U,V,W,X,Y,Z,a0,a1,a2,a3,a4]) S =
  (zN (jh zi false 46 x2 S) (fun v1 S1=>zN ((zZ zi O) 21 [(.int .i64 2),(dem v1)] S1) (fun v2 S2=>zN ((zZ zi O) 10 [(dem (dem b)),(dem v2)] S2) (fun v3 S3=>some ([x0,b,x2,x3,v3,x5,x6,x7,x8,x9,c,d,f,dem b,v1,v2,dem v3,m,n,o,p,q,r,s,t,u,w,x,y,z,A,B,C,D,E,F,G,H,I,J,K,L,M,N,P,Q,R,U,V,W,X,Y,Z,a0,a1,a2,a3,a4],S3)) ()) ()) ()):=by
 kernel_rfl
theorem jg.r6 :jD zi ⟨false,false,false⟩ (zZ zi O) (reg Try.f9 6) (reg Try.f9 6).toList ([x0,b,x2,x3,x4,x5,x6,x7,x8,x9,c,d,f,g,i,k,l,m,n,o,p,q,r,s,t,u,w,x,y,z,A,B,C,D,E,F,G,H,I,J,K,L,M,N,P,Q,R,U,V,W,X,Y,Z,a0,a1,a2,a3,a4]) S =
  (zN (jh zi false 46 x2 S) (fun v1 S1=>zN ((zZ zi O) 21 [(.int .i64 1),(dem v1)] S1) (fun v2 S2=>zN ((zZ zi O) 12 [(dem (dem b)),(dem v2)] S2) (fun v3 S3=>some ([x0,b,x2,x3,x4,x5,x6,x7,x8,x9,c,d,f,g,i,k,l,dem b,v1,v2,v3,q,r,s,t,u,w,x,y,z,A,B,C,D,E,F,G,H,I,J,K,L,M,N,P,Q,R,U,V,W,X,Y,Z,a0,a1,a2,a3,a4],S3)) ()) ()) ()):=by
 kernel_rfl
theorem jg.r7 :jD zi ⟨false,false,false⟩ (zZ zi O) (reg Try.f9 7) (reg Try.f9 7).toList ([x0,b,x2,x3,x4,x5,x6,x7,x8,x9,c,d,f,g,i,k,l,m,n,o,p,q,r,s,t,u,w,x,y,z,A,B,C,D,E,F,G,H,I,J,K,L,M,N,P,Q,R,U,V,W,X,Y,Z,a0,a1,a2,a3,a4]) S =
  (zN (aUn zi UnOp.not (dem x4) S) (fun v1 S1=>gdK (dem v1) true (ret b) S1 (fun v3 S2=>gdK (dem v1) true (jh zi false 46 x2) S2 (fun v4 S3=>gdK (dem v1) true ((zZ zi O) 21 [(.int .i64 2),(dem v4)]) S3 (fun v5 S4=>gdK (dem v1) true ((zZ zi O) 10 [(dem (dem v3)),(dem v5)]) S4 (fun v6 S5=>zN (wX (dem v1) v6 (Value.bool false) S5) (fun v7 S6=>gdK (dem v7) true (ret b) S6 (fun v9 S7=>gdK (dem v7) true (jh zi false 46 x3) S7 (fun b0 S8=>gdK (dem v7) true ((zZ zi O) 21 [(.int .i64 2),(dem b0)]) S8 (fun b1 S9=>gdK (dem v7) true ((zZ zi O) 10 [(dem (dem v9)),(dem b1)]) S9 (fun b2 c8=>gdK (dem v7) true (aUn zi UnOp.not b2) c8 (fun b3 c9=>zN (wX (dem v7) b3 (Value.bool false) c9) (fun a5 d0=>gdK (dem a5) true (ret b) d0 (fun b4 d1=>gdK (dem a5) true (jh zi false 46 x2) d1 (fun b5 d2=>gdK (dem a5) true ((zZ zi O) 21 [(.int .i64 3),(dem b5)]) d2 (fun b6 d3=>gdK (dem a5) true ((zZ zi O) 10 [(dem (dem b4)),(dem b6)]) d3 (fun b7 d4=>gdK (dem a5) true (aUn zi UnOp.not b7) d4 (fun b8 d5=>zN (wX (dem a5) b8 (Value.bool false) d5) (fun a6 d6=>gdK (dem a6) true (ret b) d6 (fun b9 d7=>gdK (dem a6) true (jh zi false 46 x2) d7 (fun c0 d8=>gdK (dem a6) true ((zZ zi O) 21 [(.int .i64 1),(dem c0)]) d8 (fun c1 d9=>gdK (dem a6) true ((zZ zi O) 10 [(dem (dem b9)),(dem c1)]) d9 (fun c2 f0=>zN (wX (dem a6) c2 (Value.bool false) f0) (fun a8 f1=>gdK (dem a8) true (ret b) f1 (fun c3 f2=>gdK (dem a8) true ((zZ zi O) 11 [(dem (dem c3)),(.int .i64 2)]) f2 (fun c4 f3=>zN (wX (dem a8) c4 (Value.bool false) f3) (fun a7 f4=>gdK (dem a7) true (ret b) f4 (fun c5 f5=>gdK (dem a7) true ((zZ zi O) 11 [(dem (dem c5)),(.int .i64 1)]) f5 (fun c6 f6=>gdK (dem a7) true (aUn zi UnOp.not c6) f6 (fun c7 f7=>zN (wX (dem a7) c7 (Value.bool false) f7) (fun a9 f8=>some ([a9,b,x2,x3,x4,x5,x6,x7,x8,x9,c,d,f,g,i,k,l,m,n,o,p,dem x4,v1,dem v1,dem v3,v4,v5,v6,v7,dem v7,dem v9,b0,b1,b2,b3,a5,dem a5,dem b4,b5,b6,b7,b8,a6,dem a6,dem b9,c0,c1,c2,a8,dem a8,dem c3,c4,a7,dem a7,dem c5,c6,c7,dem a9],f8)) ()) ()) ()) ()) ()) ()) ()) ()) ()) ()) ()) ()) ()) ()) ()) ()) ()) ()) ()) ()) ()) ()) ()) ()) ()) ()) ()) ()) ()) ()):=by
 refine sP Try.f9 7 0 (v:=x4) ?_
 refine sD Try.f9 7 1 (fun v1 S1=>?_)
 refine sP Try.f9 7 2 (v:=v1) ?_
 refine sG Try.f9 7 3 (j:=2) (fun v3 S2=>?_)
 refine sG Try.f9 7 4 (j:=2) (fun v4 S3=>?_)
 refine sG Try.f9 7 5 (j:=2) (fun v5 S4=>?_)
 refine sG Try.f9 7 6 (j:=2) (fun v6 S5=>?_)
 refine sD Try.f9 7 7 (fun v7 S6=>?_)
 refine sP Try.f9 7 8 (v:=v7) ?_
 refine sG Try.f9 7 9 (j:=8) (fun v9 S7=>?_)
 refine sG Try.f9 7 10 (j:=8) (fun b0 S8=>?_)
 refine sG Try.f9 7 11 (j:=8) (fun b1 S9=>?_)
 refine sG Try.f9 7 12 (j:=8) (fun b2 c8=>?_)
 refine sG Try.f9 7 13 (j:=8) (fun b3 c9=>?_)
 refine sD Try.f9 7 14 (fun a5 d0=>?_)
 refine sP Try.f9 7 15 (v:=a5) ?_
 refine sG Try.f9 7 16 (j:=15) (fun b4 d1=>?_)
 refine sG Try.f9 7 17 (j:=15) (fun b5 d2=>?_)
 refine sG Try.f9 7 18 (j:=15) (fun b6 d3=>?_)
 refine sG Try.f9 7 19 (j:=15) (fun b7 d4=>?_)
 refine sG Try.f9 7 20 (j:=15) (fun b8 d5=>?_)
 refine sD Try.f9 7 21 (fun a6 d6=>?_)
 refine sP Try.f9 7 22 (v:=a6) ?_
 refine sG Try.f9 7 23 (j:=22) (fun b9 d7=>?_)
 refine sG Try.f9 7 24 (j:=22) (fun c0 d8=>?_)
 refine sG Try.f9 7 25 (j:=22) (fun c1 d9=>?_)
 refine sG Try.f9 7 26 (j:=22) (fun c2 f0=>?_)
 refine sD Try.f9 7 27 (fun a8 f1=>?_)
 refine sP Try.f9 7 28 (v:=a8) ?_
 refine sG Try.f9 7 29 (j:=28) (fun c3 f2=>?_)
 refine sG Try.f9 7 30 (j:=28) (fun c4 f3=>?_)
 refine sD Try.f9 7 31 (fun a7 f4=>?_)
 refine sP Try.f9 7 32 (v:=a7) ?_
 refine sG Try.f9 7 33 (j:=32) (fun c5 f5=>?_)
 refine sG Try.f9 7 34 (j:=32) (fun c6 f6=>?_)
 refine sG Try.f9 7 35 (j:=32) (fun c7 f7=>?_)
 refine sD Try.f9 7 36 (fun a9 f8=>?_)
 refine sP Try.f9 7 37 (v:=a9) ?_
 kernel_rfl
theorem jg.rs:type_of% (alG @jg.r0 (alG @jg.r1 (alG @jg.r2 (alG @jg.r3 (alG @jg.r4 (alG @jg.r5 (alG @jg.r6 (@jg.r7)))))))):=alG @jg.r0 (alG @jg.r1 (alG @jg.r2 (alG @jg.r3 (alG @jg.r4 (alG @jg.r5 (alG @jg.r6 (@jg.r7)))))))
theorem jg.runs {S S1:zy} {e:AEx} {T:List Value} (h:zJ zi O false jg.code ([zh,zh,zh,zh,zh,zh,zh,zh,zh,zh,zh,zh,zh,zh,zh,zh,zh,zh,zh,zh,zh,zh,zh,zh,zh,zh,zh,zh,zh,zh,zh,zh,zh,zh,zh,zh,zh,zh,zh,zh,zh,zh,zh,zh,zh,zh,zh,zh,zh,zh,zh,zh,zh,zh,zh,zh,zh,zh]) zy.empty=some (e,T,S1)) (he:e=.normal∨e=.ret) (hca:[].all (jW 16)=true) (hcv:jW 16 (T.getD 0 zh)=true):zZ zi O 9 [] S=some (T.getD 0 zh,S) :=
 yC rfl rfl Try.func9 (by decide) jg.body (by exact h) he (yH (a:=T.getD 0 zh) ((show zQ zi T S1 Try.f9.results.toList=zQ zi T S1 [(ResultVar.tmp 0)] from by kernel_rfl).trans (by simp only [zQ])) (by kernel_rfl)) hca hcv
end Go.Proofs.Ytfjogganfjkckaa
namespace Go.Proofs.Ytfjogganfjkckaa
open Go.Abs
abbrev jq.id:FuncId:=12
noncomputable def jq.code:Code:=(.seq (.region 0 (reg Try.f12 0) true) (.seq (.region 1 (reg Try.f12 1) false) (.seq (.seq (.region 2 (reg Try.f12 2) false) (.cond (.tmp 26) Code.ret Code.skip)) (.seq (.region 3 (reg Try.f12 3) false) (.seq (.region 4 (reg Try.f12 4) false) (.seq (.region 5 (reg Try.f12 5) false) (.cond (.tmp 40) (.region 6 (reg Try.f12 6) true) Code.skip)))))))
theorem jq.body:Try.f12.body=some jq.code:=by kernel_rfl
variable (b c x2 x3 x4 x5 Y x7 x8 x9 d f g i k l m n o p q r s t u w x y z A B C D E F G H I J K L M N P Q R U V W:Value) (S:zy)
theorem jq.d0:qW zi (reg Try.f12 0)=true:=by kernel_rfl
theorem jq.ff0:fixed zi (reg Try.f12 0)=false:=by kernel_rfl
theorem jq.k0:checked zi (reg Try.f12 0)=[]:=by kernel_rfl
theorem jq.g0:again zi (reg Try.f12 0)=[]:=by kernel_rfl
theorem jq.r0 :zJ zi O false (.region 0 (reg Try.f12 0) true) ([b,c,x2,x3,x4,x5,Y,x7,x8,x9,d,f,g,i,k,l,m,n,o,p,q,r,s,t,u,w,x,y,z,A,B,C,D,E,F,G,H,I,J,K,L,M,N,P,Q,R,U,V,W]) S =
  Ja (zN (xk (dem b) S) (fun a Z=>zN (zF zi 62 a 1 Z) (fun v2 S2=>zN (jh zi false 59 v2 S2) (fun v3 S3=>zN (qU zi false false 33 9 (dem c) S3) (fun X S4=>zN (qo zi 59 v3 X (Value.bool true) S4) (fun v6 S5=>some ([b,c,x2,x3,x4,x5,Y,x7,x8,dem b,a,v2,v3,dem c,X,l,m,n,o,p,q,r,s,t,u,w,x,y,z,A,B,C,D,E,F,G,H,I,J,K,L,M,N,P,Q,R,U,V,W],S5)) ()) ()) ()) ()) ()):=by
 rw [yF jq.d0 jq.ff0 jq.k0 jq.g0]
 refine congrArg Ja ?_
 refine tP Try.f12 0 0 (v:=b) ?_
 refine tD Try.f12 0 1 (fun a Z=>?_)
 refine tD Try.f12 0 2 (fun v2 S2=>?_)
 refine tD Try.f12 0 3 (fun v3 S3=>?_)
 refine tP Try.f12 0 4 (v:=c) ?_
 refine tD Try.f12 0 5 (fun X S4=>?_)
 refine tD Try.f12 0 6 (fun v6 S5=>?_)
 kernel_rfl
theorem jq.r1 :jD zi ⟨false,false,false⟩ (zZ zi O) (reg Try.f12 1) (reg Try.f12 1).toList ([b,c,x2,x3,x4,x5,Y,x7,x8,x9,d,f,g,i,k,l,m,n,o,p,q,r,s,t,u,w,x,y,z,A,B,C,D,E,F,G,H,I,J,K,L,M,N,P,Q,R,U,V,W]) S =
  (zN ((zZ zi O) 22 [(dem (dem c))] S) (fun a Z=>zN (jc a 0 Z) (fun v3 S2=>zN (jc (zV 0 a) 1 S2) (fun v4 S3=>zN (yI zi 48 S3) (fun X S4=>zN (wU zi 48 X (dem v3) S4) (fun v6 S5=>some ([b,c,x2,x3,X,v4,Y,x7,x8,x9,d,f,g,i,k,zV 1 (zV 0 a),dem c,dem a,v3,dem v4,q,r,s,t,u,w,x,y,z,A,B,C,D,E,F,G,H,I,J,K,L,M,N,P,Q,R,U,V,W],S5)) ()) ()) ()) ()) ()):=by
 kernel_rfl
theorem jq.r2 :jD zi ⟨false,false,false⟩ (zZ zi O) (reg Try.f12 2) (reg Try.f12 2).toList ([b,c,x2,x3,x4,x5,Y,x7,x8,x9,d,f,g,i,k,l,m,n,o,p,q,r,s,t,u,w,x,y,z,A,B,C,D,E,F,G,H,I,J,K,L,M,N,P,Q,R,U,V,W]) S =
  (zN (wI zi BinOp.neq 64 (dem x5) (.int .i64 0) S) (fun a Z=>gdK (dem a) false (zF zi 48 x4 0) Z (fun v3 S2=>gdK (dem a) false (jh zi false 3 v3) S2 (fun v4 S3=>gdK (dem a) false (wI zi BinOp.neq 3 v4 (.int .i64 1)) S3 (fun X S4=>zN (wX (dem a) (Value.bool true) X S4) (fun v6 S5=>some ([b,c,x2,x3,x4,x5,Y,x7,x8,x9,d,f,g,i,k,l,m,n,o,p,dem x5,a,dem a,v3,v4,X,v6,y,z,A,B,C,D,E,F,G,H,I,J,K,L,M,N,P,Q,R,U,V,W],S5)) ()) ()) ()) ()) ()):=by
 refine sP Try.f12 2 0 (v:=x5) ?_
 refine sD Try.f12 2 1 (fun a Z=>?_)
 refine sP Try.f12 2 2 (v:=a) ?_
 refine sG Try.f12 2 3 (j:=2) (fun v3 S2=>?_)
 refine sG Try.f12 2 4 (j:=2) (fun v4 S3=>?_)
 refine sG Try.f12 2 5 (j:=2) (fun X S4=>?_)
 refine sD Try.f12 2 6 (fun v6 S5=>?_)
 kernel_rfl
theorem jq.r3 :jD zi ⟨false,false,false⟩ (zZ zi O) (reg Try.f12 3) (reg Try.f12 3).toList ([b,c,x2,x3,x4,x5,Y,x7,x8,x9,d,f,g,i,k,l,m,n,o,p,q,r,s,t,u,w,x,y,z,A,B,C,D,E,F,G,H,I,J,K,L,M,N,P,Q,R,U,V,W]) S =
  (zN (zF zi 48 x4 7 S) (fun v0 Z=>zN (jh zi false 46 v0 Z) (fun a S2=>zN ((zZ zi O) 23 [(dem a)] S2) (fun v2 S3=>some ([b,c,x2,x3,x4,x5,v2,x7,x8,x9,d,f,g,i,k,l,m,n,o,p,q,r,s,t,u,w,x,v0,a,dem v2,B,C,D,E,F,G,H,I,J,K,L,M,N,P,Q,R,U,V,W],S3)) ()) ()) ()):=by
 kernel_rfl
theorem jq.r4 :jD zi ⟨false,false,false⟩ (zZ zi O) (reg Try.f12 4) (reg Try.f12 4).toList ([b,c,x2,x3,x4,x5,Y,x7,x8,x9,d,f,g,i,k,l,m,n,o,p,q,r,s,t,u,w,x,y,z,A,B,C,D,E,F,G,H,I,J,K,L,M,N,P,Q,R,U,V,W]) S =
  (zN (xk (dem b) S) (fun a Z=>zN (zF zi 62 a 2 Z) (fun v2 S2=>zN (jh zi false 60 v2 S2) (fun v3 S3=>zN (vX zi false 60 v3 (dem Y) true S3) (fun X S4=>zN (jc X 0 S4) (fun v7 S5=>zN (jc (zV 0 X) 1 S5) (fun v8 S6=>some ([b,c,x2,x3,x4,x5,Y,v7,v8,x9,d,f,g,i,k,l,m,n,o,p,q,r,s,t,u,w,x,y,z,A,zV 1 (zV 0 X),dem b,a,v2,v3,dem Y,dem X,dem v7,dem v8,K,L,M,N,P,Q,R,U,V,W],S6)) ()) ()) ()) ()) ()) ()):=by
 kernel_rfl
theorem jq.r5 :jD zi ⟨false,false,false⟩ (zZ zi O) (reg Try.f12 5) (reg Try.f12 5).toList ([b,c,x2,x3,x4,x5,Y,x7,x8,x9,d,f,g,i,k,l,m,n,o,p,q,r,s,t,u,w,x,y,z,A,B,C,D,E,F,G,H,I,J,K,L,M,N,P,Q,R,U,V,W]) S =
  (zN (aUn zi UnOp.not (dem x8) S) (fun a Z=>some ([b,c,x2,x3,x4,x5,Y,x7,x8,x9,d,f,g,i,k,l,m,n,o,p,q,r,s,t,u,w,x,y,z,A,B,C,D,E,F,G,H,I,J,dem x8,a,M,N,P,Q,R,U,V,W],Z)) ()):=by
 kernel_rfl
theorem jq.d6:qW zi (reg Try.f12 6)=true:=by kernel_rfl
theorem jq.ff6:fixed zi (reg Try.f12 6)=false:=by kernel_rfl
theorem jq.k6:checked zi (reg Try.f12 6)=[0,1,2,3,4]:=by kernel_rfl
theorem jq.g6:again zi (reg Try.f12 6)=[(3,7)]:=by kernel_rfl
theorem jq.r6 :zJ zi O false (.region 6 (reg Try.f12 6) true) ([b,c,x2,x3,x4,x5,Y,x7,x8,x9,d,f,g,i,k,l,m,n,o,p,q,r,s,t,u,w,x,y,z,A,B,C,D,E,F,G,H,I,J,K,L,M,N,P,Q,R,U,V,W]) S =
  Ja (okK b ( zN (xk (dem b) S) (fun a Z=>okK a ( zN (zF zi 62 a 2 Z) (fun v2 S2=>okK v2 ( zN (jh zi false 60 v2 S2) (fun v3 S3=>okK v3 ( okK Y ( zN (zF zi 48 x4 7 S3) (fun X S4=>zN (jh zi false 46 X S4) (fun v6 S5=>zN ((zZ zi O) 24 [(dem v6)] S5) (fun v7 S6=>zN (qo zi 60 v3 (dem Y) (dem v7) S6) (fun v8 S7=>ckK (qN v2 S2 S6 && (true)) (some ([b,c,x2,x3,x4,x5,Y,x7,x8,x9,d,f,g,i,k,l,m,n,o,p,q,r,s,t,u,w,x,y,z,A,B,C,D,E,F,G,H,I,J,K,L,dem b,a,v2,v3,dem Y,X,v6,v7],S7)) ()) ()) ()) ()) ()) ()) ()) ()) ()) ()) ()) ()) ()):=by
 rw [yF jq.d6 jq.ff6 jq.k6 jq.g6]
 refine congrArg Ja ?_
 refine uPC Try.f12 6 0 (v:=b) (pe:=zh) ?_
 refine uDC Try.f12 6 1 (pe:=zh) (fun a Z=>?_)
 refine uDC Try.f12 6 2 (pe:=zh) (fun v2 S2=>?_)
 refine uDC Try.f12 6 3 (pe:=v2) (fun v3 S3=>?_)
 refine uPC Try.f12 6 4 (v:=Y) (pe:=zh) ?_
 refine uD Try.f12 6 5 (pe:=zh) (fun X S4=>?_)
 refine uD Try.f12 6 6 (pe:=X) (fun v6 S5=>?_)
 refine uD Try.f12 6 7 (pe:=zh) (fun v7 S6=>?_)
 refine uD Try.f12 6 8 (pe:=zh) (fun v8 S7=>?_)
 kernel_rfl
theorem jq.rs:type_of% (alG @jq.r0 (alG @jq.r1 (alG @jq.r2 (alG @jq.r3 (alG @jq.r4 (alG @jq.r5 (@jq.r6))))))):=alG @jq.r0 (alG @jq.r1 (alG @jq.r2 (alG @jq.r3 (alG @jq.r4 (alG @jq.r5 (@jq.r6))))))
theorem jq.runs {b c:Value} {S Z:zy} {e:AEx} {T:List Value} (h:zJ zi O false jq.code ([b,c,zh,zh,zh,zh,zh,zh,zh,zh,zh,zh,zh,zh,zh,zh,zh,zh,zh,zh,zh,zh,zh,zh,zh,zh,zh,zh,zh,zh,zh,zh,zh,zh,zh,zh,zh,zh,zh,zh,zh,zh,zh,zh,zh,zh,zh,zh,zh]) S=some (e,T,Z)) (he:e=.normal∨e=.ret):zZ zi O 12 [b,c] S=some (Value.tuple #[],Z) :=
 yL rfl rfl Try.func12 (by decide) jq.body (by exact h) he rfl
end Go.Proofs.Ytfjogganfjkckaa
namespace Go.Proofs.Ytfjogganfjkckaa
open Go.Abs
abbrev zM.id:FuncId:=10
noncomputable def zM.code:Code:=(.seq (.region 0 (reg Try.f10 0) false) (.seq (.region 1 (reg Try.f10 1) false) (.seq (.block 0 (.seq (.region 2 (reg Try.f10 2) false) (.cond (.tmp 15) (.seq (.region 3 (reg Try.f10 3) false) Code.ret) (.seq (.region 4 (reg Try.f10 4) true) (.cond (.tmp 18) (.seq (.region 5 (reg Try.f10 5) false) Code.ret) (.seq (.region 6 (reg Try.f10 6) false) (.cond (.tmp 26) (.seq (.region 7 (reg Try.f10 7) false) Code.ret) (.seq (.region 8 (reg Try.f10 8) false) (.cond (.tmp 32) (.seq (.region 9 (reg Try.f10 9) false) Code.ret) Code.skip))))))))) (.seq (.region 10 (reg Try.f10 10) false) (.seq (.region 11 (reg Try.f10 11) false) (.seq (.seq (.region 12 (reg Try.f10 12) false) (.cond (.tmp 48) (.seq (.region 13 (reg Try.f10 13) false) Code.ret) Code.skip)) (.seq (.seq (.region 14 (reg Try.f10 14) false) (.cond (.tmp 59) (.seq (.region 15 (reg Try.f10 15) false) Code.ret) Code.skip)) (.seq (.region 16 (reg Try.f10 16) true) (.seq (.region 17 (reg Try.f10 17) false) Code.ret)))))))))
theorem zM.body:Try.f10.body=some zM.code:=by kernel_rfl
variable (x0 x1 x2 x3 x4 x5 x6 x7 x8 x9 b c d f g i j k l m n o p q r s t u w x y z A B C D E F G H I J K L M N P Q R U V W X Y Z a0 a1 a2 a3 a4 a5 a6 a7 a8 a9 b0 b1 b2:Value) (S:zy)
theorem zM.r0 :jD zi ⟨false,false,false⟩ (zZ zi O) (reg Try.f10 0) (reg Try.f10 0).toList ([x0,x1,x2,x3,x4,x5,x6,x7,x8,x9,b,c,d,f,g,i,j,k,l,m,n,o,p,q,r,s,t,u,w,x,y,z,A,B,C,D,E,F,G,H,I,J,K,L,M,N,P,Q,R,U,V,W,X,Y,Z,a0,a1,a2,a3,a4,a5,a6,a7,a8,a9,b0,b1,b2]) S =
  ( some ([x0,x1,x2,x3,Value.bool false,x5,x6,x7,x8,x9,b,c,d,f,g,i,j,k,l,m,n,o,p,q,r,s,t,u,w,x,y,z,A,B,C,D,E,F,G,H,I,J,K,L,M,N,P,Q,R,U,V,W,X,Y,Z,a0,a1,a2,a3,a4,a5,a6,a7,a8,a9,b0,b1,b2],S)):=by
 kernel_rfl
theorem zM.r1 :jD zi ⟨false,false,false⟩ (zZ zi O) (reg Try.f10 1) (reg Try.f10 1).toList ([x0,x1,x2,x3,x4,x5,x6,x7,x8,x9,b,c,d,f,g,i,j,k,l,m,n,o,p,q,r,s,t,u,w,x,y,z,A,B,C,D,E,F,G,H,I,J,K,L,M,N,P,Q,R,U,V,W,X,Y,Z,a0,a1,a2,a3,a4,a5,a6,a7,a8,a9,b0,b1,b2]) S =
  (zN ((zZ zi O) 22 [(dem (dem x1))] S) (fun v1 S1=>zN (jc v1 0 S1) (fun v3 S2=>zN (jc (zV 0 v1) 1 S2) (fun v4 S3=>zN (yI zi 48 S3) (fun v5 S4=>zN (wU zi 48 v5 (dem v3) S4) (fun v6 S5=>some ([x0,x1,x2,x3,x4,v5,v4,x7,x8,x9,zV 1 (zV 0 v1),dem x1,dem v1,v3,dem v4,i,j,k,l,m,n,o,p,q,r,s,t,u,w,x,y,z,A,B,C,D,E,F,G,H,I,J,K,L,M,N,P,Q,R,U,V,W,X,Y,Z,a0,a1,a2,a3,a4,a5,a6,a7,a8,a9,b0,b1,b2],S5)) ()) ()) ()) ()) ()):=by
 kernel_rfl
theorem zM.r2 :jD zi ⟨false,false,false⟩ (zZ zi O) (reg Try.f10 2) (reg Try.f10 2).toList ([x0,x1,x2,x3,x4,x5,x6,x7,x8,x9,b,c,d,f,g,i,j,k,l,m,n,o,p,q,r,s,t,u,w,x,y,z,A,B,C,D,E,F,G,H,I,J,K,L,M,N,P,Q,R,U,V,W,X,Y,Z,a0,a1,a2,a3,a4,a5,a6,a7,a8,a9,b0,b1,b2]) S =
  (zN (wI zi BinOp.neq 64 (dem x6) (.int .i64 0) S) (fun v1 S1=>some ([x0,x1,x2,x3,x4,x5,x6,x7,x8,x9,b,c,d,f,g,v1,dem x6,dem v1,l,m,n,o,p,q,r,s,t,u,w,x,y,z,A,B,C,D,E,F,G,H,I,J,K,L,M,N,P,Q,R,U,V,W,X,Y,Z,a0,a1,a2,a3,a4,a5,a6,a7,a8,a9,b0,b1,b2],S1)) ()):=by
 kernel_rfl
theorem zM.r3 :jD zi ⟨false,false,false⟩ (zZ zi O) (reg Try.f10 3) (reg Try.f10 3).toList ([x0,x1,x2,x3,x4,x5,x6,x7,x8,x9,b,c,d,f,g,i,j,k,l,m,n,o,p,q,r,s,t,u,w,x,y,z,A,B,C,D,E,F,G,H,I,J,K,L,M,N,P,Q,R,U,V,W,X,Y,Z,a0,a1,a2,a3,a4,a5,a6,a7,a8,a9,b0,b1,b2]) S =
  ( some ([x0,x1,x2,x3,Value.bool false,x5,x6,x7,x8,x9,b,c,d,f,g,i,j,k,l,m,n,o,p,q,r,s,t,u,w,x,y,z,A,B,C,D,E,F,G,H,I,J,K,L,M,N,P,Q,R,U,V,W,X,Y,Z,a0,a1,a2,a3,a4,a5,a6,a7,a8,a9,b0,b1,b2],S)):=by
 kernel_rfl
theorem zM.d4:qW zi (reg Try.f10 4)=true:=by kernel_rfl
theorem zM.ff4:fixed zi (reg Try.f10 4)=false:=by kernel_rfl
theorem zM.k4:checked zi (reg Try.f10 4)=[]:=by kernel_rfl
theorem zM.g4:again zi (reg Try.f10 4)=[]:=by kernel_rfl
theorem zM.r4 :zJ zi O false (.region 4 (reg Try.f10 4) true) ([x0,x1,x2,x3,x4,x5,x6,x7,x8,x9,b,c,d,f,g,i,j,k,l,m,n,o,p,q,r,s,t,u,w,x,y,z,A,B,C,D,E,F,G,H,I,J,K,L,M,N,P,Q,R,U,V,W,X,Y,Z,a0,a1,a2,a3,a4,a5,a6,a7,a8,a9,b0,b1,b2]) S =
  Ja (zN (xk (dem x0) S) (fun v1 S1=>zN (zF zi 62 v1 1 S1) (fun v2 S2=>zN (jh zi false 59 v2 S2) (fun v3 S3=>zN (qU zi false false 33 9 (dem x1) S3) (fun v5 S4=>zN (vX zi false 59 v3 v5 false S4) (fun v6 S5=>some ([x0,x1,x2,x3,x4,x5,x6,x7,x8,x9,b,c,d,f,g,i,j,k,v6,dem x0,v1,v2,v3,dem x1,v5,dem v6,t,u,w,x,y,z,A,B,C,D,E,F,G,H,I,J,K,L,M,N,P,Q,R,U,V,W,X,Y,Z,a0,a1,a2,a3,a4,a5,a6,a7,a8,a9,b0,b1,b2],S5)) ()) ()) ()) ()) ()):=by
 rw [yF zM.d4 zM.ff4 zM.k4 zM.g4]
 refine congrArg Ja ?_
 refine tP Try.f10 4 0 (v:=x0) ?_
 refine tD Try.f10 4 1 (fun v1 S1=>?_)
 refine tD Try.f10 4 2 (fun v2 S2=>?_)
 refine tD Try.f10 4 3 (fun v3 S3=>?_)
 refine tP Try.f10 4 4 (v:=x1) ?_
 refine tD Try.f10 4 5 (fun v5 S4=>?_)
 refine tD Try.f10 4 6 (fun v6 S5=>?_)
 refine tP Try.f10 4 7 (v:=v6) ?_
 kernel_rfl
theorem zM.r5 :jD zi ⟨false,false,false⟩ (zZ zi O) (reg Try.f10 5) (reg Try.f10 5).toList ([x0,x1,x2,x3,x4,x5,x6,x7,x8,x9,b,c,d,f,g,i,j,k,l,m,n,o,p,q,r,s,t,u,w,x,y,z,A,B,C,D,E,F,G,H,I,J,K,L,M,N,P,Q,R,U,V,W,X,Y,Z,a0,a1,a2,a3,a4,a5,a6,a7,a8,a9,b0,b1,b2]) S =
  ( some ([x0,x1,x2,x3,Value.bool true,x5,x6,x7,x8,x9,b,c,d,f,g,i,j,k,l,m,n,o,p,q,r,s,t,u,w,x,y,z,A,B,C,D,E,F,G,H,I,J,K,L,M,N,P,Q,R,U,V,W,X,Y,Z,a0,a1,a2,a3,a4,a5,a6,a7,a8,a9,b0,b1,b2],S)):=by
 kernel_rfl
theorem zM.r6 :jD zi ⟨false,false,false⟩ (zZ zi O) (reg Try.f10 6) (reg Try.f10 6).toList ([x0,x1,x2,x3,x4,x5,x6,x7,x8,x9,b,c,d,f,g,i,j,k,l,m,n,o,p,q,r,s,t,u,w,x,y,z,A,B,C,D,E,F,G,H,I,J,K,L,M,N,P,Q,R,U,V,W,X,Y,Z,a0,a1,a2,a3,a4,a5,a6,a7,a8,a9,b0,b1,b2]) S =
  (zN (zF zi 48 x5 1 S) (fun v1 S1=>zN (jh zi false 3 v1 S1) (fun v2 S2=>zN ((zZ zi O) 11 [(dem (dem x0)),(dem v2)] S2) (fun v3 S3=>zN (aUn zi UnOp.not v3 S3) (fun v4 S4=>some ([x0,x1,x2,x3,x4,x5,x6,x7,x8,x9,b,c,d,f,g,i,j,k,l,m,n,o,p,q,r,s,v4,dem x0,v1,v2,v3,dem v4,A,B,C,D,E,F,G,H,I,J,K,L,M,N,P,Q,R,U,V,W,X,Y,Z,a0,a1,a2,a3,a4,a5,a6,a7,a8,a9,b0,b1,b2],S4)) ()) ()) ()) ()):=by
 kernel_rfl
theorem zM.r7 :jD zi ⟨false,false,false⟩ (zZ zi O) (reg Try.f10 7) (reg Try.f10 7).toList ([x0,x1,x2,x3,x4,x5,x6,x7,x8,x9,b,c,d,f,g,i,j,k,l,m,n,o,p,q,r,s,t,u,w,x,y,z,A,B,C,D,E,F,G,H,I,J,K,L,M,N,P,Q,R,U,V,W,X,Y,Z,a0,a1,a2,a3,a4,a5,a6,a7,a8,a9,b0,b1,b2]) S =
  ( some ([x0,x1,x2,x3,Value.bool false,x5,x6,x7,x8,x9,b,c,d,f,g,i,j,k,l,m,n,o,p,q,r,s,t,u,w,x,y,z,A,B,C,D,E,F,G,H,I,J,K,L,M,N,P,Q,R,U,V,W,X,Y,Z,a0,a1,a2,a3,a4,a5,a6,a7,a8,a9,b0,b1,b2],S)):=by
 kernel_rfl
theorem zM.r8 :jD zi ⟨false,false,false⟩ (zZ zi O) (reg Try.f10 8) (reg Try.f10 8).toList ([x0,x1,x2,x3,x4,x5,x6,x7,x8,x9,b,c,d,f,g,i,j,k,l,m,n,o,p,q,r,s,t,u,w,x,y,z,A,B,C,D,E,F,G,H,I,J,K,L,M,N,P,Q,R,U,V,W,X,Y,Z,a0,a1,a2,a3,a4,a5,a6,a7,a8,a9,b0,b1,b2]) S =
  (zN (zF zi 48 x5 0 S) (fun v0 S1=>zN (jh zi false 3 v0 S1) (fun v1 S2=>zN (wI zi BinOp.neq 3 v1 (.int .i64 1) S2) (fun v2 S3=>some ([x0,x1,x2,x3,x4,x5,x6,x7,x8,x9,b,c,d,f,g,i,j,k,l,m,n,o,p,q,r,s,t,u,w,x,y,z,v2,v0,v1,dem v2,E,F,G,H,I,J,K,L,M,N,P,Q,R,U,V,W,X,Y,Z,a0,a1,a2,a3,a4,a5,a6,a7,a8,a9,b0,b1,b2],S3)) ()) ()) ()):=by
 kernel_rfl
theorem zM.r9 :jD zi ⟨false,false,false⟩ (zZ zi O) (reg Try.f10 9) (reg Try.f10 9).toList ([x0,x1,x2,x3,x4,x5,x6,x7,x8,x9,b,c,d,f,g,i,j,k,l,m,n,o,p,q,r,s,t,u,w,x,y,z,A,B,C,D,E,F,G,H,I,J,K,L,M,N,P,Q,R,U,V,W,X,Y,Z,a0,a1,a2,a3,a4,a5,a6,a7,a8,a9,b0,b1,b2]) S =
  ( some ([x0,x1,x2,x3,Value.bool true,x5,x6,x7,x8,x9,b,c,d,f,g,i,j,k,l,m,n,o,p,q,r,s,t,u,w,x,y,z,A,B,C,D,E,F,G,H,I,J,K,L,M,N,P,Q,R,U,V,W,X,Y,Z,a0,a1,a2,a3,a4,a5,a6,a7,a8,a9,b0,b1,b2],S)):=by
 kernel_rfl
theorem zM.r10 :jD zi ⟨false,false,false⟩ (zZ zi O) (reg Try.f10 10) (reg Try.f10 10).toList ([x0,x1,x2,x3,x4,x5,x6,x7,x8,x9,b,c,d,f,g,i,j,k,l,m,n,o,p,q,r,s,t,u,w,x,y,z,A,B,C,D,E,F,G,H,I,J,K,L,M,N,P,Q,R,U,V,W,X,Y,Z,a0,a1,a2,a3,a4,a5,a6,a7,a8,a9,b0,b1,b2]) S =
  (zN (zF zi 48 x5 7 S) (fun v0 S1=>zN (jh zi false 46 v0 S1) (fun v1 S2=>zN ((zZ zi O) 23 [(dem v1)] S2) (fun v2 S3=>some ([x0,x1,x2,x3,x4,x5,x6,v2,x8,x9,b,c,d,f,g,i,j,k,l,m,n,o,p,q,r,s,t,u,w,x,y,z,A,B,C,D,v0,v1,dem v2,H,I,J,K,L,M,N,P,Q,R,U,V,W,X,Y,Z,a0,a1,a2,a3,a4,a5,a6,a7,a8,a9,b0,b1,b2],S3)) ()) ()) ()):=by
 kernel_rfl
theorem zM.r11 :jD zi ⟨false,false,false⟩ (zZ zi O) (reg Try.f10 11) (reg Try.f10 11).toList ([x0,x1,x2,x3,x4,x5,x6,x7,x8,x9,b,c,d,f,g,i,j,k,l,m,n,o,p,q,r,s,t,u,w,x,y,z,A,B,C,D,E,F,G,H,I,J,K,L,M,N,P,Q,R,U,V,W,X,Y,Z,a0,a1,a2,a3,a4,a5,a6,a7,a8,a9,b0,b1,b2]) S =
  (zN (xk (dem x0) S) (fun v1 S1=>zN (zF zi 62 v1 2 S1) (fun v2 S2=>zN (jh zi false 60 v2 S2) (fun v3 S3=>zN (vX zi false 60 v3 (dem x7) true S3) (fun v5 S4=>zN (jc v5 0 S4) (fun v7 S5=>zN (jc (zV 0 v5) 1 S5) (fun v8 S6=>some ([x0,x1,x2,x3,x4,x5,x6,x7,v7,v8,b,c,d,f,g,i,j,k,l,m,n,o,p,q,r,s,t,u,w,x,y,z,A,B,C,D,E,F,G,zV 1 (zV 0 v5),dem x0,v1,v2,v3,dem x7,dem v5,dem v7,dem v8,R,U,V,W,X,Y,Z,a0,a1,a2,a3,a4,a5,a6,a7,a8,a9,b0,b1,b2],S6)) ()) ()) ()) ()) ()) ()):=by
 kernel_rfl
theorem zM.r12 :jD zi ⟨false,false,false⟩ (zZ zi O) (reg Try.f10 12) (reg Try.f10 12).toList ([x0,x1,x2,x3,x4,x5,x6,x7,x8,x9,b,c,d,f,g,i,j,k,l,m,n,o,p,q,r,s,t,u,w,x,y,z,A,B,C,D,E,F,G,H,I,J,K,L,M,N,P,Q,R,U,V,W,X,Y,Z,a0,a1,a2,a3,a4,a5,a6,a7,a8,a9,b0,b1,b2]) S =
  ( some ([x0,x1,x2,x3,x4,x5,x6,x7,x8,x9,b,c,d,f,g,i,j,k,l,m,n,o,p,q,r,s,t,u,w,x,y,z,A,B,C,D,E,F,G,H,I,J,K,L,M,N,P,Q,dem x9,U,V,W,X,Y,Z,a0,a1,a2,a3,a4,a5,a6,a7,a8,a9,b0,b1,b2],S)):=by
 kernel_rfl
theorem zM.r13 :jD zi ⟨false,false,false⟩ (zZ zi O) (reg Try.f10 13) (reg Try.f10 13).toList ([x0,x1,x2,x3,x4,x5,x6,x7,x8,x9,b,c,d,f,g,i,j,k,l,m,n,o,p,q,r,s,t,u,w,x,y,z,A,B,C,D,E,F,G,H,I,J,K,L,M,N,P,Q,R,U,V,W,X,Y,Z,a0,a1,a2,a3,a4,a5,a6,a7,a8,a9,b0,b1,b2]) S =
  (zN (zF zi 48 x5 7 S) (fun v1 S1=>zN (jh zi false 46 v1 S1) (fun v2 S2=>zN ((zZ zi O) 24 [(dem v2)] S2) (fun v3 S3=>zN (wI zi BinOp.eql 9 (dem x8) v3 S3) (fun v4 S4=>some ([x0,x1,x2,x3,v4,x5,x6,x7,x8,x9,b,c,d,f,g,i,j,k,l,m,n,o,p,q,r,s,t,u,w,x,y,z,A,B,C,D,E,F,G,H,I,J,K,L,M,N,P,Q,R,dem x8,v1,v2,v3,dem v4,Z,a0,a1,a2,a3,a4,a5,a6,a7,a8,a9,b0,b1,b2],S4)) ()) ()) ()) ()):=by
 kernel_rfl
theorem zM.r14 :jD zi ⟨false,false,false⟩ (zZ zi O) (reg Try.f10 14) (reg Try.f10 14).toList ([x0,x1,x2,x3,x4,x5,x6,x7,x8,x9,b,c,d,f,g,i,j,k,l,m,n,o,p,q,r,s,t,u,w,x,y,z,A,B,C,D,E,F,G,H,I,J,K,L,M,N,P,Q,R,U,V,W,X,Y,Z,a0,a1,a2,a3,a4,a5,a6,a7,a8,a9,b0,b1,b2]) S =
  (zN (zF zi 48 x5 7 S) (fun v1 S1=>zN (zF zi 46 v1 1 S1) (fun v2 S2=>zN (jh zi false 3 v2 S2) (fun v3 S3=>zN ((zZ zi O) 11 [(dem (dem x0)),(dem v3)] S3) (fun v4 S4=>zN (aUn zi UnOp.not v4 S4) (fun v5 S5=>some ([x0,x1,x2,x3,x4,x5,x6,x7,x8,x9,b,c,d,f,g,i,j,k,l,m,n,o,p,q,r,s,t,u,w,x,y,z,A,B,C,D,E,F,G,H,I,J,K,L,M,N,P,Q,R,U,V,W,X,Y,dem x0,v1,v2,v3,v4,v5,a5,a6,a7,a8,a9,b0,b1,b2],S5)) ()) ()) ()) ()) ()):=by
 kernel_rfl
theorem zM.r15 :jD zi ⟨false,false,false⟩ (zZ zi O) (reg Try.f10 15) (reg Try.f10 15).toList ([x0,x1,x2,x3,x4,x5,x6,x7,x8,x9,b,c,d,f,g,i,j,k,l,m,n,o,p,q,r,s,t,u,w,x,y,z,A,B,C,D,E,F,G,H,I,J,K,L,M,N,P,Q,R,U,V,W,X,Y,Z,a0,a1,a2,a3,a4,a5,a6,a7,a8,a9,b0,b1,b2]) S =
  ( some ([x0,x1,x2,x3,Value.bool false,x5,x6,x7,x8,x9,b,c,d,f,g,i,j,k,l,m,n,o,p,q,r,s,t,u,w,x,y,z,A,B,C,D,E,F,G,H,I,J,K,L,M,N,P,Q,R,U,V,W,X,Y,Z,a0,a1,a2,a3,a4,a5,a6,a7,a8,a9,b0,b1,b2],S)):=by
 kernel_rfl
theorem zM.d16:qW zi (reg Try.f10 16)=true:=by kernel_rfl
theorem zM.ak5:fixed zi (reg Try.f10 16)=false:=by kernel_rfl
theorem zM.k16:checked zi (reg Try.f10 16)=[0,1,2,3,4]:=by kernel_rfl
theorem zM.g16:again zi (reg Try.f10 16)=[(3,7)]:=by kernel_rfl
theorem zM.r16 :zJ zi O false (.region 16 (reg Try.f10 16) true) ([x0,x1,x2,x3,x4,x5,x6,x7,x8,x9,b,c,d,f,g,i,j,k,l,m,n,o,p,q,r,s,t,u,w,x,y,z,A,B,C,D,E,F,G,H,I,J,K,L,M,N,P,Q,R,U,V,W,X,Y,Z,a0,a1,a2,a3,a4,a5,a6,a7,a8,a9,b0,b1,b2]) S =
  Ja (okK x0 ( zN (xk (dem x0) S) (fun v1 S1=>okK v1 ( zN (zF zi 62 v1 2 S1) (fun v2 S2=>okK v2 ( zN (jh zi false 60 v2 S2) (fun v3 S3=>okK v3 ( okK x7 ( zN (zF zi 48 x5 7 S3) (fun v5 S4=>zN (jh zi false 46 v5 S4) (fun v6 S5=>zN ((zZ zi O) 24 [(dem v6)] S5) (fun v7 S6=>zN (qo zi 60 v3 (dem x7) (dem v7) S6) (fun v8 S7=>ckK (qN v2 S2 S6 && (true)) (some ([x0,x1,x2,x3,x4,x5,x6,x7,x8,x9,b,c,d,f,g,i,j,k,l,m,n,o,p,q,r,s,t,u,w,x,y,z,A,B,C,D,E,F,G,H,I,J,K,L,M,N,P,Q,R,U,V,W,X,Y,Z,a0,a1,a2,a3,a4,dem x0,v1,v2,v3,dem x7,v5,v6,v7],S7)) ()) ()) ()) ()) ()) ()) ()) ()) ()) ()) ()) ()) ()):=by
 rw [yF zM.d16 zM.ak5 zM.k16 zM.g16]
 refine congrArg Ja ?_
 refine uPC Try.f10 16 0 (v:=x0) (pe:=zh) ?_
 refine uDC Try.f10 16 1 (pe:=zh) (fun v1 S1=>?_)
 refine uDC Try.f10 16 2 (pe:=zh) (fun v2 S2=>?_)
 refine uDC Try.f10 16 3 (pe:=v2) (fun v3 S3=>?_)
 refine uPC Try.f10 16 4 (v:=x7) (pe:=zh) ?_
 refine uD Try.f10 16 5 (pe:=zh) (fun v5 S4=>?_)
 refine uD Try.f10 16 6 (pe:=v5) (fun v6 S5=>?_)
 refine uD Try.f10 16 7 (pe:=zh) (fun v7 S6=>?_)
 refine uD Try.f10 16 8 (pe:=zh) (fun v8 S7=>?_)
 kernel_rfl
theorem zM.r17 :jD zi ⟨false,false,false⟩ (zZ zi O) (reg Try.f10 17) (reg Try.f10 17).toList ([x0,x1,x2,x3,x4,x5,x6,x7,x8,x9,b,c,d,f,g,i,j,k,l,m,n,o,p,q,r,s,t,u,w,x,y,z,A,B,C,D,E,F,G,H,I,J,K,L,M,N,P,Q,R,U,V,W,X,Y,Z,a0,a1,a2,a3,a4,a5,a6,a7,a8,a9,b0,b1,b2]) S =
  ( some ([x0,x1,x2,x3,Value.bool true,x5,x6,x7,x8,x9,b,c,d,f,g,i,j,k,l,m,n,o,p,q,r,s,t,u,w,x,y,z,A,B,C,D,E,F,G,H,I,J,K,L,M,N,P,Q,R,U,V,W,X,Y,Z,a0,a1,a2,a3,a4,a5,a6,a7,a8,a9,b0,b1,b2],S)):=by
 kernel_rfl
theorem zM.rs:type_of% (alG @zM.r0 (alG @zM.r1 (alG @zM.r2 (alG @zM.r3 (alG @zM.r4 (alG @zM.r5 (alG @zM.r6 (alG @zM.r7 (alG @zM.r8 (alG @zM.r9 (alG @zM.r10 (alG @zM.r11 (alG @zM.r12 (alG @zM.r13 (alG @zM.r14 (alG @zM.r15 (alG @zM.r16 (@zM.r17)))))))))))))))))):=alG @zM.r0 (alG @zM.r1 (alG @zM.r2 (alG @zM.r3 (alG @zM.r4 (alG @zM.r5 (alG @zM.r6 (alG @zM.r7 (alG @zM.r8 (alG @zM.r9 (alG @zM.r10 (alG @zM.r11 (alG @zM.r12 (alG @zM.r13 (alG @zM.r14 (alG @zM.r15 (alG @zM.r16 (@zM.r17)))))))))))))))))
theorem zM.runs {x0 x1:Value} {S S1:zy} {e:AEx} {T:List Value} (h:zJ zi O false zM.code ([x0,x1,zh,zh,zh,zh,zh,zh,zh,zh,zh,zh,zh,zh,zh,zh,zh,zh,zh,zh,zh,zh,zh,zh,zh,zh,zh,zh,zh,zh,zh,zh,zh,zh,zh,zh,zh,zh,zh,zh,zh,zh,zh,zh,zh,zh,zh,zh,zh,zh,zh,zh,zh,zh,zh,zh,zh,zh,zh,zh,zh,zh,zh,zh,zh,zh,zh,zh]) S=some (e,T,S1)) (he:e=.normal∨e=.ret):zZ zi O 10 [x0,x1] S=some (T.getD 4 zh,S1) :=
 yL rfl rfl Try.func10 (by decide) zM.body (by exact h) he (yH (a:=T.getD 4 zh) ((show zQ zi T S1 Try.f10.results.toList=zQ zi T S1 [(ResultVar.tmp 4)] from by kernel_rfl).trans (by simp only [zQ])) (by kernel_rfl))
end Go.Proofs.Ytfjogganfjkckaa
namespace Go.Proofs.Ytfjogganfjkckaa
open Go.Abs
abbrev qQ.id:FuncId:=8
noncomputable def qQ.code:Code:=(.seq (.region 0 (reg Try.f8 0) false) (.seq (.region 1 (reg Try.f8 1) false) Code.ret))
theorem qQ.body:Try.f8.body=some qQ.code:=by kernel_rfl
variable (b d m f g i j k l:Value) (S:zy)
theorem qQ.r0 :jD zi ⟨false,false,false⟩ (zZ zi O) (reg Try.f8 0) (reg Try.f8 0).toList ([b,d,m,f,g,i,j,k,l]) S =
  ( some ([b,d,Value.pointer none,f,g,i,j,k,l],S)):=by
 kernel_rfl
theorem qQ.r1 :jD zi ⟨false,false,false⟩ (zZ zi O) (reg Try.f8 1) (reg Try.f8 1).toList ([b,d,m,f,g,i,j,k,l]) S =
  (zN ((zZ zi O) 20 [(dem (dem b))] S) (fun n c=>zN (Zl zi 59 none c) (fun o s=>zN (Zl zi 60 none s) (fun p t=>zN (yA zi 62 [(0,(dem n)),(1,(dem o)),(2,(dem p))] t) (fun q u=>zN (J3 (dem q) u) (fun r v=>some ([b,d,r,dem b,n,o,p,q,dem r],v)) ()) ()) ()) ()) ()):=by
 kernel_rfl
theorem qQ.rs:type_of% (alG @qQ.r0 (@qQ.r1)):=alG @qQ.r0 (@qQ.r1)
theorem qQ.runs {b:Value} {S c:zy} {e:AEx} {T:List Value} (h:zJ zi O false qQ.code ([b,zh,zh,zh,zh,zh,zh,zh,zh]) S=some (e,T,c)) (he:e=.normal∨e=.ret):zZ zi O 8 [b] S=some (T.getD 2 zh,c) :=
 yL rfl rfl Try.func8 (by decide) qQ.body (by exact h) he (yH (a:=T.getD 2 zh) ((show zQ zi T c Try.f8.results.toList=zQ zi T c [(ResultVar.tmp 2)] from by kernel_rfl).trans (by simp only [zQ])) (by kernel_rfl))
end Go.Proofs.Ytfjogganfjkckaa
namespace Go.Proofs.Ytfjogganfjkckaa
open Go.Abs
abbrev wO.id:FuncId:=11
noncomputable def wO.code:Code:=(.seq (.region 0 (reg Try.f11 0) false) (.seq (.region 1 (reg Try.f11 1) false) Code.ret))
theorem wO.body:Try.f11.body=some wO.code:=by kernel_rfl
variable (b c g i o j k l m n f:Value) (S:zy)
theorem wO.r0 :jD zi ⟨false,false,false⟩ (zZ zi O) (reg Try.f11 0) (reg Try.f11 0).toList ([b,c,g,i,o,j,k,l,m,n,f]) S =
  ( some ([b,c,g,i,Value.bool false,j,k,l,m,n,f],S)):=by
 kernel_rfl
theorem wO.r1 :jD zi ⟨false,false,false⟩ (zZ zi O) (reg Try.f11 1) (reg Try.f11 1).toList ([b,c,g,i,o,j,k,l,m,n,f]) S =
  (zN (xk (dem b) S) (fun p d=>zN (zF zi 62 p 0 d) (fun q t=>zN (jh zi false 24 q t) (fun r u=>zN ((zZ zi O) 25 [(dem r),(dem (dem c))] u) (fun s v=>some ([b,c,g,i,s,dem b,p,q,r,dem c,dem s],v)) ()) ()) ()) ()):=by
 kernel_rfl
theorem wO.rs:type_of% (alG @wO.r0 (@wO.r1)):=alG @wO.r0 (@wO.r1)
theorem wO.runs {b c:Value} {S d:zy} {e:AEx} {T:List Value} (h:zJ zi O false wO.code ([b,c,zh,zh,zh,zh,zh,zh,zh,zh,zh]) S=some (e,T,d)) (he:e=.normal∨e=.ret):zZ zi O 11 [b,c] S=some (T.getD 4 zh,d) :=
 yL rfl rfl Try.func11 (by decide) wO.body (by exact h) he (yH (a:=T.getD 4 zh) ((show zQ zi T d Try.f11.results.toList=zQ zi T d [(ResultVar.tmp 4)] from by kernel_rfl).trans (by simp only [zQ])) (by kernel_rfl))
end Go.Proofs.Ytfjogganfjkckaa
namespace Go.Proofs.Ytfjogganfjkckaa
open Go.Abs
abbrev qc.id:FuncId:=24
noncomputable def qc.code:Code:=(.seq (.region 0 (reg Try.f24 0) false) (.seq (.region 1 (reg Try.f24 1) false) (.seq (.region 2 (reg Try.f24 2) false) Code.ret)))
theorem qc.body:Try.f24.body=some qc.code:=by kernel_rfl
variable (b j q g k l m n o p d f:Value) (S:zy)
theorem qc.r0 :jD zi ⟨false,false,false⟩ (zZ zi O) (reg Try.f24 0) (reg Try.f24 0).toList ([b,j,q,g,k,l,m,n,o,p,d,f]) S =
  (zN (J3 (dem b) S) (fun r c=>some ([b,r,Value.string { data:=#[] },g,k,l,m,n,o,p,d,f],c)) ()):=by
 kernel_rfl
theorem qc.r1 :jD zi ⟨false,false,false⟩ (zZ zi O) (reg Try.f24 1) (reg Try.f24 1).toList ([b,j,q,g,k,l,m,n,o,p,d,f]) S =
  (zN (jh zi false 46 j S) (fun r c=>zN ((zZ zi O) 46 [(dem r)] c) (fun i u=>zN (jc i 0 u) (fun s v=>zN (jc (zV 0 i) 1 v) (fun t w=>some ([b,j,q,s,t,zV 1 (zV 0 i),r,dem i,dem s,dem t,d,f],w)) ()) ()) ()) ()):=by
 kernel_rfl
theorem qc.r2 :jD zi ⟨false,false,false⟩ (zZ zi O) (reg Try.f24 2) (reg Try.f24 2).toList ([b,j,q,g,k,l,m,n,o,p,d,f]) S =
  (zN (qU zi false false 33 9 (dem g) S) (fun i c=>some ([b,j,i,g,k,l,m,n,o,p,dem g,dem i],c)) ()):=by
 kernel_rfl
theorem qc.rs:type_of% (alG @qc.r0 (alG @qc.r1 (@qc.r2))):=alG @qc.r0 (alG @qc.r1 (@qc.r2))
theorem qc.runs {b:Value} {S c:zy} {e:AEx} {T:List Value} (h:zJ zi O false qc.code ([b,zh,zh,zh,zh,zh,zh,zh,zh,zh,zh,zh]) zy.empty=some (e,T,c)) (he:e=.normal∨e=.ret) (hca:[b].all (jW 16)=true) (hcv:jW 16 (T.getD 2 zh)=true):zZ zi O 24 [b] S=some (T.getD 2 zh,S) :=
 yC rfl rfl Try.func24 (by decide) qc.body (by exact h) he (yH (a:=T.getD 2 zh) ((show zQ zi T c Try.f24.results.toList=zQ zi T c [(ResultVar.tmp 2)] from by kernel_rfl).trans (by simp only [zQ])) (by kernel_rfl)) hca hcv
end Go.Proofs.Ytfjogganfjkckaa
namespace Go.Proofs.Ytfjogganfjkckaa
open Go.Abs
abbrev wL.id:FuncId:=20
noncomputable def wL.code:Code:=(.seq (.region 0 (reg Try.f20 0) false) (.seq (.seq (.region 1 (reg Try.f20 1) false) (.cond (.tmp 4) (.seq (.region 2 (reg Try.f20 2) false) Code.ret) Code.skip)) (.seq (.region 3 (reg Try.f20 3) false) Code.ret)))
theorem wL.body:Try.f20.body=some wL.code:=by kernel_rfl
variable (b c l f g i j k:Value) (S:zy)
theorem wL.r0 :jD zi ⟨false,false,false⟩ (zZ zi O) (reg Try.f20 0) (reg Try.f20 0).toList ([b,c,l,f,g,i,j,k]) S =
  ( some ([b,c,Value.slice none 0 0,f,g,i,j,k],S)):=by
 kernel_rfl
theorem wL.r1 :jD zi ⟨false,false,false⟩ (zZ zi O) (reg Try.f20 1) (reg Try.f20 1).toList ([b,c,l,f,g,i,j,k]) S =
  (zN (wI zi BinOp.eql 24 (dem b) (Value.slice none 0 0) S) (fun o d=>some ([b,c,l,dem b,o,i,j,k],d)) ()):=by
 kernel_rfl
theorem wL.r2 :jD zi ⟨false,false,false⟩ (zZ zi O) (reg Try.f20 2) (reg Try.f20 2).toList ([b,c,l,f,g,i,j,k]) S =
  ( some ([b,c,Value.slice none 0 0,f,g,i,j,k],S)):=by
 kernel_rfl
theorem wL.r3 :jD zi ⟨false,false,false⟩ (zZ zi O) (reg Try.f20 3) (reg Try.f20 3).toList ([b,c,l,f,g,i,j,k]) S =
  (zN (jK zi 24 0 [] S) (fun m d=>zN (wR zi 24 24 m (dem b) d) (fun n p=>some ([b,c,n,f,g,dem m,dem b,dem n],p)) ()) ()):=by
 kernel_rfl
theorem wL.rs:type_of% (alG @wL.r0 (alG @wL.r1 (alG @wL.r2 (@wL.r3)))):=alG @wL.r0 (alG @wL.r1 (alG @wL.r2 (@wL.r3)))
theorem wL.runs {b:Value} {S d:zy} {e:AEx} {T:List Value} (h:zJ zi O false wL.code ([b,zh,zh,zh,zh,zh,zh,zh]) S=some (e,T,d)) (he:e=.normal∨e=.ret):zZ zi O 20 [b] S=some (T.getD 2 zh,d) :=
 yL rfl rfl Try.func20 (by decide) wL.body (by exact h) he (yH (a:=T.getD 2 zh) ((show zQ zi T d Try.f20.results.toList=zQ zi T d [(ResultVar.tmp 2)] from by kernel_rfl).trans (by simp only [zQ])) (by kernel_rfl))
end Go.Proofs.Ytfjogganfjkckaa
namespace Go.Abs
variable {K:Type}
def MapAt (enc:K→Value) (S:zy) (q:Nat) (m:List (K×Value)):Prop :=
 ∃ es c,S.get q=some (.map es c)∧es.map (fun e=>(e.key,e.val))=m.map fun p=>(enc p.1,p.2)
theorem abZ {P:Program} {t:TypeId} (enc:K→Value) (S:zy):∃ S2,Zl P t none S=some (.map (some S.next),S2)∧MapAt enc S2 S.next []∧S2.next=S.next+1∧(∀ j,j < S.next→S2.get j=S.get j)∧Ext S S2 :=
 ⟨_,rfl,⟨[],0,by rw [zy.yR,if_pos rfl],rfl⟩,by simp,fun j hj=>by rw [zy.yR,if_neg (by omega)],Ext.push _ _⟩
theorem MapAt.keep {enc:K→Value} {S:zy} {q:Nat} {m:List (K×Value)} {S2:zy} (h:MapAt enc S q m) (hg:S2.get q=S.get q):MapAt enc S2 q m:=by
 obtain ⟨es,c,h1,h2⟩:=h
 exact ⟨es,c,hg.trans h1,h2⟩
variable [DecidableEq K]
def X0:List (K×Value)→K→Option Value
 | [],_=>none
 | (a,v)::m,k=>if a=k then some v else X0 m k
def midx:List (K×Value)→K→Nat
 | [],_=>0
 | (a,_)::m,k=>if a=k then 0 else midx m k+1
def ahz:List (K×Value)→K→Value→List (K×Value)
 | [],k,x=>[(k,x)]
 | (a,v)::m,k,x=>if a=k then (k,x)::m else (a,v)::ahz m k x
theorem aap {m:List (K×Value)} {k:K} {x:Value} (h:X0 m k=none):ahz m k x=m++[(k,x)]:=by
 induction m with
 | nil=>rfl
 | cons p m ih =>
  obtain ⟨a,v⟩:=p
  unfold X0 at h
  split at h
  ·
   cases h
  ·
   rename_i hn
   simp only [ahz,if_neg hn,ih h,List.cons_append]
structure adS (enc:K→Value) (kd:TypeDesc):Prop where
 kind:∀ k,Ym kd (enc k)=true
 same:∀ a b,Instr.sameNow kd (enc a) (enc b)=some (decide (a=b))
theorem Xm:adS (fun n:Int=>Value.int .i64 n) (.int .i64):=⟨fun _=>rfl,fun a b=>by
 show (if IntKind.i64=IntKind.i64 then some (a == b) else none)=_
 rw [if_pos rfl];by_cases h:a=b <;> simp [h]⟩
theorem Yr {enc:K→Value} {kd:TypeDesc} (hK:adS enc kd) (k:K):∀ (es:List MapEntry) (m:List (K×Value)) (i:Nat),es.map (fun e=>(e.key,e.val))=m.map (fun p=>(enc p.1,p.2)) →
  Instr.findNow kd (enc k) es i=some ((X0 m k).map fun v=>(i+midx m k,v)):=by
 intro es
 induction es with
 | nil =>
  intro m i h
  cases m with
  | nil=>rfl
  | cons p m=>simp at h
 | cons e es ih =>
  intro m i h
  cases m with
  | nil=>simp at h
  | cons p m =>
   obtain ⟨a,v⟩:=p
   simp only [List.map_cons,List.cons.injEq,Prod.mk.injEq] at h
   obtain ⟨⟨h1,h2⟩,h3⟩:=h
   simp only [Instr.findNow,h1,hK.same,X0,midx]
   by_cases hk:k=a
   ·
    simp [hk,h2]
   ·
    rw [decide_eq_false hk,if_neg (fun h=>hk h.symm),if_neg (fun h=>hk h.symm)]
    simp only []
    rw [ih m (i+1) h3]
    congr 2
    funext x
    congr 1
    omega
theorem agU {enc:K→Value} {k:K} {x:Value}:∀ (es:List MapEntry) (m:List (K×Value)),es.map (fun e=>(e.key,e.val))=m.map (fun p=>(enc p.1,p.2))→X0 m k≠none →
  (es.modify (midx m k) fun e=>{ e with key:=enc k,val:=x }).map (fun e=>(e.key,e.val))=(ahz m k x).map fun p=>(enc p.1,p.2):=by
 intro es
 induction es with
 | nil =>
  intro m h hn
  cases m with
  | nil=>exact absurd rfl hn
  | cons p m=>simp at h
 | cons e es ih =>
  intro m h hn
  cases m with
  | nil=>simp at h
  | cons p m =>
   obtain ⟨a,v⟩:=p
   simp only [List.map_cons,List.cons.injEq,Prod.mk.injEq] at h
   obtain ⟨⟨h1,h2⟩,h3⟩:=h
   simp only [midx,ahz]
   by_cases hk:a=k
   ·
    simp [hk,h3]
   ·
    rw [if_neg hk,if_neg hk,List.modify_succ_cons]
    have hn':X0 m k≠none:=by unfold X0 at hn;rwa [if_neg hk] at hn
    simp only [List.map_cons,ih m h3 hn',h1,h2]
variable {P:Program} {t kt et:TypeId} {kd:TypeDesc} {z:Value} {enc:K→Value} {S S0:zy} {q:Nat} {m:List (K×Value)}
theorem agI (hK:adS enc kd) (hm:MapAt enc S q m) (ht:P.underlying t=some (.map kt et)) (hk:P.underlying kt=some kd) (hz:zeroOf P et=some z) (hg:ground z=true) (k:K) :
  vX P false t (.map (some q)) (enc k) false S=some ((X0 m k).getD z,S):=by
 obtain ⟨es,c,h1,h2⟩:=hm
 unfold vX qO
 simp only [Bool.false_eq_true,if_false,ht,hk,hK.kind,if_true,h1,Yr hK k es m 0 h2]
 cases X0 m k with
 | none=>simp [hz,hg]
 | some v=>simp
theorem ads (hK:adS enc kd) (hm:MapAt enc S q m) (ht:P.underlying t=some (.map kt et)) (hk:P.underlying kt=some kd) (hz:zeroOf P et=some z) (hg:ground z=true) (k:K) :
  vX P false t (.map (some q)) (enc k) true S=some (.tuple #[(X0 m k).getD z,.bool (X0 m k).isSome],S):=by
 obtain ⟨es,c,h1,h2⟩:=hm
 unfold vX qO
 simp only [Bool.false_eq_true,if_false,ht,hk,hK.kind,if_true,h1,Yr hK k es m 0 h2]
 cases X0 m k with
 | none=>simp [hz,hg]
 | some v=>simp
theorem acA (hK:adS enc kd) (hm:MapAt enc S q m) (ht:P.underlying t=some (.map kt et)) (hk:P.underlying kt=some kd) (k:K) (x:Value) :
  ∃ S2,qo P t (.map (some q)) (enc k) x S=some (zh,S2)∧MapAt enc S2 q (ahz m k x)∧S2.next=S.next∧(∀ j,j≠q→S2.get j=S.get j)∧(∀ S0,Ext S0 S→S0.next≤q→Ext S0 S2):=by
 obtain ⟨es,c,h1,h2⟩:=hm
 unfold qo
 simp only [ht,hk,hK.kind,if_true,h1,Yr hK k es m 0 h2]
 cases hg:X0 m k with
 | none =>
  refine ⟨_,rfl,⟨es++[{ key:=enc k,val:=x,born:=c }],c+1,by rw [zy.qC,if_pos rfl],?_⟩,by simp,fun j hj=>by rw [zy.qC,if_neg hj],fun S0 hE hq=>hE.set hq _⟩
  rw [aap hg]
  simp [h2]
 | some v =>
  refine ⟨_,rfl,⟨_,c,by simp only [Option.map_some,Nat.zero_add,zy.qC,if_true],agU es m h2 (by rw [hg];simp)⟩,by simp,fun j hj=>by rw [zy.qC,if_neg hj],fun S0 hE hq=>hE.set hq _⟩
end Go.Abs
namespace Go.Proofs.Ytfjogganfjkckaa
open Go.Abs
abbrev slices_Index.id:FuncId:=47
noncomputable def slices_Index.jT:Code:=(.seq (.region 2 (reg Try.f47 2) false) (.seq (.cond (.tmp 9) Code.skip (.exit 0)) (.seq (.block 1 (.seq (.region 3 (reg Try.f47 3) false) (.seq (.region 4 (reg Try.f47 4) false) (.cond (.tmp 16) (.seq (.region 5 (reg Try.f47 5) false) Code.ret) Code.skip)))) (.region 6 (reg Try.f47 6) false))))
noncomputable def slices_Index.code:Code:=(.seq (.region 0 (reg Try.f47 0) false) (.seq (.seq (.region 1 (reg Try.f47 1) false) (.block 0 (.loop slices_Index.jT))) (.seq (.region 7 (reg Try.f47 7) false) Code.ret)))
theorem slices_Index.body:Try.f47.body=some slices_Index.code:=by kernel_rfl
theorem slices_Index.eta {T:List Value} (h:T.length=19):T=[T.getD 0 zh,T.getD 1 zh,T.getD 2 zh,T.getD 3 zh,T.getD 4 zh,T.getD 5 zh,T.getD 6 zh,T.getD 7 zh,T.getD 8 zh,T.getD 9 zh,T.getD 10 zh,T.getD 11 zh,T.getD 12 zh,T.getD 13 zh,T.getD 14 zh,T.getD 15 zh,T.getD 16 zh,T.getD 17 zh,T.getD 18 zh]:=(qJ T 19 h).trans (by kernel_rfl)
variable (b n q r v o t s p u c d f g i j k l m:Value) (S:zy)
theorem slices_Index.r0 :jD zi ⟨false,false,false⟩ (zZ zi O) (reg Try.f47 0) (reg Try.f47 0).toList ([b,n,q,r,v,o,t,s,p,u,c,d,f,g,i,j,k,l,m]) S =
  ( some ([b,n,q,r,.int .i64 0,o,t,s,p,u,c,d,f,g,i,j,k,l,m],S)):=by
 kernel_rfl
theorem slices_Index.r1 :jD zi ⟨false,false,false⟩ (zZ zi O) (reg Try.f47 1) (reg Try.f47 1).toList ([b,n,q,r,v,o,t,s,p,u,c,d,f,g,i,j,k,l,m]) S =
  (zN (Zu zi 24 (dem b) S) (fun A w=>some ([b,n,q,r,v,o,dem b,A,.int .i64 0,u,c,d,f,g,i,j,k,l,m],w)) ()):=by
 kernel_rfl
theorem slices_Index.r2 :jD zi ⟨false,false,false⟩ (zZ zi O) (reg Try.f47 2) (reg Try.f47 2).toList ([b,n,q,r,v,o,t,s,p,u,c,d,f,g,i,j,k,l,m]) S =
  (zN (wI zi BinOp.lss 3 p s S) (fun x w=>some ([b,n,q,r,v,o,t,s,p,x,c,d,f,g,i,j,k,l,m],w)) ()):=by
 kernel_rfl
theorem slices_Index.r3 :jD zi ⟨false,false,false⟩ (zZ zi O) (reg Try.f47 3) (reg Try.f47 3).toList ([b,n,q,r,v,o,t,s,p,u,c,d,f,g,i,j,k,l,m]) S =
  ( some ([b,n,q,r,v,p,t,s,dem p,u,dem p,d,f,g,i,j,k,l,m],S)):=by
 kernel_rfl
theorem slices_Index.r4 :jD zi ⟨false,false,false⟩ (zZ zi O) (reg Try.f47 4) (reg Try.f47 4).toList ([b,n,q,r,v,o,t,s,p,u,c,d,f,g,i,j,k,l,m]) S =
  (zN (jy zi 24 (dem b) (dem o) S) (fun y w=>zN (jh zi false 3 y w) (fun z B=>zN (wI zi BinOp.eql 3 (dem n) z B) (fun C D=>some ([b,n,q,r,v,o,t,s,p,u,c,dem n,dem b,dem o,y,z,C,l,m],D)) ()) ()) ()):=by
 kernel_rfl
theorem slices_Index.r5 :jD zi ⟨false,false,false⟩ (zZ zi O) (reg Try.f47 5) (reg Try.f47 5).toList ([b,n,q,r,v,o,t,s,p,u,c,d,f,g,i,j,k,l,m]) S =
  ( some ([b,n,q,r,o,dem o,t,s,p,u,c,d,f,g,i,j,k,dem o,m],S)):=by
 kernel_rfl
theorem slices_Index.r6 :jD zi ⟨false,false,false⟩ (zZ zi O) (reg Try.f47 6) (reg Try.f47 6).toList ([b,n,q,r,v,o,t,s,p,u,c,d,f,g,i,j,k,l,m]) S =
  (zN (wI zi BinOp.add 3 p (.int .i64 1) S) (fun x w=>some ([b,n,q,r,v,o,t,s,dem x,u,c,d,f,g,i,j,k,l,x],w)) ()):=by
 kernel_rfl
theorem slices_Index.r7 :jD zi ⟨false,false,false⟩ (zZ zi O) (reg Try.f47 7) (reg Try.f47 7).toList ([b,n,q,r,v,o,t,s,p,u,c,d,f,g,i,j,k,l,m]) S =
  ( some ([b,n,q,r,.int .i64 (-1),o,t,s,p,u,c,d,f,g,i,j,k,l,m],S)):=by
 kernel_rfl
theorem slices_Index.rs:type_of% (alG @slices_Index.r0 (alG @slices_Index.r1 (alG @slices_Index.r2 (alG @slices_Index.r3 (alG @slices_Index.r4 (alG @slices_Index.r5 (alG @slices_Index.r6 (@slices_Index.r7)))))))):=alG @slices_Index.r0 (alG @slices_Index.r1 (alG @slices_Index.r2 (alG @slices_Index.r3 (alG @slices_Index.r4 (alG @slices_Index.r5 (alG @slices_Index.r6 (@slices_Index.r7)))))))
theorem slices_Index.runs {b n:Value} {S w:zy} {e:AEx} {T:List Value} (h:zJ zi O false slices_Index.code ([b,n,zh,zh,zh,zh,zh,zh,zh,zh,zh,zh,zh,zh,zh,zh,zh,zh,zh]) S=some (e,T,w)) (he:e=.normal∨e=.ret):zZ zi O 47 [b,n] S=some (T.getD 4 zh,w) :=
 yL rfl rfl Try.func47 (by decide) slices_Index.body (by exact h) he (yH (a:=T.getD 4 zh) ((show zQ zi T w Try.f47.results.toList=zQ zi T w [(ResultVar.tmp 4)] from by kernel_rfl).trans (by simp only [zQ])) (by kernel_rfl))
end Go.Proofs.Ytfjogganfjkckaa
namespace Go.Proofs.Ytfjogganfjkckaa
open Go.Abs
abbrev slices_Contains.id:FuncId:=25
noncomputable def slices_Contains.code:Code:=(.seq (.region 0 (reg Try.f25 0) false) (.seq (.region 1 (reg Try.f25 1) false) Code.ret))
theorem slices_Contains.body:Try.f25.body=some slices_Contains.code:=by kernel_rfl
variable (b c f g m i j k l:Value) (S:zy)
theorem slices_Contains.r0 :jD zi ⟨false,false,false⟩ (zZ zi O) (reg Try.f25 0) (reg Try.f25 0).toList ([b,c,f,g,m,i,j,k,l]) S =
  ( some ([b,c,f,g,Value.bool false,i,j,k,l],S)):=by
 kernel_rfl
theorem slices_Contains.r1 :jD zi ⟨false,false,false⟩ (zZ zi O) (reg Try.f25 1) (reg Try.f25 1).toList ([b,c,f,g,m,i,j,k,l]) S =
  (zN ((zZ zi O) 47 [(dem (dem b)),(dem (dem c))] S) (fun n d=>zN (wI zi BinOp.geq 3 n (.int .i64 0) d) (fun o p=>some ([b,c,f,g,o,dem b,dem c,n,dem o],p)) ()) ()):=by
 kernel_rfl
theorem slices_Contains.rs:type_of% (alG @slices_Contains.r0 (@slices_Contains.r1)):=alG @slices_Contains.r0 (@slices_Contains.r1)
theorem slices_Contains.runs {b c:Value} {S d:zy} {e:AEx} {T:List Value} (h:zJ zi O false slices_Contains.code ([b,c,zh,zh,zh,zh,zh,zh,zh]) S=some (e,T,d)) (he:e=.normal∨e=.ret):zZ zi O 25 [b,c] S=some (T.getD 4 zh,d) :=
 yL rfl rfl Try.func25 (by decide) slices_Contains.body (by exact h) he (yH (a:=T.getD 4 zh) ((show zQ zi T d Try.f25.results.toList=zQ zi T d [(ResultVar.tmp 4)] from by kernel_rfl).trans (by simp only [zQ])) (by kernel_rfl))
end Go.Proofs.Ytfjogganfjkckaa
