/-
The law JournalRuns returns true for every input, and leaves it as it was; no condition. Part 3 of 5 of the texts (put together by a program: own names are short, what isn't needed is left out).
-/
import Derived.Test.YtblpnklfimkfoaaZJournalRuns2
import Derived.KernelRfl
import Derived.Test.YtblpnklfimkfoaaChecked
set_option linter.unusedVariables false
set_option linter.unusedSimpArgs false
set_option maxRecDepth 100000
open Go renaming undef → zh
open Go.Proofs.Try renaming prog → zi
open Nat renaming reduceEqDiff → zk
open Int renaming reduceEq → zn
open Int renaming reduceLT → zo
open Int renaming reduceLE → zq
namespace Go.Abs
open Go.RowKit
def JF (P:Program) (call:FuncId→List Value→M Value):Prop:=∀ g args aargs S v S',call g args S=some (v,S')→∀ μ H ω,GI μ S H→L0 μ H args aargs→Dom μ H ω→(∀ r s,ω r=some s→s=.ext) →
 ∃ a H' μ' ω',lim P g aargs H=some (a,H')∧GI μ' S' H'∧Later μ H μ' H'∧Kept ω H ω' H'∧Dom μ' H' ω'∧VV μ' H' ω' (some (.res none)) v a
section
variable {P:Program} {call:FuncId→List Value→M Value} {μ:Mu} {ω:Nat→Option yP} {S S' H:zx} {T A:List Value}
theorem ad6 (hc:JF P call) {g:FuncId} {args aargs:List Value} {v:Value} (hG:GI μ S H) (hT:TI μ H ω T A) (h:call g args S=some (v,S')) (ha:L0 μ H args aargs):Out μ ω H A T S' v (lim P g aargs H):=by
 obtain ⟨a,H',μ',ω',h1,h2,h3,h4,h5,h6⟩:=hc g args aargs S v S' h μ H (fun r=>(ω r).map fun _=>.ext) hG ha (fun r s hs=>by
  cases hr:ω r with
  | none=>simp [hr] at hs
  | some s0=>exact hT.dom r s0 hr) (fun r s hs=>by
  cases hr:ω r with
  | none=>simp [hr] at hs
  | some s0=>simp [hr] at hs;exact hs.symm)
 have kept:∀ r s,ω r=some s→ω' r=some .ext∧H'.get r=H.get r:=fun r s hs=>h4 r (by dsimp only;rw [hs];rfl)
 refine ⟨a,H',μ',fun r=>match ω' r with | some .ext=>ω r | some (.slot _ _)=>none | x=>x,h1,h2,h3,fun r hr=>?_,fun r s hs=>?_,hT.len,fun i=>?_,?_⟩
 ·
  obtain ⟨k1,k2⟩:=kept r _ hr
  exact ⟨by (try dsimp only);rw [k1];exact hr,k2⟩
 ·
  dsimp only at hs
  cases hr:ω' r with
  | none=>rw [hr] at hs;cases hs
  | some s0 =>
   have:=h5 r s0 hr
   exact this
 ·
  refine (hT.slots i).later h3 (K:=fun _=>True) (fun _ _ _ _ _=>trivial) (fun r s _ hr=>?_) (fun _ _=>trivial)
  obtain ⟨k1,k2⟩:=kept r s hr
  exact ⟨by (try dsimp only);rw [k1];exact hr,k2⟩
 ·
  refine h6.later (Later.refl _ _) (K:=fun s=>∃ j,s=.res j) (fun s i t ⟨j,hj⟩ ht=>by subst hj;cases j <;> cases ht;exact ⟨_,rfl⟩) (fun r s ⟨j,hj⟩ hr=>?_) (fun s hs=>by cases hs;exact ⟨_,rfl⟩)
  subst hj
  exact ⟨by (try dsimp only);rw [hr],rfl⟩
def Jt (t:Nat):yP→Option yP
 | .slot i j=>if i=t then some (.res j) else some (.slot i j)
 | s=>some s
def WW (t k:Nat):yP→Option yP
 | .slot i (some j)=>if i=t∧j=k then some (.res none) else some (.slot i (some j))
 | s=>some s
theorem aaA {x:Operand} (hG:GI μ S H) (hT:TI μ H ω T A) (hx:qP x=true):Out μ ω H A (yg T x) S (jA T x) (some (jA A x,H)):=by
 cases x with
 | const v=>exact Out.same hG hT (VV.yj hx)
 | global g=>cases hx
 | func f=>exact Out.same hG hT (hT.eval (x:=.func f) rfl)
 | tmp t =>
  refine ⟨_,H,μ,fun r=>(ω r).bind (Jt t),rfl,hG,Later.refl μ H,fun r hr=>⟨by dsimp only;rw [hr];rfl,rfl⟩,fun r s hs=>?_,by simp [yg,qN,hT.len],fun i=>?_,?_⟩
  ·
   dsimp only at hs
   cases hr:ω r with
   | none=>rw [hr] at hs;cases hs
   | some s0=>exact hT.dom r s0 hr
  ·
   dsimp only [yg,qN]
   rw [y8]
   by_cases hi:i=t
   ·
    subst hi
    by_cases hlt:i < T.length
    ·
     rw [if_pos ⟨rfl,hlt⟩]
     exact (hT.slots i).v0.at0
    ·
     rw [if_neg (fun h=>hlt h.2)]
     rw [List.getD_eq_getElem?_getD,List.getElem?_eq_none (Nat.le_of_not_lt hlt),List.getD_eq_getElem?_getD,List.getElem?_eq_none (by rw [← hT.len];omega)]
     exact .nores
   ·
    rw [if_neg (fun h=>hi h.1)]
    refine (hT.slots i).QN (fun _=>rfl) _ (fun s hs=>?_)
    cases hs
    refine ⟨_,rfl,by simp only [Jt];rw [if_neg hi],fun k t' ht=>?_⟩
    cases ht
    exact ⟨_,rfl,by simp only [Jt];rw [if_neg hi]⟩
  ·
   refine (hT.slots t).QN (fun _=>rfl) _ (fun s hs=>?_)
   cases hs
   refine ⟨_,rfl,by simp only [Jt,if_true],fun k t' ht=>?_⟩
   cases ht
   exact ⟨_,rfl,by simp only [Jt,if_true]⟩
theorem getD_modify (vs:Array Value) (i k:Nat) (f:Value→Value) (hf:f zh=zh):(vs.modify i f).getD k zh=if k=i then f (vs.getD k zh) else vs.getD k zh:=by
 rw [Array.getD_eq_getD_getElem?,Array.getD_eq_getD_getElem?,Array.getElem?_modify]
 by_cases h:i=k
 ·
  subst h
  rw [if_pos rfl,if_pos rfl]
  cases vs[i]? with
  | none=>exact hf.symm
  | some v=>rfl
 ·
  rw [if_neg h,if_neg (fun e=>h e.symm)]
theorem VV.part {ω':Nat→Option yP} {ℓ ℓ':Option yP} {v a:Value} (h:VV μ H ω ℓ v a) (hℓ:∀ s,ℓ=some s→∀ k,s.comp k=none):VV μ H ω' ℓ' (Go.Abs.xB v) a:=by
 by_cases ht:∃ x,v=.tuple x
 ·
  obtain ⟨x,rfl⟩:=ht
  show VV μ H ω' ℓ' (.tuple x) a
  cases h with
  | sg hs=>simp [Go.Abs.sg] at hs
  | nores=>exact .nores
  | tuple hx hh =>
   refine .tuple hx fun i=>?_
   have:=hh i
   cases ℓ with
   | none=>exact this.at0
   | some s =>
    have e:(some s).bind (·.comp i)=none:=hℓ s rfl i
    rw [e] at this
    exact this.at0
 ·
  have e:Go.Abs.dem v=Go.Abs.xB v:=by
   cases v <;> first | rfl | exact absurd ⟨_,rfl⟩ ht
  rw [← e]
  exact h.v0.at0
def Wp (T:List Value) (i:Nat):Operand→List Value
 | .tmp t=>T.set t (jd i (T.getD t zh))
 | _=>T
theorem VI {x:Operand} {i:Nat} {v:Value} (hG:GI μ S H) (hT:TI μ H ω T A) (hx:qP x=true) (h:zW (jA T x) i S=some (v,S')) :
  Out μ ω H A (Wp T i x) S' v (zW (jA A x) i H):=by
 cases x with
 | const w =>
  exfalso
  unfold zW at h
  split at h
  ·
   rename_i vs he
   simp only [jA] at he
   subst he
   simp [qP,ground,Go.Abs.sg] at hx
  ·
   cases h
 | global g=>cases hx
 | func f=>simp [jA,zW] at h
 | tmp t =>
  simp only [jA,Wp] at h ⊢
  unfold zW at h
  split at h
  ·
   rename_i vs hvs
   split at h <;> first | (cases h;done) | skip
   rename_i w hw
   cases h
   have hs:=hT.slots t
   rw [hvs] at hs
   have hil:i < vs.size:=(Array.getElem?_eq_some_iff.1 hw).1
   have hlt:t < T.length:=by
    rcases Nat.lt_or_ge t T.length with h | h
    ·
     exact h
    ·
     rw [List.getD_eq_getElem?_getD,List.getElem?_eq_none h] at hvs
     cases hvs
     simp at hil
   generalize hA:A.getD t zh=at' at hs
   cases hs with
   | sg hs=>simp [Go.Abs.sg] at hs
   | nores=>simp at hil
   | @tuple _ _ y hxs hxx =>
    have hiy:i < y.size:=by rw [← hxs];exact hil
    have hrun:zW (.tuple y) i H=some (y[i],H):=by simp only [zW,Array.getElem?_eq_getElem hiy]
    rw [hrun]
    have hcomp:=hxx i
    rw [Array.getD_eq_getD_getElem?,hw,Array.getD_eq_getD_getElem?,Array.getElem?_eq_getElem hiy] at hcomp
    simp only [Option.getD_some] at hcomp
    refine ⟨_,H,μ,fun r=>(ω r).bind (WW t i),rfl,hG,Later.refl μ H,fun r hr=>⟨by dsimp only;rw [hr];rfl,rfl⟩,fun r s hs=>?_,by simp [hT.len],fun k=>?_,?_⟩
    ·
     dsimp only at hs
     cases hr:ω r with
     | none=>rw [hr] at hs;cases hs
     | some s0=>exact hT.dom r s0 hr
    ·
     rw [y8]
     by_cases hk:k=t
     ·
      subst hk
      rw [if_pos ⟨rfl,hlt⟩,hA,hvs]
      simp only [jd]
      refine .tuple (by simpa using hxs) fun j=>?_
      rw [getD_modify _ _ _ _ rfl]
      by_cases hj:j=i
      ·
       subst hj
       rw [if_pos rfl]
       exact (hxx j).part (fun s hs k=>by cases hs;rfl)
      ·
       rw [if_neg hj]
       refine (hxx j).QN (fun _=>rfl) _ (fun s hs=>?_)
       cases hs
       refine ⟨_,rfl,by simp only [WW];rw [if_neg (fun e=>hj e.2)],fun a b hb=>by cases hb⟩
     ·
      rw [if_neg (fun e=>hk e.1)]
      refine (hT.slots k).QN (fun _=>rfl) _ (fun s hs=>?_)
      cases hs
      refine ⟨_,rfl,rfl,fun a b hb=>?_⟩
      cases hb
      exact ⟨_,rfl,by simp only [WW];rw [if_neg (fun e=>hk e.1)]⟩
    ·
     refine hcomp.QN (fun _=>rfl) _ (fun s hs=>?_)
     cases hs
     exact ⟨_,rfl,by simp [WW],fun a b hb=>by cases hb⟩
  ·
   cases h
theorem agJ (hT:TI μ H ω T A):∀ (xs:List Operand),xs.all qP=true→L0 μ H (xs.map fun x=>dem (jA T x)) (xs.map (jA A)):=by
 intro xs h
 exact LV.map fun x hx=>hT.eval (List.all_eq_true.1 h x hx)
theorem YS {xs:List Operand} (hT:TI μ H ω T A) (h:xs.all qP=true) (hg:(xs.map (jA T)).all ground=true):xs.map (jA A)=xs.map (jA T):=by
 apply List.map_congr_left
 intro x hx
 exact jO (hT.eval (List.all_eq_true.1 h x hx)) (List.all_eq_true.1 hg _ (List.mem_map.2 ⟨x,hx,rfl⟩))
theorem ad5 {o:Oper} (h:hands o=false) (hc:∀ c,o.op≠.call c):moved o T=T:=by
 unfold moved
 unfold hands at h
 split <;> first | rfl | (rename_i he;exact absurd he (hc _)) | (rename_i he;rw [he] at h;cases h)
theorem aeD {fx:Fx} (hc:JF P call) {o:Oper} {v:Value} (hG:GI μ S H) (hT:TI μ H ω T A) (h:wS P fx call T o S=some (v,S')):Out μ ω H A (moved o T) S' v (yB P (lim P) A o H):=by
 unfold wS at h
 split at h <;> first | (cases h;done) | skip
 rename_i hok
 unfold yB
 rw [if_pos hok]
 have hargs:o.op.operands.toList.all qP=true:=hok
 have hev:∀ x ∈ o.op.operands.toList,V0 μ H (dem (jA T x)) (jA A x):=fun x hx=>hT.eval (List.all_eq_true.1 hargs x hx)
 have hoka:∀ x ∈ o.op.operands.toList,qP x=true:=fun x hx=>List.all_eq_true.1 hargs x hx
 obtain ⟨dst,op,type,pos,after,guard⟩:=o
 by_cases hcall:∃ c,op=.call c
 ·
  obtain ⟨c,rfl⟩:=hcall
  dsimp only at h hev hoka hargs ⊢
  have hcargs:c.args.toList.all qP=true:=by
   rw [List.all_eq_true]
   intro x hx
   refine hoka x ?_
   simp only [Op.operands,Call.operands]
   cases c.callee <;> simp <;> first | exact .inr (by simpa using hx) | exact (by simpa using hx)
  cases hcal:c.callee with
  | value f =>
   rw [hcal] at h
   dsimp only at h ⊢
   have hf:=hev f (by simp [Op.operands,Call.operands,hcal])
   split at h <;> first | (cases h;done) | skip
   rename_i g first captured hfe
   rw [hfe] at hf
   have hf:V0 μ H (.func (.func g) first captured) (jA A f):=hf
   generalize hfa:jA A f=fa at hf
   cases hf with
   | sg hs=>simp [Go.Abs.sg] at hs
   | func _ hx hcs h1 h2 =>
    rename_i x' c'
    dsimp only
    have l1:L0 μ H first.toList x'.toList:=⟨by simpa using hx,fun i=>by rw [getD_toList,getD_toList];exact h1 i⟩
    have l2:L0 μ H captured.toList c'.toList:=⟨by simpa using hcs,fun i=>by rw [getD_toList,getD_toList];exact h2 i⟩
    have hm:moved ⟨dst,.call c,type,pos,after,guard⟩ T=T:=by simp only [moved,hcal]
    rw [hm]
    exact ad6 hc hG hT h ((l1.append (agJ hT _ hcargs)).append l2)
  | invoke r m=>rw [hcal] at h;cases h
  | builtin b =>
   rw [hcal] at h
   dsimp only at h ⊢
   unfold kY at h
   unfold kW
   cases b <;> dsimp only at h ⊢ <;> first | (cases h;done) | skip
   case len =>
    split at h <;> first | (cases h;done) | skip
    rename_i t x0 ht ha
    obtain ⟨x,hx,rfl⟩:∃ x,c.args.toList=[x]∧jA T x=x0:=by
     match hl:c.args.toList with
     | []=>rw [hl] at ha;cases ha
     | [y]=>rw [hl] at ha;simp at ha;exact ⟨y,rfl,ha⟩
     | y::z::w=>rw [hl] at ha;simp at ha
    have hm:moved ⟨dst,.call c,type,pos,after,guard⟩ T=T:=by simp only [moved,hcal]
    rw [hm,ht,hx]
    rw [hx] at hcargs
    obtain ⟨rfl,a,h1,h2⟩:=acH h (hT.eval (List.all_eq_true.1 hcargs x (by simp)))
    simp only [List.map_cons,List.map_nil]
    rw [h1]
    exact Out.same hG hT h2
   case append =>
    split at h <;> first | (cases h;done) | skip
    rename_i t tx s0 x0 ht ha
    obtain ⟨so,x,hx,rfl,rfl⟩:∃ so x,c.args.toList=[so,x]∧jA T so=s0∧jA T x=x0:=by
     match hl:c.args.toList with
     | []=>rw [hl] at ha;cases ha
     | [y]=>rw [hl] at ha;simp at ha
     | [y,z]=>rw [hl] at ha;simp at ha;exact ⟨y,z,rfl,ha.1,ha.2⟩
     | y::z::w::u=>rw [hl] at ha;simp at ha
    rw [hx] at hcargs
    have hso:=List.all_eq_true.1 hcargs so (by simp)
    have hm:moved ⟨dst,.call c,type,pos,after,guard⟩ T=yg T so:=by
     simp only [moved,hcal,hx]
     cases so <;> rfl
    rw [hm,ht,hx]
    exact abu hG hT hso h (hT.eval (List.all_eq_true.1 hcargs x (by simp)))
   case copy =>
    split at h <;> first | (cases h;done) | skip
    rename_i t tx s0 x0 ht ha
    obtain ⟨so,x,hx,rfl,rfl⟩:∃ so x,c.args.toList=[so,x]∧jA T so=s0∧jA T x=x0:=by
     match hl:c.args.toList with
     | []=>rw [hl] at ha;cases ha
     | [y]=>rw [hl] at ha;simp at ha
     | [y,z]=>rw [hl] at ha;simp at ha;exact ⟨y,z,rfl,ha.1,ha.2⟩
     | y::z::w::u=>rw [hl] at ha;simp at ha
    rw [hx] at hcargs
    have hm:moved ⟨dst,.call c,type,pos,after,guard⟩ T=T:=by simp only [moved,hcal]
    rw [hm,ht,hx]
    exact aeE hG hT h (hT.eval (List.all_eq_true.1 hcargs so (by simp))) (hT.eval (List.all_eq_true.1 hcargs x (by simp)))
   case clear =>
    split at h <;> first | (cases h;done) | skip
    rename_i t x0 ht ha
    obtain ⟨x,hx,rfl⟩:∃ x,c.args.toList=[x]∧jA T x=x0:=by
     match hl:c.args.toList with
     | []=>rw [hl] at ha;cases ha
     | [y]=>rw [hl] at ha;simp at ha;exact ⟨y,rfl,ha⟩
     | y::z::w=>rw [hl] at ha;simp at ha
    have hm:moved ⟨dst,.call c,type,pos,after,guard⟩ T=T:=by simp only [moved,hcal]
    rw [hm,ht,hx]
    rw [hx] at hcargs
    exact adP hG hT h (hT.eval (List.all_eq_true.1 hcargs x (by simp)))
   case min =>
    obtain ⟨rfl,hg,hga,hh⟩:=wW (H:=H) h
    have hm:moved ⟨dst,.call c,type,pos,after,guard⟩ T=T:=by simp only [moved,hcal]
    rw [hm,YS hT hcargs hga,hh]
    exact Out.same hG hT (V0.ground hg)
   case max =>
    obtain ⟨rfl,hg,hga,hh⟩:=wW (H:=H) h
    have hm:moved ⟨dst,.call c,type,pos,after,guard⟩ T=T:=by simp only [moved,hcal]
    rw [hm,YS hT hcargs hga,hh]
    exact Out.same hG hT (V0.ground hg)
 ·
  have hnc:∀ c,op≠.call c:=fun c hc=>hcall ⟨c,hc⟩
  have hV:vOp P fx (jA T) ⟨dst,op,type,pos,after,guard⟩ S=some (v,S'):=by
   cases op <;> first | exact h | exact absurd rfl (hnc _)
  suffices hs:Out μ ω H A (moved ⟨dst,op,type,pos,after,guard⟩ T) S' v (aOp P (jA A) ⟨dst,op,type,pos,after,guard⟩ H) by
   cases op <;> first | exact hs | exact absurd rfl (hnc _)
  by_cases hh:hands ⟨dst,op,type,pos,after,guard⟩=true
  ·
   cases op <;> first | (cases hh;done) | skip
   case move x =>
    cases hV
    have:=aaA hG hT (hoka x (by simp [Op.operands]))
    have hm:moved ⟨dst,.move x,type,pos,after,guard⟩ T=yg T x:=by cases x <;> rfl
    rw [hm];exact this
   case assign x =>
    cases hV
    have:=aaA hG hT (hoka x (by simp [Op.operands]))
    have hm:moved ⟨dst,.assign x,type,pos,after,guard⟩ T=yg T x:=by cases x <;> rfl
    rw [hm];exact this
   case extract x i =>
    have:=VI hG hT (hoka x (by simp [Op.operands])) hV
    have hm:moved ⟨dst,.extract x i,type,pos,after,guard⟩ T=(Wp T i x):=by cases x <;> rfl
    rw [hm];exact this
  ·
   have hh:hands ⟨dst,op,type,pos,after,guard⟩=false:=by simpa using hh
   rw [ad5 hh hnc]
   by_cases hch:Zq P ⟨dst,op,type,pos,after,guard⟩=false
   ·
    obtain ⟨rfl,a,h1,h2,h3⟩:=Xd hV hch hev (.inr hG) (.inr hG)
    rw [h1]
    exact Out.same hG hT (h3 hh)
   ·
    unfold vOp at hV
    unfold aOp
    cases op <;> dsimp only at hV hev ⊢ <;> first | (cases hV;done) | (exact absurd rfl hch) | (cases hh;done) | skip
    case alloc e=>exact abY hG hT hV
    case box x _=>exact ags hG hT hV (hev x (by simp [Op.operands]))
    case buildSlice t len parts _ =>
     have hps:=XE (μ:=μ) (H:=H) (parts:=parts.toList) (ρ:=jA T) (ρA:=jA A) fun p hp=>hev p.2 (by simp [Op.operands];exact ⟨p.1,by simpa using hp⟩)
     split at hV
     ·
      exact X6 hG hT hV hps
     ·
      exact YZ hG hT hV hps
    case makeMap t r _=>exact VZ hG hT hV (fun h=>by cases r <;> simp at h ⊢)
    case mapUpdate t x k w _=>exact Kq hG hT hV (hev x (by simp [Op.operands])) (hev k (by simp [Op.operands])) (hev w (by simp [Op.operands]))
    case store a x _=>exact acr hG hT hV (hev a (by simp [Op.operands])) (hev x (by simp [Op.operands]))
    case makeSlice l c _ =>
     split at hV
     ·
      exact X9 hG hT hV (hev l (by simp [Op.operands])) (hev c (by simp [Op.operands]))
     ·
      exact KN hG hT hV (hev l (by simp [Op.operands])) (hev c (by simp [Op.operands]))
    case convert dst' x _ =>
     have hd:∃ e,P.underlying dst'=some (.slice e):=by
      unfold Zq at hch
      dsimp only at hch
      split at hch
      ·
       exact ⟨_,by assumption⟩
      ·
       exact absurd rfl hch
     obtain ⟨e,hd⟩:=hd
     cases x with
     | tmp t=>exact Yx hG hT hV (hT.slots t) hd
     | const w=>exact Yx hG hT hV (VV.yj (ℓ:=none) (hoka (.const w) (by simp [Op.operands]))) hd
     | global g=>have:=hoka (.global g) (by simp [Op.operands]);cases this
     | func f=>exact Yx hG hT hV (ℓ:=none) ((hT.eval (x:=.func f) rfl).at0) hd
theorem abZ {ops:Array Oper} (hT:TI μ H ω T A) (j:Nat):ynd ops T j=ynd ops A j:=by
 unfold ynd
 cases hd:(ops[j]?).bind (·.dst) with
 | none=>rfl
 | some d =>
  simp only [Option.bind_some]
  have:=hT.slots d
  have e:=hT.len
  by_cases hlt:d < T.length
  ·
   have hlt':d < A.length:=by rw [← e];exact hlt
   simp only [List.getD_eq_getElem?_getD,List.getElem?_eq_getElem hlt,List.getElem?_eq_getElem hlt',Option.getD_some] at this
   rw [List.getElem?_eq_getElem hlt,List.getElem?_eq_getElem hlt']
   generalize T[d]=u at *
   generalize A[d]=u' at *
   cases this <;> rfl
  ·
   have hlt':A.length≤d:=by rw [← e];exact Nat.le_of_not_lt hlt
   rw [List.getElem?_eq_none (Nat.le_of_not_lt hlt),List.getElem?_eq_none hlt']
theorem TI.moved (hT:TI μ H ω T A) (o:Oper):TI μ H ω (moved o T) A:=by
 have slot:∀ t,TI μ H ω (qN T t) A:=by
  intro t
  refine ⟨by simp [qN,hT.len],fun i=>?_,hT.dom,hT.nores⟩
  rw [qN,y8]
  split
  ·
   rename_i h;rw [h.1];exact (hT.slots t).dem
  ·
   exact hT.slots i
 unfold Go.Abs.moved
 split
 ·
  exact slot _
 ·
  exact slot _
 ·
  rename_i t i _
  refine ⟨by simp [hT.len],fun k=>?_,hT.dom,hT.nores⟩
  rw [y8]
  split
  ·
   rename_i h
   rw [h.1]
   have:=hT.slots t
   generalize T.getD t zh=w at this
   cases w with
   | tuple vs =>
    simp only [jd]
    generalize A.getD t zh=a at this
    cases this with
    | sg hs=>simp [Go.Abs.sg] at hs
    | nores=>rw [show (#[]:Array Value).modify i Go.Abs.xB=#[] by simp];exact .nores
    | @tuple _ _ y hxs hxx =>
     refine .tuple (by simpa using hxs) fun j=>?_
     rw [getD_modify _ _ _ _ rfl]
     by_cases hj:j=i
     ·
      subst hj
      rw [if_pos rfl]
      exact (hxx j).part (fun s hs k=>by cases hs;rfl)
     ·
      rw [if_neg hj];exact hxx j
   | _=>exact this
  ·
   exact hT.slots k
 ·
  split
  ·
   exact slot _
  ·
   exact hT
 ·
  exact hT
def After (μ:Mu) (ω:Nat→Option yP) (H:zx) (T':List Value) (S':zx) (R:Option (List Value×zx)):Prop :=
 ∃ A' H' μ' ω',R=some (A',H')∧GI μ' S' H'∧Later μ H μ' H'∧Kept ω H ω' H'∧TI μ' H' ω' T' A'
theorem aay {fx:Fx} (hc:JF P call) {o:Oper} {rest:List Oper} {v:Value} (hG:GI μ S H) (hT:TI μ H ω T A) (h:wS P fx call T o S=some (v,S')) :
  ∃ a H' μ' ω',yB P (lim P) A o H=some (a,H')∧GI μ' S' H'∧Later μ H μ' H'∧Kept ω H ω' H'∧TI μ' H' ω' (vG o rest T v) (JA A o.dst a):=by
 unfold vG
 split
 ·
  rename_i hl
  have hm:∃ x,o.op=.move x:=by
   unfold ah5 at hl
   split at hl
   ·
    rename_i x _ he _;exact ⟨x,he⟩
   ·
    cases hl
  obtain ⟨x,hx⟩:=hm
  unfold wS at h
  split at h <;> first | (cases h;done) | skip
  rename_i hok
  have hox:qP x=true:=List.all_eq_true.1 (show o.op.operands.toList.all qP=true from hok) x (by rw [hx];simp [Op.operands])
  rw [hx] at h
  dsimp only at h
  unfold vOp at h
  rw [hx] at h
  cases h
  have ha:yB P (lim P) A o H=some (jA A x,H):=by
   unfold yB
   rw [if_pos hok,hx]
   dsimp only
   unfold aOp
   rw [hx]
   rfl
  rw [ha]
  exact (Out.same hG hT (hT.eval hox)).put o.dst
 ·
  exact (aeD hc hG hT h).put o.dst
theorem Wu {o:Oper} {rest:List Oper} (hG:GI μ S H) (hT:TI μ H ω T A):∃ μ' ω',GI μ' S H∧Later μ H μ' H∧Kept ω H ω' H∧TI μ' H ω' (vG o rest T zh) (JA A o.dst zh):=by
 unfold vG
 split
 ·
  rw [show dem zh=zh from ZE]
  obtain ⟨a,H1,μ1,ω1,h1,h2,h3,h4,h5⟩:=(Out.same hG hT (VV.zh)).put o.dst
  cases h1
  exact ⟨μ1,ω1,h2,h3,h4,h5⟩
 ·
  obtain ⟨a,H1,μ1,ω1,h1,h2,h3,h4,h5⟩:=(Out.same hG (hT.moved o) (VV.zh)).put o.dst
  cases h1
  exact ⟨μ1,ω1,h2,h3,h4,h5⟩
theorem agc {fx:Fx} (hc:JF P call) {ops:Array Oper}:∀ (l:List Oper) (T T' A:List Value) (S S' H:zx) (μ:Mu) (ω:Nat→Option yP),jF P fx call ops l T S=some (T',S')→GI μ S H→TI μ H ω T A→After μ ω H T' S' (X7 P (lim P) ops l A H):=by
 intro l
 induction l with
 | nil =>
  intro T T' A S S' H μ ω h hG hT
  simp only [jF,Option.some.injEq,Prod.mk.injEq] at h
  obtain ⟨rfl,rfl⟩:=h
  exact ⟨A,H,μ,ω,rfl,hG,Later.refl _ _,Kept.refl _ _,hT⟩
 | cons o l ih =>
  intro T T' A S S' H μ ω h hG hT
  have hy:(ynd ops T)=ynd ops A:=funext fun j=>abZ hT j
  simp only [jF] at h
  simp only [X7,← hy]
  split at h
  ·
   rename_i hw
   split at h
   ·
    rename_i v S1 hs
    obtain ⟨a,H1,μ1,ω1,h1,h2,h3,h4,h5⟩:=aay (rest:=l) hc hG hT hs
    obtain ⟨A2,H2,μ2,ω2,k1,k2,k3,k4,k5⟩:=ih _ _ _ _ _ _ _ _ h h2 h5
    refine ⟨A2,H2,μ2,ω2,?_,k2,h3.trans k3,h4.trans k4,k5⟩
    rw [if_pos hw,h1]
    exact k1
   ·
    cases h
  ·
   rename_i hw
   obtain ⟨μ1,ω1,h2,h3,h4,h5⟩:=Wu (o:=o) (rest:=l) hG hT
   obtain ⟨A2,H2,μ2,ω2,k1,k2,k3,k4,k5⟩:=ih _ _ _ _ _ _ _ _ h h2 h5
   refine ⟨A2,H2,μ2,ω2,?_,k2,h3.trans k3,h4.trans k4,k5⟩
   rw [if_neg hw]
   exact k1
end
end Go.Abs
namespace Go.Abs
open Go.RowKit
section
variable {P:Program} {call:FuncId→List Value→M Value} {μ μ2:Mu} {S S' G H H2:zx} {T A:List Value}
theorem Zk.two {s:M Value} (hs:Zk s) {a:Value} {G':zx} (h:s G=some (a,G')):∀ H,s H=some (a,H):=by
 obtain ⟨o,ho⟩:=hs
 rw [ho] at h
 cases o with
 | none=>cases h
 | some w =>
  simp only [Option.map_some,Option.some.injEq,Prod.mk.injEq] at h
  intro H
  rw [ho,h.1];rfl
theorem Vk {t:TypeId} {ps:List (Nat×Value)}:Zk (yu P t ps):=by
 refine ⟨(yu P t ps zx.empty).map (·.1),fun H=>?_⟩
 unfold yu
 split
 ·
  split
  ·
   split
   ·
    split
    ·
     split <;> rfl
    ·
     rfl
   ·
    split
    ·
     split <;> rfl
    ·
     rfl
   ·
    rfl
  ·
   rfl
 ·
  rfl
theorem Y4 {x:Value}:Zk (xw x):=by
 refine ⟨(xw x zx.empty).map (·.1),fun H=>?_⟩
 unfold xw
 split <;> rfl
theorem VW {t:TypeId} {x i:Value}:Zk (vI P t x i):=by
 unfold vI
 refine ⟨(vI P t x i zx.empty).map (·.1),fun H=>?_⟩
 unfold vI
 dsimp only
 split
 ·
  split
  ·
   split
   ·
    split <;> rfl
   ·
    rfl
  ·
   rfl
 ·
  obtain ⟨o,ho⟩:=yM (P:=P) _ _
  rw [ho,ho]
  cases o <;> rfl
 ·
  rfl
theorem acE {t:TypeId} {x:Value} (hx:∀ m,x≠.map m):Zk (Xy P t x):=by
 refine ⟨(Xy P t x zx.empty).map (·.1),fun H=>?_⟩
 unfold Xy
 split <;> first | rfl | exact absurd rfl (hx _)
theorem YQ {d:Nat} {v:Value} (h:okq d v=true):okq d (dem v)=true:=by
 cases v with
 | iface k v=>cases d <;> rfl
 | tuple vs=>cases d <;> cases h
 | _=>exact h
theorem Yd:∀ (d:Nat) {v a:Value},okq d v=true→V0 μ H v a→abK d a a=true:=by
 intro d
 induction d with
 | zero =>
  intro v a h hv
  cases hv <;> first | (cases h;done) | (simp [abK];done) | skip
  rename_i hs
  cases v <;> first | (simp [abK];done) | (simp [Go.Abs.sg] at hs;done) | skip
 | succ d ih =>
  intro v a h hv
  cases hv <;> first | (cases h;done) | (simp [abK];done) | skip
  ·
   rename_i hs
   cases v <;> first | (simp [abK];done) | (simp [Go.Abs.sg] at hs;done) | skip
  ·
   rename_i x x' hx hh
   unfold abK
   simp only [decide_true,Bool.true_and]
   rw [List.all_eq_true]
   intro p hp
   obtain ⟨i,hi,he⟩:=List.mem_iff_getElem.1 hp
   simp only [List.length_zip,Nat.min_self] at hi
   rw [List.getElem_zip] at he
   subst he
   have hi':i < x'.size:=by simpa using hi
   have hi2:i < x.size:=by rw [hx];exact hi'
   have h2:=hh i
   rw [Array.getD_eq_getD_getElem?,Array.getElem?_eq_getElem hi2,Array.getD_eq_getD_getElem?,Array.getElem?_eq_getElem hi'] at h2
   have h3:okq d x[i]=true:=List.all_eq_true.1 (show x.toList.all (okq d)=true from h) _ (by simp)
   have:=ih h3 h2
   simpa using this
theorem aaC (x:Value):QA (dem x)=QA x:=by cases x <;> rfl
theorem afC {fx:Fx} {o:Oper} {v:Value} (hdr:fx.dr=true) (h:wS P fx call T o S=some (v,S')) (hn:Zq P o=false) (hr:xC o=false) (ho:∀ x ∈ o.op.operands.toList,V0 μ G (dem (jA T x)) (jA A x)) :
  ∃ a,V0 μ G (dem v) a∧∀ H,aOp P (jA A) o H=some (a,H)∧yB P (lim P) A o H=some (a,H):=by
 have hrm:kK o=false:=by
  unfold xC at hr
  unfold kK
  split <;> simp_all
 unfold wS at h
 split at h <;> first | (cases h;done) | skip
 rename_i hok
 obtain ⟨dst,op,type,pos,after,guard⟩:=o
 by_cases hcall:∃ c,op=.call c
 ·
  obtain ⟨c,rfl⟩:=hcall
  dsimp only at h ho
  unfold Zq at hn
  dsimp only at hn
  have hcargs:∀ x ∈ c.args.toList,V0 μ G (dem (jA T x)) (jA A x):=by
   intro x hx
   refine ho x ?_
   simp only [Op.operands,Call.operands]
   cases c.callee <;> simp <;> first | exact .inr (by simpa using hx) | exact (by simpa using hx)
  have step:∀ {b:Builtin} (a:Value),c.callee=.builtin b→(∀ H,kW P b c.argTypes type (c.args.toList.map (jA A)) H=some (a,H))→∀ H,aOp P (jA A) ⟨dst,.call c,type,pos,after,guard⟩ H=some (a,H)∧yB P (lim P) A ⟨dst,.call c,type,pos,after,guard⟩ H=some (a,H):=by
   intro b a hb hall H
   constructor
   ·
    unfold aOp;dsimp only;rw [hb];exact hall H
   ·
    unfold yB;rw [if_pos hok];dsimp only;rw [hb];exact hall H
  cases hcal:c.callee with
  | value f=>rw [hcal] at hn;cases hn
  | invoke r m=>rw [hcal] at hn;cases hn
  | builtin b =>
   rw [hcal] at h
   dsimp only at h
   unfold kY at h
   rw [hcal] at hn
   have gargs:(c.args.toList.map (jA T)).all ground=true→c.args.toList.map (jA A)=c.args.toList.map (jA T):=by
    intro hg
    apply List.map_congr_left
    intro x hx
    exact jO (hcargs x hx) (List.all_eq_true.1 hg _ (List.mem_map.2 ⟨x,hx,rfl⟩))
   cases b <;> dsimp only at h hn <;> first | (cases h;done) | (cases hn;done) | skip
   case len =>
    split at h <;> first | (cases h;done) | skip
    rename_i t x0 ht ha
    obtain ⟨x,hx,rfl⟩:∃ x,c.args.toList=[x]∧jA T x=x0:=by
     match hl:c.args.toList with
     | []=>rw [hl] at ha;cases ha
     | [y]=>rw [hl] at ha;simp at ha;exact ⟨y,rfl,ha⟩
     | y::z::w=>rw [hl] at ha;simp at ha
    have hxv:=hcargs x (by rw [hx];simp)
    obtain ⟨rfl,a,h1,h2⟩:=acH h hxv
    have hmap:∀ m,jA A x≠.map m:=by
     intro m hm
     rw [hm] at hxv
     generalize hu:dem (jA T x)=u at hxv
     have hum:∃ m',u=.map m':=by cases hxv <;> exact ⟨_,rfl⟩
     obtain ⟨m',rfl⟩:=hum
     have:jA T x=.map m':=by
      cases hv:jA T x <;> rw [hv] at hu <;> simp [dem,xB] at hu <;> rw [hu]
     rw [this] at h
     simp [ku] at h
    refine ⟨a,h2.dem,step a hcal fun H=>?_⟩
    unfold kW
    dsimp only
    rw [ht,hx]
    exact (acE hmap).two h1 H
   case min =>
    obtain ⟨rfl,hg,hga,hh⟩:=wW (H:=G) h
    refine ⟨v,(V0.ground hg).dem,step v hcal fun H=>?_⟩
    unfold kW
    dsimp only
    rw [gargs hga]
    exact (yM _ _).two hh H
   case max =>
    obtain ⟨rfl,hg,hga,hh⟩:=wW (H:=G) h
    refine ⟨v,(V0.ground hg).dem,step v hcal fun H=>?_⟩
    unfold kW
    dsimp only
    rw [gargs hga]
    exact (yM _ _).two hh H
 ·
  have hnc:∀ c,op≠.call c:=fun c hc=>hcall ⟨c,hc⟩
  have hV:vOp P fx (jA T) ⟨dst,op,type,pos,after,guard⟩ S=some (v,S'):=by
   cases op <;> first | exact h | exact absurd rfl (hnc _)
  obtain ⟨rfl,a,h1,h2,h3⟩:=Xd (ρA:=jA A) hV hn ho (.inl (Wj hrm)) (.inl hdr)
  have hA:∀ H,yB P (lim P) A ⟨dst,op,type,pos,after,guard⟩ H=aOp P (jA A) ⟨dst,op,type,pos,after,guard⟩ H:=by
   intro H
   unfold yB
   rw [if_pos hok]
   cases op <;> first | rfl | exact absurd rfl (hnc _)
  refine ⟨a,h2,fun H=>?_⟩
  rw [hA]
  have key:aOp P (jA A) ⟨dst,op,type,pos,after,guard⟩ H=some (a,H):=by
   have hf:Zk (aOp P (jA A) ⟨dst,op,type,pos,after,guard⟩):=by
    unfold Zq at hn
    unfold xC at hr
    unfold aOp
    unfold vOp at hV
    cases op <;> dsimp only at hn hr hV ⊢ <;> first | (cases hn;done) | (cases hr;done) | (cases hV;done) | skip
    ·
     exact YR _
    ·
     exact YR _
    ·
     exact abd _ _ _
    ·
     exact Vk
    ·
     exact Y4
    ·
     exact X5 _ _ _ _
    ·
     exact aeU _ _
    ·
     exact YR _
    ·
     exact YH _ _ _
    ·
     exact Vj _ _ _
    ·
     exact YA _ _ _
    ·
     exact VW
    ·
     exact Kz _ _
   exact hf.two h1 H
  exact ⟨key,key⟩
theorem acG {t:TypeId} {r o e:Nat} {l:List Value} {own own':Own} {a:Value} (hg:G.get r=some (.cells l own e)) (hg':H2.get r=some (.cells l own' e)) (h:yY P t (.pointer (some ⟨r,o,none⟩)) G=some (a,G)) :
  yY P t (.pointer (some ⟨r,o,none⟩)) H2=some (a,H2):=by
 simp only [yY,hg] at h
 simp only [yY,hg']
 (repeat' split at h) <;> first | (cases h;done) | skip
 all_goals simp_all
theorem VV.backed {v:Value} {r o n c:Nat} (h:V0 μ G v (.slice (some ⟨r,o,none⟩) n c)) (hv:QA v=false):∃ l own e,r < G.next∧ZU μ r∧G.get r=some (.cells l own e):=by
 cases h with
 | sg hs=>simp [Go.Abs.sg] at hs
 | slm hm=>simp [QA] at hv
 | sl hr hp hg _ _ _=>exact ⟨_,_,_,hr,hp,hg⟩
theorem abB {x:Value} {n:Nat} {cs:List Value} (hx:∀ r o n c,x=.slice (some ⟨r,o,none⟩) n c→∃ l own own' e,G.get r=some (.cells l own e)∧H2.get r=some (.cells l own' e)) (h:qc x n G=some cs):qc x n H2=some cs:=by
 unfold qc at h ⊢
 split at h
 ·
  rename_i r o k c
  obtain ⟨l,own,own',e,hg,hg'⟩:=hx _ _ _ _ rfl
  rw [hg] at h
  rw [hg']
  exact h
 ·
  exact h
 ·
  exact h
 ·
  cases h
theorem acw {src dst:TypeId} {x a:Value} (hd:∀ e,P.underlying dst≠some (.slice e)) (hx:∀ r o n c,x=.slice (some ⟨r,o,none⟩) n c→∃ l own own' e,G.get r=some (.cells l own e)∧H2.get r=some (.cells l own' e)) (h:yE P src dst x G=some (a,G)) :
  yE P src dst x H2=some (a,H2):=by
 unfold yE at h ⊢
 split at h
 ·
  rename_i b n c
  (try dsimp only)
  split at h
  ·
   rename_i e hs hdd
   split at h <;> first | (cases h;done) | skip
   rename_i he
   split at h <;> first | (cases h;done) | skip
   rename_i cs hcs
   rw [abB hx hcs]
   (try dsimp only)
   split at h <;> first | (cases h;done) | skip
   rename_i bs hbs
   (try rw [hbs])
   cases h
   rfl
  ·
   rename_i e0 e hs hdd
   exact absurd hdd (hd e)
  ·
   cases h
 ·
  rename_i s
  (try dsimp only)
  split at h
  ·
   rename_i d e hs hdd
   exact absurd hdd (hd e)
  ·
   exact (yM _ _).two h H2
 ·
  exact (yM _ _).two h H2
theorem abt {t:TypeId} {x a:Value} {lo hi:Option Value} (hx:∀ r o n c,x=.slice (some ⟨r,o,none⟩) n c→∃ l own own' e,G.get r=some (.cells l own e)∧H2.get r=some (.cells l own' e)) (h:kJ P t x lo hi G=some (a,G)) :
  kJ P t x lo hi H2=some (a,H2):=by
 unfold kJ at h ⊢
 split at h
 ·
  rename_i s hu
  exact (yM _ _).two h H2
 ·
  rename_i e b n c hu
  (try dsimp only)
  split at h <;> first | (cases h;done) | skip
  rename_i size l hh hs hl hhi
  (try simp only [hs,hl,hhi])
  split at h <;> first | (cases h;done) | skip
  rename_i c0
  split at h <;> first | (cases h;done) | skip
  rename_i c1
  split at h <;> first | (cases h;done) | skip
  rename_i c2
  rw [if_pos c0,if_pos c1,if_pos c2]
  split at h
  ·
   split at h <;> first | (cases h;done) | skip
   rename_i hn
   cases h
   rw [if_pos hn]
  ·
   rename_i r o
   obtain ⟨l2,own,own',e2,hg,hg'⟩:=hx _ _ _ _ rfl
   rw [hg] at h
   rw [hg']
   dsimp only at h ⊢
   split at h <;> first | (cases h;done) | skip
   rename_i he
   rw [if_pos he]
   cases h
   rfl
  ·
   split at h <;> first | (cases h;done) | skip
   rename_i hn
   cases h
   rw [if_pos hn]
  ·
   cases h
 ·
  cases h
theorem J7 {t:TypeId} {r o:Nat} {a:Value} {G':zx} (hg:H2.get r=G.get r) (h:yY P t (.pointer (some ⟨r,o,none⟩)) G=some (a,G')):yY P t (.pointer (some ⟨r,o,none⟩)) H2=some (a,H2):=by
 simp only [yY] at h ⊢
 rw [hg]
 (repeat' split at h) <;> first | (cases h;done) | skip
 all_goals simp_all
theorem XI {t:TypeId} {x k:Value} {ok:Bool} {a:Value} {G':zx} (hg:∀ r,x=.map (some r)→H2.get r=G.get r) (h:wY P t x k ok G=some (a,G')):wY P t x k ok H2=some (a,H2):=by
 have e:∀ H:zx,wY P t x k ok H=(wY P t x k ok H).map (fun r=>(r.1,H)):=by
  intro H
  unfold wY
  (try dsimp only)
  (repeat' split) <;> rfl
 have e2:(wY P t x k ok H2).map (·.1)=(wY P t x k ok G).map (·.1):=by
  cases x with
  | map b =>
   cases b with
   | none=>unfold wY;dsimp only;(repeat' split) <;> rfl
   | some r =>
    unfold wY
    dsimp only
    rw [hg r rfl]
    (repeat' split) <;> rfl
  | _=>unfold wY;(try dsimp only) <;> (try ((repeat' split) <;> rfl))
 rw [h] at e2
 rw [e H2]
 cases hh:wY P t x k ok H2 with
 | none=>rw [hh] at e2;cases e2
 | some w =>
  rw [hh] at e2
  simp only [Option.map_some,Option.some.injEq] at e2 ⊢
  rw [e2]
theorem af5 {fx:Fx} {o:Oper} {v:Value} (hdr:fx.dr=true) (h:wS P fx call T o S=some (v,S')) (hn:Zq P o=false) (hm:vk (jA T) o) (ho:∀ x ∈ o.op.operands.toList,V0 μ G (dem (jA T x)) (jA A x)) (hL:Later μ G μ2 H2) :
  ∃ a,V0 μ G (dem v) a∧aOp P (jA A) o G=some (a,G)∧aOp P (jA A) o H2=some (a,H2)∧yB P (lim P) A o G=some (a,G)∧yB P (lim P) A o H2=some (a,H2):=by
 by_cases hr:xC o=false
 ·
  obtain ⟨a,h1,h2⟩:=afC hdr h hn hr ho
  exact ⟨a,h1,(h2 G).1,(h2 H2).1,(h2 G).2,(h2 H2).2⟩
 ·
  unfold wS at h
  split at h <;> first | (cases h;done) | skip
  rename_i hok
  obtain ⟨dst,op,type,pos,after,guard⟩:=o
  unfold xC at hr
  cases op <;> dsimp only at h hr <;> first | (exact absurd rfl hr) | skip
  case load t addr =>
   obtain ⟨rfl,a,h1,h2,h3⟩:=Xd (ρA:=jA A) h hn ho (.inl hm) (.inl hdr)
   have hA:∀ H,yB P (lim P) A ⟨dst,.load t addr,type,pos,after,guard⟩ H=aOp P (jA A) ⟨dst,.load t addr,type,pos,after,guard⟩ H:=fun H=>by unfold yB;rw [if_pos hok]
   have key:aOp P (jA A) ⟨dst,.load t addr,type,pos,after,guard⟩ H2=some (a,H2):=by
    have hx:=ho addr (by simp [Op.operands])
    have h:jE P fx.nm t (jA T addr) S'=some (v,S'):=h
    unfold aOp at h1 ⊢
    dsimp only at h1 ⊢
    unfold jE at h
    split at h
    ·
     rename_i k cs he
     split at h <;> first | (cases h;done) | skip
     rename_i hk
     subst hk
     rw [he] at hx
     have hx:V0 μ G (.iface 3 (.agg cs)) (jA A addr):=hx
     generalize hq:jA A addr=q at hx h1 ⊢
     cases hx with
     | sg hs=>simp [Go.Abs.sg] at hs
     | ep hr hp hg hl hc =>
      obtain ⟨own',hg'⟩:=hL.cells _ _ _ _ hr hp hg
      exact acG hg hg' h1
    ·
     rename_i ad he
     exact absurd he (hm ad)
    ·
     cases h
   exact ⟨a,h2,h1,key,by rw [hA];exact h1,by rw [hA];exact key⟩
  case convert src d x =>
   obtain ⟨rfl,a,h1,h2,h3⟩:=Xd (ρA:=jA A) h hn ho (.inl hm) (.inl hdr)
   have hA:∀ H,yB P (lim P) A ⟨dst,.convert src d x,type,pos,after,guard⟩ H=aOp P (jA A) ⟨dst,.convert src d x,type,pos,after,guard⟩ H:=fun H=>by unfold yB;rw [if_pos hok]
   have key:aOp P (jA A) ⟨dst,.convert src d x,type,pos,after,guard⟩ H2=some (a,H2):=by
    have hx:=ho x (by simp [Op.operands])
    unfold aOp at h1 ⊢
    dsimp only at h1 ⊢
    refine acw (fun e he=>?_) (fun r o n c hq=>?_) h1
    ·
     unfold Zq at hn
     dsimp only at hn
     rw [he] at hn;cases hn
    ·
     rw [hq] at hx
     have hh:QA (dem (jA T x))=false:=by
      rw [aaC]
      have h:wP P fx.hp fx.dr src d (jA T x) S'=some (v,S'):=h
      unfold wP at h
      split at h
      ·
       first | (cases h;done) | (rw [hdr] at h;simp at h)
      ·
       rename_i hh;simpa using hh
     obtain ⟨l,own,e,hr,hp,hg⟩:=hx.backed hh
     obtain ⟨own',hg'⟩:=hL.cells _ _ _ _ hr hp hg
     exact ⟨l,own,own',e,hg,hg'⟩
   exact ⟨a,h2,h1,key,by rw [hA];exact h1,by rw [hA];exact key⟩
  case slice t x lo hi mx =>
   obtain ⟨rfl,a,h1,h2,h3⟩:=Xd (ρA:=jA A) h hn ho (.inl hm) (.inl hdr)
   have hA:∀ H,yB P (lim P) A ⟨dst,.slice t x lo hi mx,type,pos,after,guard⟩ H=aOp P (jA A) ⟨dst,.slice t x lo hi mx,type,pos,after,guard⟩ H:=fun H=>by unfold yB;rw [if_pos hok]
   have key:aOp P (jA A) ⟨dst,.slice t x lo hi mx,type,pos,after,guard⟩ H2=some (a,H2):=by
    have hx:=ho x (by simp [Op.operands])
    unfold aOp at h1 ⊢
    cases mx with
    | some m=>cases h1
    | none =>
     dsimp only at h1 ⊢
     refine abt (fun r o n c hq=>?_) h1
     rw [hq] at hx
     have hh:QA (dem (jA T x))=false:=by
      rw [aaC]
      have h:yc P fx.dr t (jA T x) (lo.map (jA T)) (hi.map (jA T)) S'=some (v,S'):=h
      unfold yc at h
      split at h
      ·
       first | (cases h;done) | (rw [hdr] at h;simp at h)
      ·
       rename_i hh;simpa using hh
     obtain ⟨l,own,e,hr,hp,hg⟩:=hx.backed hh
     obtain ⟨own',hg'⟩:=hL.cells _ _ _ _ hr hp hg
     exact ⟨l,own,own',e,hg,hg'⟩
   exact ⟨a,h2,h1,key,by rw [hA];exact h1,by rw [hA];exact key⟩
  case lookup t x k ok =>
   exact hm.elim
end
end Go.Abs
namespace Go.Abs
open Go.RowKit
structure Line (P : Program) (fx : Fx) (chk : List Nat) (call : FuncId → List Value → M Value) (ops : Array Oper) (k0 : Nat) (l : List Oper) (Ts As : Nat → List Value) (Ss Hs : Nat → zx) (μs : Nat → Mu) (ωs : Nat → Nat → Option yP) (vs zf : Nat → Value) : Prop where
  inv : ∀ k, k ≤ l.length → GI (μs k) (Ss k) (Hs k) ∧ TI (μs k) (Hs k) (ωs k) (Ts k) (As k)
  step : ∀ k o, l[k]? = some o → Later (μs k) (Hs k) (μs (k + 1)) (Hs (k + 1)) ∧ Kept (ωs k) (Hs k) (ωs (k + 1)) (Hs (k + 1)) ∧
    ((Region.wanted o (ynd ops (As k)) = true ∧ wS P fx call (Ts k) o (Ss k) = some (vs k, Ss (k + 1)) ∧ yB P (lim P) (As k) o (Hs k) = some (zf k, Hs (k + 1)) ∧
        Ts (k + 1) = vG o (l.drop (k + 1)) (Ts k) (vs k) ∧ As (k + 1) = JA (As k) o.dst (zf k) ∧ (chk.contains (k0 + k) = true → okq 3 (vs k) = true)) ∨
     (Region.wanted o (ynd ops (As k)) = false ∧ zf k = zh ∧ Ts (k + 1) = vG o (l.drop (k + 1)) (Ts k) zh ∧ As (k + 1) = JA (As k) o.dst zh ∧ Hs (k + 1) = Hs k))
section
variable {P:Program} {call:FuncId→List Value→M Value}
theorem line_of {fx : Fx} {chk : List Nat} {nl : List (Nat × Nat)} (hc : JF P call) {ops : Array Oper} : ∀ (l : List Oper) (k0 : Nat) (hist : List (Value × zx)) (T T' A : List Value) (S S' H : zx) (μ : Mu) (ω : Nat → Option yP), wC P fx chk nl call ops k0 hist l T S = some (T', S') → GI μ S H → TI μ H ω T A →
    ∃ Ts As Ss Hs μs ωs vs zf tr, Line P fx chk call ops k0 l Ts As Ss Hs μs ωs vs zf ∧ Ts 0 = T ∧ As 0 = A ∧ Ss 0 = S ∧ Hs 0 = H ∧ μs 0 = μ ∧ ωs 0 = ω ∧ Ts l.length = T' ∧ Ss l.length = S' ∧
      qL P (lim P) ops l A H = some (tr, As l.length, Hs l.length) ∧ (∀ k, k < l.length → tr[k]? = some (As k, Hs k, zf k)) ∧ (∀ k, k ≤ l.length → (tr.map (·.2.1) ++ [Hs l.length])[k]? = some (Hs k)) ∧
      ∃ hs : List (Value × zx), hs.length = l.length ∧ (∀ k o, l[k]? = some o → hs[k]? = some (kD (Ts k) o, Ss k)) ∧ (nl.isEmpty = false → nl.all (Xw (hist ++ hs ++ [(zh, S')])) = true) := by
  intro l
  induction l with
  | nil =>
    intro k0 hist T T' A S S' H μ ω h hG hT
    simp only [wC] at h
    split at h <;> first | (cases h; done) | skip
    rename_i hst
    cases h
    refine ⟨fun _ => T, fun _ => A, fun _ => S, fun _ => H, fun _ => μ, fun _ => ω, fun _ => zh, fun _ => zh, [], ⟨fun k _ => ⟨hG, hT⟩, fun k o ho => by simp at ho⟩, rfl, rfl, rfl, rfl, rfl, rfl, rfl, rfl, rfl, fun k hk => by simp at hk, fun k hk => ?_, [], rfl, fun k o ho => by simp at ho, fun he => ?_⟩
    · have : k = 0 := by simpa using hk
      subst this
      rfl
    · simpa [kQ, he] using hst
  | cons o l ih =>
    intro k0 hist T T' A S S' H μ ω h hG hT
    have hy : (ynd ops T) = ynd ops A := funext fun j => abZ hT j
    simp only [wC] at h
    have glue : ∀ (T1 A1 : List Value) (S1 H1 : zx) (μ1 : Mu) (ω1 : Nat → Option yP) (v a : Value), wC P fx chk nl call ops (k0 + 1) (kQ nl hist (kD T o) S) l T1 S1 = some (T', S') → GI μ1 S1 H1 → TI μ1 H1 ω1 T1 A1 → Later μ H μ1 H1 → Kept ω H ω1 H1 →
        ((Region.wanted o (ynd ops A) = true ∧ wS P fx call T o S = some (v, S1) ∧ yB P (lim P) A o H = some (a, H1) ∧ T1 = vG o l T v ∧ A1 = JA A o.dst a ∧ (chk.contains k0 = true → okq 3 v = true)) ∨
         (Region.wanted o (ynd ops A) = false ∧ a = zh ∧ T1 = vG o l T zh ∧ A1 = JA A o.dst zh ∧ H1 = H)) →
        (∀ tr A2 H2, qL P (lim P) ops l A1 H1 = some (tr, A2, H2) → qL P (lim P) ops (o :: l) A H = some ((A, H, a) :: tr, A2, H2)) →
        ∃ Ts As Ss Hs μs ωs vs zf tr, Line P fx chk call ops k0 (o :: l) Ts As Ss Hs μs ωs vs zf ∧ Ts 0 = T ∧ As 0 = A ∧ Ss 0 = S ∧ Hs 0 = H ∧ μs 0 = μ ∧ ωs 0 = ω ∧ Ts (o :: l).length = T' ∧ Ss (o :: l).length = S' ∧
          qL P (lim P) ops (o :: l) A H = some (tr, As (o :: l).length, Hs (o :: l).length) ∧ (∀ k, k < (o :: l).length → tr[k]? = some (As k, Hs k, zf k)) ∧ (∀ k, k ≤ (o :: l).length → (tr.map (·.2.1) ++ [Hs (o :: l).length])[k]? = some (Hs k)) ∧
          ∃ hs : List (Value × zx), hs.length = (o :: l).length ∧ (∀ k o', (o :: l)[k]? = some o' → hs[k]? = some (kD (Ts k) o', Ss k)) ∧ (nl.isEmpty = false → nl.all (Xw (hist ++ hs ++ [(zh, S')])) = true) := by
      intro T1 A1 S1 H1 μ1 ω1 v a hrest hG1 hT1 hL hK hstep htr
      obtain ⟨Ts, As, Ss, Hs, μs, ωs, vs, zf, tr, hline, e1, e2, e3, e4, e5, e6, e7, e8, e9, e10, e11, hs, e12, e13, e14⟩ := ih _ _ _ _ _ _ _ _ _ _ hrest hG1 hT1
      refine ⟨fun k => match k with | 0 => T | k + 1 => Ts k, fun k => match k with | 0 => A | k + 1 => As k, fun k => match k with | 0 => S | k + 1 => Ss k, fun k => match k with | 0 => H | k + 1 => Hs k,
        fun k => match k with | 0 => μ | k + 1 => μs k, fun k => match k with | 0 => ω | k + 1 => ωs k, fun k => match k with | 0 => v | k + 1 => vs k, fun k => match k with | 0 => a | k + 1 => zf k, (A, H, a) :: tr,
        ⟨fun k hk => ?_, fun k o' ho => ?_⟩, rfl, rfl, rfl, rfl, rfl, rfl, e7, e8, htr _ _ _ e9, fun k hk => ?_, fun k hk => ?_, (kD T o, S) :: hs, by simp [e12], fun k o' ho => ?_, fun he => ?_⟩
      · cases k with
        | zero => exact ⟨hG, hT⟩
        | succ k => exact hline.inv k (by simpa using hk)
      · cases k with
        | zero =>
          simp only [List.getElem?_cons_zero, Option.some.injEq] at ho
          subst ho
          dsimp only
          rw [e1, e2, e3, e4, e5, e6]
          exact ⟨hL, hK, hstep⟩
        | succ k =>
          have := hline.step k o' (by simpa using ho)
          rw [show k0 + 1 + k = k0 + (k + 1) by omega] at this
          exact this
      · cases k with
        | zero => rfl
        | succ k => simpa using e10 k (by simpa using hk)
      · cases k with
        | zero => rfl
        | succ k => simpa using e11 k (by simpa using hk)
      · cases k with
        | zero =>
          simp only [List.getElem?_cons_zero, Option.some.injEq] at ho
          subst ho
          rfl
        | succ k => simpa using e13 k o' (by simpa using ho)
      · have := e14 he
        rw [show kQ nl hist (kD T o) S = hist ++ [(kD T o, S)] by simp [kQ, he]] at this
        simpa using this
    split at h
    · rename_i hw
      split at h
      · rename_i v S1 hs
        split at h <;> first | (cases h; done) | skip
        rename_i hchk
        obtain ⟨a, H1, μ1, ω1, h1, h2, h3, h4, h5⟩ := aay (rest := l) hc hG hT hs
        have hw' : Region.wanted o (ynd ops A) = true := by rw [← hy]; exact hw
        refine glue _ _ _ H1 μ1 ω1 v a h h2 h5 h3 h4 (.inl ⟨hw', hs, h1, rfl, rfl, fun hk => ?_⟩) (fun tr A2 H2 ht => ?_)
        · rw [hk] at hchk; simpa using hchk
        · simp only [qL, hw', if_true, h1, ht]
      · cases h
    · rename_i hw
      obtain ⟨μ1, ω1, h2, h3, h4, h5⟩ := Wu (o := o) (rest := l) hG hT
      have hw' : Region.wanted o (ynd ops A) = false := by rw [← hy]; simpa using hw
      refine glue _ _ _ H μ1 ω1 zh zh h h2 h5 h3 h4 (.inr ⟨hw', rfl, rfl, rfl, rfl⟩) (fun tr A2 H2 ht => ?_)
      simp only [qL, hw', ht]
      rfl
variable {fx:Fx} {chk:List Nat} {ops:Array Oper} {k0:Nat} {l:List Oper} {Ts As:Nat→List Value} {Ss Hs:Nat→zx} {μs:Nat→Mu} {ωs:Nat→Nat→Option yP} {vs zf:Nat→Value}
theorem Line.later (hl:Line P fx chk call ops k0 l Ts As Ss Hs μs ωs vs zf) {i:Nat}:∀ (d:Nat),i+d≤l.length→Later (μs i) (Hs i) (μs (i+d)) (Hs (i+d)):=by
 intro d
 induction d with
 | zero=>intro _;exact Later.refl _ _
 | succ d ih =>
  intro hd
  have ho:l[i+d]?=some l[i+d]:=List.getElem?_eq_getElem (by omega)
  exact (ih (by omega)).trans (hl.step (i+d) _ ho).1
theorem Line.kept (hl:Line P fx chk call ops k0 l Ts As Ss Hs μs ωs vs zf):∀ (d:Nat),d≤l.length→Kept (ωs 0) (Hs 0) (ωs d) (Hs d):=by
 intro d
 induction d with
 | zero=>intro _;exact Kept.refl _ _
 | succ d ih =>
  intro hd
  have ho:l[d]?=some l[d]:=List.getElem?_eq_getElem (by omega)
  exact (ih (by omega)).trans (hl.step d _ ho).2.1
theorem VD (i:Nat) (w:Value):dem (jd i w)=dem w:=by
 cases w with
 | tuple vs =>
  simp only [jd,dem]
  congr 1
  apply Array.ext (by simp)
  intro k h1 h2
  rw [Array.getElem_map,Array.getElem_map,Array.getElem_modify]
  split
  ·
   have:∀ v,xB (xB v)=xB v:=by
    intro v
    cases v with
    | iface k v =>
     simp only [xB]
     by_cases h:k=2
     ·
      rw [if_pos h,if_neg (by decide)]
     ·
      rw [if_neg h,if_neg h]
    | _=>rfl
   exact this _
  ·
   rfl
 | _=>rfl
theorem X4 (o:Oper) (T:List Value) (t:Nat):dem ((moved o T).getD t zh)=dem (T.getD t zh):=by
 have slot:∀ t',dem ((qN T t').getD t zh)=dem (T.getD t zh):=by
  intro t'
  rw [qN,y8]
  split
  ·
   rename_i h;rw [h.1,QW]
  ·
   rfl
 unfold moved
 split
 ·
  exact slot _
 ·
  exact slot _
 ·
  rw [y8]
  split
  ·
   rename_i h;rw [h.1,VD]
  ·
   rfl
 ·
  split
  ·
   exact slot _
  ·
   rfl
 ·
  rfl
theorem moved_length (o:Oper) (T:List Value):(moved o T).length=T.length:=by
 unfold moved
 split <;> first | simp [qN] | rfl | skip
 split <;> first | simp [qN] | rfl
theorem Xo {o:Oper} {rest:List Oper} {T:List Value} {v:Value} (hd:o.dst=none) (t:Nat):dem ((vG o rest T v).getD t zh)=dem (T.getD t zh):=by
 unfold vG
 rw [hd]
 split
 ·
  rfl
 ·
  exact X4 o T t
theorem Xb {o:Oper} {rest:List Oper} {T:List Value} {v:Value} {d:Nat} (hd:o.dst=some d) (t:Nat):dem ((vG o rest T v).getD t zh)=if t=d∧d < T.length then dem v else dem (T.getD t zh):=by
 unfold vG
 rw [hd]
 split
 ·
  simp only [JA]
  rw [y8]
  split
  ·
   exact QW v
  ·
   rfl
 ·
  simp only [JA]
  rw [y8,moved_length]
  split
  ·
   rfl
  ·
   exact X4 o T t
def Clear (μ:Mu) (G:zx) (bad:List Nat) (T A:List Value):Prop:=∀ t,bad.contains t=false→V0 μ G (dem (T.getD t zh)) (A.getD t zh)
theorem Clear.operands {μ:Mu} {G:zx} {bad:List Nat} {T A:List Value} (h:Clear μ G bad T A) {o:Oper} (hok:aej o=true) (hc:qI bad o=true):∀ x ∈ o.op.operands.toList,V0 μ G (dem (jA T x)) (jA A x):=by
 intro x hx
 have h1:=List.all_eq_true.1 (show o.op.operands.toList.all qP=true from hok) x hx
 have h2:=List.all_eq_true.1 hc x hx
 cases x with
 | tmp t=>exact h t (by simpa using h2)
 | const v=>exact (VV.yj (μ:=μ) (H:=G) (ω:=W0) (ℓ:=none) h1).v0
 | global g=>cases h1
 | func f =>
  have:V0 μ G (.func (.func f) #[] #[]) (.func (.func f) #[] #[]):=.func _ rfl rfl (fun i=>by simpa using VV.zh) (fun i=>by simpa using VV.zh)
  exact this
theorem vM {T:List Value} {o:Oper} {S S':zx} {v:Value} (h:wS P fx call T o S=some (v,S')):aej o=true:=by
 unfold wS at h
 split at h
 ·
  assumption
 ·
  cases h
theorem aaU {fx:Fx} {o:Oper} {T A:List Value} {v:Value} {S S' H:zx} {μ:Mu} (h:wS P fx call T o S=some (v,S')) (hnm:fx.nm=true) (hm:¬ vk (jA T) o) (hG:GI μ S H) (ho:∀ x ∈ o.op.operands.toList,V0 μ H (dem (jA T x)) (jA A x)) :
  ground v=true∧∃ a,yB P (lim P) A o H=some (a,H)∧a=v:=by
 have hok:=vM h
 unfold wS at h
 rw [if_pos hok] at h
 obtain ⟨dst,op,type,pos,after,guard⟩:=o
 unfold vk at hm
 cases op <;> dsimp only at h hm <;> first | (exact absurd True.intro hm) | skip
 case load t a =>
  have h:jE P fx.nm t (jA T a) S=some (v,S'):=h
  obtain ⟨q,hq⟩:∃ q,jA T a=.pointer q:=Classical.byContradiction fun hn=>hm fun q hq=>hn ⟨q,hq⟩
  obtain ⟨rfl,w,k1,k2⟩:=JR h (ho a (by simp [Op.operands])) (.inr hG)
  rw [hnm] at h
  have hgr:ground v=true:=by
   unfold jE at h
   rw [hq] at h
   dsimp only at h
   split at h <;> first | (cases h;done) | skip
   ·
    split at h
    ·
     split at h <;> first | (cases h;done) | skip
     rename_i hg
     cases h
     exact hg
    ·
     rename_i hf;exact absurd rfl hf
   ·
    split at h
    ·
     split at h <;> first | (cases h;done) | skip
     rename_i hg
     cases h
     exact hg
    ·
     rename_i hf;exact absurd rfl hf
  refine ⟨hgr,w,?_,k2.xu hgr⟩
  unfold yB
  rw [if_pos hok]
  exact k1
 case lookup t x k ok =>
  have h:Wh P fx.nm t (jA T x) (jA T k) ok S=some (v,S'):=h
  unfold Wh at h
  rw [hnm] at h
  simp at h
theorem Line.aeJ (hl:Line P fx chk call ops k0 l Ts As Ss Hs μs ωs vs zf) {j k:Nat} (hjk:j≤k) (hk:k≤l.length) {q r:Nat} {b:Bool} (hmq:μs j q=some (r,b)) {o:qp} (g1:(Ss j).get q=some o) (g2:o.alive=true) (g3:q ∉ (Ss k).log.take ((Ss k).log.length - (Ss j).log.length)):(Hs k).get r=(Hs j).get r:=by
 obtain ⟨hGj,_⟩:=hl.inv j (by omega)
 obtain ⟨hGk,_⟩:=hl.inv k hk
 obtain ⟨r0,_,g4,_⟩:=hGj.obj q o g1 g2
 rw [hmq] at g4
 cases g4
 have hL:=hl.later (i:=j) (k - j) (by omega)
 rw [show j+(k - j)=k by omega] at hL
 obtain ⟨new,n1,n2⟩:=hL.still
 rw [hGk.log,hGj.log] at n1
 rw [n1] at g3
 simp only [List.length_append,Nat.add_sub_cancel,List.take_left] at g3
 exact (n2 q r hmq g3).2
theorem abe {fx:Bool} {t:TypeId} {q o:Nat} {v:Value} {S S2 S':zx} (e:S2.get q=S.get q) (h:jE P fx t (.pointer (some ⟨q,o,none⟩)) S=some (v,S')):jE P fx t (.pointer (some ⟨q,o,none⟩)) S2=some (v,S2):=by
 unfold jE at h ⊢
 dsimp only at h ⊢
 cases hl:yY P t (.pointer (some ⟨q,o,none⟩)) S with
 | none=>rw [hl] at h;cases h
 | some p =>
  obtain ⟨a,G⟩:=p
  rw [hl] at h
  rw [J7 e hl]
  cases a <;> dsimp only at h ⊢ <;> (repeat' split at h) <;> first | (cases h;done) | (cases h;simp_all;done) | skip
  all_goals (cases h;try simp_all)
theorem Line.aaR (hl:Line P fx chk call ops k0 l Ts As Ss Hs μs ωs vs zf) {j k:Nat} (hjk:j≤k) (hk:k≤l.length) {o:Oper} (hm:¬ vk (jA (Ts k)) o) (hL:isLoad o=true) (hv:wS P fx call (Ts k) o (Ss k)=some (vs k,Ss (k+1))) (ha:yB P (lim P) (As k) o (Hs k)=some (zf k,Hs (k+1)))
  (hx0:∀ x ∈ o.op.operands.toList,V0 (μs j) (Hs j) (dem (jA (Ts k) x)) (jA (As k) x)) (s1:qM (kD (Ts k) o) (Ss j) (Ss k)=true) (s2:Xg (kD (Ts k) o) (Ss j) (Ss k)=true):V0 (μs j) (Hs j) (dem (vs k)) (zf k):=by
 have hok:=vM hv
 unfold wS at hv
 rw [if_pos hok] at hv
 obtain ⟨dst,op,type,pos,after,guard⟩:=o
 unfold vk at hm
 cases op <;> first | (cases hL;done) | skip
 case load t a =>
  dsimp only at hm
  have hv:jE P fx.nm t (jA (Ts k) a) (Ss k)=some (vs k,Ss (k+1)):=hv
  obtain ⟨ad,hq⟩:∃ q,jA (Ts k) a=.pointer q:=Classical.byContradiction fun hn=>hm fun q hq=>hn ⟨q,hq⟩
  have hx:=hx0 a (by simp [Op.operands])
  have hA:yB P (lim P) (As k) ⟨dst,.load t a,type,pos,after,guard⟩ (Hs k)=yY P t (jA (As k) a) (Hs k):=by unfold yB;rw [if_pos hok];rfl
  rw [hA] at ha
  have s1:qM (jA (Ts k) a) (Ss j) (Ss k)=true:=s1
  have s2:Xg (jA (Ts k) a) (Ss j) (Ss k)=true:=s2
  rw [hq] at hx hv s1 s2
  have hx:V0 (μs j) (Hs j) (.pointer ad) (jA (As k) a):=hx
  generalize jA (As k) a=pa at hx ha
  cases hx with
  | sg hs =>
   cases ad with
   | none=>simp [jE,yY] at hv
   | some ad=>simp [Go.Abs.sg] at hs
  | @ptr _ q o r b hmq =>
   simp only [qM,Bool.and_eq_true,Bool.not_eq_true',List.contains_eq_mem,decide_eq_false_iff_not] at s1
   obtain ⟨h1,h3⟩:=s1
   split at h1 <;> first | (cases h1;done) | skip
   rename_i hsa
   have g:=hl.aeJ hjk hk hmq hsa rfl h3
   have e:(Ss j).get q=(Ss k).get q:=@of_decide_eq_true _ (Classical.propDecidable _) s2
   have k1:=J7 g.symm ha
   have hvj:=abe e hv
   obtain ⟨hGj,_⟩:=hl.inv j (by omega)
   obtain ⟨_,w,k2,k3⟩:=JR hvj (show V0 (μs j) (Hs j) (dem (.pointer (some ⟨q,o,none⟩))) _ from .ptr hmq) (.inr hGj)
   rw [k1] at k2
   cases k2
   exact k3.dem
theorem Line.clear (hdr:fx.dr=true) (hl:Line P fx chk call ops k0 l Ts As Ss Hs μs ωs vs zf) {j:Nat} (hj:j≤l.length) {cl:Nat→Bool} (hcl:∀ k o,j≤k→l[k]?=some o→isLoad o=true→cl k=true→qM (kD (Ts k) o) (Ss j) (Ss k)=true∧Xg (kD (Ts k) o) (Ss j) (Ss k)=true):∀ (rest:List Oper) (bad:List Nat) (k:Nat),j≤k→l.drop k=rest→Clear (μs j) (Hs j) bad (Ts k) (As k) →
  ∀ d,d≤rest.length→Clear (μs j) (Hs j) ((ac9 P fx.nm cl k rest bad).getD d []) (Ts (k+d)) (As (k+d)):=by
 intro rest
 induction rest with
 | nil =>
  intro bad k hjk hr hC d hd
  have:d=0:=by simpa using hd
  subst this
  exact hC
 | cons o rest ih =>
  intro bad k hjk hr hC d hd
  have hkl:k < l.length:=by
   have:=congrArg List.length hr
   simp at this;omega
  have ho:l[k]?=some o:=by
   have:=congrArg (·[0]?) hr
   simpa [List.getElem?_drop] using this
  cases d with
  | zero=>exact hC
  | succ d =>
   simp only [ac9,List.getD_cons_succ]
   rw [show k+(d+1)=k+1+d by omega]
   refine ih _ (k+1) (by omega) ?_ ?_ d (by simpa using hd)
   ·
    rw [← List.drop_drop,hr];rfl
   ·
    obtain ⟨hL,_,hor⟩:=hl.step k o ho
    obtain ⟨hG,hT⟩:=hl.inv k (by omega)
    have hlen:=hT.len
    intro t ht
    cases hd:o.dst with
    | none =>
     rw [hd] at ht
     rcases hor with ⟨_,_,_,e1,e2,_⟩ | ⟨_,_,e1,e2,_⟩
     ·
      rw [e1,Xo hd,e2,hd];exact hC t ht
     ·
      rw [e1,Xo hd,e2,hd];exact hC t ht
    | some dd =>
     rw [hd] at ht
     dsimp only at ht
     have htb:bad.contains t=false:=by
      split at ht
      ·
       simp only [List.contains_cons,Bool.or_eq_false_iff] at ht;exact ht.2
      ·
       exact ht
     rcases hor with ⟨hw,hv,ha,e1,e2,_⟩ | ⟨_,_,e1,e2,_⟩
     ·
      rw [e1,Xb hd,e2,hd]
      simp only [JA]
      rw [y8,hlen]
      by_cases hc:t=dd∧dd < (As k).length
      ·
       rw [if_pos hc,if_pos hc]
       have hcond:¬ (Zq P o || !qI bad o || (kK o && !fx.nm && !(isLoad o && cl k)))=true:=by
        intro hh
        rw [if_pos hh] at ht
        simp [hc.1] at ht
       rw [Bool.not_eq_true,Bool.or_eq_false_iff,Bool.or_eq_false_iff] at hcond
       obtain ⟨⟨q1,q2⟩,q3⟩:=hcond
       have q2':qI bad o=true:=by simpa using q2
       have hLj:Later (μs j) (Hs j) (μs k) (Hs k):=by
        have:=hl.later (i:=j) (k - j) (by omega)
        rwa [show j+(k - j)=k by omega] at this
       by_cases hm:vk (jA (Ts k)) o
       ·
        obtain ⟨a,h1,_,_,_,h5⟩:=af5 hdr hv q1 hm (hC.operands (vM hv) q2') hLj
        rw [ha] at h5
        have e:zf k=a:=by simpa using congrArg (Option.map Prod.fst) h5
        subst e
        exact h1
       ·
        have hrm:kK o=true:=by
         cases hrm:kK o with
         | true=>rfl
         | false=>exact absurd (Wj hrm) hm
        by_cases hnm:fx.nm=true
        rotate_left
        ·
         rw [Bool.not_eq_true] at hnm
         rw [hrm,hnm] at q3
         have q4:isLoad o=true∧cl k=true:=by simpa using q3
         obtain ⟨s1,s2⟩:=hcl k o hjk ho q4.1 q4.2
         exact hl.aaR hjk (by omega) hm q4.1 hv ha (hC.operands (vM hv) q2') s1 s2
        obtain ⟨g1,a,g2,g3⟩:=aaU hv hnm hm hG (fun x hx=>hT.eval (List.all_eq_true.1 (show o.op.operands.toList.all qP=true from vM hv) x hx))
        rw [ha] at g2
        have e:zf k=a:=by simpa using congrArg (Option.map Prod.fst) g2
        subst e
        rw [g3,Y7 g1]
        exact V0.ground g1
      ·
       rw [if_neg hc,if_neg hc]
       exact hC t htb
     ·
      rw [e1,Xb hd,e2,hd]
      simp only [JA]
      rw [y8,hlen]
      by_cases hc:t=dd∧dd < (As k).length
      ·
       rw [if_pos hc,if_pos hc,show dem zh=zh from ZE]
       exact .nores
      ·
       rw [if_neg hc,if_neg hc]
       exact hC t htb
theorem acR {hp0:Bool} (hc:JF P call) {T T' A:List Value} {S S' H:zx} {μ:Mu} {ω:Nat→Option yP} (hd:qO P ops=true) (h:wC P ⟨hp0,!(checked P ops).isEmpty,fixed P ops⟩ (checked P ops) (again P ops) call ops 0 [] ops.toList T S=some (T',S')) (hG:GI μ S H) (hT:TI μ H ω T A) :
  After μ ω H T' S' (Zg P (lim P) ops A H):=by
 obtain ⟨Ts,As,Ss,Hs,μs,ωs,vs,zf,tr,hline,rfl,rfl,rfl,rfl,rfl,rfl,rfl,rfl,e9,e10,e11,hs,e12,e13,e14⟩:=line_of hc _ _ _ _ _ _ _ _ _ _ _ h hG hT
 obtain ⟨hGn,hTn⟩:=hline.inv ops.toList.length (Nat.le_refl _)
 have hLn:=hline.later (i:=0) ops.toList.length (by omega)
 rw [Nat.zero_add] at hLn
 refine ⟨As ops.toList.length,Hs ops.toList.length,μs ops.toList.length,ωs ops.toList.length,?_,hGn,hLn,hline.kept _ (Nat.le_refl _),hTn⟩
 simp only [qO,JL,Bool.and_eq_true] at hd
 have hlen:ops.toList.length < 1000:=of_decide_eq_true hd.1
 refine aeg hd.2.1 e9 fun p hp=>?_
 have hchk:(checked P ops).contains p.1=true:=by
  unfold checked
  simp only [List.contains_eq_mem,decide_eq_true_eq]
  exact List.mem_map.2 ⟨p,hp,rfl⟩
 have hdr:(Fx.mk hp0 (!(checked P ops).isEmpty) (fixed P ops)).dr=true:=by
  show (!(checked P ops).isEmpty)=true
  cases hl:checked P ops with
  | nil=>rw [hl] at hchk;cases hchk
  | cons a b=>rfl
 have hp2:=List.all_eq_true.1 hd.2.2 p hp
 have hp0:=hp
 unfold need at hp
 obtain ⟨i,hi,hp⟩:=List.mem_flatMap.1 hp
 obtain ⟨j,hj,hp⟩:=List.mem_filterMap.1 hp
 have hi:i < ops.toList.length:=List.mem_range.1 hi
 have hj:j < ops.toList.length:=List.mem_range.1 hj
 split at hp <;> first | (cases hp;done) | skip
 rename_i oi oj hoi hoj
 split at hp <;> first | (cases hp;done) | skip
 rename_i hcond
 cases hp
 simp only [Bool.and_eq_true,Bool.not_eq_true'] at hcond
 obtain ⟨⟨hni,hcj⟩,_⟩:=hcond
 dsimp only at hp2 hchk ⊢
 rw [hoi] at hp2
 dsimp only at hp2
 have hij:i≠j:=by
  intro e;subst e
  rw [hoi] at hoj;cases hoj
  rw [hni] at hcj;cases hcj
 have hGj:(tr.map (·.2.1)++[Hs ops.toList.length])[if j < i then j else j+1]?=some (Hs (if j < i then j else j+1)):=e11 _ (by split <;> omega)
 unfold YE
 rw [hoi,e10 i hi,hGj]
 dsimp only
 obtain ⟨_,_,hor⟩:=hline.step i oi hoi
 rcases hor with ⟨hw,hv,ha,heT,heA,hq⟩ | ⟨hw,_⟩
 ·
  rw [hw]
  simp only [Bool.not_true,Bool.false_or]
  obtain ⟨hGi,hTi⟩:=hline.inv i (by omega)
  have hops:∀ x ∈ oi.op.operands.toList,V0 (μs i) (Hs i) (dem (jA (Ts i) x)) (jA (As i) x):=fun x hx=>hTi.eval (List.all_eq_true.1 (show oi.op.operands.toList.all qP=true from vM hv) x hx)
  have hq3:okq 3 (vs i)=true:=hq (by rw [Nat.zero_add];exact hchk)
  have same:∃ G',aOp P (jA (As i)) oi (Hs (if j < i then j else j+1))=some (zf i,G')∧abK 3 (zf i) (zf i)=true:=by
   by_cases hm:vk (jA (Ts i)) oi
   case neg =>
    have hrm:kK oi=true:=by
     cases hrm:kK oi with
     | true=>rfl
     | false=>exact absurd (Wj hrm) hm
    have hin:(i,j) ∈ again P ops:=List.mem_append_left _ (List.mem_filter.2 ⟨hp0,by dsimp only;rw [hoi];exact hrm⟩)
    have hne:(again P ops).isEmpty=false:=by
     cases hl:again P ops with
     | nil=>rw [hl] at hin;cases hin
     | cons a b=>rfl
    have hst:=List.all_eq_true.1 (e14 hne) _ hin
    rw [List.nil_append] at hst
    have hi1:(hs++[(zh,Ss ops.toList.length)])[i]?=some (kD (Ts i) oi,Ss i):=by
     rw [List.getElem?_append_left (by omega)];exact e13 i oi hoi
    have hj1:∃ p2,(hs++[(zh,Ss ops.toList.length)])[if j < i then j else j+1]?=some (p2,Ss (if j < i then j else j+1)):=by
     by_cases hjl:(if j < i then j else j+1) < ops.toList.length
     ·
      rw [List.getElem?_append_left (by omega)]
      exact ⟨_,e13 _ _ (List.getElem?_eq_getElem hjl)⟩
     ·
      have:(if j < i then j else j+1)=ops.toList.length:=by split at hjl <;> (rename_i hh;simp only [hh,if_true,if_false];omega)
      rw [this,List.getElem?_append_right (by omega),e12,Nat.sub_self]
      exact ⟨_,rfl⟩
    obtain ⟨p2,hj1⟩:=hj1
    unfold Xw at hst
    dsimp only at hst
    rw [if_pos (show i < 1000 by omega),hi1,hj1] at hst
    dsimp only at hst
    have obj:∀ q r b,μs i q=some (r,b)→(∀ Sa Sb,qM (kD (Ts i) oi) Sa Sb=true→(∃ o,Sa.get q=some o∧o.alive=true)∧q ∉ Sb.log.take (Sb.log.length - Sa.log.length))→(Hs (if j < i then j else j+1)).get r=(Hs i).get r:=by
     intro q r b hq hQ
     by_cases hji:j < i
     ·
      rw [if_pos hji] at hst ⊢
      rw [if_pos hji] at hst
      obtain ⟨⟨o1,g1,g2⟩,g3⟩:=hQ _ _ hst
      obtain ⟨hGj3,_⟩:=hline.inv j (by omega)
      obtain ⟨r0,_,g4,_⟩:=hGj3.obj q o1 g1 g2
      have hL:=hline.later (i:=j) (i - j) (by omega)
      rw [show j+(i - j)=i by omega] at hL
      obtain ⟨b',hb'⟩:=hL.mu q r0 true g4
      rw [hq] at hb'
      cases hb'
      obtain ⟨new,n1,n2⟩:=hL.still
      rw [hGj3.log,hGi.log] at n1
      rw [n1] at g3
      simp only [List.length_append,Nat.add_sub_cancel,List.take_left] at g3
      exact (n2 q r g4 g3).2.symm
     ·
      rw [if_neg hji] at hst ⊢
      rw [if_neg hji] at hst
      obtain ⟨⟨o1,g1,g2⟩,g3⟩:=hQ _ _ hst
      have hb:=hGi.at hq g1 g2
      subst hb
      have hL:=hline.later (i:=i) (j+1 - i) (by omega)
      rw [show i+(j+1 - i)=j+1 by omega] at hL
      obtain ⟨hGj3,_⟩:=hline.inv (j+1) (by omega)
      obtain ⟨new,n1,n2⟩:=hL.still
      rw [hGj3.log,hGi.log] at n1
      rw [n1] at g3
      simp only [List.length_append,Nat.add_sub_cancel,List.take_left] at g3
      exact (n2 q r hq g3).2
    clear hst hi1 hj1
    have hok:=vM hv
    have hvo:=hv
    unfold wS at hv
    rw [if_pos hok] at hv
    obtain ⟨dst,op,type,pos,after,guard⟩:=oi
    unfold vk at hm
    cases op <;> dsimp only at hv hm <;> first | (exact absurd True.intro hm) | skip
    case load t a =>
     have hv:jE P (fixed P ops) t (jA (Ts i) a) (Ss i)=some (vs i,Ss (i+1)):=hv
     obtain ⟨ad,hq⟩:∃ q,jA (Ts i) a=.pointer q:=Classical.byContradiction fun hn=>hm fun q hq=>hn ⟨q,hq⟩
     have hx:=hops a (by simp [Op.operands])
     obtain ⟨_,w,k1,k2⟩:=JR hv hx (.inr hGi)
     have hA:yB P (lim P) (As i) ⟨dst,.load t a,type,pos,after,guard⟩ (Hs i)=yY P t (jA (As i) a) (Hs i):=by unfold yB;rw [if_pos hok];rfl
     rw [hA,k1] at ha
     have e:w=zf i:=by simpa using congrArg (Option.map Prod.fst) ha
     subst e
     rw [hq] at hx
     have hx:V0 (μs i) (Hs i) (.pointer ad) (jA (As i) a):=hx
     generalize hpa:jA (As i) a=pa at hx k1
     have hres:yY P t pa (Hs (if j < i then j else j+1))=some (zf i,Hs (if j < i then j else j+1)):=by
      cases hx with
      | sg hs =>
       cases ad with
       | none=>simp [yY] at k1
       | some ad=>simp [Go.Abs.sg] at hs
      | @ptr _ q o r b hmq =>
       refine J7 (obj q r b hmq fun Sa Sb hQ=>?_) k1
       have hQ:qM (jA (Ts i) a) Sa Sb=true:=hQ
       rw [hq] at hQ
       simp only [qM,Bool.and_eq_true,Bool.not_eq_true',List.contains_eq_mem,decide_eq_false_iff_not] at hQ
       refine ⟨?_,hQ.2⟩
       have h1:=hQ.1
       split at h1 <;> first | (cases h1;done) | skip
       rename_i hsa
       exact ⟨_,hsa,rfl⟩
     rw [← hpa] at hres
     exact ⟨_,hres,Yd 3 (YQ hq3) k2.dem⟩
    case lookup t x k ok =>
     have hv:Wh P (fixed P ops) t (jA (Ts i) x) (jA (Ts i) k) ok (Ss i)=some (vs i,Ss (i+1)):=hv
     have hx:=hops x (by simp [Op.operands])
     obtain ⟨_,w,k1,k2⟩:=Qj hv hx (hops k (by simp [Op.operands])) (.inr hGi)
     have hA:yB P (lim P) (As i) ⟨dst,.lookup t x k ok,type,pos,after,guard⟩ (Hs i)=wY P t (jA (As i) x) (jA (As i) k) ok (Hs i):=by unfold yB;rw [if_pos hok];rfl
     rw [hA,k1] at ha
     have e:w=zf i:=by simpa using congrArg (Option.map Prod.fst) ha
     subst e
     have hres:wY P t (jA (As i) x) (jA (As i) k) ok (Hs (if j < i then j else j+1))=some (zf i,Hs (if j < i then j else j+1)):=by
      refine XI (fun r hr=>?_) k1
      rw [hr] at hx
      generalize hu:dem (jA (Ts i) x)=u at hx
      have hum:∃ q b,u=.map (some q)∧μs i q=some (r,b):=by
       cases hx with
       | sg hs=>simp [Go.Abs.sg] at hs
       | map hmq=>exact ⟨_,_,rfl,hmq⟩
      obtain ⟨q,b,rfl,hmq⟩:=hum
      have hxe:jA (Ts i) x=.map (some q):=by
       cases hvx:jA (Ts i) x <;> rw [hvx] at hu <;> simp [dem,xB] at hu <;> rw [hu]
      refine obj q r b hmq fun Sa Sb hQ=>?_
      have hQ:qM (jA (Ts i) x) Sa Sb=true:=hQ
      rw [hxe] at hQ
      simp only [qM,Bool.and_eq_true,Bool.not_eq_true',List.contains_eq_mem,decide_eq_false_iff_not] at hQ
      refine ⟨?_,hQ.2⟩
      have h1:=hQ.1
      split at h1 <;> first | (cases h1;done) | skip
      rename_i hsa
      exact ⟨_,hsa,rfl⟩
     exact ⟨_,hres,Yd 3 (YQ hq3) k2.dem⟩
   by_cases hrd:xC oi=false
   ·
    obtain ⟨a,h1,h2⟩:=afC hdr hv hni hrd hops
    have h3:=(h2 (Hs i)).2
    rw [ha] at h3
    have e:zf i=a:=by simpa using congrArg (Option.map Prod.fst) h3
    subst e
    exact ⟨_,(h2 _).1,Yd 3 (YQ hq3) h1⟩
   ·
    have hrd:xC oi=true:=by simpa using hrd
    by_cases hlt:i < j
    ·
     rw [if_neg (by omega)]
     have hL:=hline.later (i:=i) (j+1 - i) (by omega)
     rw [show i+(j+1 - i)=j+1 by omega] at hL
     obtain ⟨a,h1,_,h3,h4,_⟩:=af5 hdr hv hni hm hops hL
     rw [ha] at h4
     have e:zf i=a:=by simpa using congrArg (Option.map Prod.fst) h4
     subst e
     exact ⟨_,h3,Yd 3 (YQ hq3) h1⟩
    ·
     rw [if_pos (by omega)]
     rw [hrd] at hp2
     have hcl:qI ((ac9 P (fixed P ops) (fun k=>aa4 P ops && (YC P ops).contains (k,j)) j (ops.toList.drop j) []).getD (i - j) []) oi=true:=by
      simpa [hlt] using hp2
     obtain ⟨hGj2,hTj⟩:=hline.inv j (by omega)
     have hC0:Clear (μs j) (Hs j) [] (Ts j) (As j):=fun t _=>(hTj.slots t).v0
     have hld:∀ k o,j≤k→ops.toList[k]?=some o→isLoad o=true→(aa4 P ops && (YC P ops).contains (k,j))=true→qM (kD (Ts k) o) (Ss j) (Ss k)=true∧Xg (kD (Ts k) o) (Ss j) (Ss k)=true:=by
      intro k o hjk hok hld hck
      rw [Bool.and_eq_true] at hck
      obtain ⟨hcm,hin⟩:=hck
      have hin:(k,j) ∈ YC P ops:=by simpa using hin
      have hkj:k≠j:=fun e=>by
       subst e
       rw [hoj] at hok
       cases hok
       obtain ⟨dst,op,type,pos,after,guard⟩:=oj
       cases op <;> first | (cases hld;done) | (cases hcj;done)
      have hjk:j < k:=by omega
      have hkn:k < ops.toList.length:=(List.getElem?_eq_some_iff.1 hok).1
      have h1:(k,j) ∈ again P ops:=List.mem_append_left _ hin
      have h2:(k+1000,j) ∈ again P ops:=List.mem_append_right _ (by
       rw [if_pos hcm]
       exact List.mem_map.2 ⟨(k,j),List.mem_filter.2 ⟨hin,decide_eq_true hjk⟩,rfl⟩)
      have hne:(again P ops).isEmpty=false:=by
       cases hl:again P ops with
       | nil=>rw [hl] at h1;cases h1
       | cons a b=>rfl
      have t1:=List.all_eq_true.1 (e14 hne) _ h1
      have t2:=List.all_eq_true.1 (e14 hne) _ h2
      rw [List.nil_append] at t1 t2
      have hk1:(hs++[(zh,Ss ops.toList.length)])[k]?=some (kD (Ts k) o,Ss k):=by
       rw [List.getElem?_append_left (by omega)];exact e13 k o hok
      have hj1:(hs++[(zh,Ss ops.toList.length)])[j]?=some (kD (Ts j) oj,Ss j):=by
       rw [List.getElem?_append_left (by omega)];exact e13 j oj hoj
      unfold Xw at t1 t2
      dsimp only at t1 t2
      rw [if_pos (show k < 1000 by omega),if_pos hjk,hk1,hj1] at t1
      rw [if_neg (show ¬ k+1000 < 1000 by omega),Nat.add_sub_cancel,hk1,hj1] at t2
      dsimp only at t1 t2
      rw [if_pos hjk] at t1
      exact ⟨t1,t2⟩
     have hC:=hline.clear hdr (j:=j) (by omega) (cl:=fun k=>aa4 P ops && (YC P ops).contains (k,j)) hld _ [] j (Nat.le_refl _) rfl hC0 (i - j) (by rw [List.length_drop];omega)
     rw [show j+(i - j)=i by omega] at hC
     have hL:=hline.later (i:=j) (i - j) (by omega)
     rw [show j+(i - j)=i by omega] at hL
     obtain ⟨a,h1,h2,_,_,h5⟩:=af5 hdr hv hni hm (hC.operands (vM hv) hcl) hL
     rw [ha] at h5
     have e:zf i=a:=by simpa using congrArg (Option.map Prod.fst) h5
     subst e
     exact ⟨_,h2,Yd 3 (YQ hq3) h1⟩
  obtain ⟨G',h1,h2⟩:=same
  unfold recheck
  rw [h1]
  exact h2
 ·
  rw [hw]
  rfl
end
end Go.Abs
namespace Go.Abs
open Go.RowKit
section
variable {P:Program} {call:FuncId→List Value→M Value}
def afg (μ:Mu) (ω:Nat→Option yP) (H:zx) (e:AEx) (T':List Value) (S':zx) (R:St):Prop :=
 ∃ A' H' μ' ω',R=some (e,A',H')∧GI μ' S' H'∧Later μ H μ' H'∧Kept ω H ω' H'∧TI μ' H' ω' T' A'
theorem aeG {hp:Bool} (hc:JF P call) (fuel:Nat):∀ (c:Code) (T T' A:List Value) (S S' H:zx) (μ:Mu) (ω:Nat→Option yP) (e:AEx),yI P hp call fuel c T S=some (e,T',S')→GI μ S H→TI μ H ω T A→afg μ ω H e T' S' (yN P c A H):=by
 intro c
 induction c with
 | skip =>
  intro T T' A S S' H μ ω e h hG hT
  simp only [yI,Option.some.injEq,Prod.mk.injEq] at h
  obtain ⟨rfl,rfl,rfl⟩:=h
  exact ⟨A,H,μ,ω,rfl,hG,Later.refl _ _,Kept.refl _ _,hT⟩
 | exit id =>
  intro T T' A S S' H μ ω e h hG hT
  simp only [yI,Option.some.injEq,Prod.mk.injEq] at h
  obtain ⟨rfl,rfl,rfl⟩:=h
  exact ⟨A,H,μ,ω,rfl,hG,Later.refl _ _,Kept.refl _ _,hT⟩
 | ret =>
  intro T T' A S S' H μ ω e h hG hT
  simp only [yI,Option.some.injEq,Prod.mk.injEq] at h
  obtain ⟨rfl,rfl,rfl⟩:=h
  exact ⟨A,H,μ,ω,rfl,hG,Later.refl _ _,Kept.refl _ _,hT⟩
 | region i ops d =>
  intro T T' A S S' H μ ω e h hG hT
  cases d with
  | false =>
   simp only [yI] at h
   split at h <;> first | (cases h;done) | skip
   rename_i T1 S1 ho
   cases h
   obtain ⟨A',H',μ',ω',h1,h2,h3,h4,h5⟩:=agc hc _ _ _ _ _ _ _ _ _ ho hG hT
   exact ⟨A',H',μ',ω',by simp only [yN,h1],h2,h3,h4,h5⟩
  | true =>
   simp only [yI] at h
   split at h <;> first | (cases h;done) | skip
   rename_i hd
   split at h <;> first | (cases h;done) | skip
   rename_i T1 S1 ho
   cases h
   obtain ⟨A',H',μ',ω',h1,h2,h3,h4,h5⟩:=acR hc hd ho hG hT
   exact ⟨A',H',μ',ω',by simp only [yN,h1],h2,h3,h4,h5⟩
 | seq x y ihx ihy =>
  intro T T' A S S' H μ ω e h hG hT
  simp only [yI] at h
  split at h
  ·
   rename_i T1 S1 hx
   obtain ⟨A1,H1,μ1,ω1,h1,h2,h3,h4,h5⟩:=ihx _ _ _ _ _ _ _ _ _ hx hG hT
   obtain ⟨A2,H2,μ2,ω2,k1,k2,k3,k4,k5⟩:=ihy _ _ _ _ _ _ _ _ _ h h2 h5
   exact ⟨A2,H2,μ2,ω2,by simp only [yN,h1];exact k1,k2,h3.trans k3,h4.trans k4,k5⟩
  ·
   rename_i hne
   obtain ⟨A1,H1,μ1,ω1,h1,h2,h3,h4,h5⟩:=ihx _ _ _ _ _ _ _ _ _ h hG hT
   refine ⟨A1,H1,μ1,ω1,?_,h2,h3,h4,h5⟩
   simp only [yN,h1]
   cases e with
   | normal=>exact absurd h (hne _ _)
   | exit id=>rfl
   | ret=>rfl
 | cond c x y ihx ihy =>
  intro T T' A S S' H μ ω e h hG hT
  simp only [yI] at h
  split at h <;> first | (cases h;done) | skip
  rename_i hok
  have hv:=hT.eval hok
  split at h
  ·
   rename_i hb
   have:jA A c=.bool true:=jO hv (by rw [hb];rfl) |>.trans hb
   obtain ⟨A1,H1,μ1,ω1,h1,h2,h3,h4,h5⟩:=ihx _ _ _ _ _ _ _ _ _ h hG hT
   exact ⟨A1,H1,μ1,ω1,by simp only [yN,hok,if_true,this];exact h1,h2,h3,h4,h5⟩
  ·
   rename_i hb
   have:jA A c=.bool false:=jO hv (by rw [hb];rfl) |>.trans hb
   obtain ⟨A1,H1,μ1,ω1,h1,h2,h3,h4,h5⟩:=ihy _ _ _ _ _ _ _ _ _ h hG hT
   exact ⟨A1,H1,μ1,ω1,by simp only [yN,hok,if_true,this];exact h1,h2,h3,h4,h5⟩
  ·
   cases h
 | block id c ih =>
  intro T T' A S S' H μ ω e h hG hT
  simp only [yI] at h
  split at h
  ·
   rename_i id' T1 S1 hx
   obtain ⟨A1,H1,μ1,ω1,h1,h2,h3,h4,h5⟩:=ih _ _ _ _ _ _ _ _ _ hx hG hT
   by_cases hid:id'=id
   ·
    rw [if_pos hid] at h
    cases h
    exact ⟨A1,H1,μ1,ω1,by simp only [yN,h1,if_pos hid],h2,h3,h4,h5⟩
   ·
    rw [if_neg hid] at h
    cases h
    exact ⟨A1,H1,μ1,ω1,by simp only [yN,h1,if_neg hid],h2,h3,h4,h5⟩
  ·
   rename_i hne
   obtain ⟨A1,H1,μ1,ω1,h1,h2,h3,h4,h5⟩:=ih _ _ _ _ _ _ _ _ _ h hG hT
   refine ⟨A1,H1,μ1,ω1,?_,h2,h3,h4,h5⟩
   simp only [yN,h1]
   cases e with
   | normal=>rfl
   | exit id'=>exact absurd h (hne _ _ _)
   | ret=>rfl
 | loop c ih =>
  have key:∀ (n:Nat) (T T' A:List Value) (S S' H:zx) (μ:Mu) (ω:Nat→Option yP) (e:AEx),qA n (yI P hp call fuel c) T S=some (e,T',S')→GI μ S H→TI μ H ω T A→afg μ ω H e T' S' (yQ (yN P c) A H):=by
   intro n
   induction n with
   | zero=>intro T T' A S S' H μ ω e h;cases h
   | succ n ihn =>
    intro T T' A S S' H μ ω e h hG hT
    simp only [qA] at h
    split at h
    ·
     rename_i T1 S1 hx
     obtain ⟨A1,H1,μ1,ω1,h1,h2,h3,h4,h5⟩:=ih _ _ _ _ _ _ _ _ _ hx hG hT
     obtain ⟨A2,H2,μ2,ω2,k1,k2,k3,k4,k5⟩:=ihn _ _ _ _ _ _ _ _ _ h h2 h5
     exact ⟨A2,H2,μ2,ω2,by rw [wL h1];exact k1,k2,h3.trans k3,h4.trans k4,k5⟩
    ·
     rename_i hne
     obtain ⟨A1,H1,μ1,ω1,h1,h2,h3,h4,h5⟩:=ih _ _ _ _ _ _ _ _ _ h hG hT
     exact ⟨A1,H1,μ1,ω1,jM h1 (fun he=>by subst he;exact hne _ _ h),h2,h3,h4,h5⟩
  intro T T' A S S' H μ ω e h hG hT
  simp only [yI] at h
  obtain ⟨A1,H1,μ1,ω1,h1,h2⟩:=key fuel _ _ _ _ _ _ _ _ _ h hG hT
  exact ⟨A1,H1,μ1,ω1,by simp only [yN];exact h1,h2⟩
 | _=>intro T T' A S S' H μ ω e h;simp only [yI] at h;cases h
theorem VV.ag2 {μ:Mu} {H:zx} {ω ω':Nat→Option yP} {f:yP→Option yP} (hω:∀ r,ω' r=(ω r).bind f) {s s':yP} (hs:f s=some s') {v a:Value} (h:VV μ H ω (some s) v a) (hv:jK v=true):VV μ H ω' (some s') v a:=by
 cases h with
 | sg h=>exact .sg h
 | ptr h=>exact .ptr h
 | map h=>exact .map h
 | slm h=>exact .slm h
 | slE=>exact .slE
 | sl hr hp hg hl hl' hc=>exact .sl hr hp hg hl hl' (fun i hi=>(hc i hi).at0)
 | so h hr hp hg hl hl' hc=>exact .so (by rw [hω,h];exact hs) hr hp hg hl hl' (fun i hi=>(hc i hi).at0)
 | ep hr hp hg hl hc=>exact .ep hr hp hg hl (fun i hi=>(hc i hi).at0)
 | func fn hx hc h1 h2=>exact .func fn hx hc (fun i=>(h1 i).at0) (fun i=>(h2 i).at0)
 | agg hx hh=>exact .agg hx (fun i=>(hh i).at0)
 | nores=>exact .nores
 | @tuple _ x x' hx hh =>
  have h0:x.size=0:=by simpa [jK] using hv
  have e1:x=#[]:=Array.eq_empty_of_size_eq_zero h0
  have e2:x'=#[]:=Array.eq_empty_of_size_eq_zero (by rw [← hx];exact h0)
  subst e1 e2
  exact .nores
def place (rs:List ResultVar):yP→Option yP
 | .ext=>some .ext
 | .res _=>none
 | .slot i j=>match rs with
  | [.tmp t]=>if i=t then some (.res j) else none
  | _=>match j with
   | none=>(rs.findIdx? (aeO i)).map fun k=>.res (some k)
   | some _=>none
theorem abn {rs:List ResultVar} {i:Nat} (h:∀ t,rs≠[.tmp t]):place rs (.slot i none)=(rs.findIdx? (aeO i)).map fun k=>.res (some k):=by
 match rs,h with
 | [],_=>rfl
 | [.tmp t],h=>exact absurd rfl (h t)
 | [.cell _ _],_=>rfl
 | .tmp _::_::_,_=>rfl
 | .cell _ _::_::_,_=>rfl
theorem VF {μ:Mu} {ω:Nat→Option yP} {S H:zx} {T A:List Value} (hG:GI μ S H) (hT:TI μ H ω T A):∀ (l:List ResultVar) (vs:List Value),zX P T S l=some vs →
  ∃ zf,vS P A H l=some zf∧vs.length=l.length∧zf.length=l.length∧∀ i:Nat,match (l[i]?:Option ResultVar) with
   | some (.tmp t)=>vs.getD i zh=T.getD t zh∧zf.getD i zh=A.getD t zh
   | _=>V0 μ H (vs.getD i zh) (zf.getD i zh):=by
 intro l
 induction l with
 | nil =>
  intro vs h
  simp only [zX,Option.some.injEq] at h
  subst h
  exact ⟨[],rfl,rfl,rfl,fun i=>by simpa using VV.zh⟩
 | cons x l ih =>
  intro vs h
  cases x with
  | tmp t =>
   simp only [zX] at h
   split at h <;> first | (cases h;done) | skip
   rename_i vs' hr
   cases h
   obtain ⟨zf,h1,h2,h3,h4⟩:=ih _ hr
   refine ⟨A.getD t zh::zf,by simp only [vS,h1],by simp [h2],by simp [h3],fun i=>?_⟩
   cases i with
   | zero=>exact ⟨rfl,rfl⟩
   | succ i=>simpa using h4 i
  | cell a t =>
   simp only [zX] at h
   split at h <;> first | (cases h;done) | skip
   rename_i v S1 vs' hl hr
   cases h
   obtain ⟨zf,h1,h2,h3,h4⟩:=ih _ hr
   obtain ⟨_,w,k1,k2⟩:=JR hl (hT.slots a).v0 (.inr hG)
   refine ⟨w::zf,by simp only [vS,k1,h1],by simp [h2],by simp [h3],fun i=>?_⟩
   cases i with
   | zero=>exact k2
   | succ i=>simpa using h4 i
theorem af7 {μ:Mu} {ω:Nat→Option yP} {S S' H:zx} {T A:List Value} {fn:Func} {v:Value} (hG:GI μ S H) (hT:TI μ H ω T A) (h:abJ P fn T S=some (v,S')) :
  S'=S∧∃ a,aeY P fn A H=some (a,H)∧VV μ H (fun r=>(ω r).bind (place fn.results.toList)) (some (.res none)) v a:=by
 unfold abJ at h
 split at h <;> first | (cases h;done) | skip
 rename_i vs hvs
 split at h <;> first | (cases h;done) | skip
 rename_i hok
 obtain ⟨zf,h1,h2,h3,h4⟩:=VF hG hT _ _ hvs
 generalize hrs:fn.results.toList=rs at *
 split at h
 ·
  rename_i v1
  cases h
  obtain ⟨a,rfl⟩:∃ a,zf=[a]:=by
   match zf,h3.trans h2.symm with
   | [a],_=>exact ⟨a,rfl⟩
  refine ⟨rfl,a,by simp only [aeY,hrs,h1],?_⟩
  match rs,h2 with
  | [x],_ =>
   have:=h4 0
   cases x with
   | tmp t =>
    simp only [List.getElem?_cons_zero,List.getD_cons_zero] at this
    obtain ⟨rfl,rfl⟩:=this
    refine (hT.slots t).QN (fun _=>rfl) _ (fun s hs=>?_)
    cases hs
    refine ⟨_,rfl,by simp only [place,if_true],fun k t' ht=>?_⟩
    cases ht
    exact ⟨_,rfl,by simp only [place,if_true]⟩
   | cell b t=>exact (show V0 μ H v a from this).at0
 ·
  rename_i hne
  split at h <;> first | (cases h;done) | skip
  rename_i hnt
  cases h
  refine ⟨rfl,.tuple zf.toArray,?_,.tuple (by simp [h2,h3]) fun i=>?_⟩
  ·
   simp only [aeY,hrs,h1]
   match zf,vs,h3.trans h2.symm,hne with
   | [],_,_,_=>rfl
   | [a],[v],_,hne=>exact absurd rfl (hne v)
   | a::b::c,_,_,_=>rfl
  ·
   have e1:vs.toArray.getD i zh=vs.getD i zh:=by rw [← getD_toList,List.toList_toArray]
   have e2:zf.toArray.getD i zh=zf.getD i zh:=by rw [← getD_toList,List.toList_toArray]
   rw [e1,e2]
   have h5:=h4 i
   cases hx:rs[i]? with
   | none=>rw [hx] at h5;exact (show V0 μ H _ _ from h5).at0
   | some x =>
    rw [hx] at h5
    cases x with
    | cell b t=>exact (show V0 μ H _ _ from h5).at0
    | tmp t =>
     dsimp only at h5
     have hi:i < rs.length:=(List.getElem?_eq_some_iff.1 hx).1
     have hid:rs.findIdx? (aeO t)=some i:=by
      have:=List.all_eq_true.1 hok i (List.mem_range.2 hi)
      rw [hx] at this
      simpa using this
     have hnt2:jK (T.getD t zh)=true:=by
      rw [← h5.1,List.getD_eq_getElem?_getD,List.getElem?_eq_getElem (by omega)]
      exact List.all_eq_true.1 hnt _ (List.getElem_mem _)
     rw [h5.1,h5.2]
     refine (hT.slots t).ag2 (fun _=>rfl) (s':=.res (some i)) ?_ hnt2
     have hne1:∀ t',rs≠[.tmp t']:=by
      intro t' e
      rw [e] at h2
      match vs,h2 with
      | [v],_=>exact hne v rfl
     rw [abn hne1,hid];rfl
def Va (P:Program) (O:Ora):Prop:=∀ f q,O.fn f=some q→JF P (fun g args=>if g=f then q args else fun _=>none)
theorem aga {s t:yP} {i:Nat} (h:s.comp i=some t):t≠.ext:=by
 cases s with
 | ext=>cases h
 | slot a b=>cases b <;> first | (cases h;exact fun h=>by cases h) | cases h
 | res b=>cases b <;> first | (cases h;exact fun h=>by cases h) | cases h
theorem VV.kP {μ μ':Mu} {H:zx} {ω ω':Nat→Option yP} {es:List Nat} (hp:∀ r l own e,H.get r=some (.cells l own e)→e ∉ es→ZU μ r→ZU μ' r) (hω:∀ r s,s≠.ext→ω r=some s→ω' r=some s)
  {ℓ:Option yP} {v a:Value} (h:VV μ H ω ℓ v a):∀ d,Go.Abs.kP es d v=true→(∀ s,ℓ=some s→s≠.ext)→VV μ' H ω' ℓ v a:=by
 induction h with
 | sg h=>exact fun _ _ _=>.sg h
 | ptr h=>intro d hc;cases d <;> simp [Go.Abs.kP] at hc
 | map h=>intro d hc;cases d <;> simp [Go.Abs.kP] at hc
 | slm h=>intro d hc;cases d <;> simp [Go.Abs.kP] at hc
 | slE=>exact fun _ _ _=>.slE
 | @sl ℓ e n r o cs l own hr hpr hg hl hn hc ih =>
  intro d hcl _
  cases d with
  | zero=>cases hcl
  | succ d =>
   have hv:Go.Abs.kP es (d+1) (.iface 1 (.iface e (.iface n (.agg cs))))=(!es.contains e && cs.toList.all (Go.Abs.kP es d)):=rfl
   rw [hv,Bool.and_eq_true] at hcl
   have he:e ∉ es:=by simpa using hcl.1
   refine .sl hr (hp _ _ _ _ hg he hpr) hg hl hn (fun i hi=>ih i hi d ?_ (fun s hs=>by cases hs))
   rw [List.getD_eq_getElem?_getD,List.getElem?_eq_getElem (by omega)]
   exact List.all_eq_true.1 hcl.2 _ (List.getElem_mem _)
 | @so s e n r cs l anc hw hr hpr hg hl hn hc ih =>
  intro d hcl hs
  cases d with
  | zero=>cases hcl
  | succ d =>
   have hv:Go.Abs.kP es (d+1) (.iface 2 (.iface e (.iface n (.agg cs))))=(!es.contains e && cs.toList.all (Go.Abs.kP es d)):=rfl
   rw [hv,Bool.and_eq_true] at hcl
   have he:e ∉ es:=by simpa using hcl.1
   refine .so (hω _ _ (hs _ rfl) hw) hr (hp _ _ _ _ hg he hpr) hg hl hn (fun i hi=>ih i hi d ?_ (fun s hs=>by cases hs))
   rw [List.getD_eq_getElem?_getD,List.getElem?_eq_getElem (by omega)]
   exact List.all_eq_true.1 hcl.2 _ (List.getElem_mem _)
 | ep hr hpr hg hl hc ih =>
  intro d hcl
  cases d with
  | zero=>cases hcl
  | succ d=>simp [Go.Abs.kP,vSl] at hcl
 | func fn hx hc h1 h2=>intro d hc;cases d <;> simp [Go.Abs.kP] at hc
 | @agg ℓ x x' hx hh ih =>
  intro d hcl _
  cases d with
  | zero=>cases hcl
  | succ d =>
   have hcl:x.toList.all (Go.Abs.kP es d)=true:=hcl
   refine .agg hx (fun i=>?_)
   by_cases hi:i < x.size
   ·
    refine ih i d ?_ (fun s hs=>by cases hs)
    rw [Array.getD_eq_getD_getElem?,Array.getElem?_eq_getElem hi]
    exact List.all_eq_true.1 hcl _ (by simp)
   ·
    rw [Array.getD_eq_getD_getElem?,Array.getElem?_eq_none (Nat.le_of_not_lt hi),Array.getD_eq_getD_getElem?,Array.getElem?_eq_none (by omega)]
    exact .nores
 | nores=>exact fun _ _ _=>.nores
 | @tuple ℓ x x' hx hh ih =>
  intro d hcl hs
  cases d with
  | zero=>cases hcl
  | succ d =>
   have hcl:x.toList.all (Go.Abs.kP es d)=true:=hcl
   refine .tuple hx (fun i=>?_)
   by_cases hi:i < x.size
   ·
    refine ih i d ?_ (fun s hb=>?_)
    ·
     rw [Array.getD_eq_getD_getElem?,Array.getElem?_eq_getElem hi]
     exact List.all_eq_true.1 hcl _ (by simp)
    ·
     cases ℓ with
     | none=>cases hb
     | some s0=>exact aga (s:=s0) hb
   ·
    rw [Array.getD_eq_getD_getElem?,Array.getElem?_eq_none (Nat.le_of_not_lt hi),Array.getD_eq_getD_getElem?,Array.getElem?_eq_none (by omega)]
    exact .nores
open Classical in
noncomputable def ahG (μ:Mu) (ω:Nat→Option yP):Nat→Option yP:=fun r=>if ∃ q,μ q=some (r,true) then none else ω r
open Classical in
noncomputable def Ky (μ μ1:Mu) (ω:Nat→Option yP):Nat→Option yP:=fun r=>if ∃ q,μ q=some (r,true)∧¬ μ1 q=some (r,true) then some .ext else ω r
theorem ae8 {call:FuncId→List Value→M Value} (hc:JF P call) {hps:FuncId→Bool} {hp:Bool}:JF P (qQ hps hp call):=by
 cases hp with
 | false=>exact hc
 | true =>
  intro g args aargs S v S' h μ H ω hG hA hD hE
  unfold qQ at h
  dsimp only at h
  split at h
  ·
   exact hc g args aargs S v S' h μ H ω hG hA hD hE
  ·
   split at h <;> first | (cases h;done) | skip
   rename_i m S1 hf
   obtain ⟨μ1,h1,h2,h3,hsz⟩:=Xn _ _ _ _ _ _ hf hG hA
   split at h <;> first | (cases h;done) | skip
   rename_i r0 hr0
   obtain ⟨v0,S2⟩:=r0
   simp only [Option.some.injEq] at h
   unfold ac5 at h
   dsimp only at h
   split at h
   ·
    rename_i hb
    cases h
    simp only [Bool.and_eq_true,beq_iff_eq] at hb
    obtain ⟨⟨_,hgr⟩,hlog⟩:=hb
    have hlent:∀ q r,μ q=some (r,true)→¬ μ1 q=some (r,true)→r < H.next∧ZU μ1 r:=fun q r hq hn =>
     ⟨hG.lt q r _ hq,fun q' hq'=>by
      rcases h2.new q' r hq' with h5 | h5
      ·
       have:=hG.inj q q' r hq h5
       subst this
       exact hn hq'
      ·
       have:=hG.lt q r _ hq;omega,by rw [h2.hid];exact hG.vis q r hq⟩
    have hDL:Dom μ1 H (Ky μ μ1 ω):=fun r s hs=>by
     unfold Ky at hs
     split at hs
     ·
      rename_i hx
      obtain ⟨q,hq,hn⟩:=hx
      exact hlent q r hq hn
     ·
      exact ⟨(hD r s hs).1,h2.priv (hD r s hs).1 (hD r s hs).2⟩
    have hEL:∀ r s,Ky μ μ1 ω r=some s→s=.ext:=fun r s hs=>by
     unfold Ky at hs
     split at hs
     ·
      cases hs;rfl
     ·
      exact hE r s hs
    obtain ⟨a,H',μ',ω',k1,k2,k3,k4,k5,k6⟩:=hc g m aargs S1 v S2 hr0 μ1 H (Ky μ μ1 ω) h1 h3 hDL hEL
    have hsame:∀ q r,μ q=some (r,true)→H'.get r=H.get r:=fun q r hq=>by
     by_cases hn:μ1 q=some (r,true)
     ·
      obtain ⟨new,e1,e2⟩:=k3.still
      have:new=[]:=by
       rw [k2.log,h1.log,hlog] at e1
       exact List.append_cancel_right (bs:=S1.log) (by rw [← e1];rfl)
      subst this
      exact (e2 q r hn (by simp)).2
     ·
      exact (k4 r (by unfold Ky;rw [if_pos ⟨q,hq,hn⟩])).2
    have hL:Later μ H μ H':=⟨fun _ _ b h=>⟨b,h⟩,k3.next,fun _ _ h=>.inl h,rfl,fun r hr hh=>k3.same r hr (by rw [h2.hid];exact hh),⟨[],rfl,fun q r hq _=>⟨hq,hsame q r hq⟩⟩,
     fun r l own e hr hp hg=>k3.cells r l own e hr (h2.priv hr hp) hg⟩
    rcases Bool.or_eq_true _ _ |>.mp hgr with hgr | hgr
    ·
     refine ⟨a,H',μ,ω,k1,hG.later hL rfl hsame,hL,fun r hr=>⟨hr,(k4 r ?_).2⟩,fun r s hs=>⟨Nat.lt_of_lt_of_le (hD r s hs).1 k3.next,(hD r s hs).2⟩,?_⟩
     ·
      unfold Ky
      split
      ·
       rfl
      ·
       exact hr
     ·
      rw [VV.xu hgr k6]
      exact VV.yj hgr
    ·
     have hpr:∀ r l own e,H'.get r=some (.cells l own e)→e ∉ agP S args→ZU μ' r→ZU μ r:=fun r l own e hg he hp=>by
      refine ⟨fun q hq=>?_,by rw [← h2.hid,← k3.hid];exact hp.2⟩
      rcases hsz q r hq with hn | ⟨l1,own1,e1,he1,hg1⟩
      ·
       obtain ⟨new,e1,e2⟩:=k3.still
       have:new=[]:=by
        rw [k2.log,h1.log,hlog] at e1
        exact List.append_cancel_right (bs:=S1.log) (by rw [← e1];rfl)
       subst this
       exact hp.1 q (e2 q r hn (by simp)).1
      ·
       rw [hsame q r hq,hg1] at hg
       cases hg
       exact he he1
     have hno:∀ r s,ω r=some s→¬ ∃ q,μ q=some (r,true):=fun r s hs ⟨q,hq⟩=>(hD r s hs).2.1 q hq
     have hst:∀ r,(∃ q,μ q=some (r,true))→∀ s,ω' r=some s→s=.ext:=fun r ⟨q,hq⟩ s hs=>by
      by_cases hn:μ1 q=some (r,true)
      ·
       exfalso
       obtain ⟨new,e1,e2⟩:=k3.still
       have:new=[]:=by
        rw [k2.log,h1.log,hlog] at e1
        exact List.append_cancel_right (bs:=S1.log) (by rw [← e1];rfl)
       subst this
       exact (k5 r s hs).2.1 q (e2 q r hn (by simp)).1
      ·
       have:=(k4 r (by unfold Ky;rw [if_pos ⟨q,hq,hn⟩])).1
       rw [hs] at this
       cases this
       rfl
     refine ⟨a,H',μ,ahG μ ω',k1,hG.later hL rfl hsame,hL,fun r hr=>?_,fun r s hs=>?_,?_⟩
     ·
      have hnr:=hno r _ hr
      unfold ahG
      rw [if_neg hnr]
      refine k4 r ?_
      unfold Ky
      rw [if_neg (fun ⟨q,hq,_⟩=>hnr ⟨q,hq⟩)]
      exact hr
     ·
      unfold ahG at hs
      split at hs
      ·
       cases hs
      ·
       rename_i hnr
       exact ⟨(k5 r s hs).1,fun q hq=>hnr ⟨q,hq⟩,by rw [← h2.hid,← k3.hid];exact (k5 r s hs).2.2⟩
     ·
      refine k6.kP hpr (fun r s hne hs=>?_) 16 hgr (fun s hs=>by cases hs;exact fun h=>by cases h)
      unfold ahG
      rw [if_neg (fun hx=>hne (hst r hx s hs))]
      exact hs
   ·
    cases h
    obtain ⟨a,H',μ',ω',k1,k2,k3,k4,k5,k6⟩:=hc g m aargs S1 v S' hr0 μ1 H ω h1 h3 (fun r s hs=>⟨(hD r s hs).1,h2.priv (hD r s hs).1 (hD r s hs).2⟩) hE
    exact ⟨a,H',μ',ω',k1,k2,h2.trans k3,k4,k5,k6⟩
theorem VV.clean {μ μ':Mu} {H:zx} {ω:Nat→Option yP} (hp:∀ r,ZU μ r→ZU μ' r) {ℓ:Option yP} {v a:Value} (h:VV μ H ω ℓ v a):∀ d,jD d v=true→VV μ' H ω ℓ v a:=by
 induction h with
 | sg h=>exact fun _ _=>.sg h
 | ptr h=>intro d hc;cases d <;> simp [jD] at hc
 | map h=>intro d hc;cases d <;> simp [jD] at hc
 | slm h=>intro d hc;cases d <;> simp [jD] at hc
 | slE=>exact fun _ _=>.slE
 | sl hr hpr hg hl hn hc ih =>
  intro d hcl
  obtain ⟨d,rfl⟩:∃ k,d=k+4:=by
   match d,hcl with
   | 0,h=>cases h
   | 1,h=>simp [jD] at h
   | 2,h=>simp [jD] at h
   | 3,h=>simp [jD] at h
   | k+4,_=>exact ⟨k,rfl⟩
  simp only [jD] at hcl
  refine .sl hr (hp _ hpr) hg hl hn (fun i hi=>ih i hi d ?_)
  rw [List.getD_eq_getElem?_getD,List.getElem?_eq_getElem (by omega)]
  exact List.all_eq_true.1 hcl _ (List.getElem_mem _)
 | so hω hr hpr hg hl hn hc ih =>
  intro d hcl
  obtain ⟨d,rfl⟩:∃ k,d=k+4:=by
   match d,hcl with
   | 0,h=>cases h
   | 1,h=>simp [jD] at h
   | 2,h=>simp [jD] at h
   | 3,h=>simp [jD] at h
   | k+4,_=>exact ⟨k,rfl⟩
  simp only [jD] at hcl
  refine .so hω hr (hp _ hpr) hg hl hn (fun i hi=>ih i hi d ?_)
  rw [List.getD_eq_getElem?_getD,List.getElem?_eq_getElem (by omega)]
  exact List.all_eq_true.1 hcl _ (List.getElem_mem _)
 | ep hr hpr hg hl hc ih =>
  intro d hcl
  obtain ⟨d,rfl⟩:∃ k,d=k+2:=by
   match d,hcl with
   | 0,h=>cases h
   | 1,h=>simp [jD] at h
   | k+2,_=>exact ⟨k,rfl⟩
  simp only [jD] at hcl
  refine .ep hr (hp _ hpr) hg hl (fun i hi=>ih i hi d ?_)
  rw [List.getD_eq_getElem?_getD,List.getElem?_eq_getElem hi]
  exact List.all_eq_true.1 hcl _ (List.getElem_mem _)
 | func fn hx hc h1 h2=>intro d hc;cases d <;> simp [jD] at hc
 | @agg ℓ x x' hx hh ih =>
  intro d hcl
  obtain ⟨d,rfl⟩:∃ k,d=k+1:=by
   match d,hcl with
   | 0,h=>cases h
   | k+1,_=>exact ⟨k,rfl⟩
  simp only [jD] at hcl
  refine .agg hx (fun i=>?_)
  by_cases hi:i < x.size
  ·
   refine ih i d ?_
   rw [Array.getD_eq_getD_getElem?,Array.getElem?_eq_getElem hi]
   exact List.all_eq_true.1 hcl _ (by simp)
  ·
   rw [Array.getD_eq_getD_getElem?,Array.getElem?_eq_none (Nat.le_of_not_lt hi),Array.getD_eq_getD_getElem?,Array.getElem?_eq_none (by omega)]
   exact .nores
 | nores=>exact fun _ _=>.nores
 | @tuple ℓ x x' hx hh ih =>
  intro d hcl
  obtain ⟨d,rfl⟩:∃ k,d=k+1:=by
   match d,hcl with
   | 0,h=>cases h
   | k+1,_=>exact ⟨k,rfl⟩
  simp only [jD] at hcl
  refine .tuple hx (fun i=>?_)
  by_cases hi:i < x.size
  ·
   refine ih i d ?_
   rw [Array.getD_eq_getD_getElem?,Array.getElem?_eq_getElem hi]
   exact List.all_eq_true.1 hcl _ (by simp)
  ·
   rw [Array.getD_eq_getD_getElem?,Array.getElem?_eq_none (Nat.le_of_not_lt hi),Array.getD_eq_getD_getElem?,Array.getElem?_eq_none (by omega)]
   exact .nores
theorem VV.lower {μ μ' : Mu} {S H : zx} {ω : Nat → Option yP} (hG : GI μ S H) (hp : ∀ r, ZU μ r → ZU μ' r) (hq : ∀ q r, μ q = some (r, true) → ZU μ' r) {ℓ : Option yP} {v a : Value} (h : VV μ H ω ℓ v a) :
    ∀ d d', jD d (wO S d' v) = true → VV μ' H ω ℓ (wO S d' v) a := by
  induction h with
  | sg h =>
    intro d d' hc
    rename_i v
    have e : wO S d' v = v := by
      cases d' with
      | zero => rfl
      | succ d' => cases v <;> first | rfl | (simp [Go.Abs.sg] at h; done) | skip
                   rename_i a n c
                   cases a <;> first | rfl | (simp [Go.Abs.sg] at h; done)
    rw [e]; exact .sg h
  | ptr h => intro d d' hc; cases d' <;> cases d <;> simp [wO, jD] at hc
  | map h => intro d d' hc; cases d' <;> cases d <;> simp [wO, jD] at hc
  | @slm ℓ r o r' b n hm =>
    intro d d' hc
    cases d' with
    | zero => cases d <;> simp [wO, jD] at hc
    | succ d' =>
      by_cases ho : o = 0
      · subst ho
        cases hg : S.get r with
        | none => rw [show wO S (d' + 1) (.slice (some ⟨r, 0, none⟩) n n) = .slice (some ⟨r, 0, none⟩) n n by simp only [wO, hg]] at hc; cases d <;> simp [jD] at hc
        | some ob =>
          cases ob with
          | map es c => rw [show wO S (d' + 1) (.slice (some ⟨r, 0, none⟩) n n) = .slice (some ⟨r, 0, none⟩) n n by simp only [wO, hg]] at hc; cases d <;> simp [jD] at hc
          | dead => rw [show wO S (d' + 1) (.slice (some ⟨r, 0, none⟩) n n) = .slice (some ⟨r, 0, none⟩) n n by simp only [wO, hg]] at hc; cases d <;> simp [jD] at hc
          | cells cs own e =>
            by_cases hle : n * e ≤ cs.length
            · have e1 : wO S (d' + 1) (.slice (some ⟨r, 0, none⟩) n n) = SL 1 e n (cs.take (n * e)) := by simp only [wO, hg, hle, and_self, if_true]
              rw [e1] at hc ⊢
              obtain ⟨r2, cs', own', _, hm', hg', hl⟩ := hG.cells hg
              rw [hm] at hm'; cases hm'
              have hlen := hl.1
              refine .sl (o := 0) (hG.lt r r' _ hm) (hq r r' hm) hg' (by omega) (by simp; omega) fun i hi => ?_
              have hv : VV μ H W0 none (cs.getD i Go.undef) (cs'.getD i Go.undef) := hl.2 i
              have e2 : (cs.take (n * e)).toArray.toList.getD i Go.undef = cs.getD i Go.undef := by
                rw [List.toList_toArray, List.getD_eq_getElem?_getD, List.getElem?_take, if_pos hi, ← List.getD_eq_getElem?_getD]
              rw [e2, Nat.zero_add]
              obtain ⟨d, rfl⟩ : ∃ k, d = k + 4 := by
                match d, hc with
                | 0, h => cases h
                | 1, h => simp [SL, jD] at h
                | 2, h => simp [SL, jD] at h
                | 3, h => simp [SL, jD] at h
                | k + 4, _ => exact ⟨k, rfl⟩
              simp only [SL, jD, List.toList_toArray] at hc
              have hci : jD d (cs.getD i Go.undef) = true := by
                have h2 : i < cs.length := by omega
                rw [List.getD_eq_getElem?_getD, List.getElem?_eq_getElem h2, Option.getD_some]
                exact List.all_eq_true.1 hc _ (by rw [List.mem_take_iff_getElem]; exact ⟨i, by omega, rfl⟩)
              exact (hv.clean hp d hci).at0
            · rw [show wO S (d' + 1) (.slice (some ⟨r, 0, none⟩) n n) = .slice (some ⟨r, 0, none⟩) n n by simp only [wO, hg, hle, and_false, if_false]] at hc; cases d <;> simp [jD] at hc
      · rw [show wO S (d' + 1) (.slice (some ⟨r, o, none⟩) n n) = .slice (some ⟨r, o, none⟩) n n by
          simp only [wO]
          split
          · rename_i h; simp only [Value.slice.injEq, Option.some.injEq, Addr.mk.injEq] at h; exact absurd h.1.2.1 ho
          · rename_i h; cases h
          · rename_i h; cases h
          · rfl] at hc
        cases d <;> simp [jD] at hc
  | slE => intro d d' _; cases d' <;> exact .slE
  | sl hr hpr hg hl hn hc ih => intro d d' hcl; cases d' <;> exact (VV.sl hr hpr hg hl hn hc).clean hp d hcl
  | so hω hr hpr hg hl hn hc ih => intro d d' hcl; cases d' <;> exact (VV.so hω hr hpr hg hl hn hc).clean hp d hcl
  | ep hr hpr hg hl hc ih => intro d d' hcl; cases d' <;> exact (VV.ep hr hpr hg hl hc).clean hp d hcl
  | func fn hx hc h1 h2 => intro d d' hcl; cases d' <;> cases d <;> simp [wO, jD] at hcl
  | @agg ℓ x x' hx hh ih =>
    intro d d' hcl
    cases d' with
    | zero => exact (VV.agg hx hh).clean hp d hcl
    | succ d' =>
      have e : wO S (d' + 1) (.agg x) = .agg (x.map (wO S d')) := rfl
      rw [e] at hcl ⊢
      cases d with
      | zero => cases hcl
      | succ d =>
        simp only [jD] at hcl
        refine .agg (by simpa using hx) fun i => ?_
        by_cases hi : i < x.size
        · have e2 : (x.map (wO S d')).getD i Go.undef = wO S d' (x.getD i Go.undef) := by simp [Array.getD_eq_getD_getElem?, Array.getElem?_eq_getElem hi]
          rw [e2]
          refine ih i d d' ?_
          refine List.all_eq_true.1 hcl _ ?_
          simp only [Array.toList_map, List.mem_map]
          exact ⟨x[i], by simp, by rw [Array.getD_eq_getD_getElem?, Array.getElem?_eq_getElem hi]; rfl⟩
        · rw [Array.getD_eq_getD_getElem?, Array.getElem?_eq_none (by simpa using Nat.le_of_not_lt hi), Array.getD_eq_getD_getElem?, Array.getElem?_eq_none (by omega)]
          exact .nores
  | nores =>
    intro d d' hcl
    cases d' with
    | zero => exact .nores
    | succ d' => rw [show wO S (d' + 1) (.tuple #[]) = .tuple #[] by simp [wO]]; exact .nores
  | @tuple ℓ x x' hx hh ih =>
    intro d d' hcl
    cases d' with
    | zero => exact (VV.tuple hx hh).clean hp d hcl
    | succ d' =>
      have e : wO S (d' + 1) (.tuple x) = .tuple (x.map (wO S d')) := rfl
      rw [e] at hcl ⊢
      cases d with
      | zero => cases hcl
      | succ d =>
        simp only [jD] at hcl
        refine .tuple (by simpa using hx) fun i => ?_
        by_cases hi : i < x.size
        · have e2 : (x.map (wO S d')).getD i Go.undef = wO S d' (x.getD i Go.undef) := by simp [Array.getD_eq_getD_getElem?, Array.getElem?_eq_getElem hi]
          rw [e2]
          refine ih i d d' ?_
          refine List.all_eq_true.1 hcl _ ?_
          simp only [Array.toList_map, List.mem_map]
          exact ⟨x[i], by simp, by rw [Array.getD_eq_getD_getElem?, Array.getElem?_eq_getElem hi]; rfl⟩
        · rw [Array.getD_eq_getD_getElem?, Array.getElem?_eq_none (by simpa using Nat.le_of_not_lt hi), Array.getD_eq_getD_getElem?, Array.getElem?_eq_none (by omega)]
          exact .nores
open Classical in
noncomputable def Zv (μ:Mu):Mu:=⟨fun _=>none,fun r=>μ.hid r || decide (∃ q,μ q=some (r,true)),[]⟩
theorem YV {μ:Mu} {r:Nat} (h:ZU μ r):ZU (Zv μ) r:=⟨fun q hq=>(by cases hq),by
 simp only [Zv,h.2,Bool.false_or,decide_eq_false_iff_not]
 rintro ⟨q,hq⟩
 exact h.1 q hq⟩
theorem acQ {μ:Mu} {r:Nat} (h:(Zv μ).hid r=false):ZU μ r:=by
 simp only [Zv,Bool.or_eq_false_iff,decide_eq_false_iff_not] at h
 exact ⟨fun q hq=>h.2 ⟨q,hq⟩,h.1⟩
def ahR (P:Program) (g:FuncId) (args:List Value) (run:M Value):Prop:=∀ aargs S v S',run S=some (v,S')→∀ μ H ω,GI μ S H→L0 μ H args aargs→Dom μ H ω→(∀ r s,ω r=some s→s=.ext) →
 ∃ a H' μ' ω',lim P g aargs H=some (a,H')∧GI μ' S' H'∧Later μ H μ' H'∧Kept ω H ω' H'∧Dom μ' H' ω'∧VV μ' H' ω' (some (.res none)) v a
theorem aem {g:FuncId} {args:List Value} {run:M Value} (hr:ahR P g args run):ahR P g args (ach run args):=by
 intro aargs S v S' h μ H ω hG hA hD hE
 unfold ach at h
 split at h <;> first | (cases h;done) | skip
 rename_i hca
 split at h <;> first | (cases h;done) | skip
 rename_i w S1 hrun
 split at h <;> first | (cases h;done) | skip
 rename_i hcw
 cases h
 have hG0:GI (Zv μ) zx.empty H:=⟨fun q o h=>(by cases h),fun q q' r h=>(by cases h),fun q r b h=>(by cases h),fun q _=>rfl,fun q r h=>(by cases h),fun r h=>by
  simp only [Zv,Bool.or_eq_true,decide_eq_true_eq] at h
  rcases h with h | ⟨q,hq⟩
  ·
   exact hG.hlt r h
  ·
   exact hG.lt q r _ hq,rfl,fun q cs anc e h=>(by cases h)⟩
 have hA0:L0 (Zv μ) H args aargs:=⟨hA.1,fun i=>by
  by_cases hi:i < args.length
  ·
   refine (hA.2 i).clean (fun r h=>YV h) 16 ?_
   rw [List.getD_eq_getElem?_getD,List.getElem?_eq_getElem hi]
   exact List.all_eq_true.1 hca _ (List.getElem_mem _)
  ·
   rw [List.getD_eq_getElem?_getD,List.getElem?_eq_none (Nat.le_of_not_lt hi),List.getD_eq_getElem?_getD,List.getElem?_eq_none (by rw [← hA.1];omega)]
   exact .nores⟩
 obtain ⟨a,H1,μ1,ω1,k1,k2,k3,k4,k5,k6⟩:=hr aargs _ _ _ hrun (Zv μ) H ω hG0 hA0 (fun r s h=>⟨(hD r s h).1,YV (hD r s h).2⟩) hE
 have hp1:∀ r,ZU μ1 r→ZU μ r:=fun r h=>acQ (by rw [← k3.hid];exact h.2)
 have hL:Later μ H μ H1:=⟨fun _ _ b h=>⟨b,h⟩,k3.next,fun _ _ h=>.inl h,rfl,fun r hr hh=>k3.same r hr (by simp only [Zv,hh,Bool.true_or]),⟨[],rfl,fun q r hq _=>⟨hq,k3.same r (hG.lt q r _ hq) (by
  simp only [Zv,Bool.or_eq_true,decide_eq_true_eq]
  exact .inr ⟨q,hq⟩)⟩⟩,fun r l own e hr hp hg=>k3.cells r l own e hr (YV hp) hg⟩
 have hq1:∀ q r,μ1 q=some (r,true)→ZU μ r:=fun q r h=>by
  rcases k3.new q r h with h5 | h5
  ·
   cases h5
  ·
   exact ⟨fun q' hq'=>by have:=hG.lt q' r _ hq';omega,by
    cases hh:μ.hid r with
    | false=>rfl
    | true=>have:=hG.hlt r hh;omega⟩
 refine ⟨a,H1,μ,ω1,k1,?_,hL,k4,fun r s h=>⟨(k5 r s h).1,hp1 r (k5 r s h).2⟩,k6.lower k2 hp1 hq1 16 16 hcw⟩
 exact hG.later hL rfl fun q r hq=>k3.same r (hG.lt q r _ hq) (by
  simp only [Zv,Bool.or_eq_true,decide_eq_true_eq]
  exact .inr ⟨q,hq⟩)
theorem aeL {O:Ora} (hO:Va P O):∀ n,JF P (xM P O n):=by
 intro n
 induction n with
 | zero=>intro g args aargs S v S' h;cases h
 | succ n ih =>
  intro g args aargs S v S' h μ H ω hG hA hD hE
  simp only [xM] at h
  cases ho:O.fn g with
  | some q =>
   rw [ho] at h
   exact hO g q ho g args aargs S v S' (by simpa using h) μ H ω hG hA hD hE
  | none =>
   rw [ho] at h
   dsimp only at h
   cases hf:P.funcs[g]? with
   | none=>rw [hf] at h;cases h
   | some fn =>
    rw [hf] at h
    dsimp only at h
    split at h <;> first | (cases h;done) | skip
    rename_i hn
    cases hb:fn.body with
    | none=>rw [hb] at h;cases h
    | some c =>
     rw [hb] at h
     dsimp only at h
     have hrun:ahR P g args (ad3 P (O.hp g) (qQ O.hp (O.hp g) (xM P O n)) n fn c args):=by
      intro aargs S v S' h μ H ω hG hA hD hE
      have hT0:TI μ H ω (args++List.replicate (fn.ntmps - args.length) zh) (aargs++List.replicate (fn.ntmps - aargs.length) zh):=by
       have hl:L0 μ H (args++List.replicate (fn.ntmps - args.length) zh) (aargs++List.replicate (fn.ntmps - aargs.length) zh):=by
        refine hA.append (VL.ofRange (by rw [hA.1]) fun i hi=>?_)
        have hi2:i < fn.ntmps - args.length:=by simpa using hi
        rw [List.getD_eq_getElem?_getD,List.getElem?_replicate,if_pos hi2,List.getD_eq_getElem?_getD,List.getElem?_replicate,if_pos (by rw [← hA.1];exact hi2)]
        exact .nores
       exact ⟨hl.1,fun i=>(hl.2 i).at0,hD,fun r j hr=>by have:=hE r _ hr;cases this⟩
      have fin:∀ (e:AEx) (T1:List Value) (S1:zx),(e=.normal∨e=.ret)→yI P (O.hp g) (qQ O.hp (O.hp g) (xM P O n)) n c (args++List.replicate (fn.ntmps - args.length) zh) S=some (e,T1,S1)→abJ P fn T1 S1=some (v,S') →
        ∃ a H' μ' ω',lim P g aargs H=some (a,H')∧GI μ' S' H'∧Later μ H μ' H'∧Kept ω H ω' H'∧Dom μ' H' ω'∧VV μ' H' ω' (some (.res none)) v a:=by
       intro e T1 S1 he hcode hres
       obtain ⟨A1,H1,μ1,ω1,h1,h2,h3,h4,h5⟩:=aeG (ae8 ih) n c _ _ _ _ _ _ _ _ _ hcode hG hT0
       obtain ⟨rfl,a,k1,k2⟩:=af7 (P:=P) h2 h5 hres
       refine ⟨a,H1,μ1,fun r=>(ω1 r).bind (place fn.results.toList),ae5 hf hn hb h1 he k1,h2,h3,fun r hr=>?_,fun r s hs=>?_,k2⟩
       ·
        obtain ⟨q1,q2⟩:=h4 r hr
        exact ⟨by simp [q1,place],q2⟩
       ·
        cases hr:ω1 r with
        | none=>simp [hr] at hs
        | some s0=>exact h5.dom r s0 hr
      unfold ad3 at h
      split at h
      ·
       rename_i T1 S1 hx;exact fin .normal _ _ (.inl rfl) hx h
      ·
       rename_i T1 S1 hx;exact fin .ret _ _ (.inr rfl) hx h
      ·
       cases h
     split at h
     ·
      exact aem hrun aargs S v S' h μ H ω hG hA hD hE
     ·
      exact hrun aargs S v S' h μ H ω hG hA hD hE
end
end Go.Abs
namespace Go.Abs
open Go.RowKit
open Classical
noncomputable def jm (P:Program) (O:Ora) (g:FuncId) (args:List Value):M Value:=fun S =>
 if h:∃ r,∃ k0,∀ k,k0≤k→xM P O k g args S=some r then some (Classical.choose h) else none
section
variable {P:Program} {O:Ora}
theorem Yl {g:FuncId} {args:List Value} {S:zx} {r:Value×zx} (h:jm P O g args S=some r):∃ k0,∀ k,k0≤k→xM P O k g args S=some r:=by
 unfold jm at h
 split at h
 ·
  rename_i hx
  have:=Classical.choose_spec hx
  cases h
  exact this
 ·
  cases h
theorem KJ {g:FuncId} {args:List Value} {S:zx} {r:Value×zx} (h:∃ k0,∀ k,k0≤k→xM P O k g args S=some r):jm P O g args S=some r:=by
 have hx:∃ r,∃ k0,∀ k,k0≤k→xM P O k g args S=some r:=⟨r,h⟩
 unfold jm
 rw [dif_pos hx]
 obtain ⟨k0,h0⟩:=h
 obtain ⟨k1,h1⟩:=Classical.choose_spec hx
 have e0:=h0 (max k0 k1) (Nat.le_max_left _ _)
 have e1:=h1 (max k0 k1) (Nat.le_max_right _ _)
 rw [e0] at e1
 exact e1.symm
theorem adE (hO:Va P O):JF P (jm P O):=by
 intro g args aargs S v S' h
 obtain ⟨k,hk⟩:=Yl h
 exact aeL hO k g args aargs S v S' (hk k (Nat.le_refl k))
theorem afa {g:FuncId} {args:List Value} {q:List Value→M Value} (h:O.fn g=some q) (S:zx):jm P O g args S=q args S:=by
 cases hq:q args S with
 | some r =>
  refine KJ ⟨1,fun k hk=>?_⟩
  obtain ⟨k,rfl⟩:∃ i,k=i+1:=⟨k - 1,by omega⟩
  simp only [xM,h,hq]
 | none =>
  cases hv:jm P O g args S with
  | none=>rfl
  | some r =>
   obtain ⟨k,hk⟩:=Yl hv
   have:=hk (k+1) (by omega)
   simp only [xM,h,hq] at this
   cases this
def agS (c:FuncId→List Value→M Value) (ck:Nat→FuncId→List Value→M Value):Prop:=∀ g args S r,c g args S=some r→∃ k0,∀ k,k0≤k→ck k g args S=some r
theorem Xj:agS (jm P O) (fun k=>xM P O k):=fun g args S r h=>Yl h
theorem Qk {c:FuncId→List Value→M Value} {ck:Nat→FuncId→List Value→M Value} (hl:agS c ck) {hps:FuncId→Bool} {hp:Bool}:agS (qQ hps hp c) (fun k=>qQ hps hp (ck k)):=by
 cases hp with
 | false=>exact hl
 | true =>
  intro g args S r h
  unfold qQ at h
  dsimp only at h
  split at h
  ·
   rename_i hg
   obtain ⟨k0,h0⟩:=hl _ _ _ _ h
   exact ⟨k0,fun k hk=>by unfold qQ;dsimp only;rw [if_pos hg];exact h0 k hk⟩
  ·
   rename_i hg
   split at h <;> first | (cases h;done) | skip
   rename_i m S1 hf
   split at h <;> first | (cases h;done) | skip
   rename_i r0 hr0
   obtain ⟨k0,h0⟩:=hl _ _ _ _ hr0
   exact ⟨k0,fun k hk=>by unfold qQ;dsimp only;rw [if_neg hg,hf];dsimp only;rw [h0 k hk];exact h⟩
section
variable {c:FuncId→List Value→M Value} {ck:Nat→FuncId→List Value→M Value}
theorem Xx (hl:agS c ck) {fx:Fx} {T:List Value} {o:Oper} {S:zx} {r:Value×zx} (h:wS P fx c T o S=some r):∃ k0,∀ k,k0≤k→wS P fx (ck k) T o S=some r:=by
 unfold wS at h
 split at h
 ·
  rename_i hok
  split at h
  ·
   rename_i q0 hop
   split at h
   ·
    rename_i f hf
    split at h
    ·
     rename_i g first captured hev
     obtain ⟨k0,hk⟩:=hl _ _ _ _ h
     refine ⟨k0,fun k hkk=>?_⟩
     unfold wS
     rw [if_pos hok]
     simp only [hop,hf,hev]
     exact hk k hkk
    ·
     cases h
   ·
    rename_i b hb
    refine ⟨0,fun k _=>?_⟩
    unfold wS
    rw [if_pos hok]
    simp only [hop,hb]
    exact h
   ·
    cases h
  ·
   rename_i hop
   refine ⟨0,fun k _=>?_⟩
   unfold wS
   rw [if_pos hok]
   split
   ·
    rename_i q0 hc;exact absurd hc (hop q0)
   ·
    exact h
 ·
  cases h
theorem ad8 (hl:agS c ck) {fx:Fx} {ops:Array Oper}:∀ (l:List Oper) (T:List Value) (S:zx) (r:List Value×zx),jF P fx c ops l T S=some r→∃ k0,∀ k,k0≤k→jF P fx (ck k) ops l T S=some r:=by
 intro l
 induction l with
 | nil=>intro T S r h;exact ⟨0,fun k _=>h⟩
 | cons o l ih =>
  intro T S r h
  simp only [jF] at h
  split at h
  ·
   rename_i hw
   split at h
   ·
    rename_i v S' hs
    obtain ⟨k1,h1⟩:=Xx hl hs
    obtain ⟨k2,h2⟩:=ih _ _ _ h
    refine ⟨max k1 k2,fun k hk=>?_⟩
    simp only [jF,hw,if_true,h1 k (by omega)]
    exact h2 k (by omega)
   ·
    cases h
  ·
   rename_i hw
   obtain ⟨k2,h2⟩:=ih _ _ _ h
   refine ⟨k2,fun k hk=>?_⟩
   simp only [jF,hw,if_false]
   exact h2 k hk
theorem adX (hl:agS c ck) {fx:Fx} {chk:List Nat} {nl:List (Nat×Nat)} {ops:Array Oper}:∀ (l:List Oper) (i:Nat) (hist:List (Value×zx)) (T:List Value) (S:zx) (r:List Value×zx),wC P fx chk nl c ops i hist l T S=some r→∃ k0,∀ k,k0≤k→wC P fx chk nl (ck k) ops i hist l T S=some r:=by
 intro l
 induction l with
 | nil=>intro i hist T S r h;exact ⟨0,fun k _=>h⟩
 | cons o l ih =>
  intro i hist T S r h
  simp only [wC] at h
  split at h
  ·
   rename_i hw
   split at h
   ·
    rename_i v S' hs
    split at h
    ·
     rename_i hq
     obtain ⟨k1,h1⟩:=Xx hl hs
     obtain ⟨k2,h2⟩:=ih _ _ _ _ _ h
     refine ⟨max k1 k2,fun k hk=>?_⟩
     simp only [wC,hw,if_true,h1 k (by omega),hq]
     exact h2 k (by omega)
    ·
     cases h
   ·
    cases h
  ·
   rename_i hw
   obtain ⟨k2,h2⟩:=ih _ _ _ _ _ h
   refine ⟨k2,fun k hk=>?_⟩
   simp only [wC,hw,if_false]
   exact h2 k hk
end
noncomputable def zI (P:Program) (O:Ora) (hp:Bool):Code→List Value→zx→St
 | .skip,T,H=>some (.normal,T,H)
 | .region _ ops false,T,H=>match jF P ⟨hp,false,false⟩ (qQ O.hp hp (jm P O)) ops ops.toList T H with
  | some (T1,H1)=>some (.normal,T1,H1)
  | none=>none
 | .region _ ops true,T,H=>if qO P ops then match wC P ⟨hp,!(checked P ops).isEmpty,fixed P ops⟩ (checked P ops) (again P ops) (qQ O.hp hp (jm P O)) ops 0 [] ops.toList T H with
  | some (T1,H1)=>some (.normal,T1,H1)
  | none=>none
  else none
 | .seq x y,T,H=>match zI P O hp x T H with
  | some (.normal,T1,H1)=>zI P O hp y T1 H1
  | r=>r
 | .cond c x y,T,H=>if qP c then
   match jA T c with
   | .bool true=>zI P O hp x T H
   | .bool false=>zI P O hp y T H
   | _=>none
  else none
 | .block id c,T,H=>match zI P O hp c T H with
  | some (.exit id',T1,H1)=>if id'=id then some (.normal,T1,H1) else some (.exit id',T1,H1)
  | r=>r
 | .loop c,T,H=>yQ (zI P O hp c) T H
 | .exit id,T,H=>some (.exit id,T,H)
 | .ret,T,H=>some (.ret,T,H)
 | _,_,_=>none
theorem Qc {hp:Bool}:∀ (c:Code) (T:List Value) (H:zx) (r),zI P O hp c T H=some r→∃ k0,∀ k fuel,k0≤k→k0≤fuel→yI P hp (qQ O.hp hp (xM P O k)) fuel c T H=some r:=by
 intro c
 induction c with
 | skip=>intro T H r h;exact ⟨0,fun k fuel _ _=>h⟩
 | region i ops d =>
  intro T H r h
  cases d with
  | false =>
   simp only [zI] at h
   split at h
   ·
    rename_i T1 H1 ho
    obtain ⟨k0,h0⟩:=ad8 (Qk Xj) _ _ _ _ ho
    exact ⟨k0,fun k fuel hk _=>by simp only [yI,h0 k hk];exact h⟩
   ·
    cases h
  | true =>
   simp only [zI] at h
   split at h
   ·
    rename_i hd
    split at h
    ·
     rename_i T1 H1 ho
     obtain ⟨k0,h0⟩:=adX (Qk Xj) _ _ _ _ _ _ ho
     exact ⟨k0,fun k fuel hk _=>by simp only [yI,hd,if_true,h0 k hk];exact h⟩
    ·
     cases h
   ·
    cases h
 | seq x y ihx ihy =>
  intro T H r h
  simp only [zI] at h
  split at h
  ·
   rename_i T1 H1 hx
   obtain ⟨k1,h1⟩:=ihx _ _ _ hx
   obtain ⟨k2,h2⟩:=ihy _ _ _ h
   exact ⟨max k1 k2,fun k fuel hk hf=>by simp only [yI,h1 k fuel (by omega) (by omega)];exact h2 k fuel (by omega) (by omega)⟩
  ·
   rename_i hne
   obtain ⟨k1,h1⟩:=ihx _ _ _ h
   refine ⟨k1,fun k fuel hk hf=>?_⟩
   simp only [yI,h1 k fuel hk hf]
   split
   ·
    rename_i T1 H1 he;exact absurd (h.trans he) (hne T1 H1)
   ·
    rfl
 | cond c x y ihx ihy =>
  intro T H r h
  simp only [zI] at h
  split at h
  ·
   rename_i hok
   split at h
   ·
    rename_i hb
    obtain ⟨k1,h1⟩:=ihx _ _ _ h
    exact ⟨k1,fun k fuel hk hf=>by simp only [yI,hok,if_true,hb];exact h1 k fuel hk hf⟩
   ·
    rename_i hb
    obtain ⟨k1,h1⟩:=ihy _ _ _ h
    exact ⟨k1,fun k fuel hk hf=>by simp only [yI,hok,if_true,hb];exact h1 k fuel hk hf⟩
   ·
    cases h
  ·
   cases h
 | block id c ih =>
  intro T H r h
  simp only [zI] at h
  split at h
  ·
   rename_i id' T1 H1 hc
   obtain ⟨k1,h1⟩:=ih _ _ _ hc
   exact ⟨k1,fun k fuel hk hf=>by simp only [yI,h1 k fuel hk hf];exact h⟩
  ·
   rename_i hne
   obtain ⟨k1,h1⟩:=ih _ _ _ h
   refine ⟨k1,fun k fuel hk hf=>?_⟩
   simp only [yI,h1 k fuel hk hf]
   split
   ·
    rename_i id' T1 H1 he;exact absurd (h.trans he) (hne id' T1 H1)
   ·
    rfl
 | loop c ih =>
  intro T H r h
  simp only [zI] at h
  obtain ⟨n,hn⟩:=ZP h
  have key:∀ (n:Nat) (T:List Value) (H:zx),qA n (zI P O hp c) T H=some r→∃ k0,∀ k fuel,k0≤k→k0≤fuel→∀ j,n≤j→qA j (yI P hp (qQ O.hp hp (xM P O k)) fuel c) T H=some r:=by
   intro n
   induction n with
   | zero=>intro T H h;cases h
   | succ n ihn =>
    intro T H h
    simp only [qA] at h
    split at h
    ·
     rename_i T1 H1 hf
     obtain ⟨k1,h1⟩:=ih _ _ _ hf
     obtain ⟨k2,h2⟩:=ihn _ _ h
     refine ⟨max k1 k2,fun k fuel hk hfu j hj=>?_⟩
     obtain ⟨j,rfl⟩:∃ i,j=i+1:=⟨j - 1,by omega⟩
     simp only [qA,h1 k fuel (by omega) (by omega)]
     exact h2 k fuel (by omega) (by omega) j (by omega)
    ·
     rename_i hne
     obtain ⟨k1,h1⟩:=ih _ _ _ h
     refine ⟨k1,fun k fuel hk hfu j hj=>?_⟩
     obtain ⟨j,rfl⟩:∃ i,j=i+1:=⟨j - 1,by omega⟩
     simp only [qA,h1 k fuel hk hfu]
     split
     ·
      rename_i T1 H1 he;exact absurd (h.trans he) (hne T1 H1)
     ·
      rfl
  obtain ⟨k0,h0⟩:=key n T H hn
  exact ⟨max k0 n,fun k fuel hk hf=>by simp only [yI];exact h0 k fuel (by omega) (by omega) fuel (by omega)⟩
 | exit id=>intro T H r h;exact ⟨0,fun k fuel _ _=>h⟩
 | ret=>intro T H r h;exact ⟨0,fun k fuel _ _=>h⟩
 | _=>intro T H r h;simp only [zI] at h;cases h
theorem wo {f:FuncId} {fn:Func} {c:Code} {args:List Value} {H H1 H':zx} {e:AEx} {T:List Value} {v:Value} (ho:O.fn f=none) (hpu:O.pu f=false) (hf:P.funcs[f]?=some fn) (hn:fn.name≠ "runtime.NumGoroutine") (hb:fn.body=some c)
  (h:zI P O (O.hp f) c (args++List.replicate (fn.ntmps - args.length) zh) H=some (e,T,H1)) (he:e=.normal∨e=.ret) (hres:abJ P fn T H1=some (v,H')):jm P O f args H=some (v,H'):=by
 obtain ⟨k0,h0⟩:=Qc _ _ _ _ h
 refine KJ ⟨k0+1,fun k hk=>?_⟩
 obtain ⟨k,rfl⟩:∃ i,k=i+1:=⟨k - 1,by omega⟩
 simp only [xM,ho,hf,if_neg hn,hb,hpu,Bool.false_eq_true,if_false,ad3,h0 k k (by omega) (by omega)]
 rcases he with rfl | rfl <;> exact hres
theorem aaM {f:FuncId} {fn:Func} {c:Code} {args:List Value} {S H1 H':zx} {e:AEx} {T:List Value} {v:Value} (ho:O.fn f=none) (hpu:O.pu f=true) (hf:P.funcs[f]?=some fn) (hn:fn.name≠ "runtime.NumGoroutine") (hb:fn.body=some c)
  (h:zI P O (O.hp f) c (args++List.replicate (fn.ntmps - args.length) zh) zx.empty=some (e,T,H1)) (he:e=.normal∨e=.ret) (hres:abJ P fn T H1=some (v,H')) (hca:args.all (jD 16)=true) (hcv:jD 16 (wO H' 16 v)=true):jm P O f args S=some (wO H' 16 v,S):=by
 obtain ⟨k0,h0⟩:=Qc _ _ _ _ h
 refine KJ ⟨k0+1,fun k hk=>?_⟩
 obtain ⟨k,rfl⟩:∃ i,k=i+1:=⟨k - 1,by omega⟩
 have hr:ad3 P (O.hp f) (qQ O.hp (O.hp f) (xM P O k)) k fn c args zx.empty=some (v,H'):=by
  simp only [ad3,h0 k k (by omega) (by omega)]
  rcases he with rfl | rfl <;> exact hres
 simp only [xM,ho,hf,if_neg hn,hb,hpu,if_true,ach,if_pos hca,hr,if_pos hcv]
theorem Xt (S:zx):∀ (d d':Nat) (v:Value),jD d v=true→wO S d' v=v:=by
 intro d
 induction d with
 | zero=>intro d' v h;cases h
 | succ d ih =>
  intro d' v h
  cases d' with
  | zero=>rfl
  | succ d' =>
   cases v with
   | agg cs =>
    simp only [jD] at h
    show Value.agg (cs.map (wO S d'))=.agg cs
    congr 1
    apply Array.ext (by simp)
    intro i h1 h2
    rw [Array.getElem_map]
    exact ih d' _ (List.all_eq_true.1 h _ (by simp))
   | tuple cs =>
    simp only [jD] at h
    show Value.tuple (cs.map (wO S d'))=.tuple cs
    congr 1
    apply Array.ext (by simp)
    intro i h1 h2
    rw [Array.getElem_map]
    exact ih d' _ (List.all_eq_true.1 h _ (by simp))
   | slice a n c =>
    cases a with
    | none=>rfl
    | some a=>simp [jD] at h
   | _=>rfl
theorem yL {f:FuncId} {fn:Func} {c:Code} {args:List Value} {S H1 H':zx} {e:AEx} {T:List Value} {v:Value} (ho:O.fn f=none) (hpu:O.pu f=true) (hf:P.funcs[f]?=some fn) (hn:fn.name≠ "runtime.NumGoroutine") (hb:fn.body=some c)
  (h:zI P O (O.hp f) c (args++List.replicate (fn.ntmps - args.length) zh) zx.empty=some (e,T,H1)) (he:e=.normal∨e=.ret) (hres:abJ P fn T H1=some (v,H')) (hca:args.all (jD 16)=true) (hcv:jD 16 v=true):jm P O f args S=some (v,S):=by
 have e1:=Xt H' 16 16 v hcv
 have:=aaM (S:=S) ho hpu hf hn hb h he hres hca (by rw [e1];exact hcv)
 rwa [e1] at this
def Ty.J9:(t:Ty)→t.Val→List Value
 | .int k,n=>[.int k n]
 | .bool,b=>[.bool b]
 | .str,s=>[.string s]
 | .slc _ e,l=>match l with
  | none=>[.slice none 0 0]
  | some l=>[SL 1 e.sz l.length (l.flatMap e.J9)]
 | .pair a b,(x,y)=>a.J9 x++b.J9 y
 | .unit,_=>[]
theorem Ty.Vl:∀ (t:Ty) (x:t.Val),(t.J9 x).length=t.sz:=by
 intro t
 induction t with
 | pair a b iha ihb=>rintro ⟨x,y⟩;simp [Ty.J9,Ty.sz,iha,ihb]
 | slc bytes e ih=>intro x;cases x <;> rfl
 | _=>intro x;rfl
theorem Wq {e:Ty} (l:List e.Val):(l.flatMap e.J9).length=l.length * e.sz:=by
 induction l with
 | nil=>simp
 | cons x l ih=>simp [List.flatMap_cons,Ty.Vl,ih,Nat.add_mul];omega
def M0:Mu:=⟨fun _=>none,fun _=>false,[]⟩
theorem GI.none {H:zx}:GI M0 zx.empty H:=⟨(fun q o h=>by cases h),(fun q q' r h=>by cases h),(fun q r b h=>by cases h),(fun q _=>rfl),(fun q r h=>by cases h),(fun r h=>by cases h),rfl,(fun q cs anc e h=>by cases h)⟩
theorem Ty.Q5:∀ (t:Ty) (x:t.Val) (H:zx),Later M0 H M0 (t.place x H).2∧L0 M0 (t.place x H).2 (t.J9 x) (t.place x H).1:=by
 intro t
 induction t with
 | int k=>intro x H;exact ⟨Later.refl _ _,VL.cons (.sg rfl) VL.nil⟩
 | bool=>intro x H;exact ⟨Later.refl _ _,VL.cons (.sg rfl) VL.nil⟩
 | str=>intro x H;exact ⟨Later.refl _ _,VL.cons (.sg rfl) VL.nil⟩
 | unit=>intro x H;exact ⟨Later.refl _ _,VL.nil⟩
 | pair a b iha ihb =>
  rintro ⟨x,y⟩ H
  obtain ⟨h1,h2⟩:=iha x H
  obtain ⟨h3,h4⟩:=ihb y (a.place x H).2
  exact ⟨h1.trans h3,(h2.later h3).append h4⟩
 | slc bytes e ih =>
  intro x H
  match x with
  | none=>exact ⟨Later.refl _ _,VL.cons (.sg rfl) VL.nil⟩
  | some []=>exact ⟨Later.refl _ _,VL.cons (.slE (e:=e.sz)) VL.nil⟩
  | some (x::l) =>
   have key:∀ (l:List e.Val) (H:zx),Later M0 H M0 (wX e.place l H).2∧L0 M0 (wX e.place l H).2 (l.flatMap e.J9) (wX e.place l H).1:=by
    intro l
    induction l with
    | nil=>intro H;exact ⟨Later.refl _ _,VL.nil⟩
    | cons x l ihl =>
     intro H
     obtain ⟨h1,h2⟩:=ih x H
     obtain ⟨h3,h4⟩:=ihl (e.place x H).2
     exact ⟨h1.trans h3,(h2.later h3).append h4⟩
   obtain ⟨h1,h2⟩:=key (x::l) H
   have hL:Later M0 (wX e.place (x::l) H).2 M0 ((wX e.place (x::l) H).2.push (.cells (wX e.place (x::l) H).1 .ro e.sz)):=Qx (fun q r h=>by cases h) _
   refine ⟨h1.trans hL,VL.cons ?_ VL.nil⟩
   have hlen:(wX e.place (x::l) H).1.length=(l.length+1) * e.sz:=by rw [← h2.1,Wq];rfl
   show V0 M0 ((wX e.place (x::l) H).2.push (.cells (wX e.place (x::l) H).1 .ro e.sz)) (SL 1 e.sz (l.length+1) ((x::l).flatMap e.J9)) (.slice (some ⟨(wX e.place (x::l) H).2.next,0,none⟩) (l.length+1) (l.length+1))
   refine VV.sl (o:=0) (l:=(wX e.place (x::l) H).1) (own:=.ro) (by simp) ⟨fun q h=>(by cases h),rfl⟩ (by rw [zx.jJ,if_pos rfl]) (by omega) (by rw [List.toList_toArray,Wq];rfl) (fun i hi=>?_)
   rw [Nat.zero_add,List.toList_toArray]
   exact (h2.2 i).vK hL
def Args.J9:(l:List (Bool×Ty))→Args l→List Value
 | [],_=>[]
 | (b,c)::l,(x,xs)=>Zu b (c.J9 x)::Args.J9 l xs
theorem ad9 {H:zx} {b:Bool} {cs cs':List Value} (h:L0 M0 H cs cs'):V0 M0 H (Zu b cs) (Zu b cs'):=by
 unfold Zu
 split
 ·
  exact Yn h
 ·
  rw [ZM,ZM];exact h.2 0
theorem Args.Q5:∀ (l:List (Bool×Ty)) (x:Args l) (H:zx),Later M0 H M0 (Args.place l x H).2∧L0 M0 (Args.place l x H).2 (Args.J9 l x) (Args.place l x H).1:=by
 intro l
 induction l with
 | nil=>intro x H;exact ⟨Later.refl _ _,VL.nil⟩
 | cons p l ih =>
  obtain ⟨b,c⟩:=p
  rintro ⟨x,xs⟩ H
  obtain ⟨h1,h2⟩:=c.Q5 x H
  obtain ⟨h3,h4⟩:=ih xs (c.place x H).2
  exact ⟨h1.trans h3,VL.cons ((ad9 h2).vK h3) h4⟩
theorem Vx (hO:Va P O) {f:FuncId} {codes:List (Bool×Ty)} {x:Args codes} {S':zx} (h:jm P O f (Args.J9 codes x) zx.empty=some (.bool true,S')) :
  ∃ k,(vZ P k f (Args.place codes x zx.empty).1 (Args.place codes x zx.empty).2).map (·.1)=some (.bool true):=by
 obtain ⟨h1,h2⟩:=Args.Q5 codes x zx.empty
 obtain ⟨a,H',μ',ω',k1,k2,k3,k4,k5,k6⟩:=adE hO f _ _ _ _ _ h M0 _ W0 GI.none h2 (fun r s hs=>by cases hs) (fun r s hs=>by cases hs)
 have:a=.bool true:=jO (k6.v0) rfl
 subst this
 exact aaN k1
theorem aeb {hps pus:FuncId→Bool}:Va P ⟨fun _=>none,hps,pus⟩:=fun f q h=>by cases h
end
end Go.Abs
namespace Go.Abs
open Go.RowKit
section
variable {R:Type} {P:Program} {O:Ora} {fx:Fx} {hp nm:Bool} {chk:List Nat} {call:FuncId→List Value→M Value} {ops:Array Oper}
def okC (v:Value) (r:Option R):Option R:=if okq 3 v=true then r else none
@[simp] theorem aaz (b:Bool) (r:Option R):okC (.bool b) r=r:=Eq.trans rfl rfl
@[simp] theorem ab7 (k:IntKind) (n:Int) (r:Option R):okC (.int k n) r=r:=Eq.trans rfl rfl
@[simp] theorem Qu (s:ByteArray) (r:Option R):okC (.string s) r=r:=Eq.trans rfl rfl
@[simp] theorem Xv (a:Option Addr) (n c:Nat) (r:Option R):okC (.slice a n c) r=r:=Eq.trans rfl rfl
@[simp] theorem XP (k:Nat) (v:Value) (r:Option R):okC (.iface k v) r=r:=Eq.trans rfl rfl
@[simp] theorem agh (a:Option Addr) (r:Option R):okC (.pointer a) r=r:=Eq.trans rfl rfl
def gdC (v:Value) (b:Bool) (s:M Value) (S:zx) (K:Value→zx→Option R):Option R :=
 if (vb v == some b)=true then andThen (s S) (fun v S1=>okC v (K v S1)) else K zh S
@[simp] theorem afD (s:M Value) (H:zx) (K:Value→zx→Option R):gdC (.bool true) true s H K=andThen (s H) (fun v S1=>okC v (K v S1)):=Eq.trans rfl rfl
@[simp] theorem afH (s:M Value) (H:zx) (K:Value→zx→Option R):gdC (.bool false) false s H K=andThen (s H) (fun v S1=>okC v (K v S1)):=Eq.trans rfl rfl
@[simp] theorem afG (s:M Value) (H:zx) (K:Value→zx→Option R):gdC (.bool true) false s H K=K zh H:=Eq.trans rfl rfl
@[simp] theorem afq (s:M Value) (H:zx) (K:Value→zx→Option R):gdC (.bool false) true s H K=K zh H:=Eq.trans rfl rfl
@[simp] theorem afu (s:M Value) (b:Bool) (H:zx) (K:Value→zx→Option R):gdC zh b s H K=K zh H:=Eq.trans rfl rfl
abbrev Jj {α:Type} (a:α):Type:=Unit
def zU (s:Option (Value×zx)) (K:Value→zx→Option R) (p:Jj K):Option R:=andThen s K
def gdK (v:Value) (b:Bool) (s:M Value) (S:zx) (K:Value→zx→Option R) (p:Jj K):Option R:=gd v b s S K
def abR (v:Value) (b:Bool) (s:M Value) (S:zx) (K:Value→zx→Option R) (p:Jj K):Option R:=gdC v b s S K
def okK (v:Value) (r:Option R) (p:Jj r):Option R:=okC v r
@[simp] theorem XQ (v:Value) (H:zx) (K:Value→zx→Option R) (p:Jj K):zU (some (v,H)) K p=K v H:=Eq.trans rfl rfl
@[simp] theorem afs (s:M Value) (H:zx) (K:Value→zx→Option R) (p:Jj K):gdK (.bool true) true s H K p=zU (s H) K p:=Eq.trans rfl rfl
@[simp] theorem afM (s:M Value) (H:zx) (K:Value→zx→Option R) (p:Jj K):gdK (.bool false) false s H K p=zU (s H) K p:=Eq.trans rfl rfl
@[simp] theorem afK (s:M Value) (H:zx) (K:Value→zx→Option R) (p:Jj K):gdK (.bool true) false s H K p=K zh H:=Eq.trans rfl rfl
@[simp] theorem aff (s:M Value) (H:zx) (K:Value→zx→Option R) (p:Jj K):gdK (.bool false) true s H K p=K zh H:=Eq.trans rfl rfl
@[simp] theorem afF (s:M Value) (b:Bool) (H:zx) (K:Value→zx→Option R) (p:Jj K):gdK zh b s H K p=K zh H:=Eq.trans rfl rfl
@[simp] theorem acs (s:M Value) (H:zx) (K:Value→zx→Option R) (p:Jj K):abR (.bool true) true s H K p=zU (s H) (fun v S1=>okK v (K v S1) ()) ():=Eq.trans rfl rfl
@[simp] theorem acJ (s:M Value) (H:zx) (K:Value→zx→Option R) (p:Jj K):abR (.bool false) false s H K p=zU (s H) (fun v S1=>okK v (K v S1) ()) ():=Eq.trans rfl rfl
@[simp] theorem adh (s:M Value) (H:zx) (K:Value→zx→Option R) (p:Jj K):abR (.bool true) false s H K p=K zh H:=Eq.trans rfl rfl
@[simp] theorem acB (s:M Value) (H:zx) (K:Value→zx→Option R) (p:Jj K):abR (.bool false) true s H K p=K zh H:=Eq.trans rfl rfl
@[simp] theorem ada (s:M Value) (b:Bool) (H:zx) (K:Value→zx→Option R) (p:Jj K):abR zh b s H K p=K zh H:=Eq.trans rfl rfl
@[simp] theorem V8 (b:Bool) (r:Option R) (p:Jj r):okK (.bool b) r p=r:=Eq.trans rfl rfl
@[simp] theorem adD (k:IntKind) (n:Int) (r:Option R) (p:Jj r):okK (.int k n) r p=r:=Eq.trans rfl rfl
@[simp] theorem Qe (s:ByteArray) (r:Option R) (p:Jj r):okK (.string s) r p=r:=Eq.trans rfl rfl
@[simp] theorem Xh (a:Option Addr) (n c:Nat) (r:Option R) (p:Jj r):okK (.slice a n c) r p=r:=Eq.trans rfl rfl
@[simp] theorem Yz (a:Option Addr) (r:Option R) (p:Jj r):okK (.pointer a) r p=r:=Eq.trans rfl rfl
theorem Wx {v:Value} (h:okq 3 v=true) (r:Option R) (p:Jj r):okK v r p=r:=if_pos h
theorem adO {l rest:List Oper} {o:Oper} {T:List Value} {T1:Value→List Value} {S:zx} {v:Value} {r:Option (List Value×zx)} (hl:l=o::rest) (hg:o.guard=none) (hm:∀ v,vG o rest T v=T1 v)
  (hs:wS P fx call T o S=some (v,S)) (hK:jF P fx call ops rest (T1 v) S=r):jF P fx call ops l T S=r:=by
 subst hl
 simp only [jF,Region.wanted,hg,if_true,hs,hm]
 exact hK
theorem agr {l rest:List Oper} {o:Oper} {T:List Value} {T1:Value→List Value} {S:zx} {s:Option (Value×zx)} {K:Value→zx→Option (List Value×zx)} (hl:l=o::rest) (hg:o.guard=none) (hm:∀ v,vG o rest T v=T1 v)
  (hs:wS P fx call T o S=s) (hK:∀ v S1,jF P fx call ops rest (T1 v) S1=K v S1):jF P fx call ops l T S=zU s K ():=by
 show _=andThen s K
 subst hl hs
 simp only [jF,Region.wanted,hg,if_true,hm,hK]
 rfl
theorem agE {l rest:List Oper} {o:Oper} {T:List Value} {T1:Value→List Value} {S:zx} {j:Nat} {b:Bool} {g:Value} {s:M Value} {K:Value→zx→Option (List Value×zx)} (hl:l=o::rest) (hg:o.guard=some (j,b)) (hm:∀ v,vG o rest T v=T1 v)
  (hy:ynd ops T j=vb g) (hs:wS P fx call T o S=s S) (hK:∀ v S1,jF P fx call ops rest (T1 v) S1=K v S1):jF P fx call ops l T S=gdK g b s S K ():=by
 show _=gd g b s S K
 subst hl
 simp only [jF,Region.wanted,hg,hy,hs,hm,hK,gd]
 rfl
theorem aeF {l rest:List Oper} {o:Oper} {T:List Value} {T1:Value→List Value} {S:zx} {k:Nat} {s:Option (Value×zx)} {K:Value→zx→Option (List Value×zx)} (hc:chk.contains k=false) (hl:l=o::rest) (hg:o.guard=none) (hm:∀ v,vG o rest T v=T1 v)
  (hs:wS P fx call T o S=s) (hK:∀ v S1,wC P fx chk [] call ops (k+1) [] rest (T1 v) S1=K v S1):wC P fx chk [] call ops k [] l T S=zU s K ():=by
 show _=andThen s K
 subst hl hs
 simp only [wC,kQ,List.isEmpty_nil,if_true,Region.wanted,hg,if_true,hm,hK,hc,Bool.not_false,Bool.true_or]
 rfl
theorem acj {l rest:List Oper} {o:Oper} {T:List Value} {T1:Value→List Value} {S:zx} {k:Nat} {s:Option (Value×zx)} {K:Value→zx→Option (List Value×zx)} (hc:chk.contains k=true) (hl:l=o::rest) (hg:o.guard=none) (hm:∀ v,vG o rest T v=T1 v)
  (hs:wS P fx call T o S=s) (hK:∀ v S1,wC P fx chk [] call ops (k+1) [] rest (T1 v) S1=K v S1):wC P fx chk [] call ops k [] l T S=zU s (fun v S1=>okK v (K v S1) ()) ():=by
 show _=andThen s (fun v S1=>okC v (K v S1))
 subst hl hs
 simp only [wC,kQ,List.isEmpty_nil,if_true,Region.wanted,hg,if_true,hm,hK,hc,Bool.not_true,Bool.false_or]
 rfl
theorem aa5 {l rest:List Oper} {o:Oper} {T:List Value} {T1:Value→List Value} {S:zx} {k:Nat} {v:Value} {r:Option (List Value×zx)} (hc:chk.contains k=false) (hl:l=o::rest) (hg:o.guard=none) (hm:∀ v,vG o rest T v=T1 v)
  (hs:wS P fx call T o S=some (v,S)) (hK:wC P fx chk [] call ops (k+1) [] rest (T1 v) S=r):wC P fx chk [] call ops k [] l T S=r:=by
 subst hl
 simp only [wC,kQ,List.isEmpty_nil,if_true,Region.wanted,hg,if_true,hs,hm,hc,Bool.not_false,Bool.true_or]
 exact hK
theorem Vo {l rest:List Oper} {o:Oper} {T:List Value} {T1:Value→List Value} {S:zx} {k:Nat} {v:Value} {r:Option (List Value×zx)} (hc:chk.contains k=true) (hl:l=o::rest) (hg:o.guard=none) (hm:∀ v,vG o rest T v=T1 v)
  (hs:wS P fx call T o S=some (v,S)) (hK:wC P fx chk [] call ops (k+1) [] rest (T1 v) S=r):wC P fx chk [] call ops k [] l T S=okK v r ():=by
 show _=okC v r
 subst hl
 simp only [wC,kQ,List.isEmpty_nil,if_true,Region.wanted,hg,if_true,hs,hm,hc,Bool.not_true,Bool.false_or]
 rw [← hK]
 rfl
theorem ae1 {l rest:List Oper} {o:Oper} {T:List Value} {T1:Value→List Value} {S:zx} {j k:Nat} {b:Bool} {g:Value} {s:M Value} {K:Value→zx→Option (List Value×zx)} (hc:chk.contains k=false) (hl:l=o::rest) (hg:o.guard=some (j,b)) (hm:∀ v,vG o rest T v=T1 v)
  (hy:ynd ops T j=vb g) (hs:wS P fx call T o S=s S) (hK:∀ v S1,wC P fx chk [] call ops (k+1) [] rest (T1 v) S1=K v S1):wC P fx chk [] call ops k [] l T S=gdK g b s S K ():=by
 show _=gd g b s S K
 subst hl
 simp only [wC,kQ,List.isEmpty_nil,if_true,Region.wanted,hg,hy,hs,hm,hK,gd,hc,Bool.not_false,Bool.true_or,if_true]
 rfl
theorem aep {l rest:List Oper} {o:Oper} {T:List Value} {T1:Value→List Value} {S:zx} {k:Nat} {s:Option (Value×zx)} {K:Value→zx→Option (List Value×zx)} (hc:chk.contains k=false) {x:Nat×Nat} {nl:List (Nat×Nat)} {hist:List (Value×zx)} {pe:Value} (hpe:kD T o=pe) (hl:l=o::rest) (hg:o.guard=none) (hm:∀ v,vG o rest T v=T1 v)
  (hs:wS P fx call T o S=s) (hK:∀ v S1,wC P fx chk (x::nl) call ops (k+1) (hist++[(pe,S)]) rest (T1 v) S1=K v S1):wC P fx chk (x::nl) call ops k hist l T S=zU s K ():=by
 show _=andThen s K
 subst hl hs
 simp only [wC,kQ,List.isEmpty_cons,Bool.false_eq_true,if_false,hpe,Region.wanted,hg,if_true,hm,hK,hc,Bool.not_false,Bool.true_or]
 rfl
theorem acv {l rest:List Oper} {o:Oper} {T:List Value} {T1:Value→List Value} {S:zx} {k:Nat} {s:Option (Value×zx)} {K:Value→zx→Option (List Value×zx)} (hc:chk.contains k=true) {x:Nat×Nat} {nl:List (Nat×Nat)} {hist:List (Value×zx)} {pe:Value} (hpe:kD T o=pe) (hl:l=o::rest) (hg:o.guard=none) (hm:∀ v,vG o rest T v=T1 v)
  (hs:wS P fx call T o S=s) (hK:∀ v S1,wC P fx chk (x::nl) call ops (k+1) (hist++[(pe,S)]) rest (T1 v) S1=K v S1):wC P fx chk (x::nl) call ops k hist l T S=zU s (fun v S1=>okK v (K v S1) ()) ():=by
 show _=andThen s (fun v S1=>okC v (K v S1))
 subst hl hs
 simp only [wC,kQ,List.isEmpty_cons,Bool.false_eq_true,if_false,hpe,Region.wanted,hg,if_true,hm,hK,hc,Bool.not_true,Bool.false_or]
 rfl
theorem abk {l rest:List Oper} {o:Oper} {T:List Value} {T1:Value→List Value} {S:zx} {k:Nat} {v:Value} {r:Option (List Value×zx)} (hc:chk.contains k=false) {x:Nat×Nat} {nl:List (Nat×Nat)} {hist:List (Value×zx)} {pe:Value} (hpe:kD T o=pe) (hl:l=o::rest) (hg:o.guard=none) (hm:∀ v,vG o rest T v=T1 v)
  (hs:wS P fx call T o S=some (v,S)) (hK:wC P fx chk (x::nl) call ops (k+1) (hist++[(pe,S)]) rest (T1 v) S=r):wC P fx chk (x::nl) call ops k hist l T S=r:=by
 subst hl
 simp only [wC,kQ,List.isEmpty_cons,Bool.false_eq_true,if_false,hpe,Region.wanted,hg,if_true,hs,hm,hc,Bool.not_false,Bool.true_or]
 exact hK
theorem Vh {l rest:List Oper} {o:Oper} {T:List Value} {T1:Value→List Value} {S:zx} {k:Nat} {v:Value} {r:Option (List Value×zx)} (hc:chk.contains k=true) {x:Nat×Nat} {nl:List (Nat×Nat)} {hist:List (Value×zx)} {pe:Value} (hpe:kD T o=pe) (hl:l=o::rest) (hg:o.guard=none) (hm:∀ v,vG o rest T v=T1 v)
  (hs:wS P fx call T o S=some (v,S)) (hK:wC P fx chk (x::nl) call ops (k+1) (hist++[(pe,S)]) rest (T1 v) S=r):wC P fx chk (x::nl) call ops k hist l T S=okK v r ():=by
 show _=okC v r
 subst hl
 simp only [wC,kQ,List.isEmpty_cons,Bool.false_eq_true,if_false,hpe,Region.wanted,hg,if_true,hs,hm,hc,Bool.not_true,Bool.false_or]
 rw [← hK]
 rfl
theorem aeu {l rest:List Oper} {o:Oper} {T:List Value} {T1:Value→List Value} {S:zx} {j k:Nat} {b:Bool} {g:Value} {s:M Value} {K:Value→zx→Option (List Value×zx)} (hc:chk.contains k=false) {x:Nat×Nat} {nl:List (Nat×Nat)} {hist:List (Value×zx)} {pe:Value} (hpe:kD T o=pe) (hl:l=o::rest) (hg:o.guard=some (j,b)) (hm:∀ v,vG o rest T v=T1 v)
  (hy:ynd ops T j=vb g) (hs:wS P fx call T o S=s S) (hK:∀ v S1,wC P fx chk (x::nl) call ops (k+1) (hist++[(pe,S)]) rest (T1 v) S1=K v S1):wC P fx chk (x::nl) call ops k hist l T S=gdK g b s S K ():=by
 show _=gd g b s S K
 subst hl
 simp only [wC,kQ,List.isEmpty_cons,Bool.false_eq_true,if_false,hpe,Region.wanted,hg,hy,hs,hm,hK,gd,hc,Bool.not_false,Bool.true_or,if_true]
 rfl
theorem adk {l rest:List Oper} {o:Oper} {T:List Value} {T1:Value→List Value} {S:zx} {j k:Nat} {b:Bool} {g:Value} {s:M Value} {K:Value→zx→Option (List Value×zx)} (hc:chk.contains k=true) {x:Nat×Nat} {nl:List (Nat×Nat)} {hist:List (Value×zx)} {pe:Value} (hpe:kD T o=pe) (hl:l=o::rest) (hg:o.guard=some (j,b)) (hm:∀ v,vG o rest T v=T1 v)
  (hy:ynd ops T j=vb g) (hs:wS P fx call T o S=s S) (hK:∀ v S1,wC P fx chk (x::nl) call ops (k+1) (hist++[(pe,S)]) rest (T1 v) S1=K v S1):wC P fx chk (x::nl) call ops k hist l T S=abR g b s S K ():=by
 show _=gdC g b s S K
 subst hl
 simp only [wC,kQ,List.isEmpty_cons,Bool.false_eq_true,if_false,hpe,Region.wanted,hg,hy,hs,hm,hK,gdC,hc,Bool.not_true,Bool.false_or]
 rfl
def ckK (c:Bool) (r:Option R) (p:Jj r):Option R:=if c then r else none
@[simp] theorem V5 (r:Option R) (p:Jj r):ckK true r p=r:=Eq.trans rfl rfl
noncomputable def agt (P:Program) (O:Ora) (hp:Bool) (v:Value) (x y:Code) (T:List Value) (S:zx):St:=aeC v (zI P O hp x T S) (zI P O hp y T S)
@[simp] theorem Qq (x y:Code) (T:List Value) (S:zx):agt P O hp (.bool true) x y T S=zI P O hp x T S:=Eq.trans rfl rfl
@[simp] theorem Yt (x y:Code) (T:List Value) (S:zx):agt P O hp (.bool false) x y T S=zI P O hp y T S:=Eq.trans rfl rfl
@[simp] theorem Ye (T:List Value) (H:zx):zI P O hp .skip T H=some (.normal,T,H):=Eq.trans rfl rfl
@[simp] theorem Qh (T:List Value) (H:zx):zI P O hp .ret T H=some (.ret,T,H):=Eq.trans rfl rfl
@[simp] theorem Yq (i:Nat) (T:List Value) (H:zx):zI P O hp (.exit i) T H=some (.exit i,T,H):=Eq.trans rfl rfl
@[simp] theorem JH (i:Nat) (ops:Array Oper) (T:List Value) (H:zx):zI P O false (.region i ops false) T H=J4 (jF P ⟨false,false,false⟩ (jm P O) ops ops.toList T H):=Eq.trans rfl rfl
@[simp] theorem Ja (i:Nat) (ops:Array Oper) (T:List Value) (H:zx):zI P O true (.region i ops false) T H=J4 (jF P ⟨true,false,false⟩ (qQ O.hp true (jm P O)) ops ops.toList T H):=Eq.trans rfl rfl
theorem yO {i:Nat} {ops:Array Oper} (hd:qO P ops=true) (hf:fixed P ops=nm) (hc:checked P ops=chk) {nl:List (Nat×Nat)} (hn:again P ops=nl) (T:List Value) (H:zx):zI P O false (.region i ops true) T H=J4 (wC P ⟨false,!chk.isEmpty,nm⟩ chk nl (jm P O) ops 0 [] ops.toList T H):=by
 subst hf hc hn
 simp only [zI,hd,if_true,qQ]
 rfl
theorem KI {i:Nat} {ops:Array Oper} (hd:qO P ops=true) (hf:fixed P ops=nm) (hc:checked P ops=chk) {nl:List (Nat×Nat)} (hn:again P ops=nl) (T:List Value) (H:zx):zI P O true (.region i ops true) T H=J4 (wC P ⟨true,!chk.isEmpty,nm⟩ chk nl (qQ O.hp true (jm P O)) ops 0 [] ops.toList T H):=by
 subst hf hc hn
 simp only [zI,hd,if_true]
 rfl
@[simp] theorem Ql (x y:Code) (T:List Value) (H:zx):zI P O hp (.seq x y) T H=ae4 (zI P O hp x T H) (zI P O hp y):=Eq.trans rfl rfl
@[simp] theorem Ws (i:Nat) (c:Code) (T:List Value) (H:zx):zI P O hp (.block i c) T H=Jr i (zI P O hp c T H):=Eq.trans rfl rfl
@[simp] theorem WX (c:Code) (T:List Value) (H:zx):zI P O hp (.loop c) T H=yQ (zI P O hp c) T H:=Eq.trans rfl rfl
@[simp] theorem W9 (t:Tmp) (x y:Code) (T:List Value) (H:zx):zI P O hp (.cond (.tmp t) x y) T H=agt P O hp (T.getD t zh) x y T H:=by
 simp only [zI,qP,if_true,jA]
 rfl
@[simp] theorem YL:dem zh=zh:=ZE
@[simp] theorem ab4 (k:IntKind) (n:Int):dem (.int k n)=.int k n:=Eq.trans rfl rfl
@[simp] theorem aav (b:Bool):dem (.bool b)=.bool b:=Eq.trans rfl rfl
@[simp] theorem Y6 (s:ByteArray):dem (.string s)=.string s:=Eq.trans rfl rfl
@[simp] theorem acg:dem (.slice none 0 0)=.slice none 0 0:=Eq.trans rfl rfl
@[simp] theorem ac1 (x:Array Value):dem (.agg x)=.agg x:=Eq.trans rfl rfl
@[simp] theorem V9 (f:Fn) (x c:Array Value):dem (.func f x c)=.func f x c:=Eq.trans rfl rfl
@[simp] theorem Yi (a:Option Addr):dem (.pointer a)=.pointer a:=Eq.trans rfl rfl
@[simp] theorem ahV (e n:Nat) (cs:List Value):dem (SL 1 e n cs)=SL 1 e n cs:=Eq.trans rfl rfl
@[simp] theorem ahX (e n:Nat) (cs:List Value):dem (SL 2 e n cs)=SL 1 e n cs:=Eq.trans rfl rfl
@[simp] theorem afE (k e n:Nat) (cs:List Value) (r:Option R) (p:Jj r):okK (SL k e n cs) r p=r:=Eq.trans rfl rfl
@[simp] theorem afi (cs:List Value) (r:Option R) (p:Jj r):okK (EP cs) r p=r:=Eq.trans rfl rfl
@[simp] theorem ah7 (k e n:Nat) (cs:List Value) (r:Option R):okC (SL k e n cs) r=r:=Eq.trans rfl rfl
@[simp] theorem afJ (cs:List Value) (r:Option R):okC (EP cs) r=r:=Eq.trans rfl rfl
def sv (k e n:Nat) (cs:List Value):Value:=if k=0 then .slice none 0 0 else SL k e n cs
structure Okv (k n:Nat) (cs:List Value):Prop where
 le:k≤2
 nil:k=0→n=0∧cs=[]
theorem sv0 {e n:Nat} {cs:List Value}:sv 0 e n cs=.slice none 0 0:=rfl
theorem sv1 {e n:Nat} {cs:List Value}:sv 1 e n cs=SL 1 e n cs:=rfl
theorem sv2 {e n:Nat} {cs:List Value}:sv 2 e n cs=SL 2 e n cs:=rfl
@[simp] theorem aax (k e n:Nat) (cs:List Value):dem (sv k e n cs)=sv (if k=2 then 1 else k) e n cs:=by
 unfold sv
 by_cases h0:k=0
 ·
  subst h0;rfl
 ·
  by_cases h2:k=2
  ·
   subst h2;rfl
  ·
   rw [if_neg h0,if_neg h2,if_neg h0]
   simp only [SL,dem,xB,if_neg h2]
@[simp] theorem XL (k e n:Nat) (cs:List Value) (r:Option R):okC (sv k e n cs) r=r:=by
 unfold sv;split <;> rfl
@[simp] theorem afO (k e n:Nat) (cs:List Value) (r:Option R) (p:Jj r):okK (sv k e n cs) r p=r:=XL k e n cs r
theorem aal {k e n:Nat} {cs:List Value} (h:Okv k n cs):∃ e',vSl (sv k e n cs)=some (e',n,cs)∧(e'=e∨n=0∧cs=[]):=by
 unfold sv
 by_cases h0:k=0
 ·
  obtain ⟨rfl,rfl⟩:=h.nil h0
  rw [if_pos h0]
  exact ⟨0,rfl,.inr ⟨rfl,rfl⟩⟩
 ·
  rw [if_neg h0]
  have:k=1∨k=2:=by have:=h.le;omega
  exact ⟨e,by simp [SL,vSl,this],.inl rfl⟩
theorem agl {t te:TypeId} {k e n:Nat} {cs:List Value} {S:zx} (ht:P.underlying t=some (.slice te)) (h:Okv k n cs):ku P t (sv k e n cs) S=some (goInt n,S):=by
 by_cases h0:k=0
 ·
  obtain ⟨rfl,rfl⟩:=h.nil h0
  subst h0
  simp only [sv0,ku,Xy,ht]
 ·
  obtain ⟨e',h1,_⟩:=aal (e:=e) h
  simp only [sv,if_neg h0] at h1 ⊢
  simp only [SL] at h1 ⊢
  simp only [ku,ht,h1]
theorem Ku {t te:TypeId} {k e n:Nat} {cs:List Value} {S:zx} {ki:IntKind} {i:Int} (ht:P.underlying t=some (.slice te)) (he:xA P te=some e) (h:Okv k n cs) (h0:0≤i) (hi:i < n) :
  jI P t (sv k e n cs) (.int ki i) S=some (EP ((cs.drop (i.toNat * e)).take e),S):=by
 have hk:k≠0:=fun e=>by have:=(h.nil e).1;omega
 have hk2:k=1∨k=2:=by have:=h.le;omega
 have h1:vSl (SL k e n cs)=some (e,n,cs):=by simp [SL,vSl,hk2]
 simp only [sv,if_neg hk]
 simp only [SL] at h1 ⊢
 simp only [jI,ht,h1,he,if_true]
 rw [if_pos ⟨h0,hi⟩]
@[simp] theorem XG {t:TypeId} {v:Value} {S:zx} (ht:qZ P t=some false):jE P nm t (EP [v]) S=some (v,S):=by
 simp [EP,jE,ht]
theorem XC {t:TypeId} {n:Nat} {cs:List Value} {S:zx} (ht:qZ P t=some true) (hn:xA P t=some n) (hc:cs.length=n):jE P nm t (EP cs) S=some (.agg cs.toArray,S):=by
 simp only [EP,jE,ht,hn,if_true,List.toList_toArray]
 rw [if_pos (by omega),← hc,List.take_length]
theorem acV {t te:TypeId} {k e n:Nat} {cs:List Value} {S:zx} {lo hi:Option Value} {i j:Int} (ht:P.underlying t=some (.slice te)) (he:xA P te=some e) (h:Okv k n cs) (hlo:kM 0 lo=some i) (hhi:kM n hi=some j)
  (h0:0≤i) (hij:i≤j) (hj:j≤n):qY P t (sv k e n cs) lo hi S=some (sv (if k=2 then 1 else k) e (j.toNat - i.toNat) ((cs.drop (i.toNat * e)).take ((j.toNat - i.toNat) * e)),S):=by
 by_cases hk:k=0
 ·
  obtain ⟨rfl,rfl⟩:=h.nil hk
  subst hk
  simp only [sv0,qY,ht,vSl,he,hlo,hhi,if_pos h0,if_pos hij,if_pos hj]
  rfl
 ·
  have hk2:k=1∨k=2:=by have:=h.le;omega
  have h1:vSl (SL k e n cs)=some (e,n,cs):=by simp [SL,vSl,hk2]
  have h3:(if k=2 then 1 else k)=1:=by rcases hk2 with rfl | rfl <;> rfl
  rw [h3]
  simp only [sv,if_neg hk]
  simp only [SL] at h1 ⊢
  simp only [qY,ht,h1,he,hlo,hhi,if_pos h0,if_pos hij,if_pos hj,if_true]
  rfl
theorem ad7 {t te:TypeId} {k e n:Nat} {cs:List Value} {S:zx} (ht:P.underlying t=some (.slice te)) (h:Okv k n cs):wu P .eql t (sv k e n cs) (.slice none 0 0) S=some (.bool (decide (k=0)),S):=by
 by_cases hk:k=0
 ·
  subst hk
  simp only [sv0,wu,Zj,kE,ht,Zm]
  rfl
 ·
  have hk2:k=1∨k=2:=by have:=h.le;omega
  have h1:vSl (SL k e n cs)=some (e,n,cs):=by simp [SL,vSl,hk2]
  simp only [sv,if_neg hk]
  simp only [SL] at h1 ⊢
  simp only [wu,ht,h1]
  simp [hk]
@[simp] theorem YF (k e n:Nat) (cs:List Value):QA (sv k e n cs)=false:=by unfold sv;split <;> rfl
@[simp] theorem Wi (dr:Bool) (t:TypeId) (k e n:Nat) (cs:List Value) (lo hi:Option Value) (S:zx):yc P dr t (sv k e n cs) lo hi S=qY P t (sv k e n cs) lo hi S:=by
 unfold yc;rw [YF];rfl
@[simp] theorem Je (dr:Bool) (t:TypeId) (s:ByteArray) (lo hi:Option Value) (S:zx):yc P dr t (.string s) lo hi S=qY P t (.string s) lo hi S:=Eq.trans rfl rfl
@[simp] theorem WY (hp dr:Bool) (src dst:TypeId) (k e n:Nat) (cs:List Value) (S:zx):wP P hp dr src dst (sv k e n cs) S=vW P src dst (sv k e n cs) S:=by
 unfold wP
 rw [YF]
 have:∀ s,sv k e n cs≠.string s:=by intro s;unfold sv;split <;> (intro h;cases h)
 cases hp <;> simp only [Bool.false_eq_true,if_false] <;> (split <;> first | rfl | (rename_i h;exact absurd h (this _)) | skip)
@[simp] theorem Qi (hp dr:Bool) (src dst:TypeId) (k:IntKind) (n:Int) (S:zx):wP P hp dr src dst (.int k n) S=vW P src dst (.int k n) S:=by cases hp <;> rfl
@[simp] theorem JB (dr:Bool) (src dst:TypeId) (s:ByteArray) (S:zx):wP P false dr src dst (.string s) S=vW P src dst (.string s) S:=Eq.trans rfl rfl
@[simp] theorem Z8 (dr:Bool) (src dst:TypeId) (s:ByteArray) (S:zx):wP P true dr src dst (.string s) S=yE P src dst (.string s) S:=Eq.trans rfl rfl
theorem aa8 {t te tx tex:TypeId} {k e n j m bytes:Nat} {cs ds:List Value} {z:Value} {S:zx} (ht:P.underlying t=some (.slice te)) (he:xA P te=some e) (hz:zeroOf P te=some z) (hzs:z.cells.size=e) (hb:bytesOf P te=some bytes) (hp:0 < e)
  (htx:P.underlying tx=some (.slice tex)) (h:Okv k n cs) (hk:k≠1) (hx:Okv j m ds) (hn:cs.length=n * e) (hm:ds.length=m * e) (h1:cs.all (·.oneCell')=true) (h2:ds.all (·.oneCell')=true) (hl:(n+m) * bytes≤140737488355328) (hmax:n+m≤4611686018427387903) :
  jV P t tx (sv k e n cs) (sv j e m ds) S=some (sv (if k=0∧m=0 then 0 else 2) e (n+m) (cs++ds),S):=by
 have hel:yF P t=some te:=by simp only [yF,ht]
 have hsrc:agu P tx e (sv j e m ds)=some (m,ds):=by
  obtain ⟨e',q1,q2⟩:=aal (e:=e) hx
  have hns:∀ s,sv j e m ds≠.string s:=by intro s;unfold sv;split <;> (intro h;cases h)
  have hcond:m=0∨e'=e:=q2.elim .inr fun h=>.inl h.1
  unfold agu
  split
  ·
   rename_i s hs;exact absurd hs (hns s)
  ·
   simp only [htx,q1,if_pos hcond,if_pos hm,h2,if_true]
 have hsrc:YU P tx e (sv j e m ds) S=some (m,ds):=by
  unfold YU
  rw [YF]
  exact hsrc
 by_cases hk0:k=0
 ·
  obtain ⟨rfl,rfl⟩:=h.nil hk0
  subst hk0
  simp only [sv0,jV,qF,hel,he,hz,hb,if_pos hp,if_pos hzs,hsrc]
  by_cases hm0:m=0
  ·
   subst hm0
   simp [sv0]
  ·
   rw [Nat.zero_add] at hl hmax
   rw [if_neg hm0,if_pos hl,if_pos hmax,if_neg Bool.false_ne_true,if_neg (fun h=>hm0 h.2),sv2,Nat.zero_add,List.nil_append]
 ·
  have hk2:k=2:=by have:=h.le;omega
  subst hk2
  rw [if_neg (fun h=>hk0 h.1)]
  have h1':cs.toArray.toList.all (·.oneCell')=true:=by simpa using h1
  simp only [sv2,SL,jV,qF,hel,he,hz,hb,if_pos hp,if_pos hzs,hsrc,if_true,if_pos hl,if_pos hmax,h1']
@[simp] theorem aaf (op:BinOp) (t:TypeId) (k k':IntKind) (a b:Int) (S:zx):wu P op t (.int k a) (.int k' b) S=Zj P op t (.int k a) (.int k' b) S:=Eq.trans rfl rfl
@[simp] theorem Yo (op:BinOp) (t:TypeId) (a b:ByteArray) (S:zx):wu P op t (.string a) (.string b) S=Zj P op t (.string a) (.string b) S:=Eq.trans rfl rfl
@[simp] theorem XF (op:BinOp) (t:TypeId) (a b:Bool) (S:zx):wu P op t (.bool a) (.bool b) S=Zj P op t (.bool a) (.bool b) S:=Eq.trans rfl rfl
@[simp] theorem ahH (op:BinOp) (t:TypeId) (a b:Array Value) (S:zx):wu P op t (.agg a) (.agg b) S=Zj P op t (.agg a) (.agg b) S:=Eq.trans rfl rfl
@[simp] theorem Qy (b:Bool) (x y:Value) (S:zx):ql (.bool b) x y S=some (if b then dem x else dem y,S):=Eq.trans rfl rfl
@[simp] theorem Xl {src dst:TypeId} (k:IntKind) (n:Int) (S:zx):vW P src dst (.int k n) S=yE P src dst (.int k n) S:=Eq.trans rfl rfl
@[simp] theorem Z9 (vs:List Value) (i:Nat) (S:zx):zW (.tuple vs.toArray) i S=(vs[i]?).map (·,S):=by
 simp only [zW,List.getElem?_toArray]
 cases vs[i]? <;> rfl
end
end Go.Abs
namespace Go.Abs
theorem wR {P:Program} {fn:Func} {a b:Value} {r:List Value} {T:List Value} {S:zx} (h:zX P T S fn.results.toList=some (a::b::r)) (hn:agn fn.results.toList=true) (hall:(a::b::r).all jK=true) :
  abJ P fn T S=some (.tuple (a::b::r).toArray,S):=by
 unfold abJ
 rw [h]
 dsimp only
 rw [if_pos hn,if_pos hall]
theorem yD {P:Program} {fn:Func} {a:Value} {T:List Value} {S:zx} (h:zX P T S fn.results.toList=some [a]) (hn:agn fn.results.toList=true):abJ P fn T S=some (a,S):=by
 unfold abJ
 rw [h]
 dsimp only
 rw [if_pos hn]
@[simp] theorem zZ (k:IntKind) (n:Int):jK (.int k n)=true:=rfl
@[simp] theorem zT (b:Bool):jK (.bool b)=true:=rfl
@[simp] theorem VB (k e n:Nat) (cs:List Value):jK (sv k e n cs)=true:=by unfold sv;split <;> rfl
@[simp] theorem zY (x:Array Value):jK (.agg x)=true:=rfl
@[simp] theorem zM (a:Option Addr) (n c:Nat):jK (.slice a n c)=true:=rfl
end Go.Abs
namespace Go.Abs
open Go.RowKit
def vs {α:Type} (f:α→List Value) (e k:Nat) (l:List α):Value:=sv k e l.length (l.flatMap f)
structure Okl {α:Type} (k:Nat) (l:List α):Prop where
 le:k≤2
 nil:k=0→l=[]
theorem Okl.own {α:Type} {l:List α}:Okl 2 l:=⟨Nat.le_refl 2,(fun h=>by cases h)⟩
theorem Okl.read {α:Type} {l:List α}:Okl 1 l:=⟨by omega,(fun h=>by cases h)⟩
theorem Okl.none {α:Type}:Okl 0 ([]:List α):=⟨by omega,fun _=>rfl⟩
theorem Okl.dem {α:Type} {k:Nat} {l:List α} (h:Okl k l):Okl (if k=2 then 1 else k) l:=⟨by have:=h.le;split <;> omega,fun hk=>h.nil (by split at hk <;> omega)⟩
def cb (b:UInt8):List Value:=[.int .u8 b.toNat]
def ci (n:Int):List Value:=[.int .i64 n]
section
variable {R α:Type} {P:Program} {f:α→List Value} {e k j:Nat} {l m:List α} {t te tx tex:TypeId} {S:zx}
theorem Okl.okv (h:Okl k l):Okv k l.length (l.flatMap f):=⟨h.le,fun h0=>by rw [h.nil h0];exact ⟨rfl,rfl⟩⟩
theorem Ze (hf:∀ x,(f x).length=e) (l:List α):(l.flatMap f).length=l.length * e:=by
 induction l with
 | nil=>simp
 | cons x l ih=>simp only [List.flatMap_cons,List.length_append,hf,ih,List.length_cons,Nat.add_mul];omega
theorem WG (hf:∀ x,(f x).length=e) (l:List α):∀ (i:Nat),(l.flatMap f).drop (i * e)=(l.drop i).flatMap f:=by
 induction l with
 | nil=>intro i;simp
 | cons x l ih =>
  intro i
  cases i with
  | zero=>simp
  | succ i =>
   rw [List.flatMap_cons,List.drop_succ_cons,← ih i,List.drop_append,List.drop_eq_nil_of_le (by rw [hf,Nat.add_mul];omega),List.nil_append,hf]
   congr 1
   rw [Nat.add_mul];omega
theorem WH (hf:∀ x,(f x).length=e) (l:List α):∀ (i:Nat),(l.flatMap f).take (i * e)=(l.take i).flatMap f:=by
 induction l with
 | nil=>intro i;simp
 | cons x l ih =>
  intro i
  cases i with
  | zero=>simp
  | succ i =>
   rw [List.flatMap_cons,List.take_succ_cons,List.flatMap_cons,← ih i,List.take_append,List.take_of_length_le (by rw [hf,Nat.add_mul];omega),hf]
   congr 2
   rw [Nat.add_mul];omega
@[simp] theorem Qm:dem (vs f e k l)=vs f e (if k=2 then 1 else k) l:=aax _ _ _ _
@[simp] theorem aft (r:Option R):okC (vs f e k l) r=r:=XL _ _ _ _ _
@[simp] theorem afL (r:Option R) (p:Jj r):okK (vs f e k l) r p=r:=XL _ _ _ _ _
@[simp] theorem ahP:QA (vs f e k l)=false:=YF _ _ _ _
@[simp] theorem JZ (dr:Bool) (lo hi:Option Value):yc P dr t (vs f e k l) lo hi S=qY P t (vs f e k l) lo hi S:=Wi _ _ _ _ _ _ _ _ _
@[simp] theorem vY (hp dr:Bool) (src dst:TypeId):wP P hp dr src dst (vs f e k l) S=vW P src dst (vs f e k l) S:=WY _ _ _ _ _ _ _ _ _
@[simp] theorem je:jK (vs f e k l)=true:=VB _ _ _ _
theorem aaq (ht:P.underlying t=some (.slice te)) (h:Okl k l):ku P t (vs f e k l) S=some (goInt l.length,S):=agl ht h.okv
theorem aeS (ht:P.underlying t=some (.slice te)) (h:Okl k l):wu P .eql t (vs f e k l) (.slice none 0 0) S=some (.bool (decide (k=0)),S):=ad7 ht h.okv
theorem ae0 {ki:IntKind} {i:Int} (ht:P.underlying t=some (.slice te)) (he:xA P te=some e) (hf:∀ x,(f x).length=e) (h:Okl k l) (h0:0≤i) (hi:i < l.length) :
  jI P t (vs f e k l) (.int ki i) S=some (EP (f (l[i.toNat]'(by omega))),S):=by
 unfold vs
 rw [Ku ht he h.okv h0 hi,WG hf]
 have hlt:i.toNat < l.length:=by omega
 have:=WH hf (l.drop i.toNat) 1
 rw [Nat.one_mul] at this
 rw [this,List.drop_eq_getElem_cons hlt,List.take_succ_cons,List.take_zero,List.flatMap_cons,List.flatMap_nil,List.append_nil]
theorem ae6 {lo hi:Option Value} {i j:Int} (ht:P.underlying t=some (.slice te)) (he:xA P te=some e) (hf:∀ x,(f x).length=e) (h:Okl k l) (hlo:kM 0 lo=some i) (hhi:kM l.length hi=some j) (h0:0≤i) (hij:i≤j) (hj:j≤l.length) :
  qY P t (vs f e k l) lo hi S=some (vs f e (if k=2 then 1 else k) ((l.drop i.toNat).take (j.toNat - i.toNat)),S):=by
 unfold vs
 rw [acV ht he h.okv hlo hhi h0 hij hj,WG hf,WH hf]
 congr 3
 simp;omega
theorem YD {bytes:Nat} {z:Value} (ht:P.underlying t=some (.slice te)) (he:xA P te=some e) (hz:zeroOf P te=some z) (hzs:z.cells.size=e) (hb:bytesOf P te=some bytes) (hp:0 < e) (htx:P.underlying tx=some (.slice tex))
  (hf:∀ x,(f x).length=e) (h1:∀ x,(f x).all (·.oneCell')=true) (h:Okl k l) (hk:k≠1) (hm:Okl j m) (hl:(l.length+m.length) * bytes≤140737488355328) (hmax:l.length+m.length≤4611686018427387903) :
  jV P t tx (vs f e k l) (vs f e j m) S=some (vs f e (if k=0∧m.length=0 then 0 else 2) (l++m),S):=by
 have hone:∀ l:List α,(l.flatMap f).all (·.oneCell')=true:=by
  intro l
  rw [List.all_flatMap,List.all_eq_true]
  exact fun x _=>h1 x
 unfold vs
 rw [aa8 ht he hz hzs hb hp htx h.okv hk hm.okv (Ze hf l) (Ze hf m) (hone l) (hone m) hl hmax,List.flatMap_append,List.length_append]
theorem XM (x:UInt8):(cb x).length=1:=rfl
theorem ahj (x:UInt8):(cb x).all (·.oneCell')=true:=rfl
theorem afQ (x:Int):(ci x).length=1:=rfl
theorem ahE (x:Int):(ci x).all (·.oneCell')=true:=rfl
theorem aeX (l:List UInt8):yK (l.flatMap cb)=some l:=by
 induction l with
 | nil=>rfl
 | cons b l ih =>
  have:(b::l).flatMap cb=.int .u8 b.toNat::l.flatMap cb:=rfl
  rw [this]
  simp only [yK,YW,ih]
  simp
theorem jU {v:Value} {i j:Nat} {S:zx} (h:j≠i):zW (jd j v) i S=zW v i S:=by
 cases v with
 | tuple vs=>simp only [jd,zW,Array.getElem?_modify,if_neg h]
 | _=>rfl
theorem ab3 {v:Value} {S:zx}:zW (jd 0 v) 1 S=zW v 1 S:=jU (by decide)
theorem adT {v:Value} {S:zx}:zW (jd 0 v) 2 S=zW v 2 S:=jU (by decide)
theorem acS {v:Value} {S:zx}:zW (jd 1 v) 2 S=zW v 2 S:=jU (by decide)
theorem abL {v:Value} {S:zx}:zW (jd 0 v) 3 S=zW v 3 S:=jU (by decide)
theorem adV {v:Value} {S:zx}:zW (jd 1 v) 3 S=zW v 3 S:=jU (by decide)
theorem adq {v:Value} {S:zx}:zW (jd 2 v) 3 S=zW v 3 S:=jU (by decide)
theorem ace {v:Value} {S:zx}:zW (jd 0 v) 4 S=zW v 4 S:=jU (by decide)
theorem ac6 {v:Value} {S:zx}:zW (jd 1 v) 4 S=zW v 4 S:=jU (by decide)
theorem adY {v:Value} {S:zx}:zW (jd 2 v) 4 S=zW v 4 S:=jU (by decide)
theorem acP {v:Value} {S:zx}:zW (jd 3 v) 4 S=zW v 4 S:=jU (by decide)
theorem abO {v:Value} {S:zx}:zW (jd 0 v) 5 S=zW v 5 S:=jU (by decide)
theorem abS {v:Value} {S:zx}:zW (jd 1 v) 5 S=zW v 5 S:=jU (by decide)
theorem adv {v:Value} {S:zx}:zW (jd 2 v) 5 S=zW v 5 S:=jU (by decide)
theorem ac7 {v:Value} {S:zx}:zW (jd 3 v) 5 S=zW v 5 S:=jU (by decide)
theorem adH {v:Value} {S:zx}:zW (jd 4 v) 5 S=zW v 5 S:=jU (by decide)
abbrev by_ (k:Nat) (l:List UInt8):Value:=vs cb 1 k l
abbrev iz (k:Nat) (l:List Int):Value:=vs ci 1 k l
theorem acI {src dst:TypeId} {k:Nat} {l:List UInt8} (hs:P.underlying src=some (.slice te)) (he:P.underlying te=some (.int .u8)) (hd:P.underlying dst=some .string) (h:Okl k l):vW P src dst (by_ k l) S=some (.string ⟨l.toArray⟩,S):=by
 obtain ⟨e',h1,_⟩:=aal (e:=1) (h.okv (f:=cb))
 have hlen:(l.flatMap cb).length=l.length:=by rw [Ze XM];omega
 have hns:∀ s,by_ k l≠.string s:=by intro s;unfold by_ vs sv;split <;> (intro h;cases h)
 unfold vW
 split
 ·
  rename_i s hs;exact absurd hs (hns s)
 ·
  unfold by_ vs
  rw [h1]
  simp only [hs,hd,he,if_pos hlen,aeX]
end
end Go.Abs
namespace Go.Abs
open Go.RowKit
def CLe (c d:FuncId→List Value→M Value):Prop:=∀ g a S r,c g a S=some r→d g a S=some r
section
variable {P:Program} {O:Ora} {c d:FuncId→List Value→M Value}
theorem Qo (h:CLe c d) {fx:Fx} {T:List Value} {o:Oper} {S:zx} {r:Value×zx} (hs:wS P fx c T o S=some r):wS P fx d T o S=some r:=by
 unfold wS at hs ⊢
 split at hs
 ·
  rename_i hok
  rw [if_pos hok]
  cases hop:o.op with
  | call q =>
   rw [hop] at hs
   dsimp only at hs ⊢
   cases hcal:q.callee with
   | value f =>
    rw [hcal] at hs
    dsimp only at hs ⊢
    split at hs
    ·
     rename_i g first captured hev
     exact h _ _ _ _ hs
    ·
     cases hs
   | builtin b=>rw [hcal] at hs;exact hs
   | invoke a b=>rw [hcal] at hs;cases hs
  | _=>rw [hop] at hs;exact hs
 ·
  cases hs
theorem ab5 (h:CLe c d) {fx:Fx} {ops:Array Oper}:∀ (l:List Oper) (T:List Value) (S:zx) (r:List Value×zx),jF P fx c ops l T S=some r→jF P fx d ops l T S=some r:=by
 intro l
 induction l with
 | nil=>intro T S r hs;exact hs
 | cons o l ih =>
  intro T S r hs
  simp only [jF] at hs ⊢
  split at hs
  ·
   rename_i hw
   rw [if_pos hw]
   split at hs
   ·
    rename_i v S' he
    rw [Qo h he]
    exact ih _ _ _ hs
   ·
    cases hs
  ·
   rename_i hw
   rw [if_neg hw]
   exact ih _ _ _ hs
theorem abG (h:CLe c d) {fx:Fx} {chk:List Nat} {nl:List (Nat×Nat)} {ops:Array Oper}:∀ (l:List Oper) (i:Nat) (hist:List (Value×zx)) (T:List Value) (S:zx) (r:List Value×zx),wC P fx chk nl c ops i hist l T S=some r→wC P fx chk nl d ops i hist l T S=some r:=by
 intro l
 induction l with
 | nil=>intro i hist T S r hs;exact hs
 | cons o l ih =>
  intro i hist T S r hs
  simp only [wC] at hs ⊢
  split at hs
  ·
   rename_i hw
   rw [if_pos hw]
   split at hs
   ·
    rename_i v S' he
    rw [Qo h he]
    dsimp only
    split at hs
    ·
     rename_i hq
     rw [if_pos hq]
     exact ih _ _ _ _ _ hs
    ·
     cases hs
   ·
    cases hs
  ·
   rename_i hw
   rw [if_neg hw]
   exact ih _ _ _ _ _ hs
theorem Y5 (h:CLe c d) {hp:Bool} {n m:Nat} (hn:n≤m):∀ (q:Code) (T:List Value) (S:zx) (r),yI P hp c n q T S=some r→yI P hp d m q T S=some r:=by
 intro q
 induction q with
 | skip=>intro T S r hs;exact hs
 | exit id=>intro T S r hs;exact hs
 | ret=>intro T S r hs;exact hs
 | region i ops dr =>
  intro T S r hs
  cases dr with
  | false =>
   simp only [yI] at hs ⊢
   split at hs
   ·
    rename_i T1 S1 ho
    rw [ab5 h _ _ _ _ ho];exact hs
   ·
    cases hs
  | true =>
   simp only [yI] at hs ⊢
   split at hs
   ·
    rename_i hd
    rw [if_pos hd]
    split at hs
    ·
     rename_i T1 S1 ho
     rw [abG h _ _ _ _ _ _ ho];exact hs
    ·
     cases hs
   ·
    cases hs
 | seq x y ihx ihy =>
  intro T S r hs
  simp only [yI] at hs ⊢
  split at hs
  ·
   rename_i T1 S1 hx
   rw [ihx _ _ _ hx]
   exact ihy _ _ _ hs
  ·
   rename_i hne
   rw [ihx _ _ _ hs]
   split
   ·
    rename_i T1 S1 he;exact absurd (hs.trans he) (hne T1 S1)
   ·
    rfl
 | cond x y z ihy ihz =>
  intro T S r hs
  simp only [yI] at hs ⊢
  split at hs
  ·
   rename_i hok
   rw [if_pos hok]
   split at hs
   ·
    rename_i hb;exact ihy _ _ _ hs
   ·
    rename_i hb;exact ihz _ _ _ hs
   ·
    cases hs
  ·
   cases hs
 | block id x ih =>
  intro T S r hs
  simp only [yI] at hs ⊢
  split at hs
  ·
   rename_i id' T1 S1 hx
   rw [ih _ _ _ hx];exact hs
  ·
   rename_i hne
   rw [ih _ _ _ hs]
   split
   ·
    rename_i id' T1 S1 he;exact absurd (hs.trans he) (hne id' T1 S1)
   ·
    rfl
 | loop x ih =>
  intro T S r hs
  simp only [yI] at hs ⊢
  have key:∀ (n:Nat) (T:List Value) (S:zx),∀ k,qA k (yI P hp c n x) T S=some r→(∀ T S r,yI P hp c n x T S=some r→yI P hp d m x T S=some r)→qA k (yI P hp d m x) T S=some r:=by
   intro n T S k hk hx
   induction k generalizing T S with
   | zero=>cases hk
   | succ k ihk =>
    simp only [qA] at hk ⊢
    split at hk
    ·
     rename_i T1 S1 h1
     rw [hx _ _ _ h1]
     exact ihk _ _ hk
    ·
     rename_i hne
     rw [hx _ _ _ hk]
     split
     ·
      rename_i T1 S1 he;exact absurd (hk.trans he) (hne T1 S1)
     ·
      rfl
  exact QF hn (key n T S n hs ih)
 | _=>intro T S r hs;simp only [yI] at hs;cases hs
theorem aa7 {hps:FuncId→Bool} {hp:Bool} (h:CLe c d):CLe (qQ hps hp c) (qQ hps hp d):=by
 cases hp with
 | false=>exact h
 | true =>
  intro g a S r hs
  unfold qQ at hs ⊢
  dsimp only at hs ⊢
  split at hs
  ·
   rename_i hg;rw [if_pos hg];exact h _ _ _ _ hs
  ·
   rename_i hg
   rw [if_neg hg]
   split at hs <;> first | (cases hs;done) | skip
   rename_i m S1 hf
   split at hs <;> first | (cases hs;done) | skip
   rename_i r0 hr0
   (try rw [hf])
   (try dsimp only)
   rw [h _ _ _ _ hr0]
   exact hs
theorem XT (h:CLe c d) {hp:Bool} {n m:Nat} (hn:n≤m) {fn:Func} {q:Code} {a:List Value} {S:zx} {r:Value×zx} (hs:ad3 P hp c n fn q a S=some r):ad3 P hp d m fn q a S=some r:=by
 unfold ad3 at hs ⊢
 split at hs
 ·
  rename_i T1 S1 hx
  rw [Y5 h hn _ _ _ _ hx];exact hs
 ·
  rename_i T1 S1 hx
  rw [Y5 h hn _ _ _ _ hx];exact hs
 ·
  cases hs
theorem aeo:∀ (n m:Nat),n≤m→CLe (xM P O n) (xM P O m):=by
 intro n
 induction n with
 | zero=>intro m _ g a S r h;cases h
 | succ n ih =>
  intro m hm g a S r h
  obtain ⟨m,rfl⟩:∃ k,m=k+1:=⟨m - 1,by omega⟩
  simp only [xM] at h ⊢
  cases ho:O.fn g with
  | some q=>rw [ho] at h;exact h
  | none =>
   rw [ho] at h
   dsimp only at h ⊢
   cases hf:P.funcs[g]? with
   | none=>rw [hf] at h;cases h
   | some fn =>
    rw [hf] at h
    dsimp only at h ⊢
    split at h
    ·
     cases h
    ·
     rename_i hn
     rw [if_neg hn]
     cases hb:fn.body with
     | none=>rw [hb] at h;cases h
     | some q =>
      rw [hb] at h
      dsimp only at h ⊢
      have hc:=aa7 (hps:=O.hp) (hp:=O.hp g) (ih m (by omega))
      split at h
      ·
       rename_i hpu
       rw [if_pos hpu]
       unfold ach at h ⊢
       split at h <;> first | (cases h;done) | skip
       rename_i hca
       rw [if_pos hca]
       split at h <;> first | (cases h;done) | skip
       rename_i v1 S1 hr
       rw [XT hc (by omega) hr]
       exact h
      ·
       rename_i hpu
       rw [if_neg hpu]
       exact XT hc (by omega) h
theorem aer {n:Nat} {g:FuncId} {args:List Value} {S:zx} {r:Value×zx} (h:xM P O n g args S=some r):jm P O g args S=some r :=
 KJ ⟨n,fun k hk=>aeo n k hk _ _ _ _ h⟩
end
end Go.Abs
namespace Go.Abs
open Go.RowKit
theorem aaE (x:(Ty.slc 1 (.int .u8)).Val) (hg:(Ty.slc 1 (.int .u8)).Good x):∃ k l,Okl k l∧k≠2∧(Ty.slc 1 (.int .u8)).J9 x=[by_ k l]∧l.length≤140737488351232:=by
 match x,hg with
 | none,_=>exact ⟨0,[],Okl.none,by decide,rfl,by simp⟩
 | some xs,hg =>
  obtain ⟨h1,h2,h3⟩:=hg
  have key:∀ xs:List Int,(∀ n ∈ xs,(Lit.int .u8 n).wf=true)→(xs.flatMap fun n=>[Value.int .u8 n])=(xs.map fun n=>UInt8.ofNat n.toNat).flatMap cb:=by
   intro xs
   induction xs with
   | nil=>intro _;rfl
   | cons n xs ih =>
    intro h
    have hw:=h n (by simp)
    simp [Lit.wf,IntKind.min,IntKind.max,IntKind.signed,IntKind.bits] at hw
    have e:(Value.int .u8 n)=.int .u8 ((UInt8.ofNat n.toNat).toNat:Int):=by
     simp only [UInt8.toNat_ofNat']
     congr 1
     omega
    rw [List.flatMap_cons,ih (fun m hm=>h m (by simp [hm])),List.map_cons,List.flatMap_cons,e]
    rfl
  refine ⟨1,(show List Int from xs).map fun n=>UInt8.ofNat n.toNat,Okl.read,by decide,?_,?_⟩
  ·
   have e:=key (show List Int from xs) h3
   show [SL 1 1 (show List Int from xs).length ((show List Int from xs).flatMap fun n=>[Value.int .u8 n])]=[_]
   unfold by_ vs
   rw [sv1,List.length_map,← e]
  ·
   have:(show List Int from xs).length * 1≤140737488351232:=h1
   rw [List.length_map];omega
theorem Xm {n:Int} (h:(Lit.int .i64 n).wf=true):-9223372036854775808≤n∧n < 9223372036854775808:=by
 simp [Lit.wf,IntKind.min,IntKind.max,IntKind.signed,IntKind.bits] at h
 omega
theorem ahZ {P:Program} {hp:Bool} {ts:Array TypeId} {ty:TypeId} {k:IntKind} {a b:Int} {S:zx}:kY P hp .min ts ty [.int k a,.int k b] S=some (.int k (if b < a then b else a),S):=by
 show wQ P [.int k a,.int k b] (Builtin.min_ ts ty #[.int k a,.int k b]) S=_
 exact jX rfl rfl rfl
theorem ahT {P:Program} {hp:Bool} {ts:Array TypeId} {ty:TypeId} {k:IntKind} {a b:Int} {S:zx}:kY P hp .max ts ty [.int k a,.int k b] S=some (.int k (if b > a then b else a),S):=by
 show wQ P [.int k a,.int k b] (Builtin.max_ ts ty #[.int k a,.int k b]) S=_
 exact jX rfl rfl rfl
def aev (call:FuncId→List Value→M Value) (g:FuncId) (args:List Value):M Value:=fun S=>match ZO args S with
 | some (m,S1)=>match call g m S1 with
  | some r=>some (ac5 S S1 args r)
  | none=>none
 | none=>none
end Go.Abs
namespace Go.Abs
open Go.RowKit
section
variable {P:Program} {μ μ1:Mu} {S S1 H H1:zx} {ω ω1:Nat→Option yP}
def Kt (n:Nat) (lg:List Nat) (μ:Mu):Mu:=⟨fun q=>if q < n then μ q else none,μ.hid,lg⟩
theorem kT {n q:Nat} {lg:List Nat} {μ:Mu} {x:Nat×Bool} (h:Kt n lg μ q=some x):μ q=some x∧q < n:=by
 simp only [Kt] at h
 split at h
 ·
  exact ⟨h,by assumption⟩
 ·
  cases h
theorem Za {n q:Nat} {lg:List Nat} {μ:Mu} (h:q < n):Kt n lg μ q=μ q:=if_pos h
theorem ZU.cut {n r:Nat} {lg:List Nat} {μ:Mu} (h:ZU μ r):ZU (Kt n lg μ) r:=⟨fun q hq=>h.1 q (kT hq).1,h.2⟩
theorem VV.cut {n:Nat} {lg:List Nat} (hf:∀ q,n≤q→μ q=none) {ℓ:Option yP} {v a:Value} (h:VV μ1 H1 ω1 ℓ v a):∀ {H0:zx} {ω0:Nat→Option yP} {ℓ0:Option yP} {a0:Value},VV μ H0 ω0 ℓ0 v a0→VV (Kt n lg μ1) H1 ω1 ℓ v a:=by
 have lt:∀ {q:Nat} {x:Nat×Bool},μ q=some x→q < n:=fun {q x} h=>Nat.lt_of_not_le fun hn=>by rw [hf q hn] at h;cases h
 induction h with
 | sg h=>intro _ _ _ _ _;exact .sg h
 | ptr h =>
  intro _ _ _ _ h0
  cases h0 with
  | sg hs=>simp [Go.Abs.sg] at hs
  | ptr k=>exact .ptr (by rw [Za (lt k)];exact h)
 | map h =>
  intro _ _ _ _ h0
  cases h0 with
  | sg hs=>simp [Go.Abs.sg] at hs
  | map k=>exact .map (by rw [Za (lt k)];exact h)
 | slm h =>
  intro _ _ _ _ h0
  cases h0 with
  | sg hs=>simp [Go.Abs.sg] at hs
  | slm k=>exact .slm (by rw [Za (lt k)];exact h)
 | slE=>intro _ _ _ _ _;exact .slE
 | sl hr hp hg hl hn hc ih =>
  intro _ _ _ _ h0
  cases h0 with
  | sg hs=>simp [Go.Abs.sg] at hs
  | slE=>exact .sl hr hp.cut hg hl hn (fun i hi=>by simp at hi)
  | sl _ _ _ _ _ k=>exact .sl hr hp.cut hg hl hn (fun i hi=>ih i hi (k i hi))
 | so hω hr hp hg hl hn hc ih =>
  intro _ _ _ _ h0
  cases h0 with
  | sg hs=>simp [Go.Abs.sg] at hs
  | so _ _ _ _ _ _ k=>exact .so hω hr hp.cut hg hl hn (fun i hi=>ih i hi (k i hi))
 | ep hr hp hg hl hc ih =>
  intro _ _ _ _ h0
  cases h0 with
  | sg hs=>simp [Go.Abs.sg] at hs
  | ep _ _ _ _ k=>exact .ep hr hp.cut hg hl (fun i hi=>ih i hi (k i hi))
 | func fn hx hc h1 h2 ih1 ih2 =>
  intro _ _ _ _ h0
  cases h0 with
  | sg hs=>simp [Go.Abs.sg] at hs
  | func _ _ _ k1 k2=>exact .func fn hx hc (fun i=>ih1 i (k1 i)) (fun i=>ih2 i (k2 i))
 | agg hx hh ih =>
  intro _ _ _ _ h0
  cases h0 with
  | sg hs=>simp [Go.Abs.sg] at hs
  | agg _ k=>exact .agg hx (fun i=>ih i (k i))
 | nores=>intro _ _ _ _ _;exact .nores
 | tuple hx hh ih =>
  intro _ _ _ _ h0
  cases h0 with
  | sg hs=>simp [Go.Abs.sg] at hs
  | nores=>exact .tuple hx (fun i=>ih i (a0:=Go.undef) (show VV μ H1 ω1 none ((#[]:Array Value).getD i Go.undef) Go.undef from by simpa using VV.zh))
  | tuple _ k=>exact .tuple hx (fun i=>ih i (k i))
structure Ext (S S1:zx):Prop where
 next:S.next≤S1.next
 get:∀ k,k < S.next→S1.get k=S.get k
 log:∃ new,S1.log=new++S.log∧∀ k ∈ new,S.next≤k
theorem Ext.refl (S:zx):Ext S S:=⟨Nat.le_refl _,fun _ _=>rfl,[],rfl,fun k h=>by cases h⟩
theorem Ext.trans {S2:zx} (h:Ext S S1) (k:Ext S1 S2):Ext S S2:=⟨Nat.le_trans h.1 k.1,fun q hq=>(k.2 q (Nat.lt_of_lt_of_le hq h.1)).trans (h.2 q hq),by
 obtain ⟨n1,e1,f1⟩:=h.log
 obtain ⟨n2,e2,f2⟩:=k.log
 refine ⟨n2++n1,by rw [e2,e1,List.append_assoc],fun q hq=>?_⟩
 rcases List.mem_append.1 hq with hq | hq
 ·
  exact Nat.le_trans h.1 (f2 q hq)
 ·
  exact f1 q hq⟩
theorem Ext.push (S:zx) (o:qp):Ext S (S.push o):=⟨by simp,fun k hk=>by rw [zx.jJ,if_neg (by omega)],[],rfl,fun k h=>by cases h⟩
theorem Ext.set {S S1:zx} (h:Ext S S1) {r:Nat} (hr:S.next≤r) (o:qp):Ext S (S1.set r o):=⟨by simpa using h.1,fun k hk=>by rw [zx.jS,if_neg (by omega)];exact h.2 k hk,by
 obtain ⟨n1,e1,f1⟩:=h.log
 refine ⟨r::n1,by rw [zx.QU,e1];rfl,fun q hq=>?_⟩
 rcases List.mem_cons.1 hq with rfl | hq
 ·
  exact hr
 ·
  exact f1 q hq⟩
theorem GI.cut (hG:GI μ S H) (hG1:GI μ1 S1 H1) (hE:Ext S S1):GI (Kt S.next S.log μ1) S H1:=by
 have lt:∀ {q o},S.get q=some o→o.alive=true→q < S.next:=fun {q o} h ha=>by
  obtain ⟨r,o',h1,_⟩:=hG.obj q o h ha
  exact Nat.lt_of_not_le fun hn=>by rw [hG.fresh q hn] at h1;cases h1
 refine ⟨fun q o ho ha=>?_,fun q q' r h1 h2=>hG1.inj q q' r (kT h1).1 (kT h2).1,fun q r b h=>hG1.lt q r b (kT h).1,fun q h=>if_neg (by omega),fun q r h=>hG1.vis q r (kT h).1,hG1.hlt,rfl,hG.anc⟩
 have hq:=lt ho ha
 obtain ⟨r1,o1,h1,h2,h3⟩:=hG1.obj q o (by rw [hE.2 q hq];exact ho) ha
 obtain ⟨r0,o0,k1,k2,k3⟩:=hG.obj q o ho ha
 refine ⟨r1,o1,by rw [Za hq];exact h1,h2,?_⟩
 cases o with
 | cells cs own esz =>
  cases o1 with
  | cells cs1 own1 esz1 =>
   cases o0 with
   | cells cs0 own0 esz0 =>
    obtain ⟨e1,w1,l1⟩:=h3
    obtain ⟨e0,w0,l0⟩:=k3
    refine ⟨e1,?_,l1.1,fun i=>(l1.2 i).cut hG.fresh (l0.2 i)⟩
    cases own with
    | ro=>cases own1 with
     | ro=>exact True.intro
     | own a=>exact w1.elim
    | own a=>cases own1 with
     | ro=>exact w1.elim
     | own a1=>cases own0 with
      | ro=>exact w0.elim
      | own a0 =>
       refine YX.mono w1 fun b hb r hr=>?_
       obtain ⟨r2,h2⟩:=YX.left w0 b hb
       rw [Za (Nat.lt_of_not_le fun hn=>by rw [hG.fresh b hn] at h2;cases h2)]
       exact hr
   | map es c=>exact k3.elim
   | dead=>exact k3.elim
  | map es c=>exact h3.elim
  | dead=>exact h3.elim
 | map es c =>
  cases o1 with
  | map es1 c1 =>
   cases o0 with
   | map es0 c0 =>
    obtain ⟨e1,w1,l1⟩:=h3
    obtain ⟨e0,w0,l0⟩:=k3
    refine ⟨e1,w1,fun i e he=>?_⟩
    obtain ⟨e',p1,p2,p3,p4⟩:=l1 i e he
    obtain ⟨e'',q1,q2,q3,q4⟩:=l0 i e he
    exact ⟨e',p1,p2,p3,p4.cut hG.fresh q4⟩
   | cells cs own e=>exact k3.elim
   | dead=>exact k3.elim
  | cells cs own e=>exact h3.elim
  | dead=>exact h3.elim
 | dead=>cases ha
inductive Lower (S:zx) (v1:Value) (S1:zx):Value→Prop
 | same (h:ground v1=true):Lower S v1 S1 v1
 | own {r n e:Nat} {cs:List Value} (hv:v1=.slice (some ⟨r,0,none⟩) n n) (hr:S.next≤r) (hg:S1.get r=some (.cells cs (.own []) e)) (hn:cs.length=n * e) (hs:cs.all sg=true):Lower S v1 S1 (SL 2 e n cs)
theorem ahr {O0:Ora} (hO:Va P O0) {f:FuncId} {q:List Value→M Value} (h:∀ args S v S',q args S=some (v,S')→S'=S∧∃ v1 S1,jm P O0 f args S=some (v1,S1)∧Ext S S1∧Lower S v1 S1 v) :
  JF P (fun g args=>if g=f then q args else fun _=>none):=by
 intro g args aargs S v S' hq μ H ω hG hA hD hE
 dsimp only at hq
 split at hq
 ·
  rename_i hgf
  subst hgf
  obtain ⟨rfl,v1,S1,hv,hx,hlow⟩:=h _ _ _ _ hq
  obtain ⟨a,H1,μ1,ω1,k1,k2,k3,k4,k5,k6⟩:=adE hO g args aargs S' v1 S1 hv μ H ω hG hA hD hE
  have hL:Later μ H (Kt S'.next S'.log μ1) H1:=by
   refine ⟨fun q r b hm=>?_,k3.next,fun q r hm=>k3.new q r (kT hm).1,k3.hid,k3.same,(by
    obtain ⟨new,n1,n2⟩:=k3.still
    obtain ⟨nx,x1,x2⟩:=hx.log
    refine ⟨[],by show S'.log=_;rw [hG.log];rfl,fun q r hq _=>?_⟩
    have hqn:q < S'.next:=Nat.lt_of_not_le fun hn=>by rw [hG.fresh q hn] at hq;cases hq
    have hnew:q ∉ new:=fun hm=>by
     rw [k2.log,hG.log,x1] at n1
     have:=List.append_cancel_right n1
     subst this
     have:=x2 q hm
     omega
    obtain ⟨p1,p2⟩:=n2 q r hq hnew
    exact ⟨by rw [Za hqn];exact p1,p2⟩),fun r l own e hr hp hg=>k3.cells r l own e hr hp hg⟩
   obtain ⟨b',hb⟩:=k3.mu q r b hm
   exact ⟨b',by rw [Za (Nat.lt_of_not_le fun hn=>by rw [hG.fresh q hn] at hm;cases hm)];exact hb⟩
  have hDom:Dom (Kt S'.next S'.log μ1) H1 ω1:=fun r s hr=>⟨(k5 r s hr).1,(k5 r s hr).2.cut⟩
  cases hlow with
  | same hgr =>
   have:a=v:=jO k6.v0 hgr
   subst this
   exact ⟨a,H1,_,ω1,k1,hG.cut k2 hx,hL,k4,hDom,VV.yj hgr⟩
  | @own r n e cs hv1 hr hg hn hs =>
   subst hv1
   cases k6 with
   | sg hs=>simp [Go.Abs.sg] at hs
   | @slm _ _ _ r' b _ hm =>
    obtain ⟨r2,l,own',ho,hm',hg',hl⟩:=k2.cells hg
    rw [hm] at hm';cases hm'
    cases own' with
    | ro=>exact ho.elim
    | own anc' =>
    have hpr:ZU (Kt S'.next S'.log μ1) r':=⟨fun q hq=>by
     obtain ⟨h1,h2⟩:=kT hq
     have:=k2.inj q r r' h1 hm
     omega,k2.vis r r' hm⟩
    have hnω:∀ x s,ω1 x=some s→x≠r':=fun x s hx e=>(k5 x s hx).2.1 r (by rw [e];exact hm)
    refine ⟨_,H1,_,fun x=>if x=r' then some (.res none) else ω1 x,k1,hG.cut k2 hx,hL,fun x hx=>?_,fun x s hx=>?_,?_⟩
    ·
     obtain ⟨e1,e2⟩:=k4 x hx
     exact ⟨by dsimp only;rw [if_neg (hnω x _ e1)];exact e1,e2⟩
    ·
     dsimp only at hx
     split at hx
     ·
      rename_i e1;subst e1;exact ⟨k2.lt r x _ hm,hpr⟩
     ·
      exact hDom x s hx
    ·
     refine .so (by simp) (k2.lt r r' _ hm) hpr hg' (by rw [← hl.1];exact hn) (by simpa using hn) fun i hi=>?_
     have h2:=hl.2 i
     have hi':i < cs.length:=by omega
     have hsi:sg (cs.getD i zh)=true:=by
      rw [List.getD_eq_getElem?_getD,List.getElem?_eq_getElem hi']
      exact List.all_eq_true.1 hs _ (List.getElem_mem hi')
     have:l.getD i zh=cs.getD i zh:=by
      generalize cs.getD i zh=u at h2 hsi
      generalize l.getD i zh=u' at h2
      cases h2 <;> first | rfl | (simp [Go.Abs.sg] at hsi)
     simp only [List.toList_toArray]
     rw [this]
     exact .sg hsi
 ·
  cases hq
end
end Go.Abs
namespace Go.Abs
open Go.RowKit
section
variable {P:Program} {S:zx} {t te tx tex:TypeId} {q o n c e i r:Nat} {cs:List Value} {own:Own} {anc:List Nat} {v x:Value} {hp:Bool}
theorem y7 (a:Addr) (S:zx):wJ (.pointer (some a)) S=some (.pointer (some a),S):=Eq.trans rfl rfl
theorem ZR (h:S.get q=some (.cells cs own e)) (ha:qZ P t=some false) (hv:cs[o]?=some v) (hn:∀ l,v≠.agg l):jE P false t (.pointer (some ⟨q,o,none⟩)) S=some (dem v,S):=by
 unfold jE
 simp only [Bool.false_eq_true,if_false]
 have:yY P t (.pointer (some ⟨q,o,none⟩)) S=some (v,S):=by simp only [yY,h,ha,hv]
 rw [this]
 split
 ·
  rename_i l S2 he;cases he;exact absurd rfl (hn _)
 ·
  rename_i v2 S2 _ he;cases he;rfl
 ·
  rename_i he;cases he
theorem qU {k:IntKind} {m:Int} (h:S.get q=some (.cells cs own e)) (ha:qZ P t=some false) (hv:cs[o]?=some (.int k m)):jE P false t (.pointer (some ⟨q,o,none⟩)) S=some (.int k m,S) :=
 ZR h ha hv (fun l h=>by cases h)
theorem Zw {a:Option Addr} {n c:Nat} (h:S.get q=some (.cells cs own e)) (ha:qZ P t=some false) (hv:cs[o]?=some (.slice a n c)):jE P false t (.pointer (some ⟨q,o,none⟩)) S=some (.slice a n c,S) :=
 ZR h ha hv (fun l h=>by cases h)
theorem Kv (h:S.get q=some (.cells cs own e)) (ha:qZ P t=some true) (hs:xA P t=some n) (hle:o+n≤cs.length):jE P false t (.pointer (some ⟨q,o,none⟩)) S=some (.agg (((cs.drop o).take n).toArray.map xB),S):=by
 unfold jE
 simp only [Bool.false_eq_true,if_false]
 have:yY P t (.pointer (some ⟨q,o,none⟩)) S=some (.agg ((cs.drop o).take n).toArray,S):=by simp only [yY,h,ha,hs,if_pos hle]
 rw [this]
theorem xg (h:S.get q=some (.cells cs (.own anc) e)) (hs:xA P t=some n) (hx:x.cells.size=n) (h1:x.cells.toList.all (·.oneCell')=true) (hle:o+n≤cs.length) :
  wz P t (.pointer (some ⟨q,o,none⟩)) x S=some (zh,(S.kills anc).set q (.cells (splice cs o x.cells.toList) (.own []) e)):=by
 simp only [wz,Jc,h,hs,if_pos hx,if_pos h1,if_pos hle]
theorem Yu (ht:P.underlying t=some (.slice te)) (a:Option Addr) (n c:Nat) (S:zx):ku P t (.slice a n c) S=some (goInt n,S):=by
 simp only [ku,Xy,ht]
theorem abW {lo hi:Option Value} {l h:Int} {dr:Bool} (hd:dr=false) (hg:S.get q=some (.cells cs own e)) (ht:P.underlying t=some (.slice te)) (hs:xA P te=some e) (hl:kM 0 lo=some l) (hh:kM n hi=some h) (h0:0≤l) (h1:l≤h) (h2:h≤n) :
  yc P dr t (.slice (some ⟨q,o,none⟩) n c) lo hi S=some (.slice (some ⟨q,o+l.toNat * e,none⟩) (h.toNat - l.toNat) (h.toNat - l.toNat),S):=by
 subst hd
 simp only [yc,QA,if_true,Bool.false_eq_true,if_false,kJ,ht,hs,hl,hh,if_pos h0,if_pos h1,if_pos h2,hg]
theorem acC {lo hi:Option Value} {l h:Int} {dr:Bool} (ht:P.underlying t=some (.slice te)) (hs:xA P te=some e) (hl:kM 0 lo=some l) (hh:kM 0 hi=some h) (h0:0≤l) (h1:l≤h) (h2:h≤0) :
  yc P dr t (.slice none 0 0) lo hi S=some (.slice none 0 0,S):=by
 have h2':h≤((0:Nat):Int):=h2
 simp only [yc,QA,Bool.false_eq_true,if_false,qY,ht,vSl,hs,hl,hh,if_pos h0,if_pos h1,if_pos h2']
theorem agb {k m:Nat} {ds:List Value} (htx:P.underlying tx=some (.slice tex)) (hx:Okv k m ds) (hm:ds.length=m * e) (h2:ds.all (·.oneCell')=true):agu P tx e (sv k e m ds)=some (m,ds):=by
 obtain ⟨e',q1,q2⟩:=aal (e:=e) hx
 have hns:∀ s,sv k e m ds≠.string s:=by intro s;unfold sv;split <;> (intro h;cases h)
 have hcond:m=0∨e'=e:=q2.elim .inr fun h=>.inl h.1
 unfold agu
 split
 ·
  rename_i s hs;exact absurd hs (hns s)
 ·
  simp only [htx,q1,if_pos hcond,if_pos hm,h2,if_true]
theorem aae {k m:Nat} {ds:List Value} (htx:P.underlying tx=some (.slice tex)) (hx:Okv k m ds) (hm:ds.length=m * e) (h2:ds.all (·.oneCell')=true):YU P tx e (sv k e m ds) S=some (m,ds):=by
 unfold YU
 rw [YF]
 exact agb htx hx hm h2
theorem aaZ {bytes k:Nat} {z:Value} {news:List Value} (hel:P.underlying t=some (.slice te)) (he:xA P te=some e) (hz:zeroOf P te=some z) (hzs:z.cells.size=e) (hb:bytesOf P te=some bytes) (hpos:0 < e) (hsrc:YU P tx e x S=some (k,news))
  (hg:S.get q=some (.cells cs (.own anc) e)) (hle:o+n * e≤cs.length) (hmax:(n+k) * bytes≤140737488355328) (hmax2:n+k≤4611686018427387903) (h1:((cs.drop o).take (n * e)).all (·.oneCell')=true) :
  qF P hp t tx (.slice (some ⟨q,o,none⟩) n c) x S=some (.slice (some ⟨S.next,0,none⟩) (n+k) (n+k),
   if o+n * e=cs.length then (S.set q (.cells cs .ro e)).push (.cells ((cs.drop o).take (n * e)++news) (.own (if n * e=0 then [] else q::anc)) e)
   else ((S.kills anc).set q .dead).push (.cells ((cs.drop o).take (n * e)++news) (.own []) e)):=by
 have hel2:yF P t=some te:=by simp only [yF,hel]
 simp only [qF,hel2,he,hz,hb,if_pos hpos,if_pos hzs,hsrc,hg,if_true,if_pos hle,if_pos hmax,if_pos hmax2,if_pos h1,qR]
 by_cases h:o+n * e=cs.length
 ·
  rw [if_pos h,if_pos h]
 ·
  rw [if_neg h,if_neg h]
theorem aaQ {bytes k:Nat} {z:Value} {news:List Value} (hel:P.underlying t=some (.slice te)) (he:xA P te=some e) (hz:zeroOf P te=some z) (hzs:z.cells.size=e) (hb:bytesOf P te=some bytes) (hpos:0 < e) (hsrc:YU P tx e x S=some (k,news))
  (hmax:k * bytes≤140737488355328) (hmax2:k≤4611686018427387903) :
  qF P true t tx (.slice none 0 0) x S=some (if k=0 then .slice none 0 0 else .slice (some ⟨S.next,0,none⟩) k k,if k=0 then S else S.push (.cells news (.own []) e)):=by
 have hel2:yF P t=some te:=by simp only [yF,hel]
 simp only [qF,hel2,he,hz,hb,if_pos hpos,if_pos hzs,hsrc,if_pos hmax,if_pos hmax2,if_true]
 by_cases h:k=0
 ·
  rw [if_pos h,if_pos h,if_pos h]
 ·
  rw [if_neg h,if_neg h,if_neg h]
theorem af4 {r2 o2 c2:Nat} {cs2:List Value} {own2:Own} {e2:Nat} (ht:P.underlying t=some (.slice te)) (hs:xA P te=some e) (hg2:S.get r2=some (.cells cs2 own2 e2)) (hle2:o2+n * e≤cs2.length) (hg:S.get q=some (.cells cs (.own anc) i)) (hn:n≠0) (hle:o+n * e≤cs.length) (h1:((cs2.drop o2).take (n * e)).all (·.oneCell')=true) :
  Y0 P t tx (.slice (some ⟨q,o,none⟩) n c) (.slice (some ⟨r2,o2,none⟩) n c2) S=some (goInt n,(S.kills anc).set q (.cells (splice cs o ((cs2.drop o2).take (n * e))) (.own []) i)):=by
 have hel2:yF P t=some te:=by simp only [yF,ht]
 have hmin:Nat.min n n=n:=Nat.min_self n
 simp only [Y0,hel2,hs,YG,hmin,if_neg hn,hg,qc,hg2,if_pos hle2,if_pos hle,h1,if_true]
theorem XB (ht:P.underlying t=some (.slice te)) (hs:xA P te=some e) (c2:Nat) (s:Value) (hsn:∃ f,YG s S=some (0,f)) (a:Option Addr) (ha:a=none∨∃ q o,a=some ⟨q,o,none⟩):Y0 P t tx (.slice a 0 0) s S=some (goInt 0,S):=by
 have hel2:yF P t=some te:=by simp only [yF,ht]
 obtain ⟨f,hf⟩:=hsn
 have hmin:Nat.min 0 0=0:=Nat.min_self 0
 rcases ha with rfl | ⟨q,o,rfl⟩
 ·
  simp only [Y0,hel2,hs,hf]
 ·
  simp only [Y0,hel2,hs,hf,hmin,if_true]
theorem aaw {l:Nat} {k k2:IntKind} {z:Value} {bytes:Nat} (ht:P.underlying t=some (.slice te)) (he:xA P te=some e) (hz:zeroOf P te=some z) (hb:bytesOf P te=some bytes) (hgz:ground z=true) (hzs:z.cells.size=e) (hpos:0 < e) (hmax:l * bytes≤140737488355328) (hmax2:l≤9223372036854775807) :
  wV P t (.int k l) (.int k2 l) S=some (.slice (some ⟨S.next,0,none⟩) l l,S.push (.cells (zl z.cells.toList l) (.own []) e)):=by
 have hel2:yF P t=some te:=by simp only [yF,ht]
 have h0:(0:Int)≤(l:Int):=by omega
 have h1:(l:Int) * bytes≤140737488355328:=by
  have h:((l * bytes:Nat):Int)≤140737488355328:=by omega
  rwa [Int.natCast_mul] at h
 have h2:(l:Int)≤9223372036854775807:=by omega
 simp only [wV,hel2,he,hz,hb,if_pos hgz,if_pos hzs,if_pos hpos,if_pos h0,Int.le_refl,if_true,if_pos h1,if_pos h2,Int.toNat_natCast]
end
theorem WR {α:Type} {f:α→List Value} {e k d:Nat} {l:List α} (hk:k≤2) (h:∀ x ∈ l,(f x).all (jD d)=true):jD (d+4) (vs f e k l)=true:=by
 unfold vs sv
 split
 ·
  rfl
 ·
  show ((l.flatMap f).toArray.toList.all (jD d))=true
  rw [List.toList_toArray,List.all_flatMap,List.all_eq_true]
  exact h
theorem vH {k d:Nat} {l:List UInt8} (hk:k≤2):jD (d+5) (by_ k l)=true:=WR hk (fun _ _=>rfl)
theorem acd {l:List Value} {d:Nat} (h:l.all (jD d)=true):jD (d+1) (.agg l.toArray)=true:=by
 show l.toArray.toList.all (jD d)=true
 simpa using h
theorem kS {l:List Value} {d:Nat} (h:l.all (jD d)=true):jD (d+1) (.tuple l.toArray)=true:=by
 show l.toArray.toList.all (jD d)=true
 simpa using h
theorem all1 {p:Value→Bool} {a:Value} (h:p a=true):[a].all p=true:=by simp [h]
theorem all2 {p:Value→Bool} {a b:Value} (h:p a=true) (k:p b=true):[a,b].all p=true:=by simp [h,k]
theorem aie {p:Value→Bool} {a b c:Value} (h:p a=true) (k:p b=true) (j:p c=true):[a,b,c].all p=true:=by simp [h,k,j]
theorem aeM {k e n:Nat} {cs:List Value}:(sv k e n cs).cells=#[sv k e n cs]:=by unfold sv;split <;> rfl
theorem ZY {α:Type} {f:α→List Value} {e k:Nat} {l:List α}:(vs f e k l).cells=#[vs f e k l]:=aeM
theorem agk {k e n:Nat} {cs:List Value}:xB (sv k e n cs)=sv (if k=2 then 1 else k) e n cs:=by rw [← aax];unfold sv;split <;> rfl
theorem Vz {α:Type} {f:α→List Value} {e k:Nat} {l:List α}:xB (vs f e k l)=vs f e (if k=2 then 1 else k) l:=agk
theorem WS {k:IntKind} {n:Int}:xB (.int k n)=.int k n:=rfl
theorem yH {x:Array Value}:(Value.agg x).cells=x:=rfl
theorem kL {k:IntKind} {n:Int}:(Value.int k n).cells=#[.int k n]:=rfl
@[simp] theorem XA (a:Option Addr) (n c:Nat):dem (.slice a n c)=.slice a n c:=Eq.trans rfl rfl
@[simp] theorem adQ (a:Option Nat):dem (.map a)=.map a:=Eq.trans rfl rfl
theorem wrap_i64 {n:Int} (h0:-9223372036854775808≤n) (h:n < 9223372036854775808):IntKind.i64.wrap n=n:=by
 simp [IntKind.wrap,IntKind.bits,IntKind.signed]
 split <;> omega
theorem Yr {l pre suf:List Int} {n:Int} (hl:l=pre++n::suf) (h:Int.toNat (pre.length:Int) < l.length):l[Int.toNat (pre.length:Int)]=n:=by
 subst hl;simp
theorem aam {α:Type} {l pre suf:List α} {n:α} (hl:l=pre++n::suf) (h:Int.toNat (pre.length:Int) < l.length):l[Int.toNat (pre.length:Int)]=n:=by
 subst hl;simp
theorem aeN (k:Nat):(if (if k=2 then 1 else k)=2 then 1 else if k=2 then 1 else k)=if k=2 then 1 else k:=by split <;> simp_all
theorem agG (k:Nat):(if k=2 then 1 else k)≠2:=by split <;> omega
theorem WE (Sa Sb:zx):qM zh Sa Sb=true:=rfl
theorem X3 (cs:List Value) (Sa Sb:zx):qM (EP cs) Sa Sb=true:=rfl
theorem aee {q o:Nat} {S S1:zx} (h:S.get q=S1.get q):Xg (.pointer (some ⟨q,o,none⟩)) S S1=true:=@decide_eq_true _ (Classical.propDecidable _) h
theorem abq {q o:Nat} {S:zx}:Xg (.pointer (some ⟨q,o,none⟩)) S S=true:=aee rfl
theorem Jm {q o e:Nat} {cs:List Value} {own:Own} {S:zx} (h:S.get q=some (.cells cs own e)):qM (.pointer (some ⟨q,o,none⟩)) S S=true:=by
 simp only [qM,h,Nat.sub_self,List.take_zero,List.contains_nil,Bool.not_false,Bool.and_self]
end Go.Abs
namespace Go.Abs
open Go.RowKit
section
variable {P:Program} {fx:Fx} {chk:List Nat} {call:FuncId→List Value→M Value} {ops:Array Oper}
theorem sP (f:Func) (i n:Nat) {l:List Oper} {T:List Value} {T1:Value→List Value} {S:zx} {v:Value} {r:Option (List Value×zx)} (hK:jF P fx call ops ((reg f i).toList.drop (n+1)) (T1 v) S=r) (hl:l=(opAt f i n)::((reg f i).toList.drop (n+1)):=by kernel_rfl) (hg:(opAt f i n).guard=none:=by kernel_rfl) (hm:∀ v,vG (opAt f i n) ((reg f i).toList.drop (n+1)) T v=T1 v:=by exact fun _=>rfl) (hs:wS P fx call T (opAt f i n) S=some (v,S):=by kernel_rfl):jF P fx call ops l T S=r :=
 adO hl hg hm hs hK
theorem sD (f:Func) (i n:Nat) {l:List Oper} {T:List Value} {T1:Value→List Value} {S:zx} {s:Option (Value×zx)} {K:Value→zx→Option (List Value×zx)} (hK:∀ v S1,jF P fx call ops ((reg f i).toList.drop (n+1)) (T1 v) S1=K v S1) (hl:l=(opAt f i n)::((reg f i).toList.drop (n+1)):=by kernel_rfl) (hg:(opAt f i n).guard=none:=by kernel_rfl) (hm:∀ v,vG (opAt f i n) ((reg f i).toList.drop (n+1)) T v=T1 v:=by exact fun _=>rfl) (hs:wS P fx call T (opAt f i n) S=s:=by kernel_rfl):jF P fx call ops l T S=zU s K () :=
 agr hl hg hm hs hK
theorem sG (f:Func) (i n:Nat) {l:List Oper} {T:List Value} {T1:Value→List Value} {S:zx} {j:Nat} {b:Bool} {g:Value} {s:M Value} {K:Value→zx→Option (List Value×zx)} (hK:∀ v S1,jF P fx call ops ((reg f i).toList.drop (n+1)) (T1 v) S1=K v S1) (hl:l=(opAt f i n)::((reg f i).toList.drop (n+1)):=by kernel_rfl) (hg:(opAt f i n).guard=some (j,b):=by kernel_rfl) (hm:∀ v,vG (opAt f i n) ((reg f i).toList.drop (n+1)) T v=T1 v:=by exact fun _=>rfl) (hy:ynd ops T j=vb g:=by kernel_rfl) (hs:wS P fx call T (opAt f i n) S=s S:=by kernel_rfl):jF P fx call ops l T S=gdK g b s S K () :=
 agE hl hg hm hy hs hK
theorem tD (f:Func) (i n:Nat) {l:List Oper} {T:List Value} {T1:Value→List Value} {S:zx} {k:Nat} {s:Option (Value×zx)} {K:Value→zx→Option (List Value×zx)} (hK:∀ v S1,wC P fx chk [] call ops (k+1) [] ((reg f i).toList.drop (n+1)) (T1 v) S1=K v S1) (hc:chk.contains k=false:=by kernel_rfl) (hl:l=(opAt f i n)::((reg f i).toList.drop (n+1)):=by kernel_rfl) (hg:(opAt f i n).guard=none:=by kernel_rfl) (hm:∀ v,vG (opAt f i n) ((reg f i).toList.drop (n+1)) T v=T1 v:=by exact fun _=>rfl) (hs:wS P fx call T (opAt f i n) S=s:=by kernel_rfl):wC P fx chk [] call ops k [] l T S=zU s K () :=
 aeF hc hl hg hm hs hK
theorem tDC (f:Func) (i n:Nat) {l:List Oper} {T:List Value} {T1:Value→List Value} {S:zx} {k:Nat} {s:Option (Value×zx)} {K:Value→zx→Option (List Value×zx)} (hK:∀ v S1,wC P fx chk [] call ops (k+1) [] ((reg f i).toList.drop (n+1)) (T1 v) S1=K v S1) (hc:chk.contains k=true:=by kernel_rfl) (hl:l=(opAt f i n)::((reg f i).toList.drop (n+1)):=by kernel_rfl) (hg:(opAt f i n).guard=none:=by kernel_rfl) (hm:∀ v,vG (opAt f i n) ((reg f i).toList.drop (n+1)) T v=T1 v:=by exact fun _=>rfl) (hs:wS P fx call T (opAt f i n) S=s:=by kernel_rfl):wC P fx chk [] call ops k [] l T S=zU s (fun v S1=>okK v (K v S1) ()) () :=
 acj hc hl hg hm hs hK
theorem tP (f:Func) (i n:Nat) {l:List Oper} {T:List Value} {T1:Value→List Value} {S:zx} {k:Nat} {v:Value} {r:Option (List Value×zx)} (hK:wC P fx chk [] call ops (k+1) [] ((reg f i).toList.drop (n+1)) (T1 v) S=r) (hc:chk.contains k=false:=by kernel_rfl) (hl:l=(opAt f i n)::((reg f i).toList.drop (n+1)):=by kernel_rfl) (hg:(opAt f i n).guard=none:=by kernel_rfl) (hm:∀ v,vG (opAt f i n) ((reg f i).toList.drop (n+1)) T v=T1 v:=by exact fun _=>rfl) (hs:wS P fx call T (opAt f i n) S=some (v,S):=by kernel_rfl):wC P fx chk [] call ops k [] l T S=r :=
 aa5 hc hl hg hm hs hK
theorem tPC (f:Func) (i n:Nat) {l:List Oper} {T:List Value} {T1:Value→List Value} {S:zx} {k:Nat} {v:Value} {r:Option (List Value×zx)} (hK:wC P fx chk [] call ops (k+1) [] ((reg f i).toList.drop (n+1)) (T1 v) S=r) (hc:chk.contains k=true:=by kernel_rfl) (hl:l=(opAt f i n)::((reg f i).toList.drop (n+1)):=by kernel_rfl) (hg:(opAt f i n).guard=none:=by kernel_rfl) (hm:∀ v,vG (opAt f i n) ((reg f i).toList.drop (n+1)) T v=T1 v:=by exact fun _=>rfl) (hs:wS P fx call T (opAt f i n) S=some (v,S):=by kernel_rfl):wC P fx chk [] call ops k [] l T S=okK v r () :=
 Vo hc hl hg hm hs hK
theorem tG (f:Func) (i n:Nat) {l:List Oper} {T:List Value} {T1:Value→List Value} {S:zx} {j k:Nat} {b:Bool} {g:Value} {s:M Value} {K:Value→zx→Option (List Value×zx)} (hK:∀ v S1,wC P fx chk [] call ops (k+1) [] ((reg f i).toList.drop (n+1)) (T1 v) S1=K v S1) (hc:chk.contains k=false:=by kernel_rfl) (hl:l=(opAt f i n)::((reg f i).toList.drop (n+1)):=by kernel_rfl) (hg:(opAt f i n).guard=some (j,b):=by kernel_rfl) (hm:∀ v,vG (opAt f i n) ((reg f i).toList.drop (n+1)) T v=T1 v:=by exact fun _=>rfl) (hy:ynd ops T j=vb g:=by kernel_rfl) (hs:wS P fx call T (opAt f i n) S=s S:=by kernel_rfl):wC P fx chk [] call ops k [] l T S=gdK g b s S K () :=
 ae1 hc hl hg hm hy hs hK
theorem uD (f:Func) (i n:Nat) {l:List Oper} {T:List Value} {T1:Value→List Value} {S:zx} {k:Nat} {s:Option (Value×zx)} {K:Value→zx→Option (List Value×zx)} {x:Nat×Nat} {nl:List (Nat×Nat)} {hist:List (Value×zx)} {pe:Value} (hK:∀ v S1,wC P fx chk (x::nl) call ops (k+1) (hist++[(pe,S)]) ((reg f i).toList.drop (n+1)) (T1 v) S1=K v S1) (hc:chk.contains k=false:=by kernel_rfl) (hpe:kD T (opAt f i n)=pe:=by kernel_rfl) (hl:l=(opAt f i n)::((reg f i).toList.drop (n+1)):=by kernel_rfl) (hg:(opAt f i n).guard=none:=by kernel_rfl) (hm:∀ v,vG (opAt f i n) ((reg f i).toList.drop (n+1)) T v=T1 v:=by exact fun _=>rfl) (hs:wS P fx call T (opAt f i n) S=s:=by kernel_rfl):wC P fx chk (x::nl) call ops k hist l T S=zU s K () :=
 aep hc hpe hl hg hm hs hK
theorem uDC (f:Func) (i n:Nat) {l:List Oper} {T:List Value} {T1:Value→List Value} {S:zx} {k:Nat} {s:Option (Value×zx)} {K:Value→zx→Option (List Value×zx)} {x:Nat×Nat} {nl:List (Nat×Nat)} {hist:List (Value×zx)} {pe:Value} (hK:∀ v S1,wC P fx chk (x::nl) call ops (k+1) (hist++[(pe,S)]) ((reg f i).toList.drop (n+1)) (T1 v) S1=K v S1) (hc:chk.contains k=true:=by kernel_rfl) (hpe:kD T (opAt f i n)=pe:=by kernel_rfl) (hl:l=(opAt f i n)::((reg f i).toList.drop (n+1)):=by kernel_rfl) (hg:(opAt f i n).guard=none:=by kernel_rfl) (hm:∀ v,vG (opAt f i n) ((reg f i).toList.drop (n+1)) T v=T1 v:=by exact fun _=>rfl) (hs:wS P fx call T (opAt f i n) S=s:=by kernel_rfl):wC P fx chk (x::nl) call ops k hist l T S=zU s (fun v S1=>okK v (K v S1) ()) () :=
 acv hc hpe hl hg hm hs hK
theorem uP (f:Func) (i n:Nat) {l:List Oper} {T:List Value} {T1:Value→List Value} {S:zx} {k:Nat} {v:Value} {r:Option (List Value×zx)} {x:Nat×Nat} {nl:List (Nat×Nat)} {hist:List (Value×zx)} {pe:Value} (hK:wC P fx chk (x::nl) call ops (k+1) (hist++[(pe,S)]) ((reg f i).toList.drop (n+1)) (T1 v) S=r) (hc:chk.contains k=false:=by kernel_rfl) (hpe:kD T (opAt f i n)=pe:=by kernel_rfl) (hl:l=(opAt f i n)::((reg f i).toList.drop (n+1)):=by kernel_rfl) (hg:(opAt f i n).guard=none:=by kernel_rfl) (hm:∀ v,vG (opAt f i n) ((reg f i).toList.drop (n+1)) T v=T1 v:=by exact fun _=>rfl) (hs:wS P fx call T (opAt f i n) S=some (v,S):=by kernel_rfl):wC P fx chk (x::nl) call ops k hist l T S=r :=
 abk hc hpe hl hg hm hs hK
theorem uPC (f:Func) (i n:Nat) {l:List Oper} {T:List Value} {T1:Value→List Value} {S:zx} {k:Nat} {v:Value} {r:Option (List Value×zx)} {x:Nat×Nat} {nl:List (Nat×Nat)} {hist:List (Value×zx)} {pe:Value} (hK:wC P fx chk (x::nl) call ops (k+1) (hist++[(pe,S)]) ((reg f i).toList.drop (n+1)) (T1 v) S=r) (hc:chk.contains k=true:=by kernel_rfl) (hpe:kD T (opAt f i n)=pe:=by kernel_rfl) (hl:l=(opAt f i n)::((reg f i).toList.drop (n+1)):=by kernel_rfl) (hg:(opAt f i n).guard=none:=by kernel_rfl) (hm:∀ v,vG (opAt f i n) ((reg f i).toList.drop (n+1)) T v=T1 v:=by exact fun _=>rfl) (hs:wS P fx call T (opAt f i n) S=some (v,S):=by kernel_rfl):wC P fx chk (x::nl) call ops k hist l T S=okK v r () :=
 Vh hc hpe hl hg hm hs hK
theorem uG (f:Func) (i n:Nat) {l:List Oper} {T:List Value} {T1:Value→List Value} {S:zx} {j k:Nat} {b:Bool} {g:Value} {s:M Value} {K:Value→zx→Option (List Value×zx)} {x:Nat×Nat} {nl:List (Nat×Nat)} {hist:List (Value×zx)} {pe:Value} (hK:∀ v S1,wC P fx chk (x::nl) call ops (k+1) (hist++[(pe,S)]) ((reg f i).toList.drop (n+1)) (T1 v) S1=K v S1) (hc:chk.contains k=false:=by kernel_rfl) (hpe:kD T (opAt f i n)=pe:=by kernel_rfl) (hl:l=(opAt f i n)::((reg f i).toList.drop (n+1)):=by kernel_rfl) (hg:(opAt f i n).guard=some (j,b):=by kernel_rfl) (hm:∀ v,vG (opAt f i n) ((reg f i).toList.drop (n+1)) T v=T1 v:=by exact fun _=>rfl) (hy:ynd ops T j=vb g:=by kernel_rfl) (hs:wS P fx call T (opAt f i n) S=s S:=by kernel_rfl):wC P fx chk (x::nl) call ops k hist l T S=gdK g b s S K () :=
 aeu hc hpe hl hg hm hy hs hK
theorem uGC (f:Func) (i n:Nat) {l:List Oper} {T:List Value} {T1:Value→List Value} {S:zx} {j k:Nat} {b:Bool} {g:Value} {s:M Value} {K:Value→zx→Option (List Value×zx)} {x:Nat×Nat} {nl:List (Nat×Nat)} {hist:List (Value×zx)} {pe:Value} (hK:∀ v S1,wC P fx chk (x::nl) call ops (k+1) (hist++[(pe,S)]) ((reg f i).toList.drop (n+1)) (T1 v) S1=K v S1) (hc:chk.contains k=true:=by kernel_rfl) (hpe:kD T (opAt f i n)=pe:=by kernel_rfl) (hl:l=(opAt f i n)::((reg f i).toList.drop (n+1)):=by kernel_rfl) (hg:(opAt f i n).guard=some (j,b):=by kernel_rfl) (hm:∀ v,vG (opAt f i n) ((reg f i).toList.drop (n+1)) T v=T1 v:=by exact fun _=>rfl) (hy:ynd ops T j=vb g:=by kernel_rfl) (hs:wS P fx call T (opAt f i n) S=s S:=by kernel_rfl):wC P fx chk (x::nl) call ops k hist l T S=abR g b s S K () :=
 adk hc hpe hl hg hm hy hs hK
end
end Go.Abs
namespace Go.Proofs.Ytblpnklfimkfoaa
open Go.Abs
def O0:Ora:=⟨fun _=>none,fun f=>([23,25,40]:List Nat).contains f,fun f=>([9,11,12,13,16,18,20,22,24,29,31,37,38,41]:List Nat).contains f⟩
theorem agf:Va zi O0:=aeb
end Go.Proofs.Ytblpnklfimkfoaa
namespace Go.Proofs.Ytblpnklfimkfoaa
open Go.Abs
abbrev jg.id:FuncId:=25
noncomputable def jg.code:Code:=(.seq (.region 0 (reg Try.f25 0) false) (.seq (.region 1 (reg Try.f25 1) false) (.seq (.region 2 (reg Try.f25 2) false) (.seq (.region 3 (reg Try.f25 3) false) Code.ret))))
theorem jg.body:Try.f25.body=some jg.code:=by kernel_rfl
variable (b m u c o p q r s t d f g i j k l:Value) (S:zx)
theorem jg.r0 :jF zi ⟨true,false,false⟩ (qQ O0.hp true (jm zi O0)) (reg Try.f25 0) (reg Try.f25 0).toList ([b,m,u,c,o,p,q,r,s,t,d,f,g,i,j,k,l]) S =
  ( some ([b,m,Value.slice none 0 0,c,o,p,q,r,s,t,d,f,g,i,j,k,l],S)):=by
 kernel_rfl
theorem jg.r1 :jF zi ⟨true,false,false⟩ (qQ O0.hp true (jm zi O0)) (reg Try.f25 1) (reg Try.f25 1).toList ([b,m,u,c,o,p,q,r,s,t,d,f,g,i,j,k,l]) S =
  (zU (wJ (dem b) S) (fun C n=>zU (zS zi 73 C 0 n) (fun w z=>zU (jE zi false 26 w z) (fun x A=>zU (ku zi 26 x A) (fun v B=>zU (wV zi 26 v v B) (fun y D=>some ([b,m,u,y,dem b,C,w,x,v,dem y,d,f,g,i,j,k,l],D)) ()) ()) ()) ()) ()):=by
 kernel_rfl
theorem jg.r2 :jF zi ⟨true,false,false⟩ (qQ O0.hp true (jm zi O0)) (reg Try.f25 2) (reg Try.f25 2).toList ([b,m,u,c,o,p,q,r,s,t,d,f,g,i,j,k,l]) S =
  (zU (wJ (dem b) S) (fun w n=>zU (zS zi 73 w 0 n) (fun x z=>zU (jE zi false 26 x z) (fun v A=>zU (Y0 zi 26 26 (dem c) v A) (fun y B=>some ([b,m,u,c,o,p,q,r,s,t,dem c,dem b,w,x,v,y,l],B)) ()) ()) ()) ()):=by
 kernel_rfl
theorem jg.r3 :jF zi ⟨true,false,false⟩ (qQ O0.hp true (jm zi O0)) (reg Try.f25 3) (reg Try.f25 3).toList ([b,m,u,c,o,p,q,r,s,t,d,f,g,i,j,k,l]) S =
  ( some ([b,m,c,dem c,o,p,q,r,s,t,d,f,g,i,j,k,dem c],S)):=by
 kernel_rfl
theorem jg.rs:type_of% (aij @jg.r0 (aij @jg.r1 (aij @jg.r2 (@jg.r3)))):=aij @jg.r0 (aij @jg.r1 (aij @jg.r2 (@jg.r3)))
theorem jg.runs {b:Value} {S n:zx} {e:AEx} {T:List Value} (h:zI zi O0 true jg.code ([b,zh,zh,zh,zh,zh,zh,zh,zh,zh,zh,zh,zh,zh,zh,zh,zh]) S=some (e,T,n)) (he:e=.normal∨e=.ret):jm zi O0 25 [b] S=some (T.getD 2 zh,n) :=
 wo rfl rfl Try.func25 (by decide) jg.body (by exact h) he (yD (a:=T.getD 2 zh) ((show zX zi T n Try.f25.results.toList=zX zi T n [(ResultVar.tmp 2)] from by kernel_rfl).trans (by simp only [zX])) (by kernel_rfl))
end Go.Proofs.Ytblpnklfimkfoaa
namespace Go.Proofs.Ytblpnklfimkfoaa
open Go.Abs
theorem ag1:zi.underlying 3=some (TypeDesc.int IntKind.i64):=by kernel_rfl
theorem abz:xA zi 3=some 1:=by kernel_rfl
theorem ahM:bytesOf zi 3=some 8:=by kernel_rfl
theorem ahJ:zeroOf zi 3=(some (Value.int IntKind.i64 0)):=by kernel_rfl
theorem JW:qZ zi 3=some false:=by kernel_rfl
theorem VG:zi.underlying 5=some (TypeDesc.int IntKind.u8):=by kernel_rfl
theorem xG:xA zi 5=some 1:=by kernel_rfl
theorem YT:bytesOf zi 5=some 1:=by kernel_rfl
theorem YO:zeroOf zi 5=(some (Value.int IntKind.u8 0)):=by kernel_rfl
theorem agI:qZ zi 5=some false:=by kernel_rfl
theorem aew:zi.underlying 9=some TypeDesc.string:=by kernel_rfl
theorem Zc:zi.underlying 22=some (TypeDesc.slice 28):=by kernel_rfl
theorem wF:zi.underlying 26=some (TypeDesc.slice 5):=by kernel_rfl
theorem YN:xA zi 26=some 1:=by kernel_rfl
theorem qg:qZ zi 26=some false:=by kernel_rfl
theorem vg:xA zi 28=some 5:=by kernel_rfl
theorem ab6:bytesOf zi 28=some 56:=by kernel_rfl
theorem acX:zeroOf zi 28=(some (Value.agg #[(Value.int IntKind.i64 0),(Value.int IntKind.i64 0),(Value.int IntKind.i64 0),(Value.int IntKind.i64 0),(Value.slice none 0 0)])):=by kernel_rfl
theorem WZ:qZ zi 28=some true:=by kernel_rfl
theorem xq:zi.underlying 36=some (TypeDesc.slice 43):=by kernel_rfl
theorem yT:xA zi 40=some 3:=by kernel_rfl
theorem Z4:qZ zi 40=some true:=by kernel_rfl
theorem qW:xA zi 43=some 8:=by kernel_rfl
theorem Ji:qZ zi 43=some true:=by kernel_rfl
theorem KU:zi.underlying 56=some (TypeDesc.slice 3):=by kernel_rfl
theorem WT:zi.underlying 75=some (TypeDesc.int IntKind.u64):=by kernel_rfl
theorem kZ (q o:Nat) (S:zx):zS zi 28 (.pointer (some ⟨q,o,none⟩)) 0 S=some (.pointer (some ⟨q,o+0,none⟩),S):=by kernel_rfl
theorem qE (q o:Nat) (S:zx):zS zi 28 (.pointer (some ⟨q,o,none⟩)) 1 S=some (.pointer (some ⟨q,o+1,none⟩),S):=by kernel_rfl
theorem qy (q o:Nat) (S:zx):zS zi 28 (.pointer (some ⟨q,o,none⟩)) 2 S=some (.pointer (some ⟨q,o+2,none⟩),S):=by kernel_rfl
theorem qw (q o:Nat) (S:zx):zS zi 28 (.pointer (some ⟨q,o,none⟩)) 3 S=some (.pointer (some ⟨q,o+3,none⟩),S):=by kernel_rfl
theorem qx (q o:Nat) (S:zx):zS zi 28 (.pointer (some ⟨q,o,none⟩)) 4 S=some (.pointer (some ⟨q,o+4,none⟩),S):=by kernel_rfl
theorem jW (q o:Nat) (S:zx):zS zi 40 (.pointer (some ⟨q,o,none⟩)) 0 S=some (.pointer (some ⟨q,o+0,none⟩),S):=by kernel_rfl
theorem yA (q o:Nat) (S:zx):zS zi 40 (.pointer (some ⟨q,o,none⟩)) 1 S=some (.pointer (some ⟨q,o+1,none⟩),S):=by kernel_rfl
theorem wH (q o:Nat) (S:zx):zS zi 40 (.pointer (some ⟨q,o,none⟩)) 2 S=some (.pointer (some ⟨q,o+2,none⟩),S):=by kernel_rfl
theorem wU (q o:Nat) (S:zx):zS zi 43 (.pointer (some ⟨q,o,none⟩)) 0 S=some (.pointer (some ⟨q,o+0,none⟩),S):=by kernel_rfl
theorem kR (q o:Nat) (S:zx):zS zi 43 (.pointer (some ⟨q,o,none⟩)) 1 S=some (.pointer (some ⟨q,o+1,none⟩),S):=by kernel_rfl
theorem Zn (q o:Nat) (S:zx):zS zi 43 (.pointer (some ⟨q,o,none⟩)) 2 S=some (.pointer (some ⟨q,o+2,none⟩),S):=by kernel_rfl
theorem Zl (q o:Nat) (S:zx):zS zi 43 (.pointer (some ⟨q,o,none⟩)) 3 S=some (.pointer (some ⟨q,o+7,none⟩),S):=by kernel_rfl
theorem yR (q o:Nat) (S:zx):zS zi 73 (.pointer (some ⟨q,o,none⟩)) 0 S=some (.pointer (some ⟨q,o+0,none⟩),S):=by kernel_rfl
theorem Z7 (q o:Nat) (S:zx):zS zi 73 (.pointer (some ⟨q,o,none⟩)) 1 S=some (.pointer (some ⟨q,o+1,none⟩),S):=by kernel_rfl
theorem Jd (q o:Nat) (S:zx):zS zi 73 (.pointer (some ⟨q,o,none⟩)) 2 S=some (.pointer (some ⟨q,o+2,none⟩),S):=by kernel_rfl
theorem aa6 {fx:Bool} {x0 x1 x2 x3 x4:Value} {S:zx}:jE zi fx 28 (EP [x0,x1,x2,x3,x4]) S=some (.agg [x0,x1,x2,x3,x4].toArray,S):=XC WZ vg rfl
theorem aaY {q:Nat} {x0 x1 x2 x3 x4:Value} {own:Own} {e:Nat} {S:zx} (h:S.get q=some (.cells [x0,x1,x2,x3,x4] own e)):jE zi false 28 (.pointer (some ⟨q,0,none⟩)) S=some (.agg [xB x0,xB x1,xB x2,xB x3,xB x4].toArray,S):=(Kv (o:=0) h WZ vg (by simp)).trans (by simp)
theorem Zr {q:Nat} {x0 x1 x2:Value} {own:Own} {e:Nat} {S:zx} (h:S.get q=some (.cells [x0,x1,x2] own e)):jE zi false 40 (.pointer (some ⟨q,0,none⟩)) S=some (.agg [xB x0,xB x1,xB x2].toArray,S):=(Kv (o:=0) h Z4 yT (by simp)).trans (by simp)
theorem yx {fx:Bool} {x0 x1 x2 x3 x4 x5 x6 x7:Value} {S:zx}:jE zi fx 43 (EP [x0,x1,x2,x3,x4,x5,x6,x7]) S=some (.agg [x0,x1,x2,x3,x4,x5,x6,x7].toArray,S):=XC Ji qW rfl
theorem Qw  (S:zx):yu zi 28 [] S=some (.agg [(Value.int IntKind.i64 0),(Value.int IntKind.i64 0),(Value.int IntKind.i64 0),(Value.int IntKind.i64 0),(Value.slice none 0 0)].toArray,S):=by
 kernel_rfl
theorem xI {y0 y1 y2 y3 y4:Value} (h0:y0.cells=#[y0]) (h1:y1.cells=#[y1]) (h2:y2.cells=#[y2]) (h3:y3.cells=#[y3]) (h4:y4.cells=#[y4]) (S:zx):yu zi 28 [(0,y0),(1,y1),(2,y2),(3,y3),(4,y4)] S=some (.agg [y0,y1,y2,y3,y4].toArray,S):=by
 rw [show yu zi 28 [(0,y0),(1,y1),(2,y2),(3,y3),(4,y4)] S=(match Zp ([(0,1),(1,1),(2,1),(3,1),(4,1)][·]?) [(Value.int IntKind.i64 0),(Value.int IntKind.i64 0),(Value.int IntKind.i64 0),(Value.int IntKind.i64 0),(Value.slice none 0 0)] [(0,y0),(1,y1),(2,y2),(3,y3),(4,y4)] with | some l=>some (.agg l.toArray,S) | none=>none) from by kernel_rfl]
 simp [Zp,splice,yH,h0,h1,h2,h3,h4]
theorem ZI  (S:zx):yu zi 40 [] S=some (.agg [(Value.slice none 0 0),(Value.int IntKind.i64 0),(Value.int IntKind.i64 0)].toArray,S):=by
 kernel_rfl
theorem vO {y0 y2:Value} (h0:y0.cells=#[y0]) (h2:y2.cells=#[y2]) (S:zx):yu zi 40 [(0,y0),(2,y2)] S=some (.agg [y0,(Value.int IntKind.i64 0),y2].toArray,S):=by
 rw [show yu zi 40 [(0,y0),(2,y2)] S=(match Zp ([(0,1),(1,1),(2,1)][·]?) [(Value.slice none 0 0),(Value.int IntKind.i64 0),(Value.int IntKind.i64 0)] [(0,y0),(2,y2)] with | some l=>some (.agg l.toArray,S) | none=>none) from by kernel_rfl]
 simp [Zp,splice,yH,h0,h2]
theorem XD  (S:zx):yu zi 73 [] S=some (.agg [(Value.slice none 0 0),(Value.int IntKind.i64 0),(Value.int IntKind.i64 0)].toArray,S):=by
 kernel_rfl
@[simp] theorem qH (k:IntKind) (n:Int) (H:zx):yE zi 3 75 (.int k n) H=some (.int IntKind.u64 (IntKind.wrap IntKind.u64 n),H):=Jz ag1 WT k n
@[simp] theorem ZA (k:IntKind) (n:Int) (H:zx):yE zi 5 75 (.int k n) H=some (.int IntKind.u64 (IntKind.wrap IntKind.u64 n),H):=Jz VG WT k n
@[simp] theorem xJ (k:IntKind) (n:Int) (H:zx):yE zi 75 3 (.int k n) H=some (.int IntKind.i64 (IntKind.wrap IntKind.i64 n),H):=Jz WT ag1 k n
@[simp] theorem xZ (k:IntKind) (n:Int) (H:zx):yE zi 75 5 (.int k n) H=some (.int IntKind.u8 (IntKind.wrap IntKind.u8 n),H):=Jz WT VG k n
theorem Y3 (S:zx):jH zi 22 0 [] S=some (sv 2 5 0 [],S):=by kernel_rfl
theorem kC (S:zx):jH zi 26 0 [] S=some (sv 2 1 0 [],S):=by kernel_rfl
theorem xE (x0:Int) (S:zx):jH zi 26 1 [(0,.int IntKind.u8 x0)] S=some (sv 2 1 1 [.int IntKind.u8 x0],S):=by kernel_rfl
theorem abp (S:zx):jH zi 56 0 [] S=some (sv 2 1 0 [],S):=by kernel_rfl
theorem Qz (x0:Int) (S:zx):jH zi 56 1 [(0,.int IntKind.i64 x0)] S=some (sv 2 1 1 [.int IntKind.i64 x0],S):=by kernel_rfl
theorem yX {k:Nat} {l:List UInt8} {S:zx} (h:Okl k l):ku zi 26 (by_ k l) S=some (goInt l.length,S):=aaq wF h
theorem agA {k:Nat} {l:List UInt8} {S:zx} {ki:IntKind} {i:Int} (h:Okl k l) (h0:0≤i) (hi:i < l.length):jI zi 26 (by_ k l) (.int ki i) S=some (EP [.int .u8 (l[i.toNat]'(by omega)).toNat],S):=ae0 wF xG XM h h0 hi
theorem KH {fx:Bool} {v:Value} {S:zx}:jE zi fx 5 (EP [v]) S=some (v,S):=XG agI
theorem xO {k:Nat} {l:List UInt8} {S:zx} {lo hi:Option Value} {i j:Int} (h:Okl k l) (hlo:kM 0 lo=some i) (hhi:kM l.length hi=some j) (h0:0≤i) (hij:i≤j) (hj:j≤l.length):qY zi 26 (by_ k l) lo hi S=some (by_ (if k=2 then 1 else k) ((l.drop i.toNat).take (j.toNat - i.toNat)),S):=ae6 wF xG XM h hlo hhi h0 hij hj
theorem y9 {k:Nat} {l:List UInt8} {S:zx} {j:Nat} {m:List UInt8} (h:Okl k l) (hk:k≠1) (hm:Okl j m) (hl:l.length+m.length≤140737488355328):jV zi 26 26 (by_ k l) (by_ j m) S=some (by_ (if k=0∧m.length=0 then 0 else 2) (l++m),S):=YD wF xG YO rfl YT (by omega) wF XM ahj h hk hm (by omega) (by omega)
theorem QV {k:Nat} {l:List UInt8} {S:zx} (h:Okl k l) (hl:l.length≤140737488355328):jV zi 26 26 (by_ 2 []) (by_ k l) S=some (by_ 2 l,S):=by
 rw [y9 Okl.own (by decide) h (by simpa using hl)];rfl
theorem aeP {k:Nat} {l:List UInt8} {S:zx} (h:Okl k l):wu zi .eql 26 (by_ k l) (.slice none 0 0) S=some (.bool (decide (k=0)),S):=aeS wF h
theorem Qp {k:Nat} {l:List UInt8} {S:zx} (h:Okl k l):vW zi 26 9 (by_ k l) S=some (.string ⟨l.toArray⟩,S):=acI wF VG aew h
theorem Xe {k:Nat} {l:List Int} {S:zx} (h:Okl k l):ku zi 56 (iz k l) S=some (goInt l.length,S):=aaq KU h
theorem aek {k:Nat} {l:List Int} {S:zx} {ki:IntKind} {i:Int} (h:Okl k l) (h0:0≤i) (hi:i < l.length):jI zi 56 (iz k l) (.int ki i) S=some (EP [.int .i64 (l[i.toNat]'(by omega))],S):=ae0 KU abz afQ h h0 hi
theorem xH {fx:Bool} {v:Value} {S:zx}:jE zi fx 3 (EP [v]) S=some (v,S):=XG JW
theorem adi {k:Nat} {l:List Int} {S:zx} {j:Nat} {m:List Int} (h:Okl k l) (hk:k≠1) (hm:Okl j m) (hl:l.length+m.length≤17592186044416):jV zi 56 56 (iz k l) (iz j m) S=some (iz (if k=0∧m.length=0 then 0 else 2) (l++m),S):=YD KU abz ahJ rfl ahM (by omega) KU afQ ahE h hk hm (by omega) (by omega)
theorem wk:type_of% (aij @Ql (aij @JH (aij @Ws (aij @Ye (aij @Qh (aij @Yq (aij @W9 (aij @WX (aij @Wy (aij @Xk (aij @Yf (aij @XR (aij @aap (aij @JK (aij @Qv (aij @YJ (aij @Qq (aij @Yt (aij @XQ (aij @afs (aij @afM (aij @afK (aij @aff (aij @afF (aij @acs (aij @acJ (aij @adh (aij @acB (aij @ada (aij @V5 (aij @WE (aij @X3 (aij @Bool.and_true (aij @Bool.true_and (aij @Bool.and_self (aij @V8 (aij @adD (aij @Qe (aij @Xh (aij @Yz (aij @afE (aij @afi (aij @afO (aij @afL (aij @ahi (aij @ahg (aij @agZ (aij @ahC (aij @ag4 (aij @afD (aij @afH (aij @afG (aij @afq (aij @afu (aij @ab8 (aij @Qy (aij @Bool.false_eq_true (aij @aaz (aij @ab7 (aij @Qu (aij @Xv (aij @XP (aij @aft (aij @XL (aij @afJ (aij @YL (aij @ab4 (aij @aav (aij @Y6 (aij @acg (aij @ac1 (aij @V9 (aij @Yi (aij @XA (aij @adQ (aij @Qm (aij @aax (aij @QW (aij @aaf (aij @Yo (aij @XF (aij @Xl (aij @Qi (aij @JB (aij @Z8 (aij @WY (aij @vY (aij @Wi (aij @JZ (aij @Je (aij @Ja (aij @Z9 (aij @QI (aij @KL (aij @aag (aij @QY (aij @QO (aij @KO (aij @QT (aij @KQ (aij @KA (aij @acM (aij @Bool.not_true (aij @Bool.not_false (aij @Bool.true_eq_false (aij @decide_true (aij @decide_false (aij @ab3 (aij @adT (aij @acS (aij @abL (aij @adV (aij @adq (aij @ace (aij @ac6 (aij @adY (aij @acP (aij @abO (aij @abS (aij @adv (aij @ac7 (@adH)))))))))))))))))))))))))))))))))))))))))))))))))))))))))))))))))))))))))))))))))))))))))))))))))))))))))))))))))))))))))):=aij @Ql (aij @JH (aij @Ws (aij @Ye (aij @Qh (aij @Yq (aij @W9 (aij @WX (aij @Wy (aij @Xk (aij @Yf (aij @XR (aij @aap (aij @JK (aij @Qv (aij @YJ (aij @Qq (aij @Yt (aij @XQ (aij @afs (aij @afM (aij @afK (aij @aff (aij @afF (aij @acs (aij @acJ (aij @adh (aij @acB (aij @ada (aij @V5 (aij @WE (aij @X3 (aij @Bool.and_true (aij @Bool.true_and (aij @Bool.and_self (aij @V8 (aij @adD (aij @Qe (aij @Xh (aij @Yz (aij @afE (aij @afi (aij @afO (aij @afL (aij @ahi (aij @ahg (aij @agZ (aij @ahC (aij @ag4 (aij @afD (aij @afH (aij @afG (aij @afq (aij @afu (aij @ab8 (aij @Qy (aij @Bool.false_eq_true (aij @aaz (aij @ab7 (aij @Qu (aij @Xv (aij @XP (aij @aft (aij @XL (aij @afJ (aij @YL (aij @ab4 (aij @aav (aij @Y6 (aij @acg (aij @ac1 (aij @V9 (aij @Yi (aij @XA (aij @adQ (aij @Qm (aij @aax (aij @QW (aij @aaf (aij @Yo (aij @XF (aij @Xl (aij @Qi (aij @JB (aij @Z8 (aij @WY (aij @vY (aij @Wi (aij @JZ (aij @Je (aij @Ja (aij @Z9 (aij @QI (aij @KL (aij @aag (aij @QY (aij @QO (aij @KO (aij @QT (aij @KQ (aij @KA (aij @acM (aij @Bool.not_true (aij @Bool.not_false (aij @Bool.true_eq_false (aij @decide_true (aij @decide_false (aij @ab3 (aij @adT (aij @acS (aij @abL (aij @adV (aij @adq (aij @ace (aij @ac6 (aij @adY (aij @acP (aij @abO (aij @abS (aij @adv (aij @ac7 (@adH)))))))))))))))))))))))))))))))))))))))))))))))))))))))))))))))))))))))))))))))))))))))))))))))))))))))))))))))))))))))))
theorem zSs:type_of% (aij wk (aij (@List.getD_cons_succ Value) (aij (@List.getD_cons_zero Value) (aij @if_true.{1} (aij @if_false.{1} (aij (@List.getElem?_cons_succ Value) (aij (@List.getElem?_cons_zero Value) (aij @Option.map_some.{0,0} @eq_self.{1})))))))):=aij wk (aij (@List.getD_cons_succ Value) (aij (@List.getD_cons_zero Value) (aij @if_true.{1} (aij @if_false.{1} (aij (@List.getElem?_cons_succ Value) (aij (@List.getElem?_cons_zero Value) (aij @Option.map_some.{0,0} @eq_self.{1})))))))
end Go.Proofs.Ytblpnklfimkfoaa
namespace Go.Proofs.Ytblpnklfimkfoaa
open Go.Abs
def Y9 (args:List Value):M Value:=fun S =>
 match args with
 | [.pointer (some ⟨q,0,none⟩)]=>match S.get q with
  | some (.cells (dv::_) _ _)=>if q < S.next then match dv with
   | .slice none 0 0=>some (SL 2 1 0 [],S)
   | .slice (some ⟨r,0,none⟩) n _=>match S.get r with
    | some (.cells cs _ _)=>if n≤cs.length then if (cs.take n).all sg then if n≤140737488355328 then if r < S.next then some (SL 2 1 n (cs.take n),S) else none else none else none else none
    | _=>none
   | _=>none
   else none
  | _=>none
 | _=>none
theorem ZT {cs xs:List Value} (h:cs.length=xs.length):splice cs 0 xs=xs:=by
 unfold splice
 rw [List.take_zero,List.nil_append,Nat.zero_add,← h,List.drop_length,List.append_nil]
theorem J6 {l:List Value} (h:l.all sg=true):l.all (·.oneCell')=true:=by
 rw [List.all_eq_true] at *
 intro x hx
 have:=h x hx
 cases x <;> first | rfl | (simp [sg] at this)
theorem jg.nil {S:zx} {q e:Nat} {rest:List Value} {own:Own} (hq:S.get q=some (.cells (.slice none 0 0::rest) own e)) (hlt:q < S.next) :
  jm zi O0 jg.id [.pointer (some ⟨q,0,none⟩)] S=some (.slice (some ⟨S.next,0,none⟩) 0 0,S.push (.cells [] (.own []) 1)):=by
 obtain ⟨T,hTe⟩:∃ T,T=(.pointer (some ⟨q,0,none⟩)::zh::zh::zh::zh::zh::zh::zh::zh::zh::zh::zh::zh::zh::zh::zh::zh::[]):=⟨_,rfl⟩
 have hr:zI zi O0 true jg.code T S=zI zi O0 true jg.code T S:=rfl
 have l1:=Zw (t:=26) (o:=0+0) hq qg rfl
 have m1:=aaw (S:=S) (k:=.i64) (k2:=.i64) (l:=0) wF xG YO YT rfl rfl (by decide) (by decide) (by decide)
 have hq2:(S.push (.cells (zl (Value.int .u8 0).cells.toList 0) (.own []) 1)).get q=some (.cells (.slice none 0 0::rest) own e):=by rw [zx.jJ,if_neg (by omega)];exact hq
 have l2:=Zw (t:=26) (o:=0+0) hq2 qg rfl
 have c2:=XB (P:=zi) (t:=26) (tx:=26) (S:=S.push (.cells (zl (Value.int .u8 0).cells.toList 0) (.own []) 1)) wF xG 0 (.slice none 0 0) ⟨_,rfl⟩ (some ⟨S.next,0,none⟩) (.inr ⟨_,_,rfl⟩)
 have ln:=fun S=>Yu wF none 0 0 S
 conv at hr =>
  rhs
  rw [hTe]
  simp only [jg.code,jg.rs,zSs,reduceIte,zk,zn,zo,zq,y7,yR,l1,ln,goInt,m1,l2,c2]
 rw [hTe] at hr
 exact jg.runs hr (.inr rfl)
theorem jg.full {S:zx} {q e r n c i:Nat} {rest cs:List Value} {own own2:Own} (hq:S.get q=some (.cells (.slice (some ⟨r,0,none⟩) n c::rest) own e)) (hlt:q < S.next) (hg:S.get r=some (.cells cs own2 i)) (hn:n≤cs.length)
  (hs:(cs.take n).all sg=true) (hb:n≤140737488355328) (hrn:r < S.next) :
  ∃ S1,jm zi O0 jg.id [.pointer (some ⟨q,0,none⟩)] S=some (.slice (some ⟨S.next,0,none⟩) n n,S1)∧Ext S S1∧S1.get S.next=some (.cells (cs.take n) (.own []) 1):=by
 obtain ⟨T,hTe⟩:∃ T,T=(.pointer (some ⟨q,0,none⟩)::zh::zh::zh::zh::zh::zh::zh::zh::zh::zh::zh::zh::zh::zh::zh::zh::[]):=⟨_,rfl⟩
 have hr:zI zi O0 true jg.code T S=zI zi O0 true jg.code T S:=rfl
 have l1:=Zw (t:=26) (o:=0+0) hq qg rfl
 have m1:=aaw (S:=S) (k:=.i64) (k2:=.i64) (l:=n) wF xG YO YT rfl rfl (by decide) (by omega) (by omega)
 have hq2:(S.push (.cells (zl (Value.int .u8 0).cells.toList n) (.own []) 1)).get q=some (.cells (.slice (some ⟨r,0,none⟩) n c::rest) own e):=by rw [zx.jJ,if_neg (by omega)];exact hq
 have hg2:(S.push (.cells (zl (Value.int .u8 0).cells.toList n) (.own []) 1)).get r=some (.cells cs own2 i):=by rw [zx.jJ,if_neg (by omega)];exact hg
 have hg3:(S.push (.cells (zl (Value.int .u8 0).cells.toList n) (.own []) 1)).get S.next=some (.cells (zl (Value.int .u8 0).cells.toList n) (.own []) 1):=by rw [zx.jJ,if_pos rfl]
 have l2:=Zw (t:=26) (o:=0+0) hq2 qg rfl
 have ln:=fun S=>Yu wF (some ⟨r,0,none⟩) n c S
 by_cases h0:n=0
 ·
  subst h0
  have c2:Y0 zi 26 26 (.slice (some ⟨S.next,0,none⟩) 0 0) (.slice (some ⟨r,0,none⟩) 0 c) (S.push (.cells (zl (Value.int .u8 0).cells.toList 0) (.own []) 1))=some (goInt 0,S.push (.cells (zl (Value.int .u8 0).cells.toList 0) (.own []) 1)) :=
   XB wF xG 0 _ ⟨_,rfl⟩ (some ⟨S.next,0,none⟩) (.inr ⟨_,_,rfl⟩)
  conv at hr =>
   rhs
   rw [hTe]
   simp only [jg.code,jg.rs,zSs,reduceIte,zk,zn,zo,zq,y7,yR,l1,ln,goInt,m1,l2,c2]
  rw [hTe] at hr
  have hrun:=jg.runs hr (.inr rfl)
  exact ⟨_,hrun,Ext.push _ _,hg3⟩
 ·
  have c2:=af4 (t:=26) (tx:=26) (o:=0) (o2:=0) (c:=n) (c2:=c) wF xG hg2 (n:=n) (by omega) hg3 h0 (by rw [aat];show 0+n * 1≤n * 1;omega) (by rw [List.drop_zero,Nat.mul_one];exact J6 hs)
  conv at hr =>
   rhs
   rw [hTe]
   simp only [jg.code,jg.rs,zSs,reduceIte,zk,zn,zo,zq,y7,yR,l1,ln,goInt,m1,l2,c2]
  rw [hTe] at hr
  have hrun:=jg.runs hr (.inr rfl)
  refine ⟨_,hrun,(Ext.push _ _).set (Nat.le_refl _) _,?_⟩
  rw [zx.jS,if_pos rfl,List.drop_zero,Nat.mul_one,ZT (by rw [aat,List.length_take,Nat.min_eq_left hn];show n * 1=n;omega)]
theorem adN:JF zi (fun g args=>if g=25 then Y9 args else fun _=>none):=by
 refine ahr agf fun args S v S' h=>?_
 unfold Y9 at h
 split at h <;> first | (cases h;done) | skip
 rename_i q
 split at h <;> first | (cases h;done) | skip
 rename_i dv rest own e hq
 split at h <;> first | (cases h;done) | skip
 rename_i hlt
 split at h <;> first | (cases h;done) | skip
 ·
  cases h
  exact ⟨rfl,_,_,jg.nil hq hlt,Ext.push _ _,.own rfl (Nat.le_refl _) (by rw [zx.jJ,if_pos rfl]) rfl rfl⟩
 ·
  rename_i r n c
  split at h <;> first | (cases h;done) | skip
  rename_i cs own2 i hg
  split at h <;> first | (cases h;done) | skip
  rename_i h1
  split at h <;> first | (cases h;done) | skip
  rename_i h2
  split at h <;> first | (cases h;done) | skip
  rename_i h3
  split at h <;> first | (cases h;done) | skip
  rename_i h4
  cases h
  obtain ⟨S1,k1,k2,k3⟩:=jg.full hq hlt hg h1 h2 h3 h4
  exact ⟨rfl,_,S1,k1,k2,.own rfl (Nat.le_refl _) k3 (by rw [List.length_take,Nat.min_eq_left h1,Nat.mul_one]) h2⟩
end Go.Proofs.Ytblpnklfimkfoaa
namespace Go.Proofs.Ytblpnklfimkfoaa
open Go.Abs
def O:Ora:=⟨fun f=>if f=25 then some Y9 else none,fun f=>([23,25,40]:List Nat).contains f,fun f=>([9,11,12,13,16,18,20,22,24,29,31,37,38,41]:List Nat).contains f⟩
theorem ag6:Va zi O:=by
 intro f q h
 simp only [O] at h
 split at h
 ·
  rename_i hf;subst hf;cases h;exact adN
 ·
  cases h
end Go.Proofs.Ytblpnklfimkfoaa
namespace Go.Proofs.Ytblpnklfimkfoaa
open Go.Abs
noncomputable def zu.jG:Code:=(.seq (.region 8 (reg Try.f5 8) false) (.seq (.cond (.tmp 32) Code.skip (.exit 0)) (.seq (.block 1 (.seq (.region 9 (reg Try.f5 9) false) (.seq (.region 10 (reg Try.f5 10) false) (.seq (.seq (.region 11 (reg Try.f5 11) false) (.block 2 (.seq (.region 12 (reg Try.f5 12) false) (.cond (.tmp 37) (.seq (.region 13 (reg Try.f5 13) false) (.region 14 (reg Try.f5 14) false)) (.seq (.region 15 (reg Try.f5 15) false) (.cond (.tmp 50) (.seq (.region 16 (reg Try.f5 16) false) (.region 17 (reg Try.f5 17) false)) (.seq (.region 18 (reg Try.f5 18) false) (.cond (.tmp 56) (.seq (.region 19 (reg Try.f5 19) false) (.region 20 (reg Try.f5 20) false)) (.seq (.region 21 (reg Try.f5 21) false) (.cond (.tmp 66) (.seq (.region 22 (reg Try.f5 22) false) (.region 23 (reg Try.f5 23) false)) Code.skip)))))))))) (.seq (.region 24 (reg Try.f5 24) false) (.seq (.region 25 (reg Try.f5 25) true) (.cond (.tmp 105) (.seq (.region 26 (reg Try.f5 26) false) Code.ret) Code.skip))))))) (.region 27 (reg Try.f5 27) false))))
noncomputable def zu.code:Code:=(.seq (.region 0 (reg Try.f5 0) false) (.seq (.seq (.region 1 (reg Try.f5 1) false) (.cond (.tmp 14) (.seq (.region 2 (reg Try.f5 2) false) Code.ret) Code.skip)) (.seq (.region 3 (reg Try.f5 3) false) (.seq (.region 4 (reg Try.f5 4) false) (.seq (.seq (.region 5 (reg Try.f5 5) false) (.cond (.tmp 26) (.seq (.region 6 (reg Try.f5 6) false) Code.ret) Code.skip)) (.seq (.seq (.region 7 (reg Try.f5 7) false) (.block 0 (.loop zu.jG))) (.seq (.region 28 (reg Try.f5 28) false) Code.ret)))))))
theorem zu.body:Try.f5.body=some zu.code:=by kernel_rfl
theorem zu.eta {T:List Value} (h:T.length=107):T=[T.getD 0 zh,T.getD 1 zh,T.getD 2 zh,T.getD 3 zh,T.getD 4 zh,T.getD 5 zh,T.getD 6 zh,T.getD 7 zh,T.getD 8 zh,T.getD 9 zh,T.getD 10 zh,T.getD 11 zh,T.getD 12 zh,T.getD 13 zh,T.getD 14 zh,T.getD 15 zh,T.getD 16 zh,T.getD 17 zh,T.getD 18 zh,T.getD 19 zh,T.getD 20 zh,T.getD 21 zh,T.getD 22 zh,T.getD 23 zh,T.getD 24 zh,T.getD 25 zh,T.getD 26 zh,T.getD 27 zh,T.getD 28 zh,T.getD 29 zh,T.getD 30 zh,T.getD 31 zh,T.getD 32 zh,T.getD 33 zh,T.getD 34 zh,T.getD 35 zh,T.getD 36 zh,T.getD 37 zh,T.getD 38 zh,T.getD 39 zh,T.getD 40 zh,T.getD 41 zh,T.getD 42 zh,T.getD 43 zh,T.getD 44 zh,T.getD 45 zh,T.getD 46 zh,T.getD 47 zh,T.getD 48 zh,T.getD 49 zh,T.getD 50 zh,T.getD 51 zh,T.getD 52 zh,T.getD 53 zh,T.getD 54 zh,T.getD 55 zh,T.getD 56 zh,T.getD 57 zh,T.getD 58 zh,T.getD 59 zh,T.getD 60 zh,T.getD 61 zh,T.getD 62 zh,T.getD 63 zh,T.getD 64 zh,T.getD 65 zh,T.getD 66 zh,T.getD 67 zh,T.getD 68 zh,T.getD 69 zh,T.getD 70 zh,T.getD 71 zh,T.getD 72 zh,T.getD 73 zh,T.getD 74 zh,T.getD 75 zh,T.getD 76 zh,T.getD 77 zh,T.getD 78 zh,T.getD 79 zh,T.getD 80 zh,T.getD 81 zh,T.getD 82 zh,T.getD 83 zh,T.getD 84 zh,T.getD 85 zh,T.getD 86 zh,T.getD 87 zh,T.getD 88 zh,T.getD 89 zh,T.getD 90 zh,T.getD 91 zh,T.getD 92 zh,T.getD 93 zh,T.getD 94 zh,T.getD 95 zh,T.getD 96 zh,T.getD 97 zh,T.getD 98 zh,T.getD 99 zh,T.getD 100 zh,T.getD 101 zh,T.getD 102 zh,T.getD 103 zh,T.getD 104 zh,T.getD 105 zh,T.getD 106 zh]:=(yJ T 107 h).trans (by kernel_rfl)
variable (x0 x1 x2 x3 x4 x5 x6 x7 x8 x9 n o r s t u w x y z A B C D E F G H I p q m J K L M l N P Q R U V W X Y Z a0 a1 a2 a3 a4 a5 a6 a7 a8 a9 b0 b1 b2 b3 b4 b5 b6 b7 b8 b9 c0 c1 c2 c3 c4 c5 c6 c7 c8 c9 d0 d1 d2 d3 d4 d5 d6 d7 d8 d9 f0 f1 f2 f3 f4 f6 f7 f8 f9 g0 g1 g2 g3 b c d f g i k:Value) (S:zx)
theorem zu.r0 :jF zi ⟨false,false,false⟩ (jm zi O) (reg Try.f5 0) (reg Try.f5 0).toList ([x0,x1,x2,x3,x4,x5,x6,x7,x8,x9,n,o,r,s,t,u,w,x,y,z,A,B,C,D,E,F,G,H,I,p,q,m,J,K,L,M,l,N,P,Q,R,U,V,W,X,Y,Z,a0,a1,a2,a3,a4,a5,a6,a7,a8,a9,b0,b1,b2,b3,b4,b5,b6,b7,b8,b9,c0,c1,c2,c3,c4,c5,c6,c7,c8,c9,d0,d1,d2,d3,d4,d5,d6,d7,d8,d9,f0,f1,f2,f3,f4,f6,f7,f8,f9,g0,g1,g2,g3,b,c,d,f,g,i,k]) S =
  ( some ([x0,x1,x2,x3,Value.bool false,x5,x6,x7,x8,x9,n,o,r,s,t,u,w,x,y,z,A,B,C,D,E,F,G,H,I,p,q,m,J,K,L,M,l,N,P,Q,R,U,V,W,X,Y,Z,a0,a1,a2,a3,a4,a5,a6,a7,a8,a9,b0,b1,b2,b3,b4,b5,b6,b7,b8,b9,c0,c1,c2,c3,c4,c5,c6,c7,c8,c9,d0,d1,d2,d3,d4,d5,d6,d7,d8,d9,f0,f1,f2,f3,f4,f6,f7,f8,f9,g0,g1,g2,g3,b,c,d,f,g,i,k],S)):=by
 kernel_rfl
theorem zu.r1 :jF zi ⟨false,false,false⟩ (jm zi O) (reg Try.f5 1) (reg Try.f5 1).toList ([x0,x1,x2,x3,x4,x5,x6,x7,x8,x9,n,o,r,s,t,u,w,x,y,z,A,B,C,D,E,F,G,H,I,p,q,m,J,K,L,M,l,N,P,Q,R,U,V,W,X,Y,Z,a0,a1,a2,a3,a4,a5,a6,a7,a8,a9,b0,b1,b2,b3,b4,b5,b6,b7,b8,b9,c0,c1,c2,c3,c4,c5,c6,c7,c8,c9,d0,d1,d2,d3,d4,d5,d6,d7,d8,d9,f0,f1,f2,f3,f4,f6,f7,f8,f9,g0,g1,g2,g3,b,c,d,f,g,i,k]) S =
  (zU ((jm zi O) 10 [] S) (fun v0 S1=>zU (aUn zi UnOp.not v0 S1) (fun v1 S2=>some ([x0,x1,x2,x3,x4,x5,x6,x7,x8,x9,n,o,r,v0,v1,u,w,x,y,z,A,B,C,D,E,F,G,H,I,p,q,m,J,K,L,M,l,N,P,Q,R,U,V,W,X,Y,Z,a0,a1,a2,a3,a4,a5,a6,a7,a8,a9,b0,b1,b2,b3,b4,b5,b6,b7,b8,b9,c0,c1,c2,c3,c4,c5,c6,c7,c8,c9,d0,d1,d2,d3,d4,d5,d6,d7,d8,d9,f0,f1,f2,f3,f4,f6,f7,f8,f9,g0,g1,g2,g3,b,c,d,f,g,i,k],S2)) ()) ()):=by
 kernel_rfl
theorem zu.r2 :jF zi ⟨false,false,false⟩ (jm zi O) (reg Try.f5 2) (reg Try.f5 2).toList ([x0,x1,x2,x3,x4,x5,x6,x7,x8,x9,n,o,r,s,t,u,w,x,y,z,A,B,C,D,E,F,G,H,I,p,q,m,J,K,L,M,l,N,P,Q,R,U,V,W,X,Y,Z,a0,a1,a2,a3,a4,a5,a6,a7,a8,a9,b0,b1,b2,b3,b4,b5,b6,b7,b8,b9,c0,c1,c2,c3,c4,c5,c6,c7,c8,c9,d0,d1,d2,d3,d4,d5,d6,d7,d8,d9,f0,f1,f2,f3,f4,f6,f7,f8,f9,g0,g1,g2,g3,b,c,d,f,g,i,k]) S =
  ( some ([x0,x1,x2,x3,Value.bool false,x5,x6,x7,x8,x9,n,o,r,s,t,u,w,x,y,z,A,B,C,D,E,F,G,H,I,p,q,m,J,K,L,M,l,N,P,Q,R,U,V,W,X,Y,Z,a0,a1,a2,a3,a4,a5,a6,a7,a8,a9,b0,b1,b2,b3,b4,b5,b6,b7,b8,b9,c0,c1,c2,c3,c4,c5,c6,c7,c8,c9,d0,d1,d2,d3,d4,d5,d6,d7,d8,d9,f0,f1,f2,f3,f4,f6,f7,f8,f9,g0,g1,g2,g3,b,c,d,f,g,i,k],S)):=by
 kernel_rfl
theorem zu.r3 :jF zi ⟨false,false,false⟩ (jm zi O) (reg Try.f5 3) (reg Try.f5 3).toList ([x0,x1,x2,x3,x4,x5,x6,x7,x8,x9,n,o,r,s,t,u,w,x,y,z,A,B,C,D,E,F,G,H,I,p,q,m,J,K,L,M,l,N,P,Q,R,U,V,W,X,Y,Z,a0,a1,a2,a3,a4,a5,a6,a7,a8,a9,b0,b1,b2,b3,b4,b5,b6,b7,b8,b9,c0,c1,c2,c3,c4,c5,c6,c7,c8,c9,d0,d1,d2,d3,d4,d5,d6,d7,d8,d9,f0,f1,f2,f3,f4,f6,f7,f8,f9,g0,g1,g2,g3,b,c,d,f,g,i,k]) S =
  (zU ((jm zi O) 15 [(dem (dem x0))] S) (fun v1 S1=>some ([x0,x1,x2,x3,x4,v1,x6,x7,x8,x9,n,o,r,s,t,dem x0,dem v1,x,y,z,A,B,C,D,E,F,G,H,I,p,q,m,J,K,L,M,l,N,P,Q,R,U,V,W,X,Y,Z,a0,a1,a2,a3,a4,a5,a6,a7,a8,a9,b0,b1,b2,b3,b4,b5,b6,b7,b8,b9,c0,c1,c2,c3,c4,c5,c6,c7,c8,c9,d0,d1,d2,d3,d4,d5,d6,d7,d8,d9,f0,f1,f2,f3,f4,f6,f7,f8,f9,g0,g1,g2,g3,b,c,d,f,g,i,k],S1)) ()):=by
 kernel_rfl
theorem zu.r4 :jF zi ⟨false,false,false⟩ (jm zi O) (reg Try.f5 4) (reg Try.f5 4).toList ([x0,x1,x2,x3,x4,x5,x6,x7,x8,x9,n,o,r,s,t,u,w,x,y,z,A,B,C,D,E,F,G,H,I,p,q,m,J,K,L,M,l,N,P,Q,R,U,V,W,X,Y,Z,a0,a1,a2,a3,a4,a5,a6,a7,a8,a9,b0,b1,b2,b3,b4,b5,b6,b7,b8,b9,c0,c1,c2,c3,c4,c5,c6,c7,c8,c9,d0,d1,d2,d3,d4,d5,d6,d7,d8,d9,f0,f1,f2,f3,f4,f6,f7,f8,f9,g0,g1,g2,g3,b,c,d,f,g,i,k]) S =
  (zU (yu zi 40 [] S) (fun v0 S1=>zU ((jm zi O) 16 [(dem v0),(dem (dem x0))] S1) (fun v2 S2=>zU (yS zi 40 S2) (fun v3 S3=>zU (wz zi 40 v3 (dem v2) S3) (fun v4 S4=>some ([x0,x1,x2,x3,x4,x5,v3,x7,x8,x9,n,o,r,s,t,u,w,v0,dem x0,v2,A,B,C,D,E,F,G,H,I,p,q,m,J,K,L,M,l,N,P,Q,R,U,V,W,X,Y,Z,a0,a1,a2,a3,a4,a5,a6,a7,a8,a9,b0,b1,b2,b3,b4,b5,b6,b7,b8,b9,c0,c1,c2,c3,c4,c5,c6,c7,c8,c9,d0,d1,d2,d3,d4,d5,d6,d7,d8,d9,f0,f1,f2,f3,f4,f6,f7,f8,f9,g0,g1,g2,g3,b,c,d,f,g,i,k],S4)) ()) ()) ()) ()):=by
 kernel_rfl
theorem zu.r5 :jF zi ⟨false,false,false⟩ (jm zi O) (reg Try.f5 5) (reg Try.f5 5).toList ([x0,x1,x2,x3,x4,x5,x6,x7,x8,x9,n,o,r,s,t,u,w,x,y,z,A,B,C,D,E,F,G,H,I,p,q,m,J,K,L,M,l,N,P,Q,R,U,V,W,X,Y,Z,a0,a1,a2,a3,a4,a5,a6,a7,a8,a9,b0,b1,b2,b3,b4,b5,b6,b7,b8,b9,c0,c1,c2,c3,c4,c5,c6,c7,c8,c9,d0,d1,d2,d3,d4,d5,d6,d7,d8,d9,f0,f1,f2,f3,f4,f6,f7,f8,f9,g0,g1,g2,g3,b,c,d,f,g,i,k]) S =
  (zU (wu zi BinOp.eql 37 (dem x5) (Value.pointer none) S) (fun v1 S1=>gdK (dem v1) false (ret x1) S1 (fun v3 S2=>gdK (dem v1) false (ku zi 36 (dem v3)) S2 (fun v4 S3=>gdK (dem v1) false (wu zi BinOp.gtr 3 v4 (.int .i64 100)) S3 (fun v5 S4=>zU (ql (dem v1) (Value.bool true) v5 S4) (fun v6 S5=>some ([x0,x1,x2,x3,x4,x5,x6,x7,x8,x9,n,o,r,s,t,u,w,x,y,z,dem x5,v1,dem v1,dem v3,v4,v5,v6,H,I,p,q,m,J,K,L,M,l,N,P,Q,R,U,V,W,X,Y,Z,a0,a1,a2,a3,a4,a5,a6,a7,a8,a9,b0,b1,b2,b3,b4,b5,b6,b7,b8,b9,c0,c1,c2,c3,c4,c5,c6,c7,c8,c9,d0,d1,d2,d3,d4,d5,d6,d7,d8,d9,f0,f1,f2,f3,f4,f6,f7,f8,f9,g0,g1,g2,g3,b,c,d,f,g,i,k],S5)) ()) ()) ()) ()) ()):=by
 refine sP Try.f5 5 0 (v:=x5) ?_
 refine sD Try.f5 5 1 (fun v1 S1=>?_)
 refine sP Try.f5 5 2 (v:=v1) ?_
 refine sG Try.f5 5 3 (j:=2) (fun v3 S2=>?_)
 refine sG Try.f5 5 4 (j:=2) (fun v4 S3=>?_)
 refine sG Try.f5 5 5 (j:=2) (fun v5 S4=>?_)
 refine sD Try.f5 5 6 (fun v6 S5=>?_)
 kernel_rfl
theorem zu.r6 :jF zi ⟨false,false,false⟩ (jm zi O) (reg Try.f5 6) (reg Try.f5 6).toList ([x0,x1,x2,x3,x4,x5,x6,x7,x8,x9,n,o,r,s,t,u,w,x,y,z,A,B,C,D,E,F,G,H,I,p,q,m,J,K,L,M,l,N,P,Q,R,U,V,W,X,Y,Z,a0,a1,a2,a3,a4,a5,a6,a7,a8,a9,b0,b1,b2,b3,b4,b5,b6,b7,b8,b9,c0,c1,c2,c3,c4,c5,c6,c7,c8,c9,d0,d1,d2,d3,d4,d5,d6,d7,d8,d9,f0,f1,f2,f3,f4,f6,f7,f8,f9,g0,g1,g2,g3,b,c,d,f,g,i,k]) S =
  (zU (wu zi BinOp.neq 37 (dem x5) (Value.pointer none) S) (fun v1 S1=>some ([x0,x1,x2,x3,v1,x5,x6,x7,x8,x9,n,o,r,s,t,u,w,x,y,z,A,B,C,D,E,F,G,dem x5,dem v1,p,q,m,J,K,L,M,l,N,P,Q,R,U,V,W,X,Y,Z,a0,a1,a2,a3,a4,a5,a6,a7,a8,a9,b0,b1,b2,b3,b4,b5,b6,b7,b8,b9,c0,c1,c2,c3,c4,c5,c6,c7,c8,c9,d0,d1,d2,d3,d4,d5,d6,d7,d8,d9,f0,f1,f2,f3,f4,f6,f7,f8,f9,g0,g1,g2,g3,b,c,d,f,g,i,k],S1)) ()):=by
 kernel_rfl
theorem zu.r7 :jF zi ⟨false,false,false⟩ (jm zi O) (reg Try.f5 7) (reg Try.f5 7).toList ([x0,x1,x2,x3,x4,x5,x6,x7,x8,x9,n,o,r,s,t,u,w,x,y,z,A,B,C,D,E,F,G,H,I,p,q,m,J,K,L,M,l,N,P,Q,R,U,V,W,X,Y,Z,a0,a1,a2,a3,a4,a5,a6,a7,a8,a9,b0,b1,b2,b3,b4,b5,b6,b7,b8,b9,c0,c1,c2,c3,c4,c5,c6,c7,c8,c9,d0,d1,d2,d3,d4,d5,d6,d7,d8,d9,f0,f1,f2,f3,f4,f6,f7,f8,f9,g0,g1,g2,g3,b,c,d,f,g,i,k]) S =
  (zU (ku zi 36 (dem x1) S) (fun v1 S1=>some ([x0,x1,x2,x3,x4,x5,x6,x7,x8,x9,n,o,r,s,t,u,w,x,y,z,A,B,C,D,E,F,G,H,I,dem x1,v1,.int .i64 0,J,K,L,M,l,N,P,Q,R,U,V,W,X,Y,Z,a0,a1,a2,a3,a4,a5,a6,a7,a8,a9,b0,b1,b2,b3,b4,b5,b6,b7,b8,b9,c0,c1,c2,c3,c4,c5,c6,c7,c8,c9,d0,d1,d2,d3,d4,d5,d6,d7,d8,d9,f0,f1,f2,f3,f4,f6,f7,f8,f9,g0,g1,g2,g3,b,c,d,f,g,i,k],S1)) ()):=by
 kernel_rfl
theorem zu.r8 :jF zi ⟨false,false,false⟩ (jm zi O) (reg Try.f5 8) (reg Try.f5 8).toList ([x0,x1,x2,x3,x4,x5,x6,x7,x8,x9,n,o,r,s,t,u,w,x,y,z,A,B,C,D,E,F,G,H,I,p,q,m,J,K,L,M,l,N,P,Q,R,U,V,W,X,Y,Z,a0,a1,a2,a3,a4,a5,a6,a7,a8,a9,b0,b1,b2,b3,b4,b5,b6,b7,b8,b9,c0,c1,c2,c3,c4,c5,c6,c7,c8,c9,d0,d1,d2,d3,d4,d5,d6,d7,d8,d9,f0,f1,f2,f3,f4,f6,f7,f8,f9,g0,g1,g2,g3,b,c,d,f,g,i,k]) S =
  (zU (wu zi BinOp.lss 3 m q S) (fun v0 S1=>some ([x0,x1,x2,x3,x4,x5,x6,x7,x8,x9,n,o,r,s,t,u,w,x,y,z,A,B,C,D,E,F,G,H,I,p,q,m,v0,K,L,M,l,N,P,Q,R,U,V,W,X,Y,Z,a0,a1,a2,a3,a4,a5,a6,a7,a8,a9,b0,b1,b2,b3,b4,b5,b6,b7,b8,b9,c0,c1,c2,c3,c4,c5,c6,c7,c8,c9,d0,d1,d2,d3,d4,d5,d6,d7,d8,d9,f0,f1,f2,f3,f4,f6,f7,f8,f9,g0,g1,g2,g3,b,c,d,f,g,i,k],S1)) ()):=by
 kernel_rfl
theorem zu.r9 :jF zi ⟨false,false,false⟩ (jm zi O) (reg Try.f5 9) (reg Try.f5 9).toList ([x0,x1,x2,x3,x4,x5,x6,x7,x8,x9,n,o,r,s,t,u,w,x,y,z,A,B,C,D,E,F,G,H,I,p,q,m,J,K,L,M,l,N,P,Q,R,U,V,W,X,Y,Z,a0,a1,a2,a3,a4,a5,a6,a7,a8,a9,b0,b1,b2,b3,b4,b5,b6,b7,b8,b9,c0,c1,c2,c3,c4,c5,c6,c7,c8,c9,d0,d1,d2,d3,d4,d5,d6,d7,d8,d9,f0,f1,f2,f3,f4,f6,f7,f8,f9,g0,g1,g2,g3,b,c,d,f,g,i,k]) S =
  (zU (jI zi 36 p m S) (fun v0 S1=>zU (jE zi false 43 v0 S1) (fun v1 S2=>zU (yS zi 43 S2) (fun v2 S3=>zU (wz zi 43 v2 (dem v1) S3) (fun v3 S4=>some ([x0,x1,x2,x3,x4,x5,x6,x7,v2,x9,n,o,r,s,t,u,w,x,y,z,A,B,C,D,E,F,G,H,I,p,q,m,J,v0,v1,M,l,N,P,Q,R,U,V,W,X,Y,Z,a0,a1,a2,a3,a4,a5,a6,a7,a8,a9,b0,b1,b2,b3,b4,b5,b6,b7,b8,b9,c0,c1,c2,c3,c4,c5,c6,c7,c8,c9,d0,d1,d2,d3,d4,d5,d6,d7,d8,d9,f0,f1,f2,f3,f4,f6,f7,f8,f9,g0,g1,g2,g3,b,c,d,f,g,i,k],S4)) ()) ()) ()) ()):=by
 kernel_rfl
theorem zu.r10 :jF zi ⟨false,false,false⟩ (jm zi O) (reg Try.f5 10) (reg Try.f5 10).toList ([x0,x1,x2,x3,x4,x5,x6,x7,x8,x9,n,o,r,s,t,u,w,x,y,z,A,B,C,D,E,F,G,H,I,p,q,m,J,K,L,M,l,N,P,Q,R,U,V,W,X,Y,Z,a0,a1,a2,a3,a4,a5,a6,a7,a8,a9,b0,b1,b2,b3,b4,b5,b6,b7,b8,b9,c0,c1,c2,c3,c4,c5,c6,c7,c8,c9,d0,d1,d2,d3,d4,d5,d6,d7,d8,d9,f0,f1,f2,f3,f4,f6,f7,f8,f9,g0,g1,g2,g3,b,c,d,f,g,i,k]) S =
  ( some ([x0,x1,x2,x3,x4,x5,x6,x7,x8,.int .i64 0,.int .i64 0,o,r,s,t,u,w,x,y,z,A,B,C,D,E,F,G,H,I,p,q,m,J,K,L,M,l,N,P,Q,R,U,V,W,X,Y,Z,a0,a1,a2,a3,a4,a5,a6,a7,a8,a9,b0,b1,b2,b3,b4,b5,b6,b7,b8,b9,c0,c1,c2,c3,c4,c5,c6,c7,c8,c9,d0,d1,d2,d3,d4,d5,d6,d7,d8,d9,f0,f1,f2,f3,f4,f6,f7,f8,f9,g0,g1,g2,g3,b,c,d,f,g,i,k],S)):=by
 kernel_rfl
theorem zu.r11 :jF zi ⟨false,false,false⟩ (jm zi O) (reg Try.f5 11) (reg Try.f5 11).toList ([x0,x1,x2,x3,x4,x5,x6,x7,x8,x9,n,o,r,s,t,u,w,x,y,z,A,B,C,D,E,F,G,H,I,p,q,m,J,K,L,M,l,N,P,Q,R,U,V,W,X,Y,Z,a0,a1,a2,a3,a4,a5,a6,a7,a8,a9,b0,b1,b2,b3,b4,b5,b6,b7,b8,b9,c0,c1,c2,c3,c4,c5,c6,c7,c8,c9,d0,d1,d2,d3,d4,d5,d6,d7,d8,d9,f0,f1,f2,f3,f4,f6,f7,f8,f9,g0,g1,g2,g3,b,c,d,f,g,i,k]) S =
  (zU (zS zi 43 x8 0 S) (fun v0 S1=>zU (jE zi false 3 v0 S1) (fun v1 S2=>some ([x0,x1,x2,x3,x4,x5,x6,x7,x8,x9,n,o,r,s,t,u,w,x,y,z,A,B,C,D,E,F,G,H,I,p,q,m,J,K,L,v0,v1,N,P,Q,R,U,V,W,X,Y,Z,a0,a1,a2,a3,a4,a5,a6,a7,a8,a9,b0,b1,b2,b3,b4,b5,b6,b7,b8,b9,c0,c1,c2,c3,c4,c5,c6,c7,c8,c9,d0,d1,d2,d3,d4,d5,d6,d7,d8,d9,f0,f1,f2,f3,f4,f6,f7,f8,f9,g0,g1,g2,g3,b,c,d,f,g,i,k],S2)) ()) ()):=by
 kernel_rfl
theorem zu.r12 :jF zi ⟨false,false,false⟩ (jm zi O) (reg Try.f5 12) (reg Try.f5 12).toList ([x0,x1,x2,x3,x4,x5,x6,x7,x8,x9,n,o,r,s,t,u,w,x,y,z,A,B,C,D,E,F,G,H,I,p,q,m,J,K,L,M,l,N,P,Q,R,U,V,W,X,Y,Z,a0,a1,a2,a3,a4,a5,a6,a7,a8,a9,b0,b1,b2,b3,b4,b5,b6,b7,b8,b9,c0,c1,c2,c3,c4,c5,c6,c7,c8,c9,d0,d1,d2,d3,d4,d5,d6,d7,d8,d9,f0,f1,f2,f3,f4,f6,f7,f8,f9,g0,g1,g2,g3,b,c,d,f,g,i,k]) S =
  (zU (wu zi BinOp.eql 3 l (.int .i64 0) S) (fun v0 S1=>some ([x0,x1,x2,x3,x4,x5,x6,x7,x8,x9,n,o,r,s,t,u,w,x,y,z,A,B,C,D,E,F,G,H,I,p,q,m,J,K,L,M,l,v0,dem v0,Q,R,U,V,W,X,Y,Z,a0,a1,a2,a3,a4,a5,a6,a7,a8,a9,b0,b1,b2,b3,b4,b5,b6,b7,b8,b9,c0,c1,c2,c3,c4,c5,c6,c7,c8,c9,d0,d1,d2,d3,d4,d5,d6,d7,d8,d9,f0,f1,f2,f3,f4,f6,f7,f8,f9,g0,g1,g2,g3,b,c,d,f,g,i,k],S1)) ()):=by
 kernel_rfl
theorem zu.r13 :jF zi ⟨false,false,false⟩ (jm zi O) (reg Try.f5 13) (reg Try.f5 13).toList ([x0,x1,x2,x3,x4,x5,x6,x7,x8,x9,n,o,r,s,t,u,w,x,y,z,A,B,C,D,E,F,G,H,I,p,q,m,J,K,L,M,l,N,P,Q,R,U,V,W,X,Y,Z,a0,a1,a2,a3,a4,a5,a6,a7,a8,a9,b0,b1,b2,b3,b4,b5,b6,b7,b8,b9,c0,c1,c2,c3,c4,c5,c6,c7,c8,c9,d0,d1,d2,d3,d4,d5,d6,d7,d8,d9,f0,f1,f2,f3,f4,f6,f7,f8,f9,g0,g1,g2,g3,b,c,d,f,g,i,k]) S =
  (zU (zS zi 43 x8 2 S) (fun v1 S1=>zU (jE zi false 28 v1 S1) (fun v2 S2=>zU ((jm zi O) 17 [(dem (dem x5)),(dem v2)] S2) (fun v3 S3=>some ([x0,x1,x2,x3,x4,x5,x6,x7,x8,v3,n,o,r,s,t,u,w,x,y,z,A,B,C,D,E,F,G,H,I,p,q,m,J,K,L,M,l,N,P,dem x5,v1,v2,dem v3,W,X,Y,Z,a0,a1,a2,a3,a4,a5,a6,a7,a8,a9,b0,b1,b2,b3,b4,b5,b6,b7,b8,b9,c0,c1,c2,c3,c4,c5,c6,c7,c8,c9,d0,d1,d2,d3,d4,d5,d6,d7,d8,d9,f0,f1,f2,f3,f4,f6,f7,f8,f9,g0,g1,g2,g3,b,c,d,f,g,i,k],S3)) ()) ()) ()):=by
 kernel_rfl
theorem zu.r14 :jF zi ⟨false,false,false⟩ (jm zi O) (reg Try.f5 14) (reg Try.f5 14).toList ([x0,x1,x2,x3,x4,x5,x6,x7,x8,x9,n,o,r,s,t,u,w,x,y,z,A,B,C,D,E,F,G,H,I,p,q,m,J,K,L,M,l,N,P,Q,R,U,V,W,X,Y,Z,a0,a1,a2,a3,a4,a5,a6,a7,a8,a9,b0,b1,b2,b3,b4,b5,b6,b7,b8,b9,c0,c1,c2,c3,c4,c5,c6,c7,c8,c9,d0,d1,d2,d3,d4,d5,d6,d7,d8,d9,f0,f1,f2,f3,f4,f6,f7,f8,f9,g0,g1,g2,g3,b,c,d,f,g,i,k]) S =
  (zU (jE zi false 40 x6 S) (fun v0 S1=>zU (zS zi 43 x8 2 S1) (fun v1 S2=>zU (jE zi false 28 v1 S2) (fun v2 S3=>zU ((jm zi O) 18 [(dem v0),(dem v2)] S3) (fun v3 S4=>zU (zW v3 0 S4) (fun v5 S5=>zU (zW (jd 0 v3) 1 S5) (fun v6 S6=>zU (wz zi 40 x6 (dem v5) S6) (fun v7 S7=>some ([x0,x1,x2,x3,x4,x5,x6,x7,x8,x9,v6,o,r,s,t,u,w,x,y,z,A,B,C,D,E,F,G,H,I,p,q,m,J,K,L,M,l,N,P,Q,R,U,V,jd 1 (jd 0 v3),v0,v1,v2,dem v3,v5,dem v6,a3,a4,a5,a6,a7,a8,a9,b0,b1,b2,b3,b4,b5,b6,b7,b8,b9,c0,c1,c2,c3,c4,c5,c6,c7,c8,c9,d0,d1,d2,d3,d4,d5,d6,d7,d8,d9,f0,f1,f2,f3,f4,f6,f7,f8,f9,g0,g1,g2,g3,b,c,d,f,g,i,k],S7)) ()) ()) ()) ()) ()) ()) ()):=by
 kernel_rfl
theorem zu.r15 :jF zi ⟨false,false,false⟩ (jm zi O) (reg Try.f5 15) (reg Try.f5 15).toList ([x0,x1,x2,x3,x4,x5,x6,x7,x8,x9,n,o,r,s,t,u,w,x,y,z,A,B,C,D,E,F,G,H,I,p,q,m,J,K,L,M,l,N,P,Q,R,U,V,W,X,Y,Z,a0,a1,a2,a3,a4,a5,a6,a7,a8,a9,b0,b1,b2,b3,b4,b5,b6,b7,b8,b9,c0,c1,c2,c3,c4,c5,c6,c7,c8,c9,d0,d1,d2,d3,d4,d5,d6,d7,d8,d9,f0,f1,f2,f3,f4,f6,f7,f8,f9,g0,g1,g2,g3,b,c,d,f,g,i,k]) S =
  (zU (wu zi BinOp.eql 3 l (.int .i64 1) S) (fun v0 S1=>some ([x0,x1,x2,x3,x4,x5,x6,x7,x8,x9,n,o,r,s,t,u,w,x,y,z,A,B,C,D,E,F,G,H,I,p,q,m,J,K,L,M,l,N,P,Q,R,U,V,W,X,Y,Z,a0,a1,a2,v0,dem v0,a5,a6,a7,a8,a9,b0,b1,b2,b3,b4,b5,b6,b7,b8,b9,c0,c1,c2,c3,c4,c5,c6,c7,c8,c9,d0,d1,d2,d3,d4,d5,d6,d7,d8,d9,f0,f1,f2,f3,f4,f6,f7,f8,f9,g0,g1,g2,g3,b,c,d,f,g,i,k],S1)) ()):=by
 kernel_rfl
theorem zu.r16 :jF zi ⟨false,false,false⟩ (jm zi O) (reg Try.f5 16) (reg Try.f5 16).toList ([x0,x1,x2,x3,x4,x5,x6,x7,x8,x9,n,o,r,s,t,u,w,x,y,z,A,B,C,D,E,F,G,H,I,p,q,m,J,K,L,M,l,N,P,Q,R,U,V,W,X,Y,Z,a0,a1,a2,a3,a4,a5,a6,a7,a8,a9,b0,b1,b2,b3,b4,b5,b6,b7,b8,b9,c0,c1,c2,c3,c4,c5,c6,c7,c8,c9,d0,d1,d2,d3,d4,d5,d6,d7,d8,d9,f0,f1,f2,f3,f4,f6,f7,f8,f9,g0,g1,g2,g3,b,c,d,f,g,i,k]) S =
  (zU ((jm zi O) 19 [(dem (dem x5))] S) (fun v1 S1=>some ([x0,x1,x2,x3,x4,x5,x6,x7,x8,x9,n,o,r,s,t,u,w,x,y,z,A,B,C,D,E,F,G,H,I,p,q,m,J,K,L,M,l,N,P,Q,R,U,V,W,X,Y,Z,a0,a1,a2,a3,a4,dem x5,v1,a7,a8,a9,b0,b1,b2,b3,b4,b5,b6,b7,b8,b9,c0,c1,c2,c3,c4,c5,c6,c7,c8,c9,d0,d1,d2,d3,d4,d5,d6,d7,d8,d9,f0,f1,f2,f3,f4,f6,f7,f8,f9,g0,g1,g2,g3,b,c,d,f,g,i,k],S1)) ()):=by
 kernel_rfl
theorem zu.r17 :jF zi ⟨false,false,false⟩ (jm zi O) (reg Try.f5 17) (reg Try.f5 17).toList ([x0,x1,x2,x3,x4,x5,x6,x7,x8,x9,n,o,r,s,t,u,w,x,y,z,A,B,C,D,E,F,G,H,I,p,q,m,J,K,L,M,l,N,P,Q,R,U,V,W,X,Y,Z,a0,a1,a2,a3,a4,a5,a6,a7,a8,a9,b0,b1,b2,b3,b4,b5,b6,b7,b8,b9,c0,c1,c2,c3,c4,c5,c6,c7,c8,c9,d0,d1,d2,d3,d4,d5,d6,d7,d8,d9,f0,f1,f2,f3,f4,f6,f7,f8,f9,g0,g1,g2,g3,b,c,d,f,g,i,k]) S =
  (zU (jE zi false 40 x6 S) (fun v0 S1=>zU ((jm zi O) 20 [(dem v0)] S1) (fun v1 S2=>zU (wz zi 40 x6 (dem v1) S2) (fun v2 S3=>some ([x0,x1,x2,x3,x4,x5,x6,x7,x8,x9,n,o,r,s,t,u,w,x,y,z,A,B,C,D,E,F,G,H,I,p,q,m,J,K,L,M,l,N,P,Q,R,U,V,W,X,Y,Z,a0,a1,a2,a3,a4,a5,a6,v0,v1,a9,b0,b1,b2,b3,b4,b5,b6,b7,b8,b9,c0,c1,c2,c3,c4,c5,c6,c7,c8,c9,d0,d1,d2,d3,d4,d5,d6,d7,d8,d9,f0,f1,f2,f3,f4,f6,f7,f8,f9,g0,g1,g2,g3,b,c,d,f,g,i,k],S3)) ()) ()) ()):=by
 kernel_rfl
theorem zu.r18 :jF zi ⟨false,false,false⟩ (jm zi O) (reg Try.f5 18) (reg Try.f5 18).toList ([x0,x1,x2,x3,x4,x5,x6,x7,x8,x9,n,o,r,s,t,u,w,x,y,z,A,B,C,D,E,F,G,H,I,p,q,m,J,K,L,M,l,N,P,Q,R,U,V,W,X,Y,Z,a0,a1,a2,a3,a4,a5,a6,a7,a8,a9,b0,b1,b2,b3,b4,b5,b6,b7,b8,b9,c0,c1,c2,c3,c4,c5,c6,c7,c8,c9,d0,d1,d2,d3,d4,d5,d6,d7,d8,d9,f0,f1,f2,f3,f4,f6,f7,f8,f9,g0,g1,g2,g3,b,c,d,f,g,i,k]) S =
  (zU (wu zi BinOp.eql 3 l (.int .i64 2) S) (fun v0 S1=>some ([x0,x1,x2,x3,x4,x5,x6,x7,x8,x9,n,o,r,s,t,u,w,x,y,z,A,B,C,D,E,F,G,H,I,p,q,m,J,K,L,M,l,N,P,Q,R,U,V,W,X,Y,Z,a0,a1,a2,a3,a4,a5,a6,a7,a8,v0,dem v0,b1,b2,b3,b4,b5,b6,b7,b8,b9,c0,c1,c2,c3,c4,c5,c6,c7,c8,c9,d0,d1,d2,d3,d4,d5,d6,d7,d8,d9,f0,f1,f2,f3,f4,f6,f7,f8,f9,g0,g1,g2,g3,b,c,d,f,g,i,k],S1)) ()):=by
 kernel_rfl
theorem zu.r19 :jF zi ⟨false,false,false⟩ (jm zi O) (reg Try.f5 19) (reg Try.f5 19).toList ([x0,x1,x2,x3,x4,x5,x6,x7,x8,x9,n,o,r,s,t,u,w,x,y,z,A,B,C,D,E,F,G,H,I,p,q,m,J,K,L,M,l,N,P,Q,R,U,V,W,X,Y,Z,a0,a1,a2,a3,a4,a5,a6,a7,a8,a9,b0,b1,b2,b3,b4,b5,b6,b7,b8,b9,c0,c1,c2,c3,c4,c5,c6,c7,c8,c9,d0,d1,d2,d3,d4,d5,d6,d7,d8,d9,f0,f1,f2,f3,f4,f6,f7,f8,f9,g0,g1,g2,g3,b,c,d,f,g,i,k]) S =
  (zU (zS zi 43 x8 1 S) (fun v1 S1=>zU (jE zi false 3 v1 S1) (fun v2 S2=>zU ((jm zi O) 21 [(dem (dem x5)),(dem v2)] S2) (fun v3 S3=>some ([x0,x1,x2,x3,x4,x5,x6,x7,x8,x9,n,o,r,s,t,u,w,x,y,z,A,B,C,D,E,F,G,H,I,p,q,m,J,K,L,M,l,N,P,Q,R,U,V,W,X,Y,Z,a0,a1,a2,a3,a4,a5,a6,a7,a8,a9,b0,dem x5,v1,v2,v3,b5,b6,b7,b8,b9,c0,c1,c2,c3,c4,c5,c6,c7,c8,c9,d0,d1,d2,d3,d4,d5,d6,d7,d8,d9,f0,f1,f2,f3,f4,f6,f7,f8,f9,g0,g1,g2,g3,b,c,d,f,g,i,k],S3)) ()) ()) ()):=by
 kernel_rfl
theorem zu.r20 :jF zi ⟨false,false,false⟩ (jm zi O) (reg Try.f5 20) (reg Try.f5 20).toList ([x0,x1,x2,x3,x4,x5,x6,x7,x8,x9,n,o,r,s,t,u,w,x,y,z,A,B,C,D,E,F,G,H,I,p,q,m,J,K,L,M,l,N,P,Q,R,U,V,W,X,Y,Z,a0,a1,a2,a3,a4,a5,a6,a7,a8,a9,b0,b1,b2,b3,b4,b5,b6,b7,b8,b9,c0,c1,c2,c3,c4,c5,c6,c7,c8,c9,d0,d1,d2,d3,d4,d5,d6,d7,d8,d9,f0,f1,f2,f3,f4,f6,f7,f8,f9,g0,g1,g2,g3,b,c,d,f,g,i,k]) S =
  (zU (jE zi false 40 x6 S) (fun v0 S1=>zU (zS zi 43 x8 1 S1) (fun v1 S2=>zU (jE zi false 3 v1 S2) (fun v2 S3=>zU ((jm zi O) 22 [(dem v0),(dem v2)] S3) (fun v3 S4=>zU (wz zi 40 x6 (dem v3) S4) (fun v4 S5=>some ([x0,x1,x2,x3,x4,x5,x6,x7,x8,x9,n,o,r,s,t,u,w,x,y,z,A,B,C,D,E,F,G,H,I,p,q,m,J,K,L,M,l,N,P,Q,R,U,V,W,X,Y,Z,a0,a1,a2,a3,a4,a5,a6,a7,a8,a9,b0,b1,b2,b3,b4,v0,v1,v2,v3,b9,c0,c1,c2,c3,c4,c5,c6,c7,c8,c9,d0,d1,d2,d3,d4,d5,d6,d7,d8,d9,f0,f1,f2,f3,f4,f6,f7,f8,f9,g0,g1,g2,g3,b,c,d,f,g,i,k],S5)) ()) ()) ()) ()) ()):=by
 kernel_rfl
theorem zu.r21 :jF zi ⟨false,false,false⟩ (jm zi O) (reg Try.f5 21) (reg Try.f5 21).toList ([x0,x1,x2,x3,x4,x5,x6,x7,x8,x9,n,o,r,s,t,u,w,x,y,z,A,B,C,D,E,F,G,H,I,p,q,m,J,K,L,M,l,N,P,Q,R,U,V,W,X,Y,Z,a0,a1,a2,a3,a4,a5,a6,a7,a8,a9,b0,b1,b2,b3,b4,b5,b6,b7,b8,b9,c0,c1,c2,c3,c4,c5,c6,c7,c8,c9,d0,d1,d2,d3,d4,d5,d6,d7,d8,d9,f0,f1,f2,f3,f4,f6,f7,f8,f9,g0,g1,g2,g3,b,c,d,f,g,i,k]) S =
  (zU (wu zi BinOp.eql 3 l (.int .i64 3) S) (fun v0 S1=>some ([x0,x1,x2,x3,x4,x5,x6,x7,x8,x9,n,o,r,s,t,u,w,x,y,z,A,B,C,D,E,F,G,H,I,p,q,m,J,K,L,M,l,N,P,Q,R,U,V,W,X,Y,Z,a0,a1,a2,a3,a4,a5,a6,a7,a8,a9,b0,b1,b2,b3,b4,b5,b6,b7,b8,v0,dem v0,c1,c2,c3,c4,c5,c6,c7,c8,c9,d0,d1,d2,d3,d4,d5,d6,d7,d8,d9,f0,f1,f2,f3,f4,f6,f7,f8,f9,g0,g1,g2,g3,b,c,d,f,g,i,k],S1)) ()):=by
 kernel_rfl
theorem zu.r22 :jF zi ⟨false,false,false⟩ (jm zi O) (reg Try.f5 22) (reg Try.f5 22).toList ([x0,x1,x2,x3,x4,x5,x6,x7,x8,x9,n,o,r,s,t,u,w,x,y,z,A,B,C,D,E,F,G,H,I,p,q,m,J,K,L,M,l,N,P,Q,R,U,V,W,X,Y,Z,a0,a1,a2,a3,a4,a5,a6,a7,a8,a9,b0,b1,b2,b3,b4,b5,b6,b7,b8,b9,c0,c1,c2,c3,c4,c5,c6,c7,c8,c9,d0,d1,d2,d3,d4,d5,d6,d7,d8,d9,f0,f1,f2,f3,f4,f6,f7,f8,f9,g0,g1,g2,g3,b,c,d,f,g,i,k]) S =
  (zU (jH zi 26 0 [] S) (fun v1 S1=>zU (zS zi 43 x8 3 S1) (fun v2 S2=>zU (jE zi false 26 v2 S2) (fun v3 S3=>zU (jV zi 26 26 v1 v3 S3) (fun v4 S4=>zU ((jm zi O) 23 [(dem (dem x5)),(dem v4)] S4) (fun v5 S5=>some ([x0,x1,x2,x3,x4,x5,x6,x7,x8,v5,n,o,r,s,t,u,w,x,y,z,A,B,C,D,E,F,G,H,I,p,q,m,J,K,L,M,l,N,P,Q,R,U,V,W,X,Y,Z,a0,a1,a2,a3,a4,a5,a6,a7,a8,a9,b0,b1,b2,b3,b4,b5,b6,b7,b8,b9,c0,dem x5,dem v1,v2,v3,v4,dem v5,c7,c8,c9,d0,d1,d2,d3,d4,d5,d6,d7,d8,d9,f0,f1,f2,f3,f4,f6,f7,f8,f9,g0,g1,g2,g3,b,c,d,f,g,i,k],S5)) ()) ()) ()) ()) ()):=by
 kernel_rfl
theorem zu.r23 :jF zi ⟨false,false,false⟩ (jm zi O) (reg Try.f5 23) (reg Try.f5 23).toList ([x0,x1,x2,x3,x4,x5,x6,x7,x8,x9,n,o,r,s,t,u,w,x,y,z,A,B,C,D,E,F,G,H,I,p,q,m,J,K,L,M,l,N,P,Q,R,U,V,W,X,Y,Z,a0,a1,a2,a3,a4,a5,a6,a7,a8,a9,b0,b1,b2,b3,b4,b5,b6,b7,b8,b9,c0,c1,c2,c3,c4,c5,c6,c7,c8,c9,d0,d1,d2,d3,d4,d5,d6,d7,d8,d9,f0,f1,f2,f3,f4,f6,f7,f8,f9,g0,g1,g2,g3,b,c,d,f,g,i,k]) S =
  (zU (jE zi false 40 x6 S) (fun v0 S1=>zU (zS zi 43 x8 3 S1) (fun v1 S2=>zU (jE zi false 26 v1 S2) (fun v2 S3=>zU ((jm zi O) 24 [(dem v0),(dem v2)] S3) (fun v3 S4=>zU (zW v3 0 S4) (fun v5 S5=>zU (zW (jd 0 v3) 1 S5) (fun v6 S6=>zU (wz zi 40 x6 (dem v5) S6) (fun v7 S7=>some ([x0,x1,x2,x3,x4,x5,x6,x7,x8,x9,v6,o,r,s,t,u,w,x,y,z,A,B,C,D,E,F,G,H,I,p,q,m,J,K,L,M,l,N,P,Q,R,U,V,W,X,Y,Z,a0,a1,a2,a3,a4,a5,a6,a7,a8,a9,b0,b1,b2,b3,b4,b5,b6,b7,b8,b9,c0,c1,c2,c3,c4,c5,c6,jd 1 (jd 0 v3),v0,v1,v2,dem v3,v5,dem v6,d4,d5,d6,d7,d8,d9,f0,f1,f2,f3,f4,f6,f7,f8,f9,g0,g1,g2,g3,b,c,d,f,g,i,k],S7)) ()) ()) ()) ()) ()) ()) ()):=by
 kernel_rfl
theorem zu.r24 :jF zi ⟨false,false,false⟩ (jm zi O) (reg Try.f5 24) (reg Try.f5 24).toList ([x0,x1,x2,x3,x4,x5,x6,x7,x8,x9,n,o,r,s,t,u,w,x,y,z,A,B,C,D,E,F,G,H,I,p,q,m,J,K,L,M,l,N,P,Q,R,U,V,W,X,Y,Z,a0,a1,a2,a3,a4,a5,a6,a7,a8,a9,b0,b1,b2,b3,b4,b5,b6,b7,b8,b9,c0,c1,c2,c3,c4,c5,c6,c7,c8,c9,d0,d1,d2,d3,d4,d5,d6,d7,d8,d9,f0,f1,f2,f3,f4,f6,f7,f8,f9,g0,g1,g2,g3,b,c,d,f,g,i,k]) S =
  (zU (zS zi 40 x6 0 S) (fun v0 S1=>zU (jE zi false 26 v0 S1) (fun v1 S2=>zU ((jm zi O) 13 [(dem v1)] S2) (fun v2 S3=>zU (zW v2 0 S3) (fun v4 S4=>zU (zW (jd 0 v2) 1 S4) (fun v5 S5=>some ([x0,x1,x2,x3,x4,x5,x6,x7,x8,x9,n,v4,v5,s,t,u,w,x,y,z,A,B,C,D,E,F,G,H,I,p,q,m,J,K,L,M,l,N,P,Q,R,U,V,W,X,Y,Z,a0,a1,a2,a3,a4,a5,a6,a7,a8,a9,b0,b1,b2,b3,b4,b5,b6,b7,b8,b9,c0,c1,c2,c3,c4,c5,c6,c7,c8,c9,d0,d1,d2,d3,jd 1 (jd 0 v2),v0,v1,dem v2,dem v4,dem v5,f0,f1,f2,f3,f4,f6,f7,f8,f9,g0,g1,g2,g3,b,c,d,f,g,i,k],S5)) ()) ()) ()) ()) ()):=by
 kernel_rfl
theorem zu.d25:qO zi (reg Try.f5 25)=true:=by kernel_rfl
theorem zu.aic:fixed zi (reg Try.f5 25)=false:=by kernel_rfl
theorem zu.k25:checked zi (reg Try.f5 25)=[7,8,9,15]:=by kernel_rfl
theorem zu.g25:again zi (reg Try.f5 25)=[(8,5),(1008,5)]:=by kernel_rfl
theorem zu.r25 :zI zi O false (.region 25 (reg Try.f5 25) true) ([x0,x1,x2,x3,x4,x5,x6,x7,x8,x9,n,o,r,s,t,u,w,x,y,z,A,B,C,D,E,F,G,H,I,p,q,m,J,K,L,M,l,N,P,Q,R,U,V,W,X,Y,Z,a0,a1,a2,a3,a4,a5,a6,a7,a8,a9,b0,b1,b2,b3,b4,b5,b6,b7,b8,b9,c0,c1,c2,c3,c4,c5,c6,c7,c8,c9,d0,d1,d2,d3,d4,d5,d6,d7,d8,d9,f0,f1,f2,f3,f4,f6,f7,f8,f9,g0,g1,g2,g3,b,c,d,f,g,i,k]) S =
  J4 (zU (wu zi BinOp.neq 3 (dem x9) (dem n) S) (fun v2 S1=>gdK (dem v2) false (ret x5) S1 (fun v4 S2=>gdK (dem v2) false ((jm zi O) 25 [(dem (dem v4))]) S2 (fun v5 S3=>gdK (dem v2) false (wP zi false true 26 9 v5) S3 (fun v6 S4=>abR (dem v2) false (zS zi 40 x6 0) S4 (fun v7 S5=>abR (dem v2) false (jE zi false 26 v7) S5 (fun v8 S6=>abR (dem v2) false (wP zi false true 26 9 v8) S6 (fun v9 S7=>gdK (dem v2) false (wu zi BinOp.neq 9 v6 v9) S7 (fun g5 S8=>zU (ql (dem v2) (Value.bool true) g5 S8) (fun g4 S9=>gdK (dem g4) false (ret x5) S9 (fun g6 i1=>gdK (dem g4) false ((jm zi O) 26 [(dem (dem g6))]) i1 (fun g7 i2=>abR (dem g4) false (ret o) i2 (fun g8 i3=>gdK (dem g4) false ((jm zi O) 14 [(dem g7),(dem (dem g8))]) i3 (fun g9 i4=>gdK (dem g4) false (aUn zi UnOp.not g9) i4 (fun i0 i5=>zU (ql (dem g4) (Value.bool true) i0 i5) (fun i6 i7=>ckK (qM v7 S2 S5 && (Xg v7 S2 S5 && (true))) (some ([x0,x1,x2,x3,x4,x5,x6,x7,x8,x9,n,o,r,s,t,u,w,x,y,z,A,B,C,D,E,F,G,H,I,p,q,m,J,K,L,M,l,N,P,Q,R,U,V,W,X,Y,Z,a0,a1,a2,a3,a4,a5,a6,a7,a8,a9,b0,b1,b2,b3,b4,b5,b6,b7,b8,b9,c0,c1,c2,c3,c4,c5,c6,c7,c8,c9,d0,d1,d2,d3,d4,d5,d6,d7,d8,d9,dem x9,dem n,v2,dem v2,dem v4,v5,v6,v7,v8,v9,g5,g4,dem g4,dem g6,g7,dem g8,g9,i0,i6,k],i7)) ()) ()) ()) ()) ()) ()) ()) ()) ()) ()) ()) ()) ()) ()) ()) ()):=by
 rw [yO zu.d25 zu.aic zu.k25 zu.g25]
 refine congrArg J4 ?_
 refine uP Try.f5 25 0 (v:=x9) (pe:=zh) ?_
 refine uP Try.f5 25 1 (v:=n) (pe:=zh) ?_
 refine uD Try.f5 25 2 (pe:=zh) (fun v2 S1=>?_)
 refine uP Try.f5 25 3 (v:=v2) (pe:=zh) ?_
 refine uG Try.f5 25 4 (j:=3) (pe:=zh) (fun v4 S2=>?_)
 refine uG Try.f5 25 5 (j:=3) (pe:=zh) (fun v5 S3=>?_)
 refine uG Try.f5 25 6 (j:=3) (pe:=zh) (fun v6 S4=>?_)
 refine uGC Try.f5 25 7 (j:=3) (pe:=zh) (fun v7 S5=>?_)
 refine uGC Try.f5 25 8 (j:=3) (pe:=v7) (fun v8 S6=>?_)
 refine uGC Try.f5 25 9 (j:=3) (pe:=zh) (fun v9 S7=>?_)
 refine uG Try.f5 25 10 (j:=3) (pe:=zh) (fun g5 S8=>?_)
 refine uD Try.f5 25 11 (pe:=zh) (fun g4 S9=>?_)
 refine uP Try.f5 25 12 (v:=g4) (pe:=zh) ?_
 refine uG Try.f5 25 13 (j:=12) (pe:=zh) (fun g6 i1=>?_)
 refine uG Try.f5 25 14 (j:=12) (pe:=zh) (fun g7 i2=>?_)
 refine uGC Try.f5 25 15 (j:=12) (pe:=zh) (fun g8 i3=>?_)
 refine uG Try.f5 25 16 (j:=12) (pe:=zh) (fun g9 i4=>?_)
 refine uG Try.f5 25 17 (j:=12) (pe:=zh) (fun i0 i5=>?_)
 refine uD Try.f5 25 18 (pe:=zh) (fun i6 i7=>?_)
 kernel_rfl
theorem zu.r26 :jF zi ⟨false,false,false⟩ (jm zi O) (reg Try.f5 26) (reg Try.f5 26).toList ([x0,x1,x2,x3,x4,x5,x6,x7,x8,x9,n,o,r,s,t,u,w,x,y,z,A,B,C,D,E,F,G,H,I,p,q,m,J,K,L,M,l,N,P,Q,R,U,V,W,X,Y,Z,a0,a1,a2,a3,a4,a5,a6,a7,a8,a9,b0,b1,b2,b3,b4,b5,b6,b7,b8,b9,c0,c1,c2,c3,c4,c5,c6,c7,c8,c9,d0,d1,d2,d3,d4,d5,d6,d7,d8,d9,f0,f1,f2,f3,f4,f6,f7,f8,f9,g0,g1,g2,g3,b,c,d,f,g,i,k]) S =
  ( some ([x0,x1,x2,x3,Value.bool false,x5,x6,x7,x8,x9,n,o,r,s,t,u,w,x,y,z,A,B,C,D,E,F,G,H,I,p,q,m,J,K,L,M,l,N,P,Q,R,U,V,W,X,Y,Z,a0,a1,a2,a3,a4,a5,a6,a7,a8,a9,b0,b1,b2,b3,b4,b5,b6,b7,b8,b9,c0,c1,c2,c3,c4,c5,c6,c7,c8,c9,d0,d1,d2,d3,d4,d5,d6,d7,d8,d9,f0,f1,f2,f3,f4,f6,f7,f8,f9,g0,g1,g2,g3,b,c,d,f,g,i,k],S)):=by
 kernel_rfl
theorem zu.r27 :jF zi ⟨false,false,false⟩ (jm zi O) (reg Try.f5 27) (reg Try.f5 27).toList ([x0,x1,x2,x3,x4,x5,x6,x7,x8,x9,n,o,r,s,t,u,w,x,y,z,A,B,C,D,E,F,G,H,I,p,q,m,J,K,L,M,l,N,P,Q,R,U,V,W,X,Y,Z,a0,a1,a2,a3,a4,a5,a6,a7,a8,a9,b0,b1,b2,b3,b4,b5,b6,b7,b8,b9,c0,c1,c2,c3,c4,c5,c6,c7,c8,c9,d0,d1,d2,d3,d4,d5,d6,d7,d8,d9,f0,f1,f2,f3,f4,f6,f7,f8,f9,g0,g1,g2,g3,b,c,d,f,g,i,k]) S =
  (zU (wu zi BinOp.add 3 m (.int .i64 1) S) (fun v0 S1=>some ([x0,x1,x2,x3,x4,x5,x6,x7,x8,x9,n,o,r,s,t,u,w,x,y,z,A,B,C,D,E,F,G,H,I,p,q,dem v0,J,K,L,M,l,N,P,Q,R,U,V,W,X,Y,Z,a0,a1,a2,a3,a4,a5,a6,a7,a8,a9,b0,b1,b2,b3,b4,b5,b6,b7,b8,b9,c0,c1,c2,c3,c4,c5,c6,c7,c8,c9,d0,d1,d2,d3,d4,d5,d6,d7,d8,d9,f0,f1,f2,f3,f4,f6,f7,f8,f9,g0,g1,g2,g3,b,c,d,f,g,i,v0],S1)) ()):=by
 kernel_rfl
theorem zu.r28 :jF zi ⟨false,false,false⟩ (jm zi O) (reg Try.f5 28) (reg Try.f5 28).toList ([x0,x1,x2,x3,x4,x5,x6,x7,x8,x9,n,o,r,s,t,u,w,x,y,z,A,B,C,D,E,F,G,H,I,p,q,m,J,K,L,M,l,N,P,Q,R,U,V,W,X,Y,Z,a0,a1,a2,a3,a4,a5,a6,a7,a8,a9,b0,b1,b2,b3,b4,b5,b6,b7,b8,b9,c0,c1,c2,c3,c4,c5,c6,c7,c8,c9,d0,d1,d2,d3,d4,d5,d6,d7,d8,d9,f0,f1,f2,f3,f4,f6,f7,f8,f9,g0,g1,g2,g3,b,c,d,f,g,i,k]) S =
  ( some ([x0,x1,x2,x3,Value.bool true,x5,x6,x7,x8,x9,n,o,r,s,t,u,w,x,y,z,A,B,C,D,E,F,G,H,I,p,q,m,J,K,L,M,l,N,P,Q,R,U,V,W,X,Y,Z,a0,a1,a2,a3,a4,a5,a6,a7,a8,a9,b0,b1,b2,b3,b4,b5,b6,b7,b8,b9,c0,c1,c2,c3,c4,c5,c6,c7,c8,c9,d0,d1,d2,d3,d4,d5,d6,d7,d8,d9,f0,f1,f2,f3,f4,f6,f7,f8,f9,g0,g1,g2,g3,b,c,d,f,g,i,k],S)):=by
 kernel_rfl
theorem zu.rs:type_of% (aij @zu.r0 (aij @zu.r1 (aij @zu.r2 (aij @zu.r3 (aij @zu.r4 (aij @zu.r5 (aij @zu.r6 (aij @zu.r7 (aij @zu.r8 (aij @zu.r9 (aij @zu.r10 (aij @zu.r11 (aij @zu.r12 (aij @zu.r13 (aij @zu.r14 (aij @zu.r15 (aij @zu.r16 (aij @zu.r17 (aij @zu.r18 (aij @zu.r19 (aij @zu.r20 (aij @zu.r21 (aij @zu.r22 (aij @zu.r23 (aij @zu.r24 (aij @zu.r25 (aij @zu.r26 (aij @zu.r27 (@zu.r28))))))))))))))))))))))))))))):=aij @zu.r0 (aij @zu.r1 (aij @zu.r2 (aij @zu.r3 (aij @zu.r4 (aij @zu.r5 (aij @zu.r6 (aij @zu.r7 (aij @zu.r8 (aij @zu.r9 (aij @zu.r10 (aij @zu.r11 (aij @zu.r12 (aij @zu.r13 (aij @zu.r14 (aij @zu.r15 (aij @zu.r16 (aij @zu.r17 (aij @zu.r18 (aij @zu.r19 (aij @zu.r20 (aij @zu.r21 (aij @zu.r22 (aij @zu.r23 (aij @zu.r24 (aij @zu.r25 (aij @zu.r26 (aij @zu.r27 (@zu.r28))))))))))))))))))))))))))))
theorem zu.runs {x0 x1:Value} {S S1:zx} {e:AEx} {T:List Value} (h:zI zi O false zu.code ([x0,x1,zh,zh,zh,zh,zh,zh,zh,zh,zh,zh,zh,zh,zh,zh,zh,zh,zh,zh,zh,zh,zh,zh,zh,zh,zh,zh,zh,zh,zh,zh,zh,zh,zh,zh,zh,zh,zh,zh,zh,zh,zh,zh,zh,zh,zh,zh,zh,zh,zh,zh,zh,zh,zh,zh,zh,zh,zh,zh,zh,zh,zh,zh,zh,zh,zh,zh,zh,zh,zh,zh,zh,zh,zh,zh,zh,zh,zh,zh,zh,zh,zh,zh,zh,zh,zh,zh,zh,zh,zh,zh,zh,zh,zh,zh,zh,zh,zh,zh,zh,zh,zh,zh,zh,zh,zh]) S=some (e,T,S1)) (he:e=.normal∨e=.ret):jm zi O 5 [x0,x1] S=some (T.getD 4 zh,S1) :=
 wo rfl rfl Try.func5 (by decide) zu.body (by exact h) he (yD (a:=T.getD 4 zh) ((show zX zi T S1 Try.f5.results.toList=zX zi T S1 [(ResultVar.tmp 4)] from by kernel_rfl).trans (by simp only [zX])) (by kernel_rfl))
end Go.Proofs.Ytblpnklfimkfoaa
namespace Go.Proofs.Ytblpnklfimkfoaa
open Go.Abs
abbrev jk.id:FuncId:=18
noncomputable def jk.code:Code:=(.seq (.region 0 (reg Try.f18 0) false) (.seq (.region 1 (reg Try.f18 1) false) (.seq (.seq (.region 2 (reg Try.f18 2) false) (.cond (.tmp 14) (.seq (.region 3 (reg Try.f18 3) false) Code.ret) Code.skip)) (.seq (.region 4 (reg Try.f18 4) false) Code.ret))))
theorem jk.body:Try.f18.body=some jk.code:=by kernel_rfl
variable (a b s v t A u r x y d f g i j k l m n o p q:Value) (S:zx)
theorem jk.r0 :jF zi ⟨false,false,false⟩ (jm zi O) (reg Try.f18 0) (reg Try.f18 0).toList ([a,b,s,v,t,A,u,r,x,y,d,f,g,i,j,k,l,m,n,o,p,q]) S =
  (zU (JV (dem a) S) (fun w c=>zU (JV (dem b) c) (fun z B=>zU (yS zi 40 B) (fun C D=>some ([a,b,w,z,C,.int .i64 0,u,r,x,y,d,f,g,i,j,k,l,m,n,o,p,q],D)) ()) ()) ()):=by
 kernel_rfl
theorem jk.r1 :jF zi ⟨false,false,false⟩ (jm zi O) (reg Try.f18 1) (reg Try.f18 1).toList ([a,b,s,v,t,A,u,r,x,y,d,f,g,i,j,k,l,m,n,o,p,q]) S =
  (zU (jE zi false 28 v S) (fun w c=>zU ((jm zi O) 12 [(dem w)] c) (fun z B=>zU (zW z 0 B) (fun E D=>zU (zW (jd 0 z) 1 D) (fun F G=>some ([a,b,s,v,t,A,E,F,jd 1 (jd 0 z),w,dem z,dem E,dem F,i,j,k,l,m,n,o,p,q],G)) ()) ()) ()) ()):=by
 kernel_rfl
theorem jk.r2 :jF zi ⟨false,false,false⟩ (jm zi O) (reg Try.f18 2) (reg Try.f18 2).toList ([a,b,s,v,t,A,u,r,x,y,d,f,g,i,j,k,l,m,n,o,p,q]) S =
  (zU (wu zi BinOp.neq 3 (dem r) (.int .i64 0) S) (fun z c=>some ([a,b,s,v,t,A,u,r,x,y,d,f,g,dem r,z,k,l,m,n,o,p,q],c)) ()):=by
 kernel_rfl
theorem jk.r3 :jF zi ⟨false,false,false⟩ (jm zi O) (reg Try.f18 3) (reg Try.f18 3).toList ([a,b,s,v,t,A,u,r,x,y,d,f,g,i,j,k,l,m,n,o,p,q]) S =
  (zU (jE zi false 40 s S) (fun w c=>zU (wz zi 40 t (dem w) c) (fun C B=>some ([a,b,s,v,t,r,u,dem r,x,y,d,f,g,i,j,w,dem r,m,n,o,p,q],B)) ()) ()):=by
 kernel_rfl
theorem jk.r4 :jF zi ⟨false,false,false⟩ (jm zi O) (reg Try.f18 4) (reg Try.f18 4).toList ([a,b,s,v,t,A,u,r,x,y,d,f,g,i,j,k,l,m,n,o,p,q]) S =
  (zU (jE zi false 40 s S) (fun w c=>zU ((jm zi O) 24 [(dem w),(dem (dem u))] c) (fun C B=>zU (zW C 0 B) (fun E D=>zU (zW (jd 0 C) 1 D) (fun F G=>zU (wz zi 40 t (dem E) G) (fun I H=>some ([a,b,s,v,t,F,u,r,x,y,d,f,g,i,j,k,l,w,dem u,jd 1 (jd 0 C),E,dem F],H)) ()) ()) ()) ()) ()):=by
 kernel_rfl
theorem jk.rs:type_of% (aij @jk.r0 (aij @jk.r1 (aij @jk.r2 (aij @jk.r3 (@jk.r4))))):=aij @jk.r0 (aij @jk.r1 (aij @jk.r2 (aij @jk.r3 (@jk.r4))))
theorem jk.runs {a b:Value} {S c:zx} {e:AEx} {T:List Value} (h:zI zi O false jk.code ([a,b,zh,zh,zh,zh,zh,zh,zh,zh,zh,zh,zh,zh,zh,zh,zh,zh,zh,zh,zh,zh]) zx.empty=some (e,T,c)) (he:e=.normal∨e=.ret) {w0:Value} (c0:jE zi false 40 (T.getD 4 zh) c=some (w0,c)) (h0:jK (w0)=true) (h1:jK (T.getD 5 zh)=true) (hca:[a,b].all (jD 16)=true) (hcv:jD 16 (Value.tuple #[w0,T.getD 5 zh])=true):jm zi O 18 [a,b] S=some (Value.tuple #[w0,T.getD 5 zh],S) :=
 yL rfl rfl Try.func18 (by decide) jk.body (by exact h) he ((wR ((show zX zi T c Try.f18.results.toList=zX zi T c [(ResultVar.cell 4 40),(ResultVar.tmp 5)] from by kernel_rfl).trans (by simp only [zX,c0])) (by kernel_rfl) (by simp only [List.all_cons,List.all_nil,h0,h1,Bool.and_true])).trans rfl) hca hcv
end Go.Proofs.Ytblpnklfimkfoaa
namespace Go.Proofs.Ytblpnklfimkfoaa
open Go.Abs
abbrev jB.id:FuncId:=38
noncomputable def jB.code:Code:=(.seq (.region 0 (reg Try.f38 0) false) (.seq (.region 1 (reg Try.f38 1) false) Code.ret))
theorem jB.body:Try.f38.body=some jB.code:=by kernel_rfl
variable (g i k l x4 x5 x6 x7 x8 x9 o p q r s t u w x y z A B C D E F G H I J K L M N P Q R U V:Value) (S:zx)
theorem jB.r0 :jF zi ⟨false,false,false⟩ (jm zi O) (reg Try.f38 0) (reg Try.f38 0).toList ([g,i,k,l,x4,x5,x6,x7,x8,x9,o,p,q,r,s,t,u,w,x,y,z,A,B,C,D,E,F,G,H,I,J,K,L,M,N,P,Q,R,U,V]) S =
  (zU (JV (dem g) S) (fun W m=>zU (JV (dem i) m) (fun X S2=>some ([g,i,W,X,Value.bool false,x5,x6,x7,x8,x9,o,p,q,r,s,t,u,w,x,y,z,A,B,C,D,E,F,G,H,I,J,K,L,M,N,P,Q,R,U,V],S2)) ()) ()):=by
 kernel_rfl
theorem jB.r1 :jF zi ⟨false,false,false⟩ (jm zi O) (reg Try.f38 1) (reg Try.f38 1).toList ([g,i,k,l,x4,x5,x6,x7,x8,x9,o,p,q,r,s,t,u,w,x,y,z,A,B,C,D,E,F,G,H,I,J,K,L,M,N,P,Q,R,U,V]) S =
  (zU (zS zi 28 k 0 S) (fun W m=>zU (jE zi false 3 W m) (fun X S2=>zU (zS zi 28 l 0 S2) (fun v2 S3=>zU (jE zi false 3 v2 S3) (fun v3 S4=>zU (wu zi BinOp.eql 3 X v3 S4) (fun f S5=>gdK (dem f) true (zS zi 28 k 1) S5 (fun v6 S6=>gdK (dem f) true (jE zi false 3 v6) S6 (fun v7 S7=>gdK (dem f) true (zS zi 28 l 1) S7 (fun v8 S8=>gdK (dem f) true (jE zi false 3 v8) S8 (fun v9 S9=>gdK (dem f) true (wu zi BinOp.eql 3 v7 v9) S9 (fun Y b6=>zU (ql (dem f) Y (Value.bool false) b6) (fun c b7=>gdK (dem c) true (zS zi 28 k 2) b7 (fun Z b8=>gdK (dem c) true (jE zi false 3 Z) b8 (fun a0 b9=>gdK (dem c) true (zS zi 28 l 2) b9 (fun a1 c0=>gdK (dem c) true (jE zi false 3 a1) c0 (fun a2 c1=>gdK (dem c) true (wu zi BinOp.eql 3 a0 a2) c1 (fun a3 c2=>zU (ql (dem c) a3 (Value.bool false) c2) (fun d c3=>gdK (dem d) true (zS zi 28 k 3) c3 (fun a4 c4=>gdK (dem d) true (jE zi false 3 a4) c4 (fun a5 c5=>gdK (dem d) true (zS zi 28 l 3) c5 (fun a6 c6=>gdK (dem d) true (jE zi false 3 a6) c6 (fun a7 c7=>gdK (dem d) true (wu zi BinOp.eql 3 a5 a7) c7 (fun a8 c8=>zU (ql (dem d) a8 (Value.bool false) c8) (fun b c9=>gdK (dem b) true (zS zi 28 k 4) c9 (fun a9 d0=>gdK (dem b) true (jE zi false 26 a9) d0 (fun b0 d1=>gdK (dem b) true (wP zi false false 26 9 b0) d1 (fun b1 d2=>gdK (dem b) true (zS zi 28 l 4) d2 (fun b2 d3=>gdK (dem b) true (jE zi false 26 b2) d3 (fun b3 d4=>gdK (dem b) true (wP zi false false 26 9 b3) d4 (fun b4 d5=>gdK (dem b) true (wu zi BinOp.eql 9 b1 b4) d5 (fun b5 d6=>zU (ql (dem b) b5 (Value.bool false) d6) (fun n d7=>some ([g,i,k,l,n,W,X,v2,v3,f,dem f,v6,v7,v8,v9,Y,c,dem c,Z,a0,a1,a2,a3,d,dem d,a4,a5,a6,a7,a8,b,dem b,a9,b0,b1,b2,b3,b4,b5,dem n],d7)) ()) ()) ()) ()) ()) ()) ()) ()) ()) ()) ()) ()) ()) ()) ()) ()) ()) ()) ()) ()) ()) ()) ()) ()) ()) ()) ()) ()) ()) ()) ()):=by
 refine sD Try.f38 1 0 (fun W m=>?_)
 refine sD Try.f38 1 1 (fun X S2=>?_)
 refine sD Try.f38 1 2 (fun v2 S3=>?_)
 refine sD Try.f38 1 3 (fun v3 S4=>?_)
 refine sD Try.f38 1 4 (fun f S5=>?_)
 refine sP Try.f38 1 5 (v:=f) ?_
 refine sG Try.f38 1 6 (j:=5) (fun v6 S6=>?_)
 refine sG Try.f38 1 7 (j:=5) (fun v7 S7=>?_)
 refine sG Try.f38 1 8 (j:=5) (fun v8 S8=>?_)
 refine sG Try.f38 1 9 (j:=5) (fun v9 S9=>?_)
 refine sG Try.f38 1 10 (j:=5) (fun Y b6=>?_)
 refine sD Try.f38 1 11 (fun c b7=>?_)
 refine sP Try.f38 1 12 (v:=c) ?_
 refine sG Try.f38 1 13 (j:=12) (fun Z b8=>?_)
 refine sG Try.f38 1 14 (j:=12) (fun a0 b9=>?_)
 refine sG Try.f38 1 15 (j:=12) (fun a1 c0=>?_)
 refine sG Try.f38 1 16 (j:=12) (fun a2 c1=>?_)
 refine sG Try.f38 1 17 (j:=12) (fun a3 c2=>?_)
 refine sD Try.f38 1 18 (fun d c3=>?_)
 refine sP Try.f38 1 19 (v:=d) ?_
 refine sG Try.f38 1 20 (j:=19) (fun a4 c4=>?_)
 refine sG Try.f38 1 21 (j:=19) (fun a5 c5=>?_)
 refine sG Try.f38 1 22 (j:=19) (fun a6 c6=>?_)
 refine sG Try.f38 1 23 (j:=19) (fun a7 c7=>?_)
 refine sG Try.f38 1 24 (j:=19) (fun a8 c8=>?_)
 refine sD Try.f38 1 25 (fun b c9=>?_)
 refine sP Try.f38 1 26 (v:=b) ?_
 refine sG Try.f38 1 27 (j:=26) (fun a9 d0=>?_)
 refine sG Try.f38 1 28 (j:=26) (fun b0 d1=>?_)
 refine sG Try.f38 1 29 (j:=26) (fun b1 d2=>?_)
 refine sG Try.f38 1 30 (j:=26) (fun b2 d3=>?_)
 refine sG Try.f38 1 31 (j:=26) (fun b3 d4=>?_)
 refine sG Try.f38 1 32 (j:=26) (fun b4 d5=>?_)
 refine sG Try.f38 1 33 (j:=26) (fun b5 d6=>?_)
 refine sD Try.f38 1 34 (fun n d7=>?_)
 refine sP Try.f38 1 35 (v:=n) ?_
 kernel_rfl
theorem jB.rs:type_of% (aij @jB.r0 (@jB.r1)):=aij @jB.r0 (@jB.r1)
theorem jB.runs {g i:Value} {S m:zx} {e:AEx} {T:List Value} (h:zI zi O false jB.code ([g,i,zh,zh,zh,zh,zh,zh,zh,zh,zh,zh,zh,zh,zh,zh,zh,zh,zh,zh,zh,zh,zh,zh,zh,zh,zh,zh,zh,zh,zh,zh,zh,zh,zh,zh,zh,zh,zh,zh]) zx.empty=some (e,T,m)) (he:e=.normal∨e=.ret) (hca:[g,i].all (jD 16)=true) (hcv:jD 16 (T.getD 4 zh)=true):jm zi O 38 [g,i] S=some (T.getD 4 zh,S) :=
 yL rfl rfl Try.func38 (by decide) jB.body (by exact h) he (yD (a:=T.getD 4 zh) ((show zX zi T m Try.f38.results.toList=zX zi T m [(ResultVar.tmp 4)] from by kernel_rfl).trans (by simp only [zX])) (by kernel_rfl)) hca hcv
end Go.Proofs.Ytblpnklfimkfoaa
namespace Go.Proofs.Ytblpnklfimkfoaa
open Go.Abs
abbrev zD.id:FuncId:=14
noncomputable def zD.jG:Code:=(.seq (.region 4 (reg Try.f14 4) false) (.seq (.cond (.tmp 14) Code.skip (.exit 0)) (.seq (.block 1 (.seq (.region 5 (reg Try.f14 5) false) (.seq (.region 6 (reg Try.f14 6) true) (.cond (.tmp 25) (.seq (.region 7 (reg Try.f14 7) false) Code.ret) Code.skip)))) (.region 8 (reg Try.f14 8) false))))
noncomputable def zD.code:Code:=(.seq (.region 0 (reg Try.f14 0) false) (.seq (.seq (.region 1 (reg Try.f14 1) false) (.cond (.tmp 10) (.seq (.region 2 (reg Try.f14 2) false) Code.ret) Code.skip)) (.seq (.seq (.region 3 (reg Try.f14 3) false) (.block 0 (.loop zD.jG))) (.seq (.region 9 (reg Try.f14 9) false) Code.ret))))
theorem zD.body:Try.f14.body=some zD.code:=by kernel_rfl
theorem zD.eta {T:List Value} (h:T.length=27):T=[T.getD 0 zh,T.getD 1 zh,T.getD 2 zh,T.getD 3 zh,T.getD 4 zh,T.getD 5 zh,T.getD 6 zh,T.getD 7 zh,T.getD 8 zh,T.getD 9 zh,T.getD 10 zh,T.getD 11 zh,T.getD 12 zh,T.getD 13 zh,T.getD 14 zh,T.getD 15 zh,T.getD 16 zh,T.getD 17 zh,T.getD 18 zh,T.getD 19 zh,T.getD 20 zh,T.getD 21 zh,T.getD 22 zh,T.getD 23 zh,T.getD 24 zh,T.getD 25 zh,T.getD 26 zh]:=(yJ T 27 h).trans (by kernel_rfl)
variable (d w y z E x A B C D f g c b i j k l m n o p q r s t u:Value) (S:zx)
theorem zD.r0 :jF zi ⟨false,false,false⟩ (jm zi O) (reg Try.f14 0) (reg Try.f14 0).toList ([d,w,y,z,E,x,A,B,C,D,f,g,c,b,i,j,k,l,m,n,o,p,q,r,s,t,u]) S =
  ( some ([d,w,y,z,Value.bool false,x,A,B,C,D,f,g,c,b,i,j,k,l,m,n,o,p,q,r,s,t,u],S)):=by
 kernel_rfl
theorem zD.r1 :jF zi ⟨false,false,false⟩ (jm zi O) (reg Try.f14 1) (reg Try.f14 1).toList ([d,w,y,z,E,x,A,B,C,D,f,g,c,b,i,j,k,l,m,n,o,p,q,r,s,t,u]) S =
  (zU (ku zi 22 (dem d) S) (fun H F=>zU (ku zi 22 (dem w) F) (fun G I=>zU (wu zi BinOp.neq 3 H G I) (fun W J=>some ([d,w,y,z,E,x,dem d,H,dem w,G,W,g,c,b,i,j,k,l,m,n,o,p,q,r,s,t,u],J)) ()) ()) ()):=by
 kernel_rfl
theorem zD.r2 :jF zi ⟨false,false,false⟩ (jm zi O) (reg Try.f14 2) (reg Try.f14 2).toList ([d,w,y,z,E,x,A,B,C,D,f,g,c,b,i,j,k,l,m,n,o,p,q,r,s,t,u]) S =
  ( some ([d,w,y,z,Value.bool false,x,A,B,C,D,f,g,c,b,i,j,k,l,m,n,o,p,q,r,s,t,u],S)):=by
 kernel_rfl
theorem zD.r3 :jF zi ⟨false,false,false⟩ (jm zi O) (reg Try.f14 3) (reg Try.f14 3).toList ([d,w,y,z,E,x,A,B,C,D,f,g,c,b,i,j,k,l,m,n,o,p,q,r,s,t,u]) S =
  (zU (ku zi 22 (dem d) S) (fun H F=>some ([d,w,y,z,E,x,A,B,C,D,f,dem d,H,.int .i64 0,i,j,k,l,m,n,o,p,q,r,s,t,u],F)) ()):=by
 kernel_rfl
theorem zD.r4 :jF zi ⟨false,false,false⟩ (jm zi O) (reg Try.f14 4) (reg Try.f14 4).toList ([d,w,y,z,E,x,A,B,C,D,f,g,c,b,i,j,k,l,m,n,o,p,q,r,s,t,u]) S =
  (zU (wu zi BinOp.lss 3 b c S) (fun K F=>some ([d,w,y,z,E,x,A,B,C,D,f,g,c,b,K,j,k,l,m,n,o,p,q,r,s,t,u],F)) ()):=by
 kernel_rfl
theorem zD.r5 :jF zi ⟨false,false,false⟩ (jm zi O) (reg Try.f14 5) (reg Try.f14 5).toList ([d,w,y,z,E,x,A,B,C,D,f,g,c,b,i,j,k,l,m,n,o,p,q,r,s,t,u]) S =
  ( some ([d,w,y,z,E,b,A,B,C,D,f,g,c,dem b,i,dem b,k,l,m,n,o,p,q,r,s,t,u],S)):=by
 kernel_rfl
theorem zD.d6:qO zi (reg Try.f14 6)=true:=by kernel_rfl
theorem zD.ff6:fixed zi (reg Try.f14 6)=false:=by kernel_rfl
theorem zD.k6:checked zi (reg Try.f14 6)=[]:=by kernel_rfl
theorem zD.g6:again zi (reg Try.f14 6)=[]:=by kernel_rfl
theorem zD.r6 :zI zi O false (.region 6 (reg Try.f14 6) true) ([d,w,y,z,E,x,A,B,C,D,f,g,c,b,i,j,k,l,m,n,o,p,q,r,s,t,u]) S =
  J4 (zU (jI zi 22 (dem d) (dem x) S) (fun L F=>zU (jE zi false 28 L F) (fun G I=>zU (jI zi 22 (dem w) (dem x) I) (fun M J=>zU (jE zi false 28 M J) (fun N Q=>zU ((jm zi O) 38 [(dem G),(dem N)] Q) (fun P R=>zU (aUn zi UnOp.not P R) (fun U V=>some ([d,w,y,z,E,x,A,B,C,D,f,g,c,b,i,j,dem d,dem x,L,G,dem w,dem x,M,N,P,U,u],V)) ()) ()) ()) ()) ()) ()):=by
 rw [yO zD.d6 zD.ff6 zD.k6 zD.g6]
 refine congrArg J4 ?_
 refine tP Try.f14 6 0 (v:=d) ?_
 refine tP Try.f14 6 1 (v:=x) ?_
 refine tD Try.f14 6 2 (fun L F=>?_)
 refine tD Try.f14 6 3 (fun G I=>?_)
 refine tP Try.f14 6 4 (v:=w) ?_
 refine tP Try.f14 6 5 (v:=x) ?_
 refine tD Try.f14 6 6 (fun M J=>?_)
 refine tD Try.f14 6 7 (fun N Q=>?_)
 refine tD Try.f14 6 8 (fun P R=>?_)
 refine tD Try.f14 6 9 (fun U V=>?_)
 kernel_rfl
theorem zD.r7 :jF zi ⟨false,false,false⟩ (jm zi O) (reg Try.f14 7) (reg Try.f14 7).toList ([d,w,y,z,E,x,A,B,C,D,f,g,c,b,i,j,k,l,m,n,o,p,q,r,s,t,u]) S =
  ( some ([d,w,y,z,Value.bool false,x,A,B,C,D,f,g,c,b,i,j,k,l,m,n,o,p,q,r,s,t,u],S)):=by
 kernel_rfl
theorem zD.r8 :jF zi ⟨false,false,false⟩ (jm zi O) (reg Try.f14 8) (reg Try.f14 8).toList ([d,w,y,z,E,x,A,B,C,D,f,g,c,b,i,j,k,l,m,n,o,p,q,r,s,t,u]) S =
  (zU (wu zi BinOp.add 3 b (.int .i64 1) S) (fun K F=>some ([d,w,y,z,E,x,A,B,C,D,f,g,c,dem K,i,j,k,l,m,n,o,p,q,r,s,t,K],F)) ()):=by
 kernel_rfl
theorem zD.r9 :jF zi ⟨false,false,false⟩ (jm zi O) (reg Try.f14 9) (reg Try.f14 9).toList ([d,w,y,z,E,x,A,B,C,D,f,g,c,b,i,j,k,l,m,n,o,p,q,r,s,t,u]) S =
  ( some ([d,w,y,z,Value.bool true,x,A,B,C,D,f,g,c,b,i,j,k,l,m,n,o,p,q,r,s,t,u],S)):=by
 kernel_rfl
theorem zD.rs:type_of% (aij @zD.r0 (aij @zD.r1 (aij @zD.r2 (aij @zD.r3 (aij @zD.r4 (aij @zD.r5 (aij @zD.r6 (aij @zD.r7 (aij @zD.r8 (@zD.r9)))))))))):=aij @zD.r0 (aij @zD.r1 (aij @zD.r2 (aij @zD.r3 (aij @zD.r4 (aij @zD.r5 (aij @zD.r6 (aij @zD.r7 (aij @zD.r8 (@zD.r9)))))))))
theorem zD.runs {d w:Value} {S F:zx} {e:AEx} {T:List Value} (h:zI zi O false zD.code ([d,w,zh,zh,zh,zh,zh,zh,zh,zh,zh,zh,zh,zh,zh,zh,zh,zh,zh,zh,zh,zh,zh,zh,zh,zh,zh]) S=some (e,T,F)) (he:e=.normal∨e=.ret):jm zi O 14 [d,w] S=some (T.getD 4 zh,F) :=
 wo rfl rfl Try.func14 (by decide) zD.body (by exact h) he (yD (a:=T.getD 4 zh) ((show zX zi T F Try.f14.results.toList=zX zi T F [(ResultVar.tmp 4)] from by kernel_rfl).trans (by simp only [zX])) (by kernel_rfl))
end Go.Proofs.Ytblpnklfimkfoaa
namespace Go.Proofs.Ytblpnklfimkfoaa
open Go.Abs
abbrev jL.id:FuncId:=17
noncomputable def jL.code:Code:=(.seq (.region 0 (reg Try.f17 0) false) (.seq (.region 1 (reg Try.f17 1) false) (.seq (.seq (.region 2 (reg Try.f17 2) false) (.cond (.tmp 13) (.seq (.region 3 (reg Try.f17 3) false) Code.ret) Code.skip)) (.seq (.region 4 (reg Try.f17 4) false) Code.ret))))
theorem jL.body:Try.f17.body=some jL.code:=by kernel_rfl
variable (b c q r v p n s t u d f g i j k l m:Value) (S:zx)
theorem jL.r0 :jF zi ⟨false,false,false⟩ (jm zi O) (reg Try.f17 0) (reg Try.f17 0).toList ([b,c,q,r,v,p,n,s,t,u,d,f,g,i,j,k,l,m]) S =
  (zU (JV (dem c) S) (fun x o=>some ([b,c,q,x,.int .i64 0,p,n,s,t,u,d,f,g,i,j,k,l,m],o)) ()):=by
 kernel_rfl
theorem jL.r1 :jF zi ⟨false,false,false⟩ (jm zi O) (reg Try.f17 1) (reg Try.f17 1).toList ([b,c,q,r,v,p,n,s,t,u,d,f,g,i,j,k,l,m]) S =
  (zU (jE zi false 28 r S) (fun x o=>zU ((jm zi O) 11 [(dem x)] o) (fun w B=>zU (zW w 0 B) (fun y C=>zU (zW (jd 0 w) 1 C) (fun z D=>some ([b,c,q,r,v,y,z,jd 1 (jd 0 w),x,dem w,dem y,dem z,g,i,j,k,l,m],D)) ()) ()) ()) ()):=by
 kernel_rfl
theorem jL.r2 :jF zi ⟨false,false,false⟩ (jm zi O) (reg Try.f17 2) (reg Try.f17 2).toList ([b,c,q,r,v,p,n,s,t,u,d,f,g,i,j,k,l,m]) S =
  (zU (wu zi BinOp.neq 29 (dem n) (.int .i64 0) S) (fun w o=>some ([b,c,q,r,v,p,n,s,t,u,d,f,dem n,w,j,k,l,m],o)) ()):=by
 kernel_rfl
theorem jL.r3 :jF zi ⟨false,false,false⟩ (jm zi O) (reg Try.f17 3) (reg Try.f17 3).toList ([b,c,q,r,v,p,n,s,t,u,d,f,g,i,j,k,l,m]) S =
  ( some ([b,c,q,r,n,p,dem n,s,t,u,d,f,g,i,dem n,k,l,m],S)):=by
 kernel_rfl
theorem jL.r4 :jF zi ⟨false,false,false⟩ (jm zi O) (reg Try.f17 4) (reg Try.f17 4).toList ([b,c,q,r,v,p,n,s,t,u,d,f,g,i,j,k,l,m]) S =
  (zU ((jm zi O) 23 [(dem (dem b)),(dem (dem p))] S) (fun A o=>some ([b,c,q,r,A,p,n,s,t,u,d,f,g,i,j,dem b,dem p,dem A],o)) ()):=by
 kernel_rfl
theorem jL.rs:type_of% (aij @jL.r0 (aij @jL.r1 (aij @jL.r2 (aij @jL.r3 (@jL.r4))))):=aij @jL.r0 (aij @jL.r1 (aij @jL.r2 (aij @jL.r3 (@jL.r4))))
theorem jL.runs {b c:Value} {S o:zx} {e:AEx} {T:List Value} (h:zI zi O false jL.code ([b,c,zh,zh,zh,zh,zh,zh,zh,zh,zh,zh,zh,zh,zh,zh,zh,zh]) S=some (e,T,o)) (he:e=.normal∨e=.ret):jm zi O 17 [b,c] S=some (T.getD 4 zh,o) :=
 wo rfl rfl Try.func17 (by decide) jL.body (by exact h) he (yD (a:=T.getD 4 zh) ((show zX zi T o Try.f17.results.toList=zX zi T o [(ResultVar.tmp 4)] from by kernel_rfl).trans (by simp only [zX])) (by kernel_rfl))
end Go.Proofs.Ytblpnklfimkfoaa
namespace Go.Proofs.Ytblpnklfimkfoaa
open Go.Abs
abbrev jQ.id:FuncId:=26
noncomputable def jQ.code:Code:=(.seq (.region 0 (reg Try.f26 0) false) (.seq (.region 1 (reg Try.f26 1) false) (.seq (.region 2 (reg Try.f26 2) false) Code.ret)))
theorem jQ.body:Try.f26.body=some jQ.code:=by kernel_rfl
variable (b g p f j k l m n o c d:Value) (S:zx)
theorem jQ.r0 :jF zi ⟨false,false,false⟩ (jm zi O) (reg Try.f26 0) (reg Try.f26 0).toList ([b,g,p,f,j,k,l,m,n,o,c,d]) S =
  ( some ([b,g,Value.slice none 0 0,f,j,k,l,m,n,o,c,d],S)):=by
 kernel_rfl
theorem jQ.r1 :jF zi ⟨false,false,false⟩ (jm zi O) (reg Try.f26 1) (reg Try.f26 1).toList ([b,g,p,f,j,k,l,m,n,o,c,d]) S =
  (zU ((jm zi O) 25 [(dem (dem b))] S) (fun r i=>zU ((jm zi O) 9 [(dem r)] i) (fun q u=>zU (zW q 0 u) (fun s v=>zU (zW (jd 0 q) 1 v) (fun t w=>some ([b,g,p,s,t,jd 1 (jd 0 q),dem b,r,dem q,dem s,dem t,d],w)) ()) ()) ()) ()):=by
 kernel_rfl
theorem jQ.r2 :jF zi ⟨false,false,false⟩ (jm zi O) (reg Try.f26 2) (reg Try.f26 2).toList ([b,g,p,f,j,k,l,m,n,o,c,d]) S =
  ( some ([b,g,f,dem f,j,k,l,m,n,o,c,dem f],S)):=by
 kernel_rfl
theorem jQ.rs:type_of% (aij @jQ.r0 (aij @jQ.r1 (@jQ.r2))):=aij @jQ.r0 (aij @jQ.r1 (@jQ.r2))
theorem jQ.runs {b:Value} {S i:zx} {e:AEx} {T:List Value} (h:zI zi O false jQ.code ([b,zh,zh,zh,zh,zh,zh,zh,zh,zh,zh,zh]) S=some (e,T,i)) (he:e=.normal∨e=.ret):jm zi O 26 [b] S=some (T.getD 2 zh,i) :=
 wo rfl rfl Try.func26 (by decide) jQ.body (by exact h) he (yD (a:=T.getD 2 zh) ((show zX zi T i Try.f26.results.toList=zX zi T i [(ResultVar.tmp 2)] from by kernel_rfl).trans (by simp only [zX])) (by kernel_rfl))
end Go.Proofs.Ytblpnklfimkfoaa
