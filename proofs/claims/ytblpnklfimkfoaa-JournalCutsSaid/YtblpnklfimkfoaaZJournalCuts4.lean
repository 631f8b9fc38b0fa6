/-
The law JournalCuts returns true for every input, and leaves it as it was; no condition. Part 4 of 5 of the texts (put together by a program: own names are short, what isn't needed is left out).
-/
import Derived.Test.YtblpnklfimkfoaaZJournalCuts3
import Derived.KernelRfl
import Derived.Test.YtblpnklfimkfoaaChecked
set_option linter.unusedVariables false
set_option linter.unusedSimpArgs false
set_option maxRecDepth 100000
open Go renaming undef → zh
open Go.Proofs.Try renaming prog → zi
open Nat renaming reduceEqDiff → zk
open Int renaming reduceEq → zn
open Int renaming reduceLT → zo
open Int renaming reduceLE → zq
namespace Go.Abs
open Go.RowKit
def ZK (P:Program) (call:FuncId→List Value→M Value):Prop:=∀ g args aargs S v S',call g args S=some (v,S')→∀ μ H ω,GI μ S H→L0 μ H args aargs→Dom μ H ω→(∀ r s,ω r=some s→s=.ext) →
 ∃ a H' μ' ω',lim P g aargs H=some (a,H')∧GI μ' S' H'∧Later μ H μ' H'∧Kept ω H ω' H'∧Dom μ' H' ω'∧VV μ' H' ω' (some (.res none)) v a
section
variable {P:Program} {call:FuncId→List Value→M Value} {μ:Mu} {ω:Nat→Option wO} {S S' H:zx} {T A:List Value}
theorem adk (hc:ZK P call) {g:FuncId} {args aargs:List Value} {v:Value} (hG:GI μ S H) (hT:TI μ H ω T A) (h:call g args S=some (v,S')) (ha:L0 μ H args aargs):Out μ ω H A T S' v (lim P g aargs H):=by
 obtain ⟨a,H',μ',ω',h1,h2,h3,h4,h5,h6⟩:=hc g args aargs S v S' h μ H (fun r=>(ω r).map fun _=>.ext) hG ha (fun r s hs=>by
  cases hr:ω r with
  | none=>simp [hr] at hs
  | some s0=>exact hT.dom r s0 hr) (fun r s hs=>by
  cases hr:ω r with
  | none=>simp [hr] at hs
  | some s0=>simp [hr] at hs;exact hs.symm)
 have kept:∀ r s,ω r=some s→ω' r=some .ext∧H'.get r=H.get r:=fun r s hs=>h4 r (by dsimp only;rw [hs];rfl)
 refine ⟨a,H',μ',fun r=>match ω' r with | some .ext=>ω r | some (.slot _ _)=>none | x=>x,h1,h2,h3,fun r hr=>?_,fun r s hs=>?_,hT.len,fun i=>?_,?_⟩
 ·
  obtain ⟨k1,k2⟩:=kept r _ hr
  exact ⟨by (try dsimp only);rw [k1];exact hr,k2⟩
 ·
  dsimp only at hs
  cases hr:ω' r with
  | none=>rw [hr] at hs;cases hs
  | some s0 =>
   have:=h5 r s0 hr
   exact this
 ·
  refine (hT.slots i).later h3 (K:=fun _=>True) (fun _ _ _ _ _=>trivial) (fun r s _ hr=>?_) (fun _ _=>trivial)
  obtain ⟨k1,k2⟩:=kept r s hr
  exact ⟨by (try dsimp only);rw [k1];exact hr,k2⟩
 ·
  refine h6.later (Later.refl _ _) (K:=fun s=>∃ j,s=.res j) (fun s i t ⟨j,hj⟩ ht=>by subst hj;cases j <;> cases ht;exact ⟨_,rfl⟩) (fun r s ⟨j,hj⟩ hr=>?_) (fun s hs=>by cases hs;exact ⟨_,rfl⟩)
  subst hj
  exact ⟨by (try dsimp only);rw [hr],rfl⟩
def ZI (t:Nat):wO→Option wO
 | .slot i j=>if i=t then some (.res j) else some (.slot i j)
 | s=>some s
def Jl (t k:Nat):wO→Option wO
 | .slot i (some j)=>if i=t∧j=k then some (.res none) else some (.slot i (some j))
 | s=>some s
theorem X6 {x:Operand} (hG:GI μ S H) (hT:TI μ H ω T A) (hx:yE x=true):Out μ ω H A (wo T x) S (zT T x) (some (zT A x,H)):=by
 cases x with
 | const v=>exact Out.same hG hT (VV.jS hx)
 | global g=>cases hx
 | func f=>exact Out.same hG hT (hT.eval (x:=.func f) rfl)
 | tmp t =>
  refine ⟨_,H,μ,fun r=>(ω r).bind (ZI t),rfl,hG,Later.refl μ H,fun r hr=>⟨by dsimp only;rw [hr];rfl,rfl⟩,fun r s hs=>?_,by simp [wo,yF,hT.len],fun i=>?_,?_⟩
  ·
   dsimp only at hs
   cases hr:ω r with
   | none=>rw [hr] at hs;cases hs
   | some s0=>exact hT.dom r s0 hr
  ·
   dsimp only [wo,yF]
   rw [wW]
   by_cases hi:i=t
   ·
    subst hi
    by_cases hlt:i < T.length
    ·
     rw [if_pos ⟨rfl,hlt⟩]
     exact (hT.slots i).v0.at0
    ·
     rw [if_neg (fun h=>hlt h.2)]
     rw [List.getD_eq_getElem?_getD,List.getElem?_eq_none (Nat.le_of_not_lt hlt),List.getD_eq_getElem?_getD,List.getElem?_eq_none (by rw [← hT.len];omega)]
     exact .nores
   ·
    rw [if_neg (fun h=>hi h.1)]
    refine (hT.slots i).YU (fun _=>rfl) _ (fun s hs=>?_)
    cases hs
    refine ⟨_,rfl,by simp only [ZI];rw [if_neg hi],fun k t' ht=>?_⟩
    cases ht
    exact ⟨_,rfl,by simp only [ZI];rw [if_neg hi]⟩
  ·
   refine (hT.slots t).YU (fun _=>rfl) _ (fun s hs=>?_)
   cases hs
   refine ⟨_,rfl,by simp only [ZI,if_true],fun k t' ht=>?_⟩
   cases ht
   exact ⟨_,rfl,by simp only [ZI,if_true]⟩
theorem getD_modify (vs:Array Value) (i k:Nat) (f:Value→Value) (hf:f zh=zh):(vs.modify i f).getD k zh=if k=i then f (vs.getD k zh) else vs.getD k zh:=by
 rw [Array.getD_eq_getD_getElem?,Array.getD_eq_getD_getElem?,Array.getElem?_modify]
 by_cases h:i=k
 ·
  subst h
  rw [if_pos rfl,if_pos rfl]
  cases vs[i]? with
  | none=>exact hf.symm
  | some v=>rfl
 ·
  rw [if_neg h,if_neg (fun e=>h e.symm)]
theorem VV.part {ω':Nat→Option wO} {ℓ ℓ':Option wO} {v a:Value} (h:VV μ H ω ℓ v a) (hℓ:∀ s,ℓ=some s→∀ k,s.comp k=none):VV μ H ω' ℓ' (Go.Abs.qK v) a:=by
 by_cases ht:∃ x,v=.tuple x
 ·
  obtain ⟨x,rfl⟩:=ht
  show VV μ H ω' ℓ' (.tuple x) a
  cases h with
  | sg hs=>simp [Go.Abs.sg] at hs
  | nores=>exact .nores
  | tuple hx hh =>
   refine .tuple hx fun i=>?_
   have:=hh i
   cases ℓ with
   | none=>exact this.at0
   | some s =>
    have e:(some s).bind (·.comp i)=none:=hℓ s rfl i
    rw [e] at this
    exact this.at0
 ·
  have e:Go.Abs.dem v=Go.Abs.qK v:=by
   cases v <;> first | rfl | exact absurd ⟨_,rfl⟩ ht
  rw [← e]
  exact h.v0.at0
def ZT (T:List Value) (i:Nat):Operand→List Value
 | .tmp t=>T.set t (zY i (T.getD t zh))
 | _=>T
theorem Xv {x:Operand} {i:Nat} {v:Value} (hG:GI μ S H) (hT:TI μ H ω T A) (hx:yE x=true) (h:zL (zT T x) i S=some (v,S')) :
  Out μ ω H A (ZT T i x) S' v (zL (zT A x) i H):=by
 cases x with
 | const w =>
  exfalso
  unfold zL at h
  split at h
  ·
   rename_i vs he
   simp only [zT] at he
   subst he
   simp [yE,ground,Go.Abs.sg] at hx
  ·
   cases h
 | global g=>cases hx
 | func f=>simp [zT,zL] at h
 | tmp t =>
  simp only [zT,ZT] at h ⊢
  unfold zL at h
  split at h
  ·
   rename_i vs hvs
   split at h <;> first | (cases h;done) | skip
   rename_i w hw
   cases h
   have hs:=hT.slots t
   rw [hvs] at hs
   have hil:i < vs.size:=(Array.getElem?_eq_some_iff.1 hw).1
   have hlt:t < T.length:=by
    rcases Nat.lt_or_ge t T.length with h | h
    ·
     exact h
    ·
     rw [List.getD_eq_getElem?_getD,List.getElem?_eq_none h] at hvs
     cases hvs
     simp at hil
   generalize hA:A.getD t zh=at' at hs
   cases hs with
   | sg hs=>simp [Go.Abs.sg] at hs
   | nores=>simp at hil
   | @tuple _ _ y hxs hxx =>
    have hiy:i < y.size:=by rw [← hxs];exact hil
    have hrun:zL (.tuple y) i H=some (y[i],H):=by simp only [zL,Array.getElem?_eq_getElem hiy]
    rw [hrun]
    have hcomp:=hxx i
    rw [Array.getD_eq_getD_getElem?,hw,Array.getD_eq_getD_getElem?,Array.getElem?_eq_getElem hiy] at hcomp
    simp only [Option.getD_some] at hcomp
    refine ⟨_,H,μ,fun r=>(ω r).bind (Jl t i),rfl,hG,Later.refl μ H,fun r hr=>⟨by dsimp only;rw [hr];rfl,rfl⟩,fun r s hs=>?_,by simp [hT.len],fun k=>?_,?_⟩
    ·
     dsimp only at hs
     cases hr:ω r with
     | none=>rw [hr] at hs;cases hs
     | some s0=>exact hT.dom r s0 hr
    ·
     rw [wW]
     by_cases hk:k=t
     ·
      subst hk
      rw [if_pos ⟨rfl,hlt⟩,hA,hvs]
      simp only [zY]
      refine .tuple (by simpa using hxs) fun j=>?_
      rw [getD_modify _ _ _ _ rfl]
      by_cases hj:j=i
      ·
       subst hj
       rw [if_pos rfl]
       exact (hxx j).part (fun s hs k=>by cases hs;rfl)
      ·
       rw [if_neg hj]
       refine (hxx j).YU (fun _=>rfl) _ (fun s hs=>?_)
       cases hs
       refine ⟨_,rfl,by simp only [Jl];rw [if_neg (fun e=>hj e.2)],fun a b hb=>by cases hb⟩
     ·
      rw [if_neg (fun e=>hk e.1)]
      refine (hT.slots k).YU (fun _=>rfl) _ (fun s hs=>?_)
      cases hs
      refine ⟨_,rfl,rfl,fun a b hb=>?_⟩
      cases hb
      exact ⟨_,rfl,by simp only [Jl];rw [if_neg (fun e=>hk e.1)]⟩
    ·
     refine hcomp.YU (fun _=>rfl) _ (fun s hs=>?_)
     cases hs
     exact ⟨_,rfl,by simp [Jl],fun a b hb=>by cases hb⟩
  ·
   cases h
theorem ae0 (hT:TI μ H ω T A):∀ (xs:List Operand),xs.all yE=true→L0 μ H (xs.map fun x=>dem (zT T x)) (xs.map (zT A)):=by
 intro xs h
 exact LV.map fun x hx=>hT.eval (List.all_eq_true.1 h x hx)
theorem Wh {xs:List Operand} (hT:TI μ H ω T A) (h:xs.all yE=true) (hg:(xs.map (zT T)).all ground=true):xs.map (zT A)=xs.map (zT T):=by
 apply List.map_congr_left
 intro x hx
 exact jl (hT.eval (List.all_eq_true.1 h x hx)) (List.all_eq_true.1 hg _ (List.mem_map.2 ⟨x,hx,rfl⟩))
theorem acR {o:Oper} (h:hands o=false) (hc:∀ c,o.op≠.call c):moved o T=T:=by
 unfold moved
 unfold hands at h
 split <;> first | rfl | (rename_i he;exact absurd he (hc _)) | (rename_i he;rw [he] at h;cases h)
theorem acF {fx:Fx} (hc:ZK P call) {o:Oper} {v:Value} (hG:GI μ S H) (hT:TI μ H ω T A) (h:jZ P fx call T o S=some (v,S')):Out μ ω H A (moved o T) S' v (jT P (lim P) A o H):=by
 unfold jZ at h
 split at h <;> first | (cases h;done) | skip
 rename_i hok
 unfold jT
 rw [if_pos hok]
 have hargs:o.op.operands.toList.all yE=true:=hok
 have hev:∀ x ∈ o.op.operands.toList,V0 μ H (dem (zT T x)) (zT A x):=fun x hx=>hT.eval (List.all_eq_true.1 hargs x hx)
 have hoka:∀ x ∈ o.op.operands.toList,yE x=true:=fun x hx=>List.all_eq_true.1 hargs x hx
 obtain ⟨dst,op,type,pos,after,guard⟩:=o
 by_cases hcall:∃ c,op=.call c
 ·
  obtain ⟨c,rfl⟩:=hcall
  dsimp only at h hev hoka hargs ⊢
  have hcargs:c.args.toList.all yE=true:=by
   rw [List.all_eq_true]
   intro x hx
   refine hoka x ?_
   simp only [Op.operands,Call.operands]
   cases c.callee <;> simp <;> first | exact .inr (by simpa using hx) | exact (by simpa using hx)
  cases hcal:c.callee with
  | value f =>
   rw [hcal] at h
   dsimp only at h ⊢
   have hf:=hev f (by simp [Op.operands,Call.operands,hcal])
   split at h <;> first | (cases h;done) | skip
   rename_i g first captured hfe
   rw [hfe] at hf
   have hf:V0 μ H (.func (.func g) first captured) (zT A f):=hf
   generalize hfa:zT A f=fa at hf
   cases hf with
   | sg hs=>simp [Go.Abs.sg] at hs
   | func _ hx hcs h1 h2 =>
    rename_i x' c'
    dsimp only
    have l1:L0 μ H first.toList x'.toList:=⟨by simpa using hx,fun i=>by rw [getD_toList,getD_toList];exact h1 i⟩
    have l2:L0 μ H captured.toList c'.toList:=⟨by simpa using hcs,fun i=>by rw [getD_toList,getD_toList];exact h2 i⟩
    have hm:moved ⟨dst,.call c,type,pos,after,guard⟩ T=T:=by simp only [moved,hcal]
    rw [hm]
    exact adk hc hG hT h ((l1.append (ae0 hT _ hcargs)).append l2)
  | invoke r m=>rw [hcal] at h;cases h
  | builtin b =>
   rw [hcal] at h
   dsimp only at h ⊢
   unfold yK at h
   unfold qm
   cases b <;> dsimp only at h ⊢ <;> first | (cases h;done) | skip
   case len =>
    split at h <;> first | (cases h;done) | skip
    rename_i t x0 ht ha
    obtain ⟨x,hx,rfl⟩:∃ x,c.args.toList=[x]∧zT T x=x0:=by
     match hl:c.args.toList with
     | []=>rw [hl] at ha;cases ha
     | [y]=>rw [hl] at ha;simp at ha;exact ⟨y,rfl,ha⟩
     | y::z::w=>rw [hl] at ha;simp at ha
    have hm:moved ⟨dst,.call c,type,pos,after,guard⟩ T=T:=by simp only [moved,hcal]
    rw [hm,ht,hx]
    rw [hx] at hcargs
    obtain ⟨rfl,a,h1,h2⟩:=aaq h (hT.eval (List.all_eq_true.1 hcargs x (by simp)))
    simp only [List.map_cons,List.map_nil]
    rw [h1]
    exact Out.same hG hT h2
   case append =>
    split at h <;> first | (cases h;done) | skip
    rename_i t tx s0 x0 ht ha
    obtain ⟨so,x,hx,rfl,rfl⟩:∃ so x,c.args.toList=[so,x]∧zT T so=s0∧zT T x=x0:=by
     match hl:c.args.toList with
     | []=>rw [hl] at ha;cases ha
     | [y]=>rw [hl] at ha;simp at ha
     | [y,z]=>rw [hl] at ha;simp at ha;exact ⟨y,z,rfl,ha.1,ha.2⟩
     | y::z::w::u=>rw [hl] at ha;simp at ha
    rw [hx] at hcargs
    have hso:=List.all_eq_true.1 hcargs so (by simp)
    have hm:moved ⟨dst,.call c,type,pos,after,guard⟩ T=wo T so:=by
     simp only [moved,hcal,hx]
     cases so <;> rfl
    rw [hm,ht,hx]
    exact VW hG hT hso h (hT.eval (List.all_eq_true.1 hcargs x (by simp)))
   case copy =>
    split at h <;> first | (cases h;done) | skip
    rename_i t tx s0 x0 ht ha
    obtain ⟨so,x,hx,rfl,rfl⟩:∃ so x,c.args.toList=[so,x]∧zT T so=s0∧zT T x=x0:=by
     match hl:c.args.toList with
     | []=>rw [hl] at ha;cases ha
     | [y]=>rw [hl] at ha;simp at ha
     | [y,z]=>rw [hl] at ha;simp at ha;exact ⟨y,z,rfl,ha.1,ha.2⟩
     | y::z::w::u=>rw [hl] at ha;simp at ha
    rw [hx] at hcargs
    have hm:moved ⟨dst,.call c,type,pos,after,guard⟩ T=T:=by simp only [moved,hcal]
    rw [hm,ht,hx]
    exact adO hG hT h (hT.eval (List.all_eq_true.1 hcargs so (by simp))) (hT.eval (List.all_eq_true.1 hcargs x (by simp)))
   case clear =>
    split at h <;> first | (cases h;done) | skip
    rename_i t x0 ht ha
    obtain ⟨x,hx,rfl⟩:∃ x,c.args.toList=[x]∧zT T x=x0:=by
     match hl:c.args.toList with
     | []=>rw [hl] at ha;cases ha
     | [y]=>rw [hl] at ha;simp at ha;exact ⟨y,rfl,ha⟩
     | y::z::w=>rw [hl] at ha;simp at ha
    have hm:moved ⟨dst,.call c,type,pos,after,guard⟩ T=T:=by simp only [moved,hcal]
    rw [hm,ht,hx]
    rw [hx] at hcargs
    exact ab2 hG hT h (hT.eval (List.all_eq_true.1 hcargs x (by simp)))
   case min =>
    obtain ⟨rfl,hg,hga,hh⟩:=jR (H:=H) h
    have hm:moved ⟨dst,.call c,type,pos,after,guard⟩ T=T:=by simp only [moved,hcal]
    rw [hm,Wh hT hcargs hga,hh]
    exact Out.same hG hT (V0.ground hg)
   case max =>
    obtain ⟨rfl,hg,hga,hh⟩:=jR (H:=H) h
    have hm:moved ⟨dst,.call c,type,pos,after,guard⟩ T=T:=by simp only [moved,hcal]
    rw [hm,Wh hT hcargs hga,hh]
    exact Out.same hG hT (V0.ground hg)
 ·
  have hnc:∀ c,op≠.call c:=fun c hc=>hcall ⟨c,hc⟩
  have hV:vOp P fx (zT T) ⟨dst,op,type,pos,after,guard⟩ S=some (v,S'):=by
   cases op <;> first | exact h | exact absurd rfl (hnc _)
  suffices hs:Out μ ω H A (moved ⟨dst,op,type,pos,after,guard⟩ T) S' v (aOp P (zT A) ⟨dst,op,type,pos,after,guard⟩ H) by
   cases op <;> first | exact hs | exact absurd rfl (hnc _)
  by_cases hh:hands ⟨dst,op,type,pos,after,guard⟩=true
  ·
   cases op <;> first | (cases hh;done) | skip
   case move x =>
    cases hV
    have:=X6 hG hT (hoka x (by simp [Op.operands]))
    have hm:moved ⟨dst,.move x,type,pos,after,guard⟩ T=wo T x:=by cases x <;> rfl
    rw [hm];exact this
   case assign x =>
    cases hV
    have:=X6 hG hT (hoka x (by simp [Op.operands]))
    have hm:moved ⟨dst,.assign x,type,pos,after,guard⟩ T=wo T x:=by cases x <;> rfl
    rw [hm];exact this
   case extract x i =>
    have:=Xv hG hT (hoka x (by simp [Op.operands])) hV
    have hm:moved ⟨dst,.extract x i,type,pos,after,guard⟩ T=(ZT T i x):=by cases x <;> rfl
    rw [hm];exact this
  ·
   have hh:hands ⟨dst,op,type,pos,after,guard⟩=false:=by simpa using hh
   rw [acR hh hnc]
   by_cases hch:Zv P ⟨dst,op,type,pos,after,guard⟩=false
   ·
    obtain ⟨rfl,a,h1,h2,h3⟩:=Qs hV hch hev (.inr hG) (.inr hG)
    rw [h1]
    exact Out.same hG hT (h3 hh)
   ·
    unfold vOp at hV
    unfold aOp
    cases op <;> dsimp only at hV hev ⊢ <;> first | (cases hV;done) | (exact absurd rfl hch) | (cases hh;done) | skip
    case alloc e=>exact aaY hG hT hV
    case box x _=>exact aeU hG hT hV (hev x (by simp [Op.operands]))
    case buildSlice t len parts _ =>
     have hps:=QT (μ:=μ) (H:=H) (parts:=parts.toList) (ρ:=zT T) (ρA:=zT A) fun p hp=>hev p.2 (by simp [Op.operands];exact ⟨p.1,by simpa using hp⟩)
     split at hV
     ·
      exact KL hG hT hV hps
     ·
      exact Wy hG hT hV hps
    case makeMap t r _=>exact Xk hG hT hV (fun h=>by cases r <;> simp at h ⊢)
    case mapUpdate t x k w _=>exact Yy hG hT hV (hev x (by simp [Op.operands])) (hev k (by simp [Op.operands])) (hev w (by simp [Op.operands]))
    case store a x _=>exact aco hG hT hV (hev a (by simp [Op.operands])) (hev x (by simp [Op.operands]))
    case makeSlice l c _ =>
     split at hV
     ·
      exact KX hG hT hV (hev l (by simp [Op.operands])) (hev c (by simp [Op.operands]))
     ·
      exact YF hG hT hV (hev l (by simp [Op.operands])) (hev c (by simp [Op.operands]))
    case convert dst' x _ =>
     have hd:∃ e,P.underlying dst'=some (.slice e):=by
      unfold Zv at hch
      dsimp only at hch
      split at hch
      ·
       exact ⟨_,by assumption⟩
      ·
       exact absurd rfl hch
     obtain ⟨e,hd⟩:=hd
     cases x with
     | tmp t=>exact Js hG hT hV (hT.slots t) hd
     | const w=>exact Js hG hT hV (VV.jS (ℓ:=none) (hoka (.const w) (by simp [Op.operands]))) hd
     | global g=>have:=hoka (.global g) (by simp [Op.operands]);cases this
     | func f=>exact Js hG hT hV (ℓ:=none) ((hT.eval (x:=.func f) rfl).at0) hd
theorem aaC {ops:Array Oper} (hT:TI μ H ω T A) (j:Nat):ynd ops T j=ynd ops A j:=by
 unfold ynd
 cases hd:(ops[j]?).bind (·.dst) with
 | none=>rfl
 | some d =>
  simp only [Option.bind_some]
  have:=hT.slots d
  have e:=hT.len
  by_cases hlt:d < T.length
  ·
   have hlt':d < A.length:=by rw [← e];exact hlt
   simp only [List.getD_eq_getElem?_getD,List.getElem?_eq_getElem hlt,List.getElem?_eq_getElem hlt',Option.getD_some] at this
   rw [List.getElem?_eq_getElem hlt,List.getElem?_eq_getElem hlt']
   generalize T[d]=u at *
   generalize A[d]=u' at *
   cases this <;> rfl
  ·
   have hlt':A.length≤d:=by rw [← e];exact Nat.le_of_not_lt hlt
   rw [List.getElem?_eq_none (Nat.le_of_not_lt hlt),List.getElem?_eq_none hlt']
theorem TI.moved (hT:TI μ H ω T A) (o:Oper):TI μ H ω (moved o T) A:=by
 have slot:∀ t,TI μ H ω (yF T t) A:=by
  intro t
  refine ⟨by simp [yF,hT.len],fun i=>?_,hT.dom,hT.nores⟩
  rw [yF,wW]
  split
  ·
   rename_i h;rw [h.1];exact (hT.slots t).dem
  ·
   exact hT.slots i
 unfold Go.Abs.moved
 split
 ·
  exact slot _
 ·
  exact slot _
 ·
  rename_i t i _
  refine ⟨by simp [hT.len],fun k=>?_,hT.dom,hT.nores⟩
  rw [wW]
  split
  ·
   rename_i h
   rw [h.1]
   have:=hT.slots t
   generalize T.getD t zh=w at this
   cases w with
   | tuple vs =>
    simp only [zY]
    generalize A.getD t zh=a at this
    cases this with
    | sg hs=>simp [Go.Abs.sg] at hs
    | nores=>rw [show (#[]:Array Value).modify i Go.Abs.qK=#[] by simp];exact .nores
    | @tuple _ _ y hxs hxx =>
     refine .tuple (by simpa using hxs) fun j=>?_
     rw [getD_modify _ _ _ _ rfl]
     by_cases hj:j=i
     ·
      subst hj
      rw [if_pos rfl]
      exact (hxx j).part (fun s hs k=>by cases hs;rfl)
     ·
      rw [if_neg hj];exact hxx j
   | _=>exact this
  ·
   exact hT.slots k
 ·
  split
  ·
   exact slot _
  ·
   exact hT
 ·
  exact hT
def After (μ:Mu) (ω:Nat→Option wO) (H:zx) (T':List Value) (S':zx) (R:Option (List Value×zx)):Prop :=
 ∃ A' H' μ' ω',R=some (A',H')∧GI μ' S' H'∧Later μ H μ' H'∧Kept ω H ω' H'∧TI μ' H' ω' T' A'
theorem XV {fx:Fx} (hc:ZK P call) {o:Oper} {rest:List Oper} {v:Value} (hG:GI μ S H) (hT:TI μ H ω T A) (h:jZ P fx call T o S=some (v,S')) :
  ∃ a H' μ' ω',jT P (lim P) A o H=some (a,H')∧GI μ' S' H'∧Later μ H μ' H'∧Kept ω H ω' H'∧TI μ' H' ω' (kN o rest T v) (ZA A o.dst a):=by
 unfold kN
 split
 ·
  rename_i hl
  have hm:∃ x,o.op=.move x:=by
   unfold ahd at hl
   split at hl
   ·
    rename_i x _ he _;exact ⟨x,he⟩
   ·
    cases hl
  obtain ⟨x,hx⟩:=hm
  unfold jZ at h
  split at h <;> first | (cases h;done) | skip
  rename_i hok
  have hox:yE x=true:=List.all_eq_true.1 (show o.op.operands.toList.all yE=true from hok) x (by rw [hx];simp [Op.operands])
  rw [hx] at h
  dsimp only at h
  unfold vOp at h
  rw [hx] at h
  cases h
  have ha:jT P (lim P) A o H=some (zT A x,H):=by
   unfold jT
   rw [if_pos hok,hx]
   dsimp only
   unfold aOp
   rw [hx]
   rfl
  rw [ha]
  exact (Out.same hG hT (hT.eval hox)).put o.dst
 ·
  exact (acF hc hG hT h).put o.dst
theorem Ja {o:Oper} {rest:List Oper} (hG:GI μ S H) (hT:TI μ H ω T A):∃ μ' ω',GI μ' S H∧Later μ H μ' H∧Kept ω H ω' H∧TI μ' H ω' (kN o rest T zh) (ZA A o.dst zh):=by
 unfold kN
 split
 ·
  rw [show dem zh=zh from xP]
  obtain ⟨a,H1,μ1,ω1,h1,h2,h3,h4,h5⟩:=(Out.same hG hT (VV.zh)).put o.dst
  cases h1
  exact ⟨μ1,ω1,h2,h3,h4,h5⟩
 ·
  obtain ⟨a,H1,μ1,ω1,h1,h2,h3,h4,h5⟩:=(Out.same hG (hT.moved o) (VV.zh)).put o.dst
  cases h1
  exact ⟨μ1,ω1,h2,h3,h4,h5⟩
theorem ae4 {fx:Fx} (hc:ZK P call) {ops:Array Oper}:∀ (l:List Oper) (T T' A:List Value) (S S' H:zx) (μ:Mu) (ω:Nat→Option wO),jy P fx call ops l T S=some (T',S')→GI μ S H→TI μ H ω T A→After μ ω H T' S' (KR P (lim P) ops l A H):=by
 intro l
 induction l with
 | nil =>
  intro T T' A S S' H μ ω h hG hT
  simp only [jy,Option.some.injEq,Prod.mk.injEq] at h
  obtain ⟨rfl,rfl⟩:=h
  exact ⟨A,H,μ,ω,rfl,hG,Later.refl _ _,Kept.refl _ _,hT⟩
 | cons o l ih =>
  intro T T' A S S' H μ ω h hG hT
  have hy:(ynd ops T)=ynd ops A:=funext fun j=>aaC hT j
  simp only [jy] at h
  simp only [KR,← hy]
  split at h
  ·
   rename_i hw
   split at h
   ·
    rename_i v S1 hs
    obtain ⟨a,H1,μ1,ω1,h1,h2,h3,h4,h5⟩:=XV (rest:=l) hc hG hT hs
    obtain ⟨A2,H2,μ2,ω2,k1,k2,k3,k4,k5⟩:=ih _ _ _ _ _ _ _ _ h h2 h5
    refine ⟨A2,H2,μ2,ω2,?_,k2,h3.trans k3,h4.trans k4,k5⟩
    rw [if_pos hw,h1]
    exact k1
   ·
    cases h
  ·
   rename_i hw
   obtain ⟨μ1,ω1,h2,h3,h4,h5⟩:=Ja (o:=o) (rest:=l) hG hT
   obtain ⟨A2,H2,μ2,ω2,k1,k2,k3,k4,k5⟩:=ih _ _ _ _ _ _ _ _ h h2 h5
   refine ⟨A2,H2,μ2,ω2,?_,k2,h3.trans k3,h4.trans k4,k5⟩
   rw [if_neg hw]
   exact k1
end
end Go.Abs
namespace Go.Abs
open Go.RowKit
section
variable {P:Program} {call:FuncId→List Value→M Value} {μ μ2:Mu} {S S' G H H2:zx} {T A:List Value}
theorem kZ.two {s:M Value} (hs:kZ s) {a:Value} {G':zx} (h:s G=some (a,G')):∀ H,s H=some (a,H):=by
 obtain ⟨o,ho⟩:=hs
 rw [ho] at h
 cases o with
 | none=>cases h
 | some w =>
  simp only [Option.map_some,Option.some.injEq,Prod.mk.injEq] at h
  intro H
  rw [ho,h.1];rfl
theorem Xr {t:TypeId} {ps:List (Nat×Value)}:kZ (yR P t ps):=by
 refine ⟨(yR P t ps zx.empty).map (·.1),fun H=>?_⟩
 unfold yR
 split
 ·
  split
  ·
   split
   ·
    split
    ·
     split <;> rfl
    ·
     rfl
   ·
    split
    ·
     split <;> rfl
    ·
     rfl
   ·
    rfl
  ·
   rfl
 ·
  rfl
theorem WC {x:Value}:kZ (qF x):=by
 refine ⟨(qF x zx.empty).map (·.1),fun H=>?_⟩
 unfold qF
 split <;> rfl
theorem Xu {t:TypeId} {x i:Value}:kZ (qZ P t x i):=by
 unfold qZ
 refine ⟨(qZ P t x i zx.empty).map (·.1),fun H=>?_⟩
 unfold qZ
 dsimp only
 split
 ·
  split
  ·
   split
   ·
    split <;> rfl
   ·
    rfl
  ·
   rfl
 ·
  obtain ⟨o,ho⟩:=wI (P:=P) _ _
  rw [ho,ho]
  cases o <;> rfl
 ·
  rfl
theorem abU {t:TypeId} {x:Value} (hx:∀ m,x≠.map m):kZ (QV P t x):=by
 refine ⟨(QV P t x zx.empty).map (·.1),fun H=>?_⟩
 unfold QV
 split <;> first | rfl | exact absurd rfl (hx _)
theorem JA {d:Nat} {v:Value} (h:okq d v=true):okq d (dem v)=true:=by
 cases v with
 | iface k v=>cases d <;> rfl
 | tuple vs=>cases d <;> cases h
 | _=>exact h
theorem Wj:∀ (d:Nat) {v a:Value},okq d v=true→V0 μ H v a→aao d a a=true:=by
 intro d
 induction d with
 | zero =>
  intro v a h hv
  cases hv <;> first | (cases h;done) | (simp [aao];done) | skip
  rename_i hs
  cases v <;> first | (simp [aao];done) | (simp [Go.Abs.sg] at hs;done) | skip
 | succ d ih =>
  intro v a h hv
  cases hv <;> first | (cases h;done) | (simp [aao];done) | skip
  ·
   rename_i hs
   cases v <;> first | (simp [aao];done) | (simp [Go.Abs.sg] at hs;done) | skip
  ·
   rename_i x x' hx hh
   unfold aao
   simp only [decide_true,Bool.true_and]
   rw [List.all_eq_true]
   intro p hp
   obtain ⟨i,hi,he⟩:=List.mem_iff_getElem.1 hp
   simp only [List.length_zip,Nat.min_self] at hi
   rw [List.getElem_zip] at he
   subst he
   have hi':i < x'.size:=by simpa using hi
   have hi2:i < x.size:=by rw [hx];exact hi'
   have h2:=hh i
   rw [Array.getD_eq_getD_getElem?,Array.getElem?_eq_getElem hi2,Array.getD_eq_getD_getElem?,Array.getElem?_eq_getElem hi'] at h2
   have h3:okq d x[i]=true:=List.all_eq_true.1 (show x.toList.all (okq d)=true from h) _ (by simp)
   have:=ih h3 h2
   simpa using this
theorem XZ (x:Value):Yn (dem x)=Yn x:=by cases x <;> rfl
theorem adV {fx:Fx} {o:Oper} {v:Value} (hdr:fx.dr=true) (h:jZ P fx call T o S=some (v,S')) (hn:Zv P o=false) (hr:qA o=false) (ho:∀ x ∈ o.op.operands.toList,V0 μ G (dem (zT T x)) (zT A x)) :
  ∃ a,V0 μ G (dem v) a∧∀ H,aOp P (zT A) o H=some (a,H)∧jT P (lim P) A o H=some (a,H):=by
 have hrm:yZ o=false:=by
  unfold qA at hr
  unfold yZ
  split <;> simp_all
 unfold jZ at h
 split at h <;> first | (cases h;done) | skip
 rename_i hok
 obtain ⟨dst,op,type,pos,after,guard⟩:=o
 by_cases hcall:∃ c,op=.call c
 ·
  obtain ⟨c,rfl⟩:=hcall
  dsimp only at h ho
  unfold Zv at hn
  dsimp only at hn
  have hcargs:∀ x ∈ c.args.toList,V0 μ G (dem (zT T x)) (zT A x):=by
   intro x hx
   refine ho x ?_
   simp only [Op.operands,Call.operands]
   cases c.callee <;> simp <;> first | exact .inr (by simpa using hx) | exact (by simpa using hx)
  have step:∀ {b:Builtin} (a:Value),c.callee=.builtin b→(∀ H,qm P b c.argTypes type (c.args.toList.map (zT A)) H=some (a,H))→∀ H,aOp P (zT A) ⟨dst,.call c,type,pos,after,guard⟩ H=some (a,H)∧jT P (lim P) A ⟨dst,.call c,type,pos,after,guard⟩ H=some (a,H):=by
   intro b a hb hall H
   constructor
   ·
    unfold aOp;dsimp only;rw [hb];exact hall H
   ·
    unfold jT;rw [if_pos hok];dsimp only;rw [hb];exact hall H
  cases hcal:c.callee with
  | value f=>rw [hcal] at hn;cases hn
  | invoke r m=>rw [hcal] at hn;cases hn
  | builtin b =>
   rw [hcal] at h
   dsimp only at h
   unfold yK at h
   rw [hcal] at hn
   have gargs:(c.args.toList.map (zT T)).all ground=true→c.args.toList.map (zT A)=c.args.toList.map (zT T):=by
    intro hg
    apply List.map_congr_left
    intro x hx
    exact jl (hcargs x hx) (List.all_eq_true.1 hg _ (List.mem_map.2 ⟨x,hx,rfl⟩))
   cases b <;> dsimp only at h hn <;> first | (cases h;done) | (cases hn;done) | skip
   case len =>
    split at h <;> first | (cases h;done) | skip
    rename_i t x0 ht ha
    obtain ⟨x,hx,rfl⟩:∃ x,c.args.toList=[x]∧zT T x=x0:=by
     match hl:c.args.toList with
     | []=>rw [hl] at ha;cases ha
     | [y]=>rw [hl] at ha;simp at ha;exact ⟨y,rfl,ha⟩
     | y::z::w=>rw [hl] at ha;simp at ha
    have hxv:=hcargs x (by rw [hx];simp)
    obtain ⟨rfl,a,h1,h2⟩:=aaq h hxv
    have hmap:∀ m,zT A x≠.map m:=by
     intro m hm
     rw [hm] at hxv
     generalize hu:dem (zT T x)=u at hxv
     have hum:∃ m',u=.map m':=by cases hxv <;> exact ⟨_,rfl⟩
     obtain ⟨m',rfl⟩:=hum
     have:zT T x=.map m':=by
      cases hv:zT T x <;> rw [hv] at hu <;> simp [dem,qK] at hu <;> rw [hu]
     rw [this] at h
     simp [qO] at h
    refine ⟨a,h2.dem,step a hcal fun H=>?_⟩
    unfold qm
    dsimp only
    rw [ht,hx]
    exact (abU hmap).two h1 H
   case min =>
    obtain ⟨rfl,hg,hga,hh⟩:=jR (H:=G) h
    refine ⟨v,(V0.ground hg).dem,step v hcal fun H=>?_⟩
    unfold qm
    dsimp only
    rw [gargs hga]
    exact (wI _ _).two hh H
   case max =>
    obtain ⟨rfl,hg,hga,hh⟩:=jR (H:=G) h
    refine ⟨v,(V0.ground hg).dem,step v hcal fun H=>?_⟩
    unfold qm
    dsimp only
    rw [gargs hga]
    exact (wI _ _).two hh H
 ·
  have hnc:∀ c,op≠.call c:=fun c hc=>hcall ⟨c,hc⟩
  have hV:vOp P fx (zT T) ⟨dst,op,type,pos,after,guard⟩ S=some (v,S'):=by
   cases op <;> first | exact h | exact absurd rfl (hnc _)
  obtain ⟨rfl,a,h1,h2,h3⟩:=Qs (ρA:=zT A) hV hn ho (.inl (ZM hrm)) (.inl hdr)
  have hA:∀ H,jT P (lim P) A ⟨dst,op,type,pos,after,guard⟩ H=aOp P (zT A) ⟨dst,op,type,pos,after,guard⟩ H:=by
   intro H
   unfold jT
   rw [if_pos hok]
   cases op <;> first | rfl | exact absurd rfl (hnc _)
  refine ⟨a,h2,fun H=>?_⟩
  rw [hA]
  have key:aOp P (zT A) ⟨dst,op,type,pos,after,guard⟩ H=some (a,H):=by
   have hf:kZ (aOp P (zT A) ⟨dst,op,type,pos,after,guard⟩):=by
    unfold Zv at hn
    unfold qA at hr
    unfold aOp
    unfold vOp at hV
    cases op <;> dsimp only at hn hr hV ⊢ <;> first | (cases hn;done) | (cases hr;done) | (cases hV;done) | skip
    ·
     exact JC _
    ·
     exact JC _
    ·
     exact Vz _ _ _
    ·
     exact Xr
    ·
     exact WC
    ·
     exact Qx _ _ _ _
    ·
     exact ac4 _ _
    ·
     exact JC _
    ·
     exact JR _ _ _
    ·
     exact XD _ _ _
    ·
     exact JY _ _ _
    ·
     exact Xu
    ·
     exact YO _ _
   exact hf.two h1 H
  exact ⟨key,key⟩
theorem aaJ {t:TypeId} {r o e:Nat} {l:List Value} {own own':Own} {a:Value} (hg:G.get r=some (.cells l own e)) (hg':H2.get r=some (.cells l own' e)) (h:wS P t (.pointer (some ⟨r,o,none⟩)) G=some (a,G)) :
  wS P t (.pointer (some ⟨r,o,none⟩)) H2=some (a,H2):=by
 simp only [wS,hg] at h
 simp only [wS,hg']
 (repeat' split at h) <;> first | (cases h;done) | skip
 all_goals simp_all
theorem VV.backed {v:Value} {r o n c:Nat} (h:V0 μ G v (.slice (some ⟨r,o,none⟩) n c)) (hv:Yn v=false):∃ l own e,r < G.next∧xX μ r∧G.get r=some (.cells l own e):=by
 cases h with
 | sg hs=>simp [Go.Abs.sg] at hs
 | slm hm=>simp [Yn] at hv
 | sl hr hp hg _ _ _=>exact ⟨_,_,_,hr,hp,hg⟩
theorem VF {x:Value} {n:Nat} {cs:List Value} (hx:∀ r o n c,x=.slice (some ⟨r,o,none⟩) n c→∃ l own own' e,G.get r=some (.cells l own e)∧H2.get r=some (.cells l own' e)) (h:wX x n G=some cs):wX x n H2=some cs:=by
 unfold wX at h ⊢
 split at h
 ·
  rename_i r o k c
  obtain ⟨l,own,own',e,hg,hg'⟩:=hx _ _ _ _ rfl
  rw [hg] at h
  rw [hg']
  exact h
 ·
  exact h
 ·
  exact h
 ·
  cases h
theorem aaZ {src dst:TypeId} {x a:Value} (hd:∀ e,P.underlying dst≠some (.slice e)) (hx:∀ r o n c,x=.slice (some ⟨r,o,none⟩) n c→∃ l own own' e,G.get r=some (.cells l own e)∧H2.get r=some (.cells l own' e)) (h:wE P src dst x G=some (a,G)) :
  wE P src dst x H2=some (a,H2):=by
 unfold wE at h ⊢
 split at h
 ·
  rename_i b n c
  (try dsimp only)
  split at h
  ·
   rename_i e hs hdd
   split at h <;> first | (cases h;done) | skip
   rename_i he
   split at h <;> first | (cases h;done) | skip
   rename_i cs hcs
   rw [VF hx hcs]
   (try dsimp only)
   split at h <;> first | (cases h;done) | skip
   rename_i bs hbs
   (try rw [hbs])
   cases h
   rfl
  ·
   rename_i e0 e hs hdd
   exact absurd hdd (hd e)
  ·
   cases h
 ·
  rename_i s
  (try dsimp only)
  split at h
  ·
   rename_i d e hs hdd
   exact absurd hdd (hd e)
  ·
   exact (wI _ _).two h H2
 ·
  exact (wI _ _).two h H2
theorem VO {t:TypeId} {x a:Value} {lo hi:Option Value} (hx:∀ r o n c,x=.slice (some ⟨r,o,none⟩) n c→∃ l own own' e,G.get r=some (.cells l own e)∧H2.get r=some (.cells l own' e)) (h:yU P t x lo hi G=some (a,G)) :
  yU P t x lo hi H2=some (a,H2):=by
 unfold yU at h ⊢
 split at h
 ·
  rename_i s hu
  exact (wI _ _).two h H2
 ·
  rename_i e b n c hu
  (try dsimp only)
  split at h <;> first | (cases h;done) | skip
  rename_i size l hh hs hl hhi
  (try simp only [hs,hl,hhi])
  split at h <;> first | (cases h;done) | skip
  rename_i c0
  split at h <;> first | (cases h;done) | skip
  rename_i c1
  split at h <;> first | (cases h;done) | skip
  rename_i c2
  rw [if_pos c0,if_pos c1,if_pos c2]
  split at h
  ·
   split at h <;> first | (cases h;done) | skip
   rename_i hn
   cases h
   rw [if_pos hn]
  ·
   rename_i r o
   obtain ⟨l2,own,own',e2,hg,hg'⟩:=hx _ _ _ _ rfl
   rw [hg] at h
   rw [hg']
   dsimp only at h ⊢
   split at h <;> first | (cases h;done) | skip
   rename_i he
   rw [if_pos he]
   cases h
   rfl
  ·
   split at h <;> first | (cases h;done) | skip
   rename_i hn
   cases h
   rw [if_pos hn]
  ·
   cases h
 ·
  cases h
theorem ZV {t:TypeId} {r o:Nat} {a:Value} {G':zx} (hg:H2.get r=G.get r) (h:wS P t (.pointer (some ⟨r,o,none⟩)) G=some (a,G')):wS P t (.pointer (some ⟨r,o,none⟩)) H2=some (a,H2):=by
 simp only [wS] at h ⊢
 rw [hg]
 (repeat' split at h) <;> first | (cases h;done) | skip
 all_goals simp_all
theorem QN {t:TypeId} {x k:Value} {ok:Bool} {a:Value} {G':zx} (hg:∀ r,x=.map (some r)→H2.get r=G.get r) (h:jW P t x k ok G=some (a,G')):jW P t x k ok H2=some (a,H2):=by
 have e:∀ H:zx,jW P t x k ok H=(jW P t x k ok H).map (fun r=>(r.1,H)):=by
  intro H
  unfold jW
  (try dsimp only)
  (repeat' split) <;> rfl
 have e2:(jW P t x k ok H2).map (·.1)=(jW P t x k ok G).map (·.1):=by
  cases x with
  | map b =>
   cases b with
   | none=>unfold jW;dsimp only;(repeat' split) <;> rfl
   | some r =>
    unfold jW
    dsimp only
    rw [hg r rfl]
    (repeat' split) <;> rfl
  | _=>unfold jW;(try dsimp only) <;> (try ((repeat' split) <;> rfl))
 rw [h] at e2
 rw [e H2]
 cases hh:jW P t x k ok H2 with
 | none=>rw [hh] at e2;cases e2
 | some w =>
  rw [hh] at e2
  simp only [Option.map_some,Option.some.injEq] at e2 ⊢
  rw [e2]
theorem aeI {fx:Fx} {o:Oper} {v:Value} (hdr:fx.dr=true) (h:jZ P fx call T o S=some (v,S')) (hn:Zv P o=false) (hm:qX (zT T) o) (ho:∀ x ∈ o.op.operands.toList,V0 μ G (dem (zT T x)) (zT A x)) (hL:Later μ G μ2 H2) :
  ∃ a,V0 μ G (dem v) a∧aOp P (zT A) o G=some (a,G)∧aOp P (zT A) o H2=some (a,H2)∧jT P (lim P) A o G=some (a,G)∧jT P (lim P) A o H2=some (a,H2):=by
 by_cases hr:qA o=false
 ·
  obtain ⟨a,h1,h2⟩:=adV hdr h hn hr ho
  exact ⟨a,h1,(h2 G).1,(h2 H2).1,(h2 G).2,(h2 H2).2⟩
 ·
  unfold jZ at h
  split at h <;> first | (cases h;done) | skip
  rename_i hok
  obtain ⟨dst,op,type,pos,after,guard⟩:=o
  unfold qA at hr
  cases op <;> dsimp only at h hr <;> first | (exact absurd rfl hr) | skip
  case load t addr =>
   obtain ⟨rfl,a,h1,h2,h3⟩:=Qs (ρA:=zT A) h hn ho (.inl hm) (.inl hdr)
   have hA:∀ H,jT P (lim P) A ⟨dst,.load t addr,type,pos,after,guard⟩ H=aOp P (zT A) ⟨dst,.load t addr,type,pos,after,guard⟩ H:=fun H=>by unfold jT;rw [if_pos hok]
   have key:aOp P (zT A) ⟨dst,.load t addr,type,pos,after,guard⟩ H2=some (a,H2):=by
    have hx:=ho addr (by simp [Op.operands])
    have h:jA P fx.nm t (zT T addr) S'=some (v,S'):=h
    unfold aOp at h1 ⊢
    dsimp only at h1 ⊢
    unfold jA at h
    split at h
    ·
     rename_i k cs he
     split at h <;> first | (cases h;done) | skip
     rename_i hk
     subst hk
     rw [he] at hx
     have hx:V0 μ G (.iface 3 (.agg cs)) (zT A addr):=hx
     generalize hq:zT A addr=q at hx h1 ⊢
     cases hx with
     | sg hs=>simp [Go.Abs.sg] at hs
     | ep hr hp hg hl hc =>
      obtain ⟨own',hg'⟩:=hL.cells _ _ _ _ hr hp hg
      exact aaJ hg hg' h1
    ·
     rename_i ad he
     exact absurd he (hm ad)
    ·
     cases h
   exact ⟨a,h2,h1,key,by rw [hA];exact h1,by rw [hA];exact key⟩
  case convert src d x =>
   obtain ⟨rfl,a,h1,h2,h3⟩:=Qs (ρA:=zT A) h hn ho (.inl hm) (.inl hdr)
   have hA:∀ H,jT P (lim P) A ⟨dst,.convert src d x,type,pos,after,guard⟩ H=aOp P (zT A) ⟨dst,.convert src d x,type,pos,after,guard⟩ H:=fun H=>by unfold jT;rw [if_pos hok]
   have key:aOp P (zT A) ⟨dst,.convert src d x,type,pos,after,guard⟩ H2=some (a,H2):=by
    have hx:=ho x (by simp [Op.operands])
    unfold aOp at h1 ⊢
    dsimp only at h1 ⊢
    refine aaZ (fun e he=>?_) (fun r o n c hq=>?_) h1
    ·
     unfold Zv at hn
     dsimp only at hn
     rw [he] at hn;cases hn
    ·
     rw [hq] at hx
     have hh:Yn (dem (zT T x))=false:=by
      rw [XZ]
      have h:wV P fx.hp fx.dr src d (zT T x) S'=some (v,S'):=h
      unfold wV at h
      split at h
      ·
       first | (cases h;done) | (rw [hdr] at h;simp at h)
      ·
       rename_i hh;simpa using hh
     obtain ⟨l,own,e,hr,hp,hg⟩:=hx.backed hh
     obtain ⟨own',hg'⟩:=hL.cells _ _ _ _ hr hp hg
     exact ⟨l,own,own',e,hg,hg'⟩
   exact ⟨a,h2,h1,key,by rw [hA];exact h1,by rw [hA];exact key⟩
  case slice t x lo hi mx =>
   obtain ⟨rfl,a,h1,h2,h3⟩:=Qs (ρA:=zT A) h hn ho (.inl hm) (.inl hdr)
   have hA:∀ H,jT P (lim P) A ⟨dst,.slice t x lo hi mx,type,pos,after,guard⟩ H=aOp P (zT A) ⟨dst,.slice t x lo hi mx,type,pos,after,guard⟩ H:=fun H=>by unfold jT;rw [if_pos hok]
   have key:aOp P (zT A) ⟨dst,.slice t x lo hi mx,type,pos,after,guard⟩ H2=some (a,H2):=by
    have hx:=ho x (by simp [Op.operands])
    unfold aOp at h1 ⊢
    cases mx with
    | some m=>cases h1
    | none =>
     dsimp only at h1 ⊢
     refine VO (fun r o n c hq=>?_) h1
     rw [hq] at hx
     have hh:Yn (dem (zT T x))=false:=by
      rw [XZ]
      have h:wC P fx.dr t (zT T x) (lo.map (zT T)) (hi.map (zT T)) S'=some (v,S'):=h
      unfold wC at h
      split at h
      ·
       first | (cases h;done) | (rw [hdr] at h;simp at h)
      ·
       rename_i hh;simpa using hh
     obtain ⟨l,own,e,hr,hp,hg⟩:=hx.backed hh
     obtain ⟨own',hg'⟩:=hL.cells _ _ _ _ hr hp hg
     exact ⟨l,own,own',e,hg,hg'⟩
   exact ⟨a,h2,h1,key,by rw [hA];exact h1,by rw [hA];exact key⟩
  case lookup t x k ok =>
   exact hm.elim
end
end Go.Abs
namespace Go.Abs
open Go.RowKit
structure Line (P : Program) (fx : Fx) (chk : List Nat) (call : FuncId → List Value → M Value) (ops : Array Oper) (k0 : Nat) (l : List Oper) (Ts As : Nat → List Value) (Ss Hs : Nat → zx) (μs : Nat → Mu) (ωs : Nat → Nat → Option wO) (vs zf : Nat → Value) : Prop where
  inv : ∀ k, k ≤ l.length → GI (μs k) (Ss k) (Hs k) ∧ TI (μs k) (Hs k) (ωs k) (Ts k) (As k)
  step : ∀ k o, l[k]? = some o → Later (μs k) (Hs k) (μs (k + 1)) (Hs (k + 1)) ∧ Kept (ωs k) (Hs k) (ωs (k + 1)) (Hs (k + 1)) ∧
    ((Region.wanted o (ynd ops (As k)) = true ∧ jZ P fx call (Ts k) o (Ss k) = some (vs k, Ss (k + 1)) ∧ jT P (lim P) (As k) o (Hs k) = some (zf k, Hs (k + 1)) ∧
        Ts (k + 1) = kN o (l.drop (k + 1)) (Ts k) (vs k) ∧ As (k + 1) = ZA (As k) o.dst (zf k) ∧ (chk.contains (k0 + k) = true → okq 3 (vs k) = true)) ∨
     (Region.wanted o (ynd ops (As k)) = false ∧ zf k = zh ∧ Ts (k + 1) = kN o (l.drop (k + 1)) (Ts k) zh ∧ As (k + 1) = ZA (As k) o.dst zh ∧ Hs (k + 1) = Hs k))
section
variable {P:Program} {call:FuncId→List Value→M Value}
theorem line_of {fx : Fx} {chk : List Nat} {nl : List (Nat × Nat)} (hc : ZK P call) {ops : Array Oper} : ∀ (l : List Oper) (k0 : Nat) (hist : List (Value × zx)) (T T' A : List Value) (S S' H : zx) (μ : Mu) (ω : Nat → Option wO), jK P fx chk nl call ops k0 hist l T S = some (T', S') → GI μ S H → TI μ H ω T A →
    ∃ Ts As Ss Hs μs ωs vs zf tr, Line P fx chk call ops k0 l Ts As Ss Hs μs ωs vs zf ∧ Ts 0 = T ∧ As 0 = A ∧ Ss 0 = S ∧ Hs 0 = H ∧ μs 0 = μ ∧ ωs 0 = ω ∧ Ts l.length = T' ∧ Ss l.length = S' ∧
      yD P (lim P) ops l A H = some (tr, As l.length, Hs l.length) ∧ (∀ k, k < l.length → tr[k]? = some (As k, Hs k, zf k)) ∧ (∀ k, k ≤ l.length → (tr.map (·.2.1) ++ [Hs l.length])[k]? = some (Hs k)) ∧
      ∃ hs : List (Value × zx), hs.length = l.length ∧ (∀ k o, l[k]? = some o → hs[k]? = some (y9 (Ts k) o, Ss k)) ∧ (nl.isEmpty = false → nl.all (Ko (hist ++ hs ++ [(zh, S')])) = true) := by
  intro l
  induction l with
  | nil =>
    intro k0 hist T T' A S S' H μ ω h hG hT
    simp only [jK] at h
    split at h <;> first | (cases h; done) | skip
    rename_i hst
    cases h
    refine ⟨fun _ => T, fun _ => A, fun _ => S, fun _ => H, fun _ => μ, fun _ => ω, fun _ => zh, fun _ => zh, [], ⟨fun k _ => ⟨hG, hT⟩, fun k o ho => by simp at ho⟩, rfl, rfl, rfl, rfl, rfl, rfl, rfl, rfl, rfl, fun k hk => by simp at hk, fun k hk => ?_, [], rfl, fun k o ho => by simp at ho, fun he => ?_⟩
    · have : k = 0 := by simpa using hk
      subst this
      rfl
    · simpa [qJ, he] using hst
  | cons o l ih =>
    intro k0 hist T T' A S S' H μ ω h hG hT
    have hy : (ynd ops T) = ynd ops A := funext fun j => aaC hT j
    simp only [jK] at h
    have glue : ∀ (T1 A1 : List Value) (S1 H1 : zx) (μ1 : Mu) (ω1 : Nat → Option wO) (v a : Value), jK P fx chk nl call ops (k0 + 1) (qJ nl hist (y9 T o) S) l T1 S1 = some (T', S') → GI μ1 S1 H1 → TI μ1 H1 ω1 T1 A1 → Later μ H μ1 H1 → Kept ω H ω1 H1 →
        ((Region.wanted o (ynd ops A) = true ∧ jZ P fx call T o S = some (v, S1) ∧ jT P (lim P) A o H = some (a, H1) ∧ T1 = kN o l T v ∧ A1 = ZA A o.dst a ∧ (chk.contains k0 = true → okq 3 v = true)) ∨
         (Region.wanted o (ynd ops A) = false ∧ a = zh ∧ T1 = kN o l T zh ∧ A1 = ZA A o.dst zh ∧ H1 = H)) →
        (∀ tr A2 H2, yD P (lim P) ops l A1 H1 = some (tr, A2, H2) → yD P (lim P) ops (o :: l) A H = some ((A, H, a) :: tr, A2, H2)) →
        ∃ Ts As Ss Hs μs ωs vs zf tr, Line P fx chk call ops k0 (o :: l) Ts As Ss Hs μs ωs vs zf ∧ Ts 0 = T ∧ As 0 = A ∧ Ss 0 = S ∧ Hs 0 = H ∧ μs 0 = μ ∧ ωs 0 = ω ∧ Ts (o :: l).length = T' ∧ Ss (o :: l).length = S' ∧
          yD P (lim P) ops (o :: l) A H = some (tr, As (o :: l).length, Hs (o :: l).length) ∧ (∀ k, k < (o :: l).length → tr[k]? = some (As k, Hs k, zf k)) ∧ (∀ k, k ≤ (o :: l).length → (tr.map (·.2.1) ++ [Hs (o :: l).length])[k]? = some (Hs k)) ∧
          ∃ hs : List (Value × zx), hs.length = (o :: l).length ∧ (∀ k o', (o :: l)[k]? = some o' → hs[k]? = some (y9 (Ts k) o', Ss k)) ∧ (nl.isEmpty = false → nl.all (Ko (hist ++ hs ++ [(zh, S')])) = true) := by
      intro T1 A1 S1 H1 μ1 ω1 v a hrest hG1 hT1 hL hK hstep htr
      obtain ⟨Ts, As, Ss, Hs, μs, ωs, vs, zf, tr, hline, e1, e2, e3, e4, e5, e6, e7, e8, e9, e10, e11, hs, e12, e13, e14⟩ := ih _ _ _ _ _ _ _ _ _ _ hrest hG1 hT1
      refine ⟨fun k => match k with | 0 => T | k + 1 => Ts k, fun k => match k with | 0 => A | k + 1 => As k, fun k => match k with | 0 => S | k + 1 => Ss k, fun k => match k with | 0 => H | k + 1 => Hs k,
        fun k => match k with | 0 => μ | k + 1 => μs k, fun k => match k with | 0 => ω | k + 1 => ωs k, fun k => match k with | 0 => v | k + 1 => vs k, fun k => match k with | 0 => a | k + 1 => zf k, (A, H, a) :: tr,
        ⟨fun k hk => ?_, fun k o' ho => ?_⟩, rfl, rfl, rfl, rfl, rfl, rfl, e7, e8, htr _ _ _ e9, fun k hk => ?_, fun k hk => ?_, (y9 T o, S) :: hs, by simp [e12], fun k o' ho => ?_, fun he => ?_⟩
      · cases k with
        | zero => exact ⟨hG, hT⟩
        | succ k => exact hline.inv k (by simpa using hk)
      · cases k with
        | zero =>
          simp only [List.getElem?_cons_zero, Option.some.injEq] at ho
          subst ho
          dsimp only
          rw [e1, e2, e3, e4, e5, e6]
          exact ⟨hL, hK, hstep⟩
        | succ k =>
          have := hline.step k o' (by simpa using ho)
          rw [show k0 + 1 + k = k0 + (k + 1) by omega] at this
          exact this
      · cases k with
        | zero => rfl
        | succ k => simpa using e10 k (by simpa using hk)
      · cases k with
        | zero => rfl
        | succ k => simpa using e11 k (by simpa using hk)
      · cases k with
        | zero =>
          simp only [List.getElem?_cons_zero, Option.some.injEq] at ho
          subst ho
          rfl
        | succ k => simpa using e13 k o' (by simpa using ho)
      · have := e14 he
        rw [show qJ nl hist (y9 T o) S = hist ++ [(y9 T o, S)] by simp [qJ, he]] at this
        simpa using this
    split at h
    · rename_i hw
      split at h
      · rename_i v S1 hs
        split at h <;> first | (cases h; done) | skip
        rename_i hchk
        obtain ⟨a, H1, μ1, ω1, h1, h2, h3, h4, h5⟩ := XV (rest := l) hc hG hT hs
        have hw' : Region.wanted o (ynd ops A) = true := by rw [← hy]; exact hw
        refine glue _ _ _ H1 μ1 ω1 v a h h2 h5 h3 h4 (.inl ⟨hw', hs, h1, rfl, rfl, fun hk => ?_⟩) (fun tr A2 H2 ht => ?_)
        · rw [hk] at hchk; simpa using hchk
        · simp only [yD, hw', if_true, h1, ht]
      · cases h
    · rename_i hw
      obtain ⟨μ1, ω1, h2, h3, h4, h5⟩ := Ja (o := o) (rest := l) hG hT
      have hw' : Region.wanted o (ynd ops A) = false := by rw [← hy]; simpa using hw
      refine glue _ _ _ H μ1 ω1 zh zh h h2 h5 h3 h4 (.inr ⟨hw', rfl, rfl, rfl, rfl⟩) (fun tr A2 H2 ht => ?_)
      simp only [yD, hw', ht]
      rfl
variable {fx:Fx} {chk:List Nat} {ops:Array Oper} {k0:Nat} {l:List Oper} {Ts As:Nat→List Value} {Ss Hs:Nat→zx} {μs:Nat→Mu} {ωs:Nat→Nat→Option wO} {vs zf:Nat→Value}
theorem Line.later (hl:Line P fx chk call ops k0 l Ts As Ss Hs μs ωs vs zf) {i:Nat}:∀ (d:Nat),i+d≤l.length→Later (μs i) (Hs i) (μs (i+d)) (Hs (i+d)):=by
 intro d
 induction d with
 | zero=>intro _;exact Later.refl _ _
 | succ d ih =>
  intro hd
  have ho:l[i+d]?=some l[i+d]:=List.getElem?_eq_getElem (by omega)
  exact (ih (by omega)).trans (hl.step (i+d) _ ho).1
theorem Line.kept (hl:Line P fx chk call ops k0 l Ts As Ss Hs μs ωs vs zf):∀ (d:Nat),d≤l.length→Kept (ωs 0) (Hs 0) (ωs d) (Hs d):=by
 intro d
 induction d with
 | zero=>intro _;exact Kept.refl _ _
 | succ d ih =>
  intro hd
  have ho:l[d]?=some l[d]:=List.getElem?_eq_getElem (by omega)
  exact (ih (by omega)).trans (hl.step d _ ho).2.1
theorem Xm (i:Nat) (w:Value):dem (zY i w)=dem w:=by
 cases w with
 | tuple vs =>
  simp only [zY,dem]
  congr 1
  apply Array.ext (by simp)
  intro k h1 h2
  rw [Array.getElem_map,Array.getElem_map,Array.getElem_modify]
  split
  ·
   have:∀ v,qK (qK v)=qK v:=by
    intro v
    cases v with
    | iface k v =>
     simp only [qK]
     by_cases h:k=2
     ·
      rw [if_pos h,if_neg (by decide)]
     ·
      rw [if_neg h,if_neg h]
    | _=>rfl
   exact this _
  ·
   rfl
 | _=>rfl
theorem Ky (o:Oper) (T:List Value) (t:Nat):dem ((moved o T).getD t zh)=dem (T.getD t zh):=by
 have slot:∀ t',dem ((yF T t').getD t zh)=dem (T.getD t zh):=by
  intro t'
  rw [yF,wW]
  split
  ·
   rename_i h;rw [h.1,YX]
  ·
   rfl
 unfold moved
 split
 ·
  exact slot _
 ·
  exact slot _
 ·
  rw [wW]
  split
  ·
   rename_i h;rw [h.1,Xm]
  ·
   rfl
 ·
  split
  ·
   exact slot _
  ·
   rfl
 ·
  rfl
theorem moved_length (o:Oper) (T:List Value):(moved o T).length=T.length:=by
 unfold moved
 split <;> first | simp [yF] | rfl | skip
 split <;> first | simp [yF] | rfl
theorem KA {o:Oper} {rest:List Oper} {T:List Value} {v:Value} (hd:o.dst=none) (t:Nat):dem ((kN o rest T v).getD t zh)=dem (T.getD t zh):=by
 unfold kN
 rw [hd]
 split
 ·
  rfl
 ·
  exact Ky o T t
theorem Qy {o:Oper} {rest:List Oper} {T:List Value} {v:Value} {d:Nat} (hd:o.dst=some d) (t:Nat):dem ((kN o rest T v).getD t zh)=if t=d∧d < T.length then dem v else dem (T.getD t zh):=by
 unfold kN
 rw [hd]
 split
 ·
  simp only [ZA]
  rw [wW]
  split
  ·
   exact YX v
  ·
   rfl
 ·
  simp only [ZA]
  rw [wW,moved_length]
  split
  ·
   rfl
  ·
   exact Ky o T t
def Clear (μ:Mu) (G:zx) (bad:List Nat) (T A:List Value):Prop:=∀ t,bad.contains t=false→V0 μ G (dem (T.getD t zh)) (A.getD t zh)
theorem Clear.operands {μ:Mu} {G:zx} {bad:List Nat} {T A:List Value} (h:Clear μ G bad T A) {o:Oper} (hok:aae o=true) (hc:yC bad o=true):∀ x ∈ o.op.operands.toList,V0 μ G (dem (zT T x)) (zT A x):=by
 intro x hx
 have h1:=List.all_eq_true.1 (show o.op.operands.toList.all yE=true from hok) x hx
 have h2:=List.all_eq_true.1 hc x hx
 cases x with
 | tmp t=>exact h t (by simpa using h2)
 | const v=>exact (VV.jS (μ:=μ) (H:=G) (ω:=W0) (ℓ:=none) h1).v0
 | global g=>cases h1
 | func f =>
  have:V0 μ G (.func (.func f) #[] #[]) (.func (.func f) #[] #[]):=.func _ rfl rfl (fun i=>by simpa using VV.zh) (fun i=>by simpa using VV.zh)
  exact this
theorem ku {T:List Value} {o:Oper} {S S':zx} {v:Value} (h:jZ P fx call T o S=some (v,S')):aae o=true:=by
 unfold jZ at h
 split at h
 ·
  assumption
 ·
  cases h
theorem VT {fx:Fx} {o:Oper} {T A:List Value} {v:Value} {S S' H:zx} {μ:Mu} (h:jZ P fx call T o S=some (v,S')) (hnm:fx.nm=true) (hm:¬ qX (zT T) o) (hG:GI μ S H) (ho:∀ x ∈ o.op.operands.toList,V0 μ H (dem (zT T x)) (zT A x)) :
  ground v=true∧∃ a,jT P (lim P) A o H=some (a,H)∧a=v:=by
 have hok:=ku h
 unfold jZ at h
 rw [if_pos hok] at h
 obtain ⟨dst,op,type,pos,after,guard⟩:=o
 unfold qX at hm
 cases op <;> dsimp only at h hm <;> first | (exact absurd True.intro hm) | skip
 case load t a =>
  have h:jA P fx.nm t (zT T a) S=some (v,S'):=h
  obtain ⟨q,hq⟩:∃ q,zT T a=.pointer q:=Classical.byContradiction fun hn=>hm fun q hq=>hn ⟨q,hq⟩
  obtain ⟨rfl,w,k1,k2⟩:=Zt h (ho a (by simp [Op.operands])) (.inr hG)
  rw [hnm] at h
  have hgr:ground v=true:=by
   unfold jA at h
   rw [hq] at h
   dsimp only at h
   split at h <;> first | (cases h;done) | skip
   ·
    split at h
    ·
     split at h <;> first | (cases h;done) | skip
     rename_i hg
     cases h
     exact hg
    ·
     rename_i hf;exact absurd rfl hf
   ·
    split at h
    ·
     split at h <;> first | (cases h;done) | skip
     rename_i hg
     cases h
     exact hg
    ·
     rename_i hf;exact absurd rfl hf
  refine ⟨hgr,w,?_,k2.qx hgr⟩
  unfold jT
  rw [if_pos hok]
  exact k1
 case lookup t x k ok =>
  have h:ZQ P fx.nm t (zT T x) (zT T k) ok S=some (v,S'):=h
  unfold ZQ at h
  rw [hnm] at h
  simp at h
theorem Line.adf (hl:Line P fx chk call ops k0 l Ts As Ss Hs μs ωs vs zf) {j k:Nat} (hjk:j≤k) (hk:k≤l.length) {q r:Nat} {b:Bool} (hmq:μs j q=some (r,b)) {o:yg} (g1:(Ss j).get q=some o) (g2:o.alive=true) (g3:q ∉ (Ss k).log.take ((Ss k).log.length - (Ss j).log.length)):(Hs k).get r=(Hs j).get r:=by
 obtain ⟨hGj,_⟩:=hl.inv j (by omega)
 obtain ⟨hGk,_⟩:=hl.inv k hk
 obtain ⟨r0,_,g4,_⟩:=hGj.obj q o g1 g2
 rw [hmq] at g4
 cases g4
 have hL:=hl.later (i:=j) (k - j) (by omega)
 rw [show j+(k - j)=k by omega] at hL
 obtain ⟨new,n1,n2⟩:=hL.still
 rw [hGk.log,hGj.log] at n1
 rw [n1] at g3
 simp only [List.length_append,Nat.add_sub_cancel,List.take_left] at g3
 exact (n2 q r hmq g3).2
theorem VH {fx:Bool} {t:TypeId} {q o:Nat} {v:Value} {S S2 S':zx} (e:S2.get q=S.get q) (h:jA P fx t (.pointer (some ⟨q,o,none⟩)) S=some (v,S')):jA P fx t (.pointer (some ⟨q,o,none⟩)) S2=some (v,S2):=by
 unfold jA at h ⊢
 dsimp only at h ⊢
 cases hl:wS P t (.pointer (some ⟨q,o,none⟩)) S with
 | none=>rw [hl] at h;cases h
 | some p =>
  obtain ⟨a,G⟩:=p
  rw [hl] at h
  rw [ZV e hl]
  cases a <;> dsimp only at h ⊢ <;> (repeat' split at h) <;> first | (cases h;done) | (cases h;simp_all;done) | skip
  all_goals (cases h;try simp_all)
theorem Line.aaj (hl:Line P fx chk call ops k0 l Ts As Ss Hs μs ωs vs zf) {j k:Nat} (hjk:j≤k) (hk:k≤l.length) {o:Oper} (hm:¬ qX (zT (Ts k)) o) (hL:isLoad o=true) (hv:jZ P fx call (Ts k) o (Ss k)=some (vs k,Ss (k+1))) (ha:jT P (lim P) (As k) o (Hs k)=some (zf k,Hs (k+1)))
  (hx0:∀ x ∈ o.op.operands.toList,V0 (μs j) (Hs j) (dem (zT (Ts k) x)) (zT (As k) x)) (s1:yQ (y9 (Ts k) o) (Ss j) (Ss k)=true) (s2:abu (y9 (Ts k) o) (Ss j) (Ss k)=true):V0 (μs j) (Hs j) (dem (vs k)) (zf k):=by
 have hok:=ku hv
 unfold jZ at hv
 rw [if_pos hok] at hv
 obtain ⟨dst,op,type,pos,after,guard⟩:=o
 unfold qX at hm
 cases op <;> first | (cases hL;done) | skip
 case load t a =>
  dsimp only at hm
  have hv:jA P fx.nm t (zT (Ts k) a) (Ss k)=some (vs k,Ss (k+1)):=hv
  obtain ⟨ad,hq⟩:∃ q,zT (Ts k) a=.pointer q:=Classical.byContradiction fun hn=>hm fun q hq=>hn ⟨q,hq⟩
  have hx:=hx0 a (by simp [Op.operands])
  have hA:jT P (lim P) (As k) ⟨dst,.load t a,type,pos,after,guard⟩ (Hs k)=wS P t (zT (As k) a) (Hs k):=by unfold jT;rw [if_pos hok];rfl
  rw [hA] at ha
  have s1:yQ (zT (Ts k) a) (Ss j) (Ss k)=true:=s1
  have s2:abu (zT (Ts k) a) (Ss j) (Ss k)=true:=s2
  rw [hq] at hx hv s1 s2
  have hx:V0 (μs j) (Hs j) (.pointer ad) (zT (As k) a):=hx
  generalize zT (As k) a=pa at hx ha
  cases hx with
  | sg hs =>
   cases ad with
   | none=>simp [jA,wS] at hv
   | some ad=>simp [Go.Abs.sg] at hs
  | @ptr _ q o r b hmq =>
   simp only [yQ,Bool.and_eq_true,Bool.not_eq_true',List.contains_eq_mem,decide_eq_false_iff_not] at s1
   obtain ⟨h1,h3⟩:=s1
   split at h1 <;> first | (cases h1;done) | skip
   rename_i hsa
   have g:=hl.adf hjk hk hmq hsa rfl h3
   have e:(Ss j).get q=(Ss k).get q:=@of_decide_eq_true _ (Classical.propDecidable _) s2
   have k1:=ZV g.symm ha
   have hvj:=VH e hv
   obtain ⟨hGj,_⟩:=hl.inv j (by omega)
   obtain ⟨_,w,k2,k3⟩:=Zt hvj (show V0 (μs j) (Hs j) (dem (.pointer (some ⟨q,o,none⟩))) _ from .ptr hmq) (.inr hGj)
   rw [k1] at k2
   cases k2
   exact k3.dem
theorem Line.clear (hdr:fx.dr=true) (hl:Line P fx chk call ops k0 l Ts As Ss Hs μs ωs vs zf) {j:Nat} (hj:j≤l.length) {cl:Nat→Bool} (hcl:∀ k o,j≤k→l[k]?=some o→isLoad o=true→cl k=true→yQ (y9 (Ts k) o) (Ss j) (Ss k)=true∧abu (y9 (Ts k) o) (Ss j) (Ss k)=true):∀ (rest:List Oper) (bad:List Nat) (k:Nat),j≤k→l.drop k=rest→Clear (μs j) (Hs j) bad (Ts k) (As k) →
  ∀ d,d≤rest.length→Clear (μs j) (Hs j) ((aa7 P fx.nm cl k rest bad).getD d []) (Ts (k+d)) (As (k+d)):=by
 intro rest
 induction rest with
 | nil =>
  intro bad k hjk hr hC d hd
  have:d=0:=by simpa using hd
  subst this
  exact hC
 | cons o rest ih =>
  intro bad k hjk hr hC d hd
  have hkl:k < l.length:=by
   have:=congrArg List.length hr
   simp at this;omega
  have ho:l[k]?=some o:=by
   have:=congrArg (·[0]?) hr
   simpa [List.getElem?_drop] using this
  cases d with
  | zero=>exact hC
  | succ d =>
   simp only [aa7,List.getD_cons_succ]
   rw [show k+(d+1)=k+1+d by omega]
   refine ih _ (k+1) (by omega) ?_ ?_ d (by simpa using hd)
   ·
    rw [← List.drop_drop,hr];rfl
   ·
    obtain ⟨hL,_,hor⟩:=hl.step k o ho
    obtain ⟨hG,hT⟩:=hl.inv k (by omega)
    have hlen:=hT.len
    intro t ht
    cases hd:o.dst with
    | none =>
     rw [hd] at ht
     rcases hor with ⟨_,_,_,e1,e2,_⟩ | ⟨_,_,e1,e2,_⟩
     ·
      rw [e1,KA hd,e2,hd];exact hC t ht
     ·
      rw [e1,KA hd,e2,hd];exact hC t ht
    | some dd =>
     rw [hd] at ht
     dsimp only at ht
     have htb:bad.contains t=false:=by
      split at ht
      ·
       simp only [List.contains_cons,Bool.or_eq_false_iff] at ht;exact ht.2
      ·
       exact ht
     rcases hor with ⟨hw,hv,ha,e1,e2,_⟩ | ⟨_,_,e1,e2,_⟩
     ·
      rw [e1,Qy hd,e2,hd]
      simp only [ZA]
      rw [wW,hlen]
      by_cases hc:t=dd∧dd < (As k).length
      ·
       rw [if_pos hc,if_pos hc]
       have hcond:¬ (Zv P o || !yC bad o || (yZ o && !fx.nm && !(isLoad o && cl k)))=true:=by
        intro hh
        rw [if_pos hh] at ht
        simp [hc.1] at ht
       rw [Bool.not_eq_true,Bool.or_eq_false_iff,Bool.or_eq_false_iff] at hcond
       obtain ⟨⟨q1,q2⟩,q3⟩:=hcond
       have q2':yC bad o=true:=by simpa using q2
       have hLj:Later (μs j) (Hs j) (μs k) (Hs k):=by
        have:=hl.later (i:=j) (k - j) (by omega)
        rwa [show j+(k - j)=k by omega] at this
       by_cases hm:qX (zT (Ts k)) o
       ·
        obtain ⟨a,h1,_,_,_,h5⟩:=aeI hdr hv q1 hm (hC.operands (ku hv) q2') hLj
        rw [ha] at h5
        have e:zf k=a:=by simpa using congrArg (Option.map Prod.fst) h5
        subst e
        exact h1
       ·
        have hrm:yZ o=true:=by
         cases hrm:yZ o with
         | true=>rfl
         | false=>exact absurd (ZM hrm) hm
        by_cases hnm:fx.nm=true
        rotate_left
        ·
         rw [Bool.not_eq_true] at hnm
         rw [hrm,hnm] at q3
         have q4:isLoad o=true∧cl k=true:=by simpa using q3
         obtain ⟨s1,s2⟩:=hcl k o hjk ho q4.1 q4.2
         exact hl.aaj hjk (by omega) hm q4.1 hv ha (hC.operands (ku hv) q2') s1 s2
        obtain ⟨g1,a,g2,g3⟩:=VT hv hnm hm hG (fun x hx=>hT.eval (List.all_eq_true.1 (show o.op.operands.toList.all yE=true from ku hv) x hx))
        rw [ha] at g2
        have e:zf k=a:=by simpa using congrArg (Option.map Prod.fst) g2
        subst e
        rw [g3,WW g1]
        exact V0.ground g1
      ·
       rw [if_neg hc,if_neg hc]
       exact hC t htb
     ·
      rw [e1,Qy hd,e2,hd]
      simp only [ZA]
      rw [wW,hlen]
      by_cases hc:t=dd∧dd < (As k).length
      ·
       rw [if_pos hc,if_pos hc,show dem zh=zh from xP]
       exact .nores
      ·
       rw [if_neg hc,if_neg hc]
       exact hC t htb
theorem abJ {hp0:Bool} (hc:ZK P call) {T T' A:List Value} {S S' H:zx} {μ:Mu} {ω:Nat→Option wO} (hd:yS P ops=true) (h:jK P ⟨hp0,!(checked P ops).isEmpty,fixed P ops⟩ (checked P ops) (again P ops) call ops 0 [] ops.toList T S=some (T',S')) (hG:GI μ S H) (hT:TI μ H ω T A) :
  After μ ω H T' S' (kW P (lim P) ops A H):=by
 obtain ⟨Ts,As,Ss,Hs,μs,ωs,vs,zf,tr,hline,rfl,rfl,rfl,rfl,rfl,rfl,rfl,rfl,e9,e10,e11,hs,e12,e13,e14⟩:=line_of hc _ _ _ _ _ _ _ _ _ _ _ h hG hT
 obtain ⟨hGn,hTn⟩:=hline.inv ops.toList.length (Nat.le_refl _)
 have hLn:=hline.later (i:=0) ops.toList.length (by omega)
 rw [Nat.zero_add] at hLn
 refine ⟨As ops.toList.length,Hs ops.toList.length,μs ops.toList.length,ωs ops.toList.length,?_,hGn,hLn,hline.kept _ (Nat.le_refl _),hTn⟩
 simp only [yS,Zl,Bool.and_eq_true] at hd
 have hlen:ops.toList.length < 1000:=of_decide_eq_true hd.1
 refine adw hd.2.1 e9 fun p hp=>?_
 have hchk:(checked P ops).contains p.1=true:=by
  unfold checked
  simp only [List.contains_eq_mem,decide_eq_true_eq]
  exact List.mem_map.2 ⟨p,hp,rfl⟩
 have hdr:(Fx.mk hp0 (!(checked P ops).isEmpty) (fixed P ops)).dr=true:=by
  show (!(checked P ops).isEmpty)=true
  cases hl:checked P ops with
  | nil=>rw [hl] at hchk;cases hchk
  | cons a b=>rfl
 have hp2:=List.all_eq_true.1 hd.2.2 p hp
 have hp0:=hp
 unfold need at hp
 obtain ⟨i,hi,hp⟩:=List.mem_flatMap.1 hp
 obtain ⟨j,hj,hp⟩:=List.mem_filterMap.1 hp
 have hi:i < ops.toList.length:=List.mem_range.1 hi
 have hj:j < ops.toList.length:=List.mem_range.1 hj
 split at hp <;> first | (cases hp;done) | skip
 rename_i oi oj hoi hoj
 split at hp <;> first | (cases hp;done) | skip
 rename_i hcond
 cases hp
 simp only [Bool.and_eq_true,Bool.not_eq_true'] at hcond
 obtain ⟨⟨hni,hcj⟩,_⟩:=hcond
 dsimp only at hp2 hchk ⊢
 rw [hoi] at hp2
 dsimp only at hp2
 have hij:i≠j:=by
  intro e;subst e
  rw [hoi] at hoj;cases hoj
  rw [hni] at hcj;cases hcj
 have hGj:(tr.map (·.2.1)++[Hs ops.toList.length])[if j < i then j else j+1]?=some (Hs (if j < i then j else j+1)):=e11 _ (by split <;> omega)
 unfold JI
 rw [hoi,e10 i hi,hGj]
 dsimp only
 obtain ⟨_,_,hor⟩:=hline.step i oi hoi
 rcases hor with ⟨hw,hv,ha,heT,heA,hq⟩ | ⟨hw,_⟩
 ·
  rw [hw]
  simp only [Bool.not_true,Bool.false_or]
  obtain ⟨hGi,hTi⟩:=hline.inv i (by omega)
  have hops:∀ x ∈ oi.op.operands.toList,V0 (μs i) (Hs i) (dem (zT (Ts i) x)) (zT (As i) x):=fun x hx=>hTi.eval (List.all_eq_true.1 (show oi.op.operands.toList.all yE=true from ku hv) x hx)
  have hq3:okq 3 (vs i)=true:=hq (by rw [Nat.zero_add];exact hchk)
  have same:∃ G',aOp P (zT (As i)) oi (Hs (if j < i then j else j+1))=some (zf i,G')∧aao 3 (zf i) (zf i)=true:=by
   by_cases hm:qX (zT (Ts i)) oi
   case neg =>
    have hrm:yZ oi=true:=by
     cases hrm:yZ oi with
     | true=>rfl
     | false=>exact absurd (ZM hrm) hm
    have hin:(i,j) ∈ again P ops:=List.mem_append_left _ (List.mem_filter.2 ⟨hp0,by dsimp only;rw [hoi];exact hrm⟩)
    have hne:(again P ops).isEmpty=false:=by
     cases hl:again P ops with
     | nil=>rw [hl] at hin;cases hin
     | cons a b=>rfl
    have hst:=List.all_eq_true.1 (e14 hne) _ hin
    rw [List.nil_append] at hst
    have hi1:(hs++[(zh,Ss ops.toList.length)])[i]?=some (y9 (Ts i) oi,Ss i):=by
     rw [List.getElem?_append_left (by omega)];exact e13 i oi hoi
    have hj1:∃ p2,(hs++[(zh,Ss ops.toList.length)])[if j < i then j else j+1]?=some (p2,Ss (if j < i then j else j+1)):=by
     by_cases hjl:(if j < i then j else j+1) < ops.toList.length
     ·
      rw [List.getElem?_append_left (by omega)]
      exact ⟨_,e13 _ _ (List.getElem?_eq_getElem hjl)⟩
     ·
      have:(if j < i then j else j+1)=ops.toList.length:=by split at hjl <;> (rename_i hh;simp only [hh,if_true,if_false];omega)
      rw [this,List.getElem?_append_right (by omega),e12,Nat.sub_self]
      exact ⟨_,rfl⟩
    obtain ⟨p2,hj1⟩:=hj1
    unfold Ko at hst
    dsimp only at hst
    rw [if_pos (show i < 1000 by omega),hi1,hj1] at hst
    dsimp only at hst
    have obj:∀ q r b,μs i q=some (r,b)→(∀ Sa Sb,yQ (y9 (Ts i) oi) Sa Sb=true→(∃ o,Sa.get q=some o∧o.alive=true)∧q ∉ Sb.log.take (Sb.log.length - Sa.log.length))→(Hs (if j < i then j else j+1)).get r=(Hs i).get r:=by
     intro q r b hq hQ
     by_cases hji:j < i
     ·
      rw [if_pos hji] at hst ⊢
      rw [if_pos hji] at hst
      obtain ⟨⟨o1,g1,g2⟩,g3⟩:=hQ _ _ hst
      obtain ⟨hGj3,_⟩:=hline.inv j (by omega)
      obtain ⟨r0,_,g4,_⟩:=hGj3.obj q o1 g1 g2
      have hL:=hline.later (i:=j) (i - j) (by omega)
      rw [show j+(i - j)=i by omega] at hL
      obtain ⟨b',hb'⟩:=hL.mu q r0 true g4
      rw [hq] at hb'
      cases hb'
      obtain ⟨new,n1,n2⟩:=hL.still
      rw [hGj3.log,hGi.log] at n1
      rw [n1] at g3
      simp only [List.length_append,Nat.add_sub_cancel,List.take_left] at g3
      exact (n2 q r g4 g3).2.symm
     ·
      rw [if_neg hji] at hst ⊢
      rw [if_neg hji] at hst
      obtain ⟨⟨o1,g1,g2⟩,g3⟩:=hQ _ _ hst
      have hb:=hGi.at hq g1 g2
      subst hb
      have hL:=hline.later (i:=i) (j+1 - i) (by omega)
      rw [show i+(j+1 - i)=j+1 by omega] at hL
      obtain ⟨hGj3,_⟩:=hline.inv (j+1) (by omega)
      obtain ⟨new,n1,n2⟩:=hL.still
      rw [hGj3.log,hGi.log] at n1
      rw [n1] at g3
      simp only [List.length_append,Nat.add_sub_cancel,List.take_left] at g3
      exact (n2 q r hq g3).2
    clear hst hi1 hj1
    have hok:=ku hv
    have hvo:=hv
    unfold jZ at hv
    rw [if_pos hok] at hv
    obtain ⟨dst,op,type,pos,after,guard⟩:=oi
    unfold qX at hm
    cases op <;> dsimp only at hv hm <;> first | (exact absurd True.intro hm) | skip
    case load t a =>
     have hv:jA P (fixed P ops) t (zT (Ts i) a) (Ss i)=some (vs i,Ss (i+1)):=hv
     obtain ⟨ad,hq⟩:∃ q,zT (Ts i) a=.pointer q:=Classical.byContradiction fun hn=>hm fun q hq=>hn ⟨q,hq⟩
     have hx:=hops a (by simp [Op.operands])
     obtain ⟨_,w,k1,k2⟩:=Zt hv hx (.inr hGi)
     have hA:jT P (lim P) (As i) ⟨dst,.load t a,type,pos,after,guard⟩ (Hs i)=wS P t (zT (As i) a) (Hs i):=by unfold jT;rw [if_pos hok];rfl
     rw [hA,k1] at ha
     have e:w=zf i:=by simpa using congrArg (Option.map Prod.fst) ha
     subst e
     rw [hq] at hx
     have hx:V0 (μs i) (Hs i) (.pointer ad) (zT (As i) a):=hx
     generalize hpa:zT (As i) a=pa at hx k1
     have hres:wS P t pa (Hs (if j < i then j else j+1))=some (zf i,Hs (if j < i then j else j+1)):=by
      cases hx with
      | sg hs =>
       cases ad with
       | none=>simp [wS] at k1
       | some ad=>simp [Go.Abs.sg] at hs
      | @ptr _ q o r b hmq =>
       refine ZV (obj q r b hmq fun Sa Sb hQ=>?_) k1
       have hQ:yQ (zT (Ts i) a) Sa Sb=true:=hQ
       rw [hq] at hQ
       simp only [yQ,Bool.and_eq_true,Bool.not_eq_true',List.contains_eq_mem,decide_eq_false_iff_not] at hQ
       refine ⟨?_,hQ.2⟩
       have h1:=hQ.1
       split at h1 <;> first | (cases h1;done) | skip
       rename_i hsa
       exact ⟨_,hsa,rfl⟩
     rw [← hpa] at hres
     exact ⟨_,hres,Wj 3 (JA hq3) k2.dem⟩
    case lookup t x k ok =>
     have hv:ZQ P (fixed P ops) t (zT (Ts i) x) (zT (Ts i) k) ok (Ss i)=some (vs i,Ss (i+1)):=hv
     have hx:=hops x (by simp [Op.operands])
     obtain ⟨_,w,k1,k2⟩:=W9 hv hx (hops k (by simp [Op.operands])) (.inr hGi)
     have hA:jT P (lim P) (As i) ⟨dst,.lookup t x k ok,type,pos,after,guard⟩ (Hs i)=jW P t (zT (As i) x) (zT (As i) k) ok (Hs i):=by unfold jT;rw [if_pos hok];rfl
     rw [hA,k1] at ha
     have e:w=zf i:=by simpa using congrArg (Option.map Prod.fst) ha
     subst e
     have hres:jW P t (zT (As i) x) (zT (As i) k) ok (Hs (if j < i then j else j+1))=some (zf i,Hs (if j < i then j else j+1)):=by
      refine QN (fun r hr=>?_) k1
      rw [hr] at hx
      generalize hu:dem (zT (Ts i) x)=u at hx
      have hum:∃ q b,u=.map (some q)∧μs i q=some (r,b):=by
       cases hx with
       | sg hs=>simp [Go.Abs.sg] at hs
       | map hmq=>exact ⟨_,_,rfl,hmq⟩
      obtain ⟨q,b,rfl,hmq⟩:=hum
      have hxe:zT (Ts i) x=.map (some q):=by
       cases hvx:zT (Ts i) x <;> rw [hvx] at hu <;> simp [dem,qK] at hu <;> rw [hu]
      refine obj q r b hmq fun Sa Sb hQ=>?_
      have hQ:yQ (zT (Ts i) x) Sa Sb=true:=hQ
      rw [hxe] at hQ
      simp only [yQ,Bool.and_eq_true,Bool.not_eq_true',List.contains_eq_mem,decide_eq_false_iff_not] at hQ
      refine ⟨?_,hQ.2⟩
      have h1:=hQ.1
      split at h1 <;> first | (cases h1;done) | skip
      rename_i hsa
      exact ⟨_,hsa,rfl⟩
     exact ⟨_,hres,Wj 3 (JA hq3) k2.dem⟩
   by_cases hrd:qA oi=false
   ·
    obtain ⟨a,h1,h2⟩:=adV hdr hv hni hrd hops
    have h3:=(h2 (Hs i)).2
    rw [ha] at h3
    have e:zf i=a:=by simpa using congrArg (Option.map Prod.fst) h3
    subst e
    exact ⟨_,(h2 _).1,Wj 3 (JA hq3) h1⟩
   ·
    have hrd:qA oi=true:=by simpa using hrd
    by_cases hlt:i < j
    ·
     rw [if_neg (by omega)]
     have hL:=hline.later (i:=i) (j+1 - i) (by omega)
     rw [show i+(j+1 - i)=j+1 by omega] at hL
     obtain ⟨a,h1,_,h3,h4,_⟩:=aeI hdr hv hni hm hops hL
     rw [ha] at h4
     have e:zf i=a:=by simpa using congrArg (Option.map Prod.fst) h4
     subst e
     exact ⟨_,h3,Wj 3 (JA hq3) h1⟩
    ·
     rw [if_pos (by omega)]
     rw [hrd] at hp2
     have hcl:yC ((aa7 P (fixed P ops) (fun k=>Vs P ops && (JZ P ops).contains (k,j)) j (ops.toList.drop j) []).getD (i - j) []) oi=true:=by
      simpa [hlt] using hp2
     obtain ⟨hGj2,hTj⟩:=hline.inv j (by omega)
     have hC0:Clear (μs j) (Hs j) [] (Ts j) (As j):=fun t _=>(hTj.slots t).v0
     have hld:∀ k o,j≤k→ops.toList[k]?=some o→isLoad o=true→(Vs P ops && (JZ P ops).contains (k,j))=true→yQ (y9 (Ts k) o) (Ss j) (Ss k)=true∧abu (y9 (Ts k) o) (Ss j) (Ss k)=true:=by
      intro k o hjk hok hld hck
      rw [Bool.and_eq_true] at hck
      obtain ⟨hcm,hin⟩:=hck
      have hin:(k,j) ∈ JZ P ops:=by simpa using hin
      have hkj:k≠j:=fun e=>by
       subst e
       rw [hoj] at hok
       cases hok
       obtain ⟨dst,op,type,pos,after,guard⟩:=oj
       cases op <;> first | (cases hld;done) | (cases hcj;done)
      have hjk:j < k:=by omega
      have hkn:k < ops.toList.length:=(List.getElem?_eq_some_iff.1 hok).1
      have h1:(k,j) ∈ again P ops:=List.mem_append_left _ hin
      have h2:(k+1000,j) ∈ again P ops:=List.mem_append_right _ (by
       rw [if_pos hcm]
       exact List.mem_map.2 ⟨(k,j),List.mem_filter.2 ⟨hin,decide_eq_true hjk⟩,rfl⟩)
      have hne:(again P ops).isEmpty=false:=by
       cases hl:again P ops with
       | nil=>rw [hl] at h1;cases h1
       | cons a b=>rfl
      have t1:=List.all_eq_true.1 (e14 hne) _ h1
      have t2:=List.all_eq_true.1 (e14 hne) _ h2
      rw [List.nil_append] at t1 t2
      have hk1:(hs++[(zh,Ss ops.toList.length)])[k]?=some (y9 (Ts k) o,Ss k):=by
       rw [List.getElem?_append_left (by omega)];exact e13 k o hok
      have hj1:(hs++[(zh,Ss ops.toList.length)])[j]?=some (y9 (Ts j) oj,Ss j):=by
       rw [List.getElem?_append_left (by omega)];exact e13 j oj hoj
      unfold Ko at t1 t2
      dsimp only at t1 t2
      rw [if_pos (show k < 1000 by omega),if_pos hjk,hk1,hj1] at t1
      rw [if_neg (show ¬ k+1000 < 1000 by omega),Nat.add_sub_cancel,hk1,hj1] at t2
      dsimp only at t1 t2
      rw [if_pos hjk] at t1
      exact ⟨t1,t2⟩
     have hC:=hline.clear hdr (j:=j) (by omega) (cl:=fun k=>Vs P ops && (JZ P ops).contains (k,j)) hld _ [] j (Nat.le_refl _) rfl hC0 (i - j) (by rw [List.length_drop];omega)
     rw [show j+(i - j)=i by omega] at hC
     have hL:=hline.later (i:=j) (i - j) (by omega)
     rw [show j+(i - j)=i by omega] at hL
     obtain ⟨a,h1,h2,_,_,h5⟩:=aeI hdr hv hni hm (hC.operands (ku hv) hcl) hL
     rw [ha] at h5
     have e:zf i=a:=by simpa using congrArg (Option.map Prod.fst) h5
     subst e
     exact ⟨_,h2,Wj 3 (JA hq3) h1⟩
  obtain ⟨G',h1,h2⟩:=same
  unfold recheck
  rw [h1]
  exact h2
 ·
  rw [hw]
  rfl
end
end Go.Abs
namespace Go.Abs
open Go.RowKit
section
variable {P:Program} {call:FuncId→List Value→M Value}
def aeA (μ:Mu) (ω:Nat→Option wO) (H:zx) (e:AEx) (T':List Value) (S':zx) (R:St):Prop :=
 ∃ A' H' μ' ω',R=some (e,A',H')∧GI μ' S' H'∧Later μ H μ' H'∧Kept ω H ω' H'∧TI μ' H' ω' T' A'
theorem adG {hp:Bool} (hc:ZK P call) (fuel:Nat):∀ (c:Code) (T T' A:List Value) (S S' H:zx) (μ:Mu) (ω:Nat→Option wO) (e:AEx),wL P hp call fuel c T S=some (e,T',S')→GI μ S H→TI μ H ω T A→aeA μ ω H e T' S' (wJ P c A H):=by
 intro c
 induction c with
 | skip =>
  intro T T' A S S' H μ ω e h hG hT
  simp only [wL,Option.some.injEq,Prod.mk.injEq] at h
  obtain ⟨rfl,rfl,rfl⟩:=h
  exact ⟨A,H,μ,ω,rfl,hG,Later.refl _ _,Kept.refl _ _,hT⟩
 | exit id =>
  intro T T' A S S' H μ ω e h hG hT
  simp only [wL,Option.some.injEq,Prod.mk.injEq] at h
  obtain ⟨rfl,rfl,rfl⟩:=h
  exact ⟨A,H,μ,ω,rfl,hG,Later.refl _ _,Kept.refl _ _,hT⟩
 | ret =>
  intro T T' A S S' H μ ω e h hG hT
  simp only [wL,Option.some.injEq,Prod.mk.injEq] at h
  obtain ⟨rfl,rfl,rfl⟩:=h
  exact ⟨A,H,μ,ω,rfl,hG,Later.refl _ _,Kept.refl _ _,hT⟩
 | region i ops d =>
  intro T T' A S S' H μ ω e h hG hT
  cases d with
  | false =>
   simp only [wL] at h
   split at h <;> first | (cases h;done) | skip
   rename_i T1 S1 ho
   cases h
   obtain ⟨A',H',μ',ω',h1,h2,h3,h4,h5⟩:=ae4 hc _ _ _ _ _ _ _ _ _ ho hG hT
   exact ⟨A',H',μ',ω',by simp only [wJ,h1],h2,h3,h4,h5⟩
  | true =>
   simp only [wL] at h
   split at h <;> first | (cases h;done) | skip
   rename_i hd
   split at h <;> first | (cases h;done) | skip
   rename_i T1 S1 ho
   cases h
   obtain ⟨A',H',μ',ω',h1,h2,h3,h4,h5⟩:=abJ hc hd ho hG hT
   exact ⟨A',H',μ',ω',by simp only [wJ,h1],h2,h3,h4,h5⟩
 | seq x y ihx ihy =>
  intro T T' A S S' H μ ω e h hG hT
  simp only [wL] at h
  split at h
  ·
   rename_i T1 S1 hx
   obtain ⟨A1,H1,μ1,ω1,h1,h2,h3,h4,h5⟩:=ihx _ _ _ _ _ _ _ _ _ hx hG hT
   obtain ⟨A2,H2,μ2,ω2,k1,k2,k3,k4,k5⟩:=ihy _ _ _ _ _ _ _ _ _ h h2 h5
   exact ⟨A2,H2,μ2,ω2,by simp only [wJ,h1];exact k1,k2,h3.trans k3,h4.trans k4,k5⟩
  ·
   rename_i hne
   obtain ⟨A1,H1,μ1,ω1,h1,h2,h3,h4,h5⟩:=ihx _ _ _ _ _ _ _ _ _ h hG hT
   refine ⟨A1,H1,μ1,ω1,?_,h2,h3,h4,h5⟩
   simp only [wJ,h1]
   cases e with
   | normal=>exact absurd h (hne _ _)
   | exit id=>rfl
   | ret=>rfl
 | cond c x y ihx ihy =>
  intro T T' A S S' H μ ω e h hG hT
  simp only [wL] at h
  split at h <;> first | (cases h;done) | skip
  rename_i hok
  have hv:=hT.eval hok
  split at h
  ·
   rename_i hb
   have:zT A c=.bool true:=jl hv (by rw [hb];rfl) |>.trans hb
   obtain ⟨A1,H1,μ1,ω1,h1,h2,h3,h4,h5⟩:=ihx _ _ _ _ _ _ _ _ _ h hG hT
   exact ⟨A1,H1,μ1,ω1,by simp only [wJ,hok,if_true,this];exact h1,h2,h3,h4,h5⟩
  ·
   rename_i hb
   have:zT A c=.bool false:=jl hv (by rw [hb];rfl) |>.trans hb
   obtain ⟨A1,H1,μ1,ω1,h1,h2,h3,h4,h5⟩:=ihy _ _ _ _ _ _ _ _ _ h hG hT
   exact ⟨A1,H1,μ1,ω1,by simp only [wJ,hok,if_true,this];exact h1,h2,h3,h4,h5⟩
  ·
   cases h
 | block id c ih =>
  intro T T' A S S' H μ ω e h hG hT
  simp only [wL] at h
  split at h
  ·
   rename_i id' T1 S1 hx
   obtain ⟨A1,H1,μ1,ω1,h1,h2,h3,h4,h5⟩:=ih _ _ _ _ _ _ _ _ _ hx hG hT
   by_cases hid:id'=id
   ·
    rw [if_pos hid] at h
    cases h
    exact ⟨A1,H1,μ1,ω1,by simp only [wJ,h1,if_pos hid],h2,h3,h4,h5⟩
   ·
    rw [if_neg hid] at h
    cases h
    exact ⟨A1,H1,μ1,ω1,by simp only [wJ,h1,if_neg hid],h2,h3,h4,h5⟩
  ·
   rename_i hne
   obtain ⟨A1,H1,μ1,ω1,h1,h2,h3,h4,h5⟩:=ih _ _ _ _ _ _ _ _ _ h hG hT
   refine ⟨A1,H1,μ1,ω1,?_,h2,h3,h4,h5⟩
   simp only [wJ,h1]
   cases e with
   | normal=>rfl
   | exit id'=>exact absurd h (hne _ _ _)
   | ret=>rfl
 | loop c ih =>
  have key:∀ (n:Nat) (T T' A:List Value) (S S' H:zx) (μ:Mu) (ω:Nat→Option wO) (e:AEx),yh n (wL P hp call fuel c) T S=some (e,T',S')→GI μ S H→TI μ H ω T A→aeA μ ω H e T' S' (yH (wJ P c) A H):=by
   intro n
   induction n with
   | zero=>intro T T' A S S' H μ ω e h;cases h
   | succ n ihn =>
    intro T T' A S S' H μ ω e h hG hT
    simp only [yh] at h
    split at h
    ·
     rename_i T1 S1 hx
     obtain ⟨A1,H1,μ1,ω1,h1,h2,h3,h4,h5⟩:=ih _ _ _ _ _ _ _ _ _ hx hG hT
     obtain ⟨A2,H2,μ2,ω2,k1,k2,k3,k4,k5⟩:=ihn _ _ _ _ _ _ _ _ _ h h2 h5
     exact ⟨A2,H2,μ2,ω2,by rw [wH h1];exact k1,k2,h3.trans k3,h4.trans k4,k5⟩
    ·
     rename_i hne
     obtain ⟨A1,H1,μ1,ω1,h1,h2,h3,h4,h5⟩:=ih _ _ _ _ _ _ _ _ _ h hG hT
     exact ⟨A1,H1,μ1,ω1,jE h1 (fun he=>by subst he;exact hne _ _ h),h2,h3,h4,h5⟩
  intro T T' A S S' H μ ω e h hG hT
  simp only [wL] at h
  obtain ⟨A1,H1,μ1,ω1,h1,h2⟩:=key fuel _ _ _ _ _ _ _ _ _ h hG hT
  exact ⟨A1,H1,μ1,ω1,by simp only [wJ];exact h1,h2⟩
 | _=>intro T T' A S S' H μ ω e h;simp only [wL] at h;cases h
theorem VV.afP {μ:Mu} {H:zx} {ω ω':Nat→Option wO} {f:wO→Option wO} (hω:∀ r,ω' r=(ω r).bind f) {s s':wO} (hs:f s=some s') {v a:Value} (h:VV μ H ω (some s) v a) (hv:jD v=true):VV μ H ω' (some s') v a:=by
 cases h with
 | sg h=>exact .sg h
 | ptr h=>exact .ptr h
 | map h=>exact .map h
 | slm h=>exact .slm h
 | slE=>exact .slE
 | sl hr hp hg hl hl' hc=>exact .sl hr hp hg hl hl' (fun i hi=>(hc i hi).at0)
 | so h hr hp hg hl hl' hc=>exact .so (by rw [hω,h];exact hs) hr hp hg hl hl' (fun i hi=>(hc i hi).at0)
 | ep hr hp hg hl hc=>exact .ep hr hp hg hl (fun i hi=>(hc i hi).at0)
 | func fn hx hc h1 h2=>exact .func fn hx hc (fun i=>(h1 i).at0) (fun i=>(h2 i).at0)
 | agg hx hh=>exact .agg hx (fun i=>(hh i).at0)
 | nores=>exact .nores
 | @tuple _ x x' hx hh =>
  have h0:x.size=0:=by simpa [jD] using hv
  have e1:x=#[]:=Array.eq_empty_of_size_eq_zero h0
  have e2:x'=#[]:=Array.eq_empty_of_size_eq_zero (by rw [← hx];exact h0)
  subst e1 e2
  exact .nores
def place (rs:List ResultVar):wO→Option wO
 | .ext=>some .ext
 | .res _=>none
 | .slot i j=>match rs with
  | [.tmp t]=>if i=t then some (.res j) else none
  | _=>match j with
   | none=>(rs.findIdx? (adi i)).map fun k=>.res (some k)
   | some _=>none
theorem aaf {rs:List ResultVar} {i:Nat} (h:∀ t,rs≠[.tmp t]):place rs (.slot i none)=(rs.findIdx? (adi i)).map fun k=>.res (some k):=by
 match rs,h with
 | [],_=>rfl
 | [.tmp t],h=>exact absurd rfl (h t)
 | [.cell _ _],_=>rfl
 | .tmp _::_::_,_=>rfl
 | .cell _ _::_::_,_=>rfl
theorem KY {μ:Mu} {ω:Nat→Option wO} {S H:zx} {T A:List Value} (hG:GI μ S H) (hT:TI μ H ω T A):∀ (l:List ResultVar) (vs:List Value),zQ P T S l=some vs →
  ∃ zf,kF P A H l=some zf∧vs.length=l.length∧zf.length=l.length∧∀ i:Nat,match (l[i]?:Option ResultVar) with
   | some (.tmp t)=>vs.getD i zh=T.getD t zh∧zf.getD i zh=A.getD t zh
   | _=>V0 μ H (vs.getD i zh) (zf.getD i zh):=by
 intro l
 induction l with
 | nil =>
  intro vs h
  simp only [zQ,Option.some.injEq] at h
  subst h
  exact ⟨[],rfl,rfl,rfl,fun i=>by simpa using VV.zh⟩
 | cons x l ih =>
  intro vs h
  cases x with
  | tmp t =>
   simp only [zQ] at h
   split at h <;> first | (cases h;done) | skip
   rename_i vs' hr
   cases h
   obtain ⟨zf,h1,h2,h3,h4⟩:=ih _ hr
   refine ⟨A.getD t zh::zf,by simp only [kF,h1],by simp [h2],by simp [h3],fun i=>?_⟩
   cases i with
   | zero=>exact ⟨rfl,rfl⟩
   | succ i=>simpa using h4 i
  | cell a t =>
   simp only [zQ] at h
   split at h <;> first | (cases h;done) | skip
   rename_i v S1 vs' hl hr
   cases h
   obtain ⟨zf,h1,h2,h3,h4⟩:=ih _ hr
   obtain ⟨_,w,k1,k2⟩:=Zt hl (hT.slots a).v0 (.inr hG)
   refine ⟨w::zf,by simp only [kF,k1,h1],by simp [h2],by simp [h3],fun i=>?_⟩
   cases i with
   | zero=>exact k2
   | succ i=>simpa using h4 i
theorem ae2 {μ:Mu} {ω:Nat→Option wO} {S S' H:zx} {T A:List Value} {fn:Func} {v:Value} (hG:GI μ S H) (hT:TI μ H ω T A) (h:aan P fn T S=some (v,S')) :
  S'=S∧∃ a,acN P fn A H=some (a,H)∧VV μ H (fun r=>(ω r).bind (place fn.results.toList)) (some (.res none)) v a:=by
 unfold aan at h
 split at h <;> first | (cases h;done) | skip
 rename_i vs hvs
 split at h <;> first | (cases h;done) | skip
 rename_i hok
 obtain ⟨zf,h1,h2,h3,h4⟩:=KY hG hT _ _ hvs
 generalize hrs:fn.results.toList=rs at *
 split at h
 ·
  rename_i v1
  cases h
  obtain ⟨a,rfl⟩:∃ a,zf=[a]:=by
   match zf,h3.trans h2.symm with
   | [a],_=>exact ⟨a,rfl⟩
  refine ⟨rfl,a,by simp only [acN,hrs,h1],?_⟩
  match rs,h2 with
  | [x],_ =>
   have:=h4 0
   cases x with
   | tmp t =>
    simp only [List.getElem?_cons_zero,List.getD_cons_zero] at this
    obtain ⟨rfl,rfl⟩:=this
    refine (hT.slots t).YU (fun _=>rfl) _ (fun s hs=>?_)
    cases hs
    refine ⟨_,rfl,by simp only [place,if_true],fun k t' ht=>?_⟩
    cases ht
    exact ⟨_,rfl,by simp only [place,if_true]⟩
   | cell b t=>exact (show V0 μ H v a from this).at0
 ·
  rename_i hne
  split at h <;> first | (cases h;done) | skip
  rename_i hnt
  cases h
  refine ⟨rfl,.tuple zf.toArray,?_,.tuple (by simp [h2,h3]) fun i=>?_⟩
  ·
   simp only [acN,hrs,h1]
   match zf,vs,h3.trans h2.symm,hne with
   | [],_,_,_=>rfl
   | [a],[v],_,hne=>exact absurd rfl (hne v)
   | a::b::c,_,_,_=>rfl
  ·
   have e1:vs.toArray.getD i zh=vs.getD i zh:=by rw [← getD_toList,List.toList_toArray]
   have e2:zf.toArray.getD i zh=zf.getD i zh:=by rw [← getD_toList,List.toList_toArray]
   rw [e1,e2]
   have h5:=h4 i
   cases hx:rs[i]? with
   | none=>rw [hx] at h5;exact (show V0 μ H _ _ from h5).at0
   | some x =>
    rw [hx] at h5
    cases x with
    | cell b t=>exact (show V0 μ H _ _ from h5).at0
    | tmp t =>
     dsimp only at h5
     have hi:i < rs.length:=(List.getElem?_eq_some_iff.1 hx).1
     have hid:rs.findIdx? (adi t)=some i:=by
      have:=List.all_eq_true.1 hok i (List.mem_range.2 hi)
      rw [hx] at this
      simpa using this
     have hnt2:jD (T.getD t zh)=true:=by
      rw [← h5.1,List.getD_eq_getElem?_getD,List.getElem?_eq_getElem (by omega)]
      exact List.all_eq_true.1 hnt _ (List.getElem_mem _)
     rw [h5.1,h5.2]
     refine (hT.slots t).afP (fun _=>rfl) (s':=.res (some i)) ?_ hnt2
     have hne1:∀ t',rs≠[.tmp t']:=by
      intro t' e
      rw [e] at h2
      match vs,h2 with
      | [v],_=>exact hne v rfl
     rw [aaf hne1,hid];rfl
def KT (P:Program) (O:Ora):Prop:=∀ f q,O.fn f=some q→ZK P (fun g args=>if g=f then q args else fun _=>none)
theorem ae7 {s t:wO} {i:Nat} (h:s.comp i=some t):t≠.ext:=by
 cases s with
 | ext=>cases h
 | slot a b=>cases b <;> first | (cases h;exact fun h=>by cases h) | cases h
 | res b=>cases b <;> first | (cases h;exact fun h=>by cases h) | cases h
theorem VV.qc {μ μ':Mu} {H:zx} {ω ω':Nat→Option wO} {es:List Nat} (hp:∀ r l own e,H.get r=some (.cells l own e)→e ∉ es→xX μ r→xX μ' r) (hω:∀ r s,s≠.ext→ω r=some s→ω' r=some s)
  {ℓ:Option wO} {v a:Value} (h:VV μ H ω ℓ v a):∀ d,Go.Abs.qc es d v=true→(∀ s,ℓ=some s→s≠.ext)→VV μ' H ω' ℓ v a:=by
 induction h with
 | sg h=>exact fun _ _ _=>.sg h
 | ptr h=>intro d hc;cases d <;> simp [Go.Abs.qc] at hc
 | map h=>intro d hc;cases d <;> simp [Go.Abs.qc] at hc
 | slm h=>intro d hc;cases d <;> simp [Go.Abs.qc] at hc
 | slE=>exact fun _ _ _=>.slE
 | @sl ℓ e n r o cs l own hr hpr hg hl hn hc ih =>
  intro d hcl _
  cases d with
  | zero=>cases hcl
  | succ d =>
   have hv:Go.Abs.qc es (d+1) (.iface 1 (.iface e (.iface n (.agg cs))))=(!es.contains e && cs.toList.all (Go.Abs.qc es d)):=rfl
   rw [hv,Bool.and_eq_true] at hcl
   have he:e ∉ es:=by simpa using hcl.1
   refine .sl hr (hp _ _ _ _ hg he hpr) hg hl hn (fun i hi=>ih i hi d ?_ (fun s hs=>by cases hs))
   rw [List.getD_eq_getElem?_getD,List.getElem?_eq_getElem (by omega)]
   exact List.all_eq_true.1 hcl.2 _ (List.getElem_mem _)
 | @so s e n r cs l anc hw hr hpr hg hl hn hc ih =>
  intro d hcl hs
  cases d with
  | zero=>cases hcl
  | succ d =>
   have hv:Go.Abs.qc es (d+1) (.iface 2 (.iface e (.iface n (.agg cs))))=(!es.contains e && cs.toList.all (Go.Abs.qc es d)):=rfl
   rw [hv,Bool.and_eq_true] at hcl
   have he:e ∉ es:=by simpa using hcl.1
   refine .so (hω _ _ (hs _ rfl) hw) hr (hp _ _ _ _ hg he hpr) hg hl hn (fun i hi=>ih i hi d ?_ (fun s hs=>by cases hs))
   rw [List.getD_eq_getElem?_getD,List.getElem?_eq_getElem (by omega)]
   exact List.all_eq_true.1 hcl.2 _ (List.getElem_mem _)
 | ep hr hpr hg hl hc ih =>
  intro d hcl
  cases d with
  | zero=>cases hcl
  | succ d=>simp [Go.Abs.qc,vSl] at hcl
 | func fn hx hc h1 h2=>intro d hc;cases d <;> simp [Go.Abs.qc] at hc
 | @agg ℓ x x' hx hh ih =>
  intro d hcl _
  cases d with
  | zero=>cases hcl
  | succ d =>
   have hcl:x.toList.all (Go.Abs.qc es d)=true:=hcl
   refine .agg hx (fun i=>?_)
   by_cases hi:i < x.size
   ·
    refine ih i d ?_ (fun s hs=>by cases hs)
    rw [Array.getD_eq_getD_getElem?,Array.getElem?_eq_getElem hi]
    exact List.all_eq_true.1 hcl _ (by simp)
   ·
    rw [Array.getD_eq_getD_getElem?,Array.getElem?_eq_none (Nat.le_of_not_lt hi),Array.getD_eq_getD_getElem?,Array.getElem?_eq_none (by omega)]
    exact .nores
 | nores=>exact fun _ _ _=>.nores
 | @tuple ℓ x x' hx hh ih =>
  intro d hcl hs
  cases d with
  | zero=>cases hcl
  | succ d =>
   have hcl:x.toList.all (Go.Abs.qc es d)=true:=hcl
   refine .tuple hx (fun i=>?_)
   by_cases hi:i < x.size
   ·
    refine ih i d ?_ (fun s hb=>?_)
    ·
     rw [Array.getD_eq_getD_getElem?,Array.getElem?_eq_getElem hi]
     exact List.all_eq_true.1 hcl _ (by simp)
    ·
     cases ℓ with
     | none=>cases hb
     | some s0=>exact ae7 (s:=s0) hb
   ·
    rw [Array.getD_eq_getD_getElem?,Array.getElem?_eq_none (Nat.le_of_not_lt hi),Array.getD_eq_getD_getElem?,Array.getElem?_eq_none (by omega)]
    exact .nores
open Classical in
noncomputable def agK (μ:Mu) (ω:Nat→Option wO):Nat→Option wO:=fun r=>if ∃ q,μ q=some (r,true) then none else ω r
open Classical in
noncomputable def Qq (μ μ1:Mu) (ω:Nat→Option wO):Nat→Option wO:=fun r=>if ∃ q,μ q=some (r,true)∧¬ μ1 q=some (r,true) then some .ext else ω r
theorem adp {call:FuncId→List Value→M Value} (hc:ZK P call) {hps:FuncId→Bool} {hp:Bool}:ZK P (yG hps hp call):=by
 cases hp with
 | false=>exact hc
 | true =>
  intro g args aargs S v S' h μ H ω hG hA hD hE
  unfold yG at h
  dsimp only at h
  split at h
  ·
   exact hc g args aargs S v S' h μ H ω hG hA hD hE
  ·
   split at h <;> first | (cases h;done) | skip
   rename_i m S1 hf
   obtain ⟨μ1,h1,h2,h3,hsz⟩:=Kt _ _ _ _ _ _ hf hG hA
   split at h <;> first | (cases h;done) | skip
   rename_i r0 hr0
   obtain ⟨v0,S2⟩:=r0
   simp only [Option.some.injEq] at h
   unfold abP at h
   dsimp only at h
   split at h
   ·
    rename_i hb
    cases h
    simp only [Bool.and_eq_true,beq_iff_eq] at hb
    obtain ⟨⟨_,hgr⟩,hlog⟩:=hb
    have hlent:∀ q r,μ q=some (r,true)→¬ μ1 q=some (r,true)→r < H.next∧xX μ1 r:=fun q r hq hn =>
     ⟨hG.lt q r _ hq,fun q' hq'=>by
      rcases h2.new q' r hq' with h5 | h5
      ·
       have:=hG.inj q q' r hq h5
       subst this
       exact hn hq'
      ·
       have:=hG.lt q r _ hq;omega,by rw [h2.hid];exact hG.vis q r hq⟩
    have hDL:Dom μ1 H (Qq μ μ1 ω):=fun r s hs=>by
     unfold Qq at hs
     split at hs
     ·
      rename_i hx
      obtain ⟨q,hq,hn⟩:=hx
      exact hlent q r hq hn
     ·
      exact ⟨(hD r s hs).1,h2.priv (hD r s hs).1 (hD r s hs).2⟩
    have hEL:∀ r s,Qq μ μ1 ω r=some s→s=.ext:=fun r s hs=>by
     unfold Qq at hs
     split at hs
     ·
      cases hs;rfl
     ·
      exact hE r s hs
    obtain ⟨a,H',μ',ω',k1,k2,k3,k4,k5,k6⟩:=hc g m aargs S1 v S2 hr0 μ1 H (Qq μ μ1 ω) h1 h3 hDL hEL
    have hsame:∀ q r,μ q=some (r,true)→H'.get r=H.get r:=fun q r hq=>by
     by_cases hn:μ1 q=some (r,true)
     ·
      obtain ⟨new,e1,e2⟩:=k3.still
      have:new=[]:=by
       rw [k2.log,h1.log,hlog] at e1
       exact List.append_cancel_right (bs:=S1.log) (by rw [← e1];rfl)
      subst this
      exact (e2 q r hn (by simp)).2
     ·
      exact (k4 r (by unfold Qq;rw [if_pos ⟨q,hq,hn⟩])).2
    have hL:Later μ H μ H':=⟨fun _ _ b h=>⟨b,h⟩,k3.next,fun _ _ h=>.inl h,rfl,fun r hr hh=>k3.same r hr (by rw [h2.hid];exact hh),⟨[],rfl,fun q r hq _=>⟨hq,hsame q r hq⟩⟩,
     fun r l own e hr hp hg=>k3.cells r l own e hr (h2.priv hr hp) hg⟩
    rcases Bool.or_eq_true _ _ |>.mp hgr with hgr | hgr
    ·
     refine ⟨a,H',μ,ω,k1,hG.later hL rfl hsame,hL,fun r hr=>⟨hr,(k4 r ?_).2⟩,fun r s hs=>⟨Nat.lt_of_lt_of_le (hD r s hs).1 k3.next,(hD r s hs).2⟩,?_⟩
     ·
      unfold Qq
      split
      ·
       rfl
      ·
       exact hr
     ·
      rw [VV.qx hgr k6]
      exact VV.jS hgr
    ·
     have hpr:∀ r l own e,H'.get r=some (.cells l own e)→e ∉ afG S args→xX μ' r→xX μ r:=fun r l own e hg he hp=>by
      refine ⟨fun q hq=>?_,by rw [← h2.hid,← k3.hid];exact hp.2⟩
      rcases hsz q r hq with hn | ⟨l1,own1,e1,he1,hg1⟩
      ·
       obtain ⟨new,e1,e2⟩:=k3.still
       have:new=[]:=by
        rw [k2.log,h1.log,hlog] at e1
        exact List.append_cancel_right (bs:=S1.log) (by rw [← e1];rfl)
       subst this
       exact hp.1 q (e2 q r hn (by simp)).1
      ·
       rw [hsame q r hq,hg1] at hg
       cases hg
       exact he he1
     have hno:∀ r s,ω r=some s→¬ ∃ q,μ q=some (r,true):=fun r s hs ⟨q,hq⟩=>(hD r s hs).2.1 q hq
     have hst:∀ r,(∃ q,μ q=some (r,true))→∀ s,ω' r=some s→s=.ext:=fun r ⟨q,hq⟩ s hs=>by
      by_cases hn:μ1 q=some (r,true)
      ·
       exfalso
       obtain ⟨new,e1,e2⟩:=k3.still
       have:new=[]:=by
        rw [k2.log,h1.log,hlog] at e1
        exact List.append_cancel_right (bs:=S1.log) (by rw [← e1];rfl)
       subst this
       exact (k5 r s hs).2.1 q (e2 q r hn (by simp)).1
      ·
       have:=(k4 r (by unfold Qq;rw [if_pos ⟨q,hq,hn⟩])).1
       rw [hs] at this
       cases this
       rfl
     refine ⟨a,H',μ,agK μ ω',k1,hG.later hL rfl hsame,hL,fun r hr=>?_,fun r s hs=>?_,?_⟩
     ·
      have hnr:=hno r _ hr
      unfold agK
      rw [if_neg hnr]
      refine k4 r ?_
      unfold Qq
      rw [if_neg (fun ⟨q,hq,_⟩=>hnr ⟨q,hq⟩)]
      exact hr
     ·
      unfold agK at hs
      split at hs
      ·
       cases hs
      ·
       rename_i hnr
       exact ⟨(k5 r s hs).1,fun q hq=>hnr ⟨q,hq⟩,by rw [← h2.hid,← k3.hid];exact (k5 r s hs).2.2⟩
     ·
      refine k6.qc hpr (fun r s hne hs=>?_) 16 hgr (fun s hs=>by cases hs;exact fun h=>by cases h)
      unfold agK
      rw [if_neg (fun hx=>hne (hst r hx s hs))]
      exact hs
   ·
    cases h
    obtain ⟨a,H',μ',ω',k1,k2,k3,k4,k5,k6⟩:=hc g m aargs S1 v S' hr0 μ1 H ω h1 h3 (fun r s hs=>⟨(hD r s hs).1,h2.priv (hD r s hs).1 (hD r s hs).2⟩) hE
    exact ⟨a,H',μ',ω',k1,k2,h2.trans k3,k4,k5,k6⟩
theorem VV.clean {μ μ':Mu} {H:zx} {ω:Nat→Option wO} (hp:∀ r,xX μ r→xX μ' r) {ℓ:Option wO} {v a:Value} (h:VV μ H ω ℓ v a):∀ d,jk d v=true→VV μ' H ω ℓ v a:=by
 induction h with
 | sg h=>exact fun _ _=>.sg h
 | ptr h=>intro d hc;cases d <;> simp [jk] at hc
 | map h=>intro d hc;cases d <;> simp [jk] at hc
 | slm h=>intro d hc;cases d <;> simp [jk] at hc
 | slE=>exact fun _ _=>.slE
 | sl hr hpr hg hl hn hc ih =>
  intro d hcl
  obtain ⟨d,rfl⟩:∃ k,d=k+4:=by
   match d,hcl with
   | 0,h=>cases h
   | 1,h=>simp [jk] at h
   | 2,h=>simp [jk] at h
   | 3,h=>simp [jk] at h
   | k+4,_=>exact ⟨k,rfl⟩
  simp only [jk] at hcl
  refine .sl hr (hp _ hpr) hg hl hn (fun i hi=>ih i hi d ?_)
  rw [List.getD_eq_getElem?_getD,List.getElem?_eq_getElem (by omega)]
  exact List.all_eq_true.1 hcl _ (List.getElem_mem _)
 | so hω hr hpr hg hl hn hc ih =>
  intro d hcl
  obtain ⟨d,rfl⟩:∃ k,d=k+4:=by
   match d,hcl with
   | 0,h=>cases h
   | 1,h=>simp [jk] at h
   | 2,h=>simp [jk] at h
   | 3,h=>simp [jk] at h
   | k+4,_=>exact ⟨k,rfl⟩
  simp only [jk] at hcl
  refine .so hω hr (hp _ hpr) hg hl hn (fun i hi=>ih i hi d ?_)
  rw [List.getD_eq_getElem?_getD,List.getElem?_eq_getElem (by omega)]
  exact List.all_eq_true.1 hcl _ (List.getElem_mem _)
 | ep hr hpr hg hl hc ih =>
  intro d hcl
  obtain ⟨d,rfl⟩:∃ k,d=k+2:=by
   match d,hcl with
   | 0,h=>cases h
   | 1,h=>simp [jk] at h
   | k+2,_=>exact ⟨k,rfl⟩
  simp only [jk] at hcl
  refine .ep hr (hp _ hpr) hg hl (fun i hi=>ih i hi d ?_)
  rw [List.getD_eq_getElem?_getD,List.getElem?_eq_getElem hi]
  exact List.all_eq_true.1 hcl _ (List.getElem_mem _)
 | func fn hx hc h1 h2=>intro d hc;cases d <;> simp [jk] at hc
 | @agg ℓ x x' hx hh ih =>
  intro d hcl
  obtain ⟨d,rfl⟩:∃ k,d=k+1:=by
   match d,hcl with
   | 0,h=>cases h
   | k+1,_=>exact ⟨k,rfl⟩
  simp only [jk] at hcl
  refine .agg hx (fun i=>?_)
  by_cases hi:i < x.size
  ·
   refine ih i d ?_
   rw [Array.getD_eq_getD_getElem?,Array.getElem?_eq_getElem hi]
   exact List.all_eq_true.1 hcl _ (by simp)
  ·
   rw [Array.getD_eq_getD_getElem?,Array.getElem?_eq_none (Nat.le_of_not_lt hi),Array.getD_eq_getD_getElem?,Array.getElem?_eq_none (by omega)]
   exact .nores
 | nores=>exact fun _ _=>.nores
 | @tuple ℓ x x' hx hh ih =>
  intro d hcl
  obtain ⟨d,rfl⟩:∃ k,d=k+1:=by
   match d,hcl with
   | 0,h=>cases h
   | k+1,_=>exact ⟨k,rfl⟩
  simp only [jk] at hcl
  refine .tuple hx (fun i=>?_)
  by_cases hi:i < x.size
  ·
   refine ih i d ?_
   rw [Array.getD_eq_getD_getElem?,Array.getElem?_eq_getElem hi]
   exact List.all_eq_true.1 hcl _ (by simp)
  ·
   rw [Array.getD_eq_getD_getElem?,Array.getElem?_eq_none (Nat.le_of_not_lt hi),Array.getD_eq_getD_getElem?,Array.getElem?_eq_none (by omega)]
   exact .nores
theorem VV.lower {μ μ' : Mu} {S H : zx} {ω : Nat → Option wO} (hG : GI μ S H) (hp : ∀ r, xX μ r → xX μ' r) (hq : ∀ q r, μ q = some (r, true) → xX μ' r) {ℓ : Option wO} {v a : Value} (h : VV μ H ω ℓ v a) :
    ∀ d d', jk d (jO S d' v) = true → VV μ' H ω ℓ (jO S d' v) a := by
  induction h with
  | sg h =>
    intro d d' hc
    rename_i v
    have e : jO S d' v = v := by
      cases d' with
      | zero => rfl
      | succ d' => cases v <;> first | rfl | (simp [Go.Abs.sg] at h; done) | skip
                   rename_i a n c
                   cases a <;> first | rfl | (simp [Go.Abs.sg] at h; done)
    rw [e]; exact .sg h
  | ptr h => intro d d' hc; cases d' <;> cases d <;> simp [jO, jk] at hc
  | map h => intro d d' hc; cases d' <;> cases d <;> simp [jO, jk] at hc
  | @slm ℓ r o r' b n hm =>
    intro d d' hc
    cases d' with
    | zero => cases d <;> simp [jO, jk] at hc
    | succ d' =>
      by_cases ho : o = 0
      · subst ho
        cases hg : S.get r with
        | none => rw [show jO S (d' + 1) (.slice (some ⟨r, 0, none⟩) n n) = .slice (some ⟨r, 0, none⟩) n n by simp only [jO, hg]] at hc; cases d <;> simp [jk] at hc
        | some ob =>
          cases ob with
          | map es c => rw [show jO S (d' + 1) (.slice (some ⟨r, 0, none⟩) n n) = .slice (some ⟨r, 0, none⟩) n n by simp only [jO, hg]] at hc; cases d <;> simp [jk] at hc
          | dead => rw [show jO S (d' + 1) (.slice (some ⟨r, 0, none⟩) n n) = .slice (some ⟨r, 0, none⟩) n n by simp only [jO, hg]] at hc; cases d <;> simp [jk] at hc
          | cells cs own e =>
            by_cases hle : n * e ≤ cs.length
            · have e1 : jO S (d' + 1) (.slice (some ⟨r, 0, none⟩) n n) = SL 1 e n (cs.take (n * e)) := by simp only [jO, hg, hle, and_self, if_true]
              rw [e1] at hc ⊢
              obtain ⟨r2, cs', own', _, hm', hg', hl⟩ := hG.cells hg
              rw [hm] at hm'; cases hm'
              have hlen := hl.1
              refine .sl (o := 0) (hG.lt r r' _ hm) (hq r r' hm) hg' (by omega) (by simp; omega) fun i hi => ?_
              have hv : VV μ H W0 none (cs.getD i Go.undef) (cs'.getD i Go.undef) := hl.2 i
              have e2 : (cs.take (n * e)).toArray.toList.getD i Go.undef = cs.getD i Go.undef := by
                rw [List.toList_toArray, List.getD_eq_getElem?_getD, List.getElem?_take, if_pos hi, ← List.getD_eq_getElem?_getD]
              rw [e2, Nat.zero_add]
              obtain ⟨d, rfl⟩ : ∃ k, d = k + 4 := by
                match d, hc with
                | 0, h => cases h
                | 1, h => simp [SL, jk] at h
                | 2, h => simp [SL, jk] at h
                | 3, h => simp [SL, jk] at h
                | k + 4, _ => exact ⟨k, rfl⟩
              simp only [SL, jk, List.toList_toArray] at hc
              have hci : jk d (cs.getD i Go.undef) = true := by
                have h2 : i < cs.length := by omega
                rw [List.getD_eq_getElem?_getD, List.getElem?_eq_getElem h2, Option.getD_some]
                exact List.all_eq_true.1 hc _ (by rw [List.mem_take_iff_getElem]; exact ⟨i, by omega, rfl⟩)
              exact (hv.clean hp d hci).at0
            · rw [show jO S (d' + 1) (.slice (some ⟨r, 0, none⟩) n n) = .slice (some ⟨r, 0, none⟩) n n by simp only [jO, hg, hle, and_false, if_false]] at hc; cases d <;> simp [jk] at hc
      · rw [show jO S (d' + 1) (.slice (some ⟨r, o, none⟩) n n) = .slice (some ⟨r, o, none⟩) n n by
          simp only [jO]
          split
          · rename_i h; simp only [Value.slice.injEq, Option.some.injEq, Addr.mk.injEq] at h; exact absurd h.1.2.1 ho
          · rename_i h; cases h
          · rename_i h; cases h
          · rfl] at hc
        cases d <;> simp [jk] at hc
  | slE => intro d d' _; cases d' <;> exact .slE
  | sl hr hpr hg hl hn hc ih => intro d d' hcl; cases d' <;> exact (VV.sl hr hpr hg hl hn hc).clean hp d hcl
  | so hω hr hpr hg hl hn hc ih => intro d d' hcl; cases d' <;> exact (VV.so hω hr hpr hg hl hn hc).clean hp d hcl
  | ep hr hpr hg hl hc ih => intro d d' hcl; cases d' <;> exact (VV.ep hr hpr hg hl hc).clean hp d hcl
  | func fn hx hc h1 h2 => intro d d' hcl; cases d' <;> cases d <;> simp [jO, jk] at hcl
  | @agg ℓ x x' hx hh ih =>
    intro d d' hcl
    cases d' with
    | zero => exact (VV.agg hx hh).clean hp d hcl
    | succ d' =>
      have e : jO S (d' + 1) (.agg x) = .agg (x.map (jO S d')) := rfl
      rw [e] at hcl ⊢
      cases d with
      | zero => cases hcl
      | succ d =>
        simp only [jk] at hcl
        refine .agg (by simpa using hx) fun i => ?_
        by_cases hi : i < x.size
        · have e2 : (x.map (jO S d')).getD i Go.undef = jO S d' (x.getD i Go.undef) := by simp [Array.getD_eq_getD_getElem?, Array.getElem?_eq_getElem hi]
          rw [e2]
          refine ih i d d' ?_
          refine List.all_eq_true.1 hcl _ ?_
          simp only [Array.toList_map, List.mem_map]
          exact ⟨x[i], by simp, by rw [Array.getD_eq_getD_getElem?, Array.getElem?_eq_getElem hi]; rfl⟩
        · rw [Array.getD_eq_getD_getElem?, Array.getElem?_eq_none (by simpa using Nat.le_of_not_lt hi), Array.getD_eq_getD_getElem?, Array.getElem?_eq_none (by omega)]
          exact .nores
  | nores =>
    intro d d' hcl
    cases d' with
    | zero => exact .nores
    | succ d' => rw [show jO S (d' + 1) (.tuple #[]) = .tuple #[] by simp [jO]]; exact .nores
  | @tuple ℓ x x' hx hh ih =>
    intro d d' hcl
    cases d' with
    | zero => exact (VV.tuple hx hh).clean hp d hcl
    | succ d' =>
      have e : jO S (d' + 1) (.tuple x) = .tuple (x.map (jO S d')) := rfl
      rw [e] at hcl ⊢
      cases d with
      | zero => cases hcl
      | succ d =>
        simp only [jk] at hcl
        refine .tuple (by simpa using hx) fun i => ?_
        by_cases hi : i < x.size
        · have e2 : (x.map (jO S d')).getD i Go.undef = jO S d' (x.getD i Go.undef) := by simp [Array.getD_eq_getD_getElem?, Array.getElem?_eq_getElem hi]
          rw [e2]
          refine ih i d d' ?_
          refine List.all_eq_true.1 hcl _ ?_
          simp only [Array.toList_map, List.mem_map]
          exact ⟨x[i], by simp, by rw [Array.getD_eq_getD_getElem?, Array.getElem?_eq_getElem hi]; rfl⟩
        · rw [Array.getD_eq_getD_getElem?, Array.getElem?_eq_none (by simpa using Nat.le_of_not_lt hi), Array.getD_eq_getD_getElem?, Array.getElem?_eq_none (by omega)]
          exact .nores
open Classical in
noncomputable def xU (μ:Mu):Mu:=⟨fun _=>none,fun r=>μ.hid r || decide (∃ q,μ q=some (r,true)),[]⟩
theorem JQ {μ:Mu} {r:Nat} (h:xX μ r):xX (xU μ) r:=⟨fun q hq=>(by cases hq),by
 simp only [xU,h.2,Bool.false_or,decide_eq_false_iff_not]
 rintro ⟨q,hq⟩
 exact h.1 q hq⟩
theorem aaw {μ:Mu} {r:Nat} (h:(xU μ).hid r=false):xX μ r:=by
 simp only [xU,Bool.or_eq_false_iff,decide_eq_false_iff_not] at h
 exact ⟨fun q hq=>h.2 ⟨q,hq⟩,h.1⟩
def agT (P:Program) (g:FuncId) (args:List Value) (run:M Value):Prop:=∀ aargs S v S',run S=some (v,S')→∀ μ H ω,GI μ S H→L0 μ H args aargs→Dom μ H ω→(∀ r s,ω r=some s→s=.ext) →
 ∃ a H' μ' ω',lim P g aargs H=some (a,H')∧GI μ' S' H'∧Later μ H μ' H'∧Kept ω H ω' H'∧Dom μ' H' ω'∧VV μ' H' ω' (some (.res none)) v a
theorem adL {g:FuncId} {args:List Value} {run:M Value} (hr:agT P g args run):agT P g args (abR run args):=by
 intro aargs S v S' h μ H ω hG hA hD hE
 unfold abR at h
 split at h <;> first | (cases h;done) | skip
 rename_i hca
 split at h <;> first | (cases h;done) | skip
 rename_i w S1 hrun
 split at h <;> first | (cases h;done) | skip
 rename_i hcw
 cases h
 have hG0:GI (xU μ) zx.empty H:=⟨fun q o h=>(by cases h),fun q q' r h=>(by cases h),fun q r b h=>(by cases h),fun q _=>rfl,fun q r h=>(by cases h),fun r h=>by
  simp only [xU,Bool.or_eq_true,decide_eq_true_eq] at h
  rcases h with h | ⟨q,hq⟩
  ·
   exact hG.hlt r h
  ·
   exact hG.lt q r _ hq,rfl,fun q cs anc e h=>(by cases h)⟩
 have hA0:L0 (xU μ) H args aargs:=⟨hA.1,fun i=>by
  by_cases hi:i < args.length
  ·
   refine (hA.2 i).clean (fun r h=>JQ h) 16 ?_
   rw [List.getD_eq_getElem?_getD,List.getElem?_eq_getElem hi]
   exact List.all_eq_true.1 hca _ (List.getElem_mem _)
  ·
   rw [List.getD_eq_getElem?_getD,List.getElem?_eq_none (Nat.le_of_not_lt hi),List.getD_eq_getElem?_getD,List.getElem?_eq_none (by rw [← hA.1];omega)]
   exact .nores⟩
 obtain ⟨a,H1,μ1,ω1,k1,k2,k3,k4,k5,k6⟩:=hr aargs _ _ _ hrun (xU μ) H ω hG0 hA0 (fun r s h=>⟨(hD r s h).1,JQ (hD r s h).2⟩) hE
 have hp1:∀ r,xX μ1 r→xX μ r:=fun r h=>aaw (by rw [← k3.hid];exact h.2)
 have hL:Later μ H μ H1:=⟨fun _ _ b h=>⟨b,h⟩,k3.next,fun _ _ h=>.inl h,rfl,fun r hr hh=>k3.same r hr (by simp only [xU,hh,Bool.true_or]),⟨[],rfl,fun q r hq _=>⟨hq,k3.same r (hG.lt q r _ hq) (by
  simp only [xU,Bool.or_eq_true,decide_eq_true_eq]
  exact .inr ⟨q,hq⟩)⟩⟩,fun r l own e hr hp hg=>k3.cells r l own e hr (JQ hp) hg⟩
 have hq1:∀ q r,μ1 q=some (r,true)→xX μ r:=fun q r h=>by
  rcases k3.new q r h with h5 | h5
  ·
   cases h5
  ·
   exact ⟨fun q' hq'=>by have:=hG.lt q' r _ hq';omega,by
    cases hh:μ.hid r with
    | false=>rfl
    | true=>have:=hG.hlt r hh;omega⟩
 refine ⟨a,H1,μ,ω1,k1,?_,hL,k4,fun r s h=>⟨(k5 r s h).1,hp1 r (k5 r s h).2⟩,k6.lower k2 hp1 hq1 16 16 hcw⟩
 exact hG.later hL rfl fun q r hq=>k3.same r (hG.lt q r _ hq) (by
  simp only [xU,Bool.or_eq_true,decide_eq_true_eq]
  exact .inr ⟨q,hq⟩)
theorem adg {O:Ora} (hO:KT P O):∀ n,ZK P (qC P O n):=by
 intro n
 induction n with
 | zero=>intro g args aargs S v S' h;cases h
 | succ n ih =>
  intro g args aargs S v S' h μ H ω hG hA hD hE
  simp only [qC] at h
  cases ho:O.fn g with
  | some q =>
   rw [ho] at h
   exact hO g q ho g args aargs S v S' (by simpa using h) μ H ω hG hA hD hE
  | none =>
   rw [ho] at h
   dsimp only at h
   cases hf:P.funcs[g]? with
   | none=>rw [hf] at h;cases h
   | some fn =>
    rw [hf] at h
    dsimp only at h
    split at h <;> first | (cases h;done) | skip
    rename_i hn
    cases hb:fn.body with
    | none=>rw [hb] at h;cases h
    | some c =>
     rw [hb] at h
     dsimp only at h
     have hrun:agT P g args (acy P (O.hp g) (yG O.hp (O.hp g) (qC P O n)) n fn c args):=by
      intro aargs S v S' h μ H ω hG hA hD hE
      have hT0:TI μ H ω (args++List.replicate (fn.ntmps - args.length) zh) (aargs++List.replicate (fn.ntmps - aargs.length) zh):=by
       have hl:L0 μ H (args++List.replicate (fn.ntmps - args.length) zh) (aargs++List.replicate (fn.ntmps - aargs.length) zh):=by
        refine hA.append (VL.ofRange (by rw [hA.1]) fun i hi=>?_)
        have hi2:i < fn.ntmps - args.length:=by simpa using hi
        rw [List.getD_eq_getElem?_getD,List.getElem?_replicate,if_pos hi2,List.getD_eq_getElem?_getD,List.getElem?_replicate,if_pos (by rw [← hA.1];exact hi2)]
        exact .nores
       exact ⟨hl.1,fun i=>(hl.2 i).at0,hD,fun r j hr=>by have:=hE r _ hr;cases this⟩
      have fin:∀ (e:AEx) (T1:List Value) (S1:zx),(e=.normal∨e=.ret)→wL P (O.hp g) (yG O.hp (O.hp g) (qC P O n)) n c (args++List.replicate (fn.ntmps - args.length) zh) S=some (e,T1,S1)→aan P fn T1 S1=some (v,S') →
        ∃ a H' μ' ω',lim P g aargs H=some (a,H')∧GI μ' S' H'∧Later μ H μ' H'∧Kept ω H ω' H'∧Dom μ' H' ω'∧VV μ' H' ω' (some (.res none)) v a:=by
       intro e T1 S1 he hcode hres
       obtain ⟨A1,H1,μ1,ω1,h1,h2,h3,h4,h5⟩:=adG (adp ih) n c _ _ _ _ _ _ _ _ _ hcode hG hT0
       obtain ⟨rfl,a,k1,k2⟩:=ae2 (P:=P) h2 h5 hres
       refine ⟨a,H1,μ1,fun r=>(ω1 r).bind (place fn.results.toList),ac9 hf hn hb h1 he k1,h2,h3,fun r hr=>?_,fun r s hs=>?_,k2⟩
       ·
        obtain ⟨q1,q2⟩:=h4 r hr
        exact ⟨by simp [q1,place],q2⟩
       ·
        cases hr:ω1 r with
        | none=>simp [hr] at hs
        | some s0=>exact h5.dom r s0 hr
      unfold acy at h
      split at h
      ·
       rename_i T1 S1 hx;exact fin .normal _ _ (.inl rfl) hx h
      ·
       rename_i T1 S1 hx;exact fin .ret _ _ (.inr rfl) hx h
      ·
       cases h
     split at h
     ·
      exact adL hrun aargs S v S' h μ H ω hG hA hD hE
     ·
      exact hrun aargs S v S' h μ H ω hG hA hD hE
end
end Go.Abs
namespace Go.Abs
open Go.RowKit
open Classical
noncomputable def je (P:Program) (O:Ora) (g:FuncId) (args:List Value):M Value:=fun S =>
 if h:∃ r,∃ k0,∀ k,k0≤k→qC P O k g args S=some r then some (Classical.choose h) else none
section
variable {P:Program} {O:Ora}
theorem Jy {g:FuncId} {args:List Value} {S:zx} {r:Value×zx} (h:je P O g args S=some r):∃ k0,∀ k,k0≤k→qC P O k g args S=some r:=by
 unfold je at h
 split at h
 ·
  rename_i hx
  have:=Classical.choose_spec hx
  cases h
  exact this
 ·
  cases h
theorem Y2 {g:FuncId} {args:List Value} {S:zx} {r:Value×zx} (h:∃ k0,∀ k,k0≤k→qC P O k g args S=some r):je P O g args S=some r:=by
 have hx:∃ r,∃ k0,∀ k,k0≤k→qC P O k g args S=some r:=⟨r,h⟩
 unfold je
 rw [dif_pos hx]
 obtain ⟨k0,h0⟩:=h
 obtain ⟨k1,h1⟩:=Classical.choose_spec hx
 have e0:=h0 (max k0 k1) (Nat.le_max_left _ _)
 have e1:=h1 (max k0 k1) (Nat.le_max_right _ _)
 rw [e0] at e1
 exact e1.symm
theorem aaF (hO:KT P O):ZK P (je P O):=by
 intro g args aargs S v S' h
 obtain ⟨k,hk⟩:=Jy h
 exact adg hO k g args aargs S v S' (hk k (Nat.le_refl k))
theorem ady {g:FuncId} {args:List Value} {q:List Value→M Value} (h:O.fn g=some q) (S:zx):je P O g args S=q args S:=by
 cases hq:q args S with
 | some r =>
  refine Y2 ⟨1,fun k hk=>?_⟩
  obtain ⟨k,rfl⟩:∃ i,k=i+1:=⟨k - 1,by omega⟩
  simp only [qC,h,hq]
 | none =>
  cases hv:je P O g args S with
  | none=>rfl
  | some r =>
   obtain ⟨k,hk⟩:=Jy hv
   have:=hk (k+1) (by omega)
   simp only [qC,h,hq] at this
   cases this
def afM (c:FuncId→List Value→M Value) (ck:Nat→FuncId→List Value→M Value):Prop:=∀ g args S r,c g args S=some r→∃ k0,∀ k,k0≤k→ck k g args S=some r
theorem QK:afM (je P O) (fun k=>qC P O k):=fun g args S r h=>Jy h
theorem Ya {c:FuncId→List Value→M Value} {ck:Nat→FuncId→List Value→M Value} (hl:afM c ck) {hps:FuncId→Bool} {hp:Bool}:afM (yG hps hp c) (fun k=>yG hps hp (ck k)):=by
 cases hp with
 | false=>exact hl
 | true =>
  intro g args S r h
  unfold yG at h
  dsimp only at h
  split at h
  ·
   rename_i hg
   obtain ⟨k0,h0⟩:=hl _ _ _ _ h
   exact ⟨k0,fun k hk=>by unfold yG;dsimp only;rw [if_pos hg];exact h0 k hk⟩
  ·
   rename_i hg
   split at h <;> first | (cases h;done) | skip
   rename_i m S1 hf
   split at h <;> first | (cases h;done) | skip
   rename_i r0 hr0
   obtain ⟨k0,h0⟩:=hl _ _ _ _ hr0
   exact ⟨k0,fun k hk=>by unfold yG;dsimp only;rw [if_neg hg,hf];dsimp only;rw [h0 k hk];exact h⟩
section
variable {c:FuncId→List Value→M Value} {ck:Nat→FuncId→List Value→M Value}
theorem Qz (hl:afM c ck) {fx:Fx} {T:List Value} {o:Oper} {S:zx} {r:Value×zx} (h:jZ P fx c T o S=some r):∃ k0,∀ k,k0≤k→jZ P fx (ck k) T o S=some r:=by
 unfold jZ at h
 split at h
 ·
  rename_i hok
  split at h
  ·
   rename_i q0 hop
   split at h
   ·
    rename_i f hf
    split at h
    ·
     rename_i g first captured hev
     obtain ⟨k0,hk⟩:=hl _ _ _ _ h
     refine ⟨k0,fun k hkk=>?_⟩
     unfold jZ
     rw [if_pos hok]
     simp only [hop,hf,hev]
     exact hk k hkk
    ·
     cases h
   ·
    rename_i b hb
    refine ⟨0,fun k _=>?_⟩
    unfold jZ
    rw [if_pos hok]
    simp only [hop,hb]
    exact h
   ·
    cases h
  ·
   rename_i hop
   refine ⟨0,fun k _=>?_⟩
   unfold jZ
   rw [if_pos hok]
   split
   ·
    rename_i q0 hc;exact absurd hc (hop q0)
   ·
    exact h
 ·
  cases h
theorem acQ (hl:afM c ck) {fx:Fx} {ops:Array Oper}:∀ (l:List Oper) (T:List Value) (S:zx) (r:List Value×zx),jy P fx c ops l T S=some r→∃ k0,∀ k,k0≤k→jy P fx (ck k) ops l T S=some r:=by
 intro l
 induction l with
 | nil=>intro T S r h;exact ⟨0,fun k _=>h⟩
 | cons o l ih =>
  intro T S r h
  simp only [jy] at h
  split at h
  ·
   rename_i hw
   split at h
   ·
    rename_i v S' hs
    obtain ⟨k1,h1⟩:=Qz hl hs
    obtain ⟨k2,h2⟩:=ih _ _ _ h
    refine ⟨max k1 k2,fun k hk=>?_⟩
    simp only [jy,hw,if_true,h1 k (by omega)]
    exact h2 k (by omega)
   ·
    cases h
  ·
   rename_i hw
   obtain ⟨k2,h2⟩:=ih _ _ _ h
   refine ⟨k2,fun k hk=>?_⟩
   simp only [jy,hw,if_false]
   exact h2 k hk
theorem abg (hl:afM c ck) {fx:Fx} {chk:List Nat} {nl:List (Nat×Nat)} {ops:Array Oper}:∀ (l:List Oper) (i:Nat) (hist:List (Value×zx)) (T:List Value) (S:zx) (r:List Value×zx),jK P fx chk nl c ops i hist l T S=some r→∃ k0,∀ k,k0≤k→jK P fx chk nl (ck k) ops i hist l T S=some r:=by
 intro l
 induction l with
 | nil=>intro i hist T S r h;exact ⟨0,fun k _=>h⟩
 | cons o l ih =>
  intro i hist T S r h
  simp only [jK] at h
  split at h
  ·
   rename_i hw
   split at h
   ·
    rename_i v S' hs
    split at h
    ·
     rename_i hq
     obtain ⟨k1,h1⟩:=Qz hl hs
     obtain ⟨k2,h2⟩:=ih _ _ _ _ _ h
     refine ⟨max k1 k2,fun k hk=>?_⟩
     simp only [jK,hw,if_true,h1 k (by omega),hq]
     exact h2 k (by omega)
    ·
     cases h
   ·
    cases h
  ·
   rename_i hw
   obtain ⟨k2,h2⟩:=ih _ _ _ _ _ h
   refine ⟨k2,fun k hk=>?_⟩
   simp only [jK,hw,if_false]
   exact h2 k hk
end
noncomputable def zG (P:Program) (O:Ora) (hp:Bool):Code→List Value→zx→St
 | .skip,T,H=>some (.normal,T,H)
 | .region _ ops false,T,H=>match jy P ⟨hp,false,false⟩ (yG O.hp hp (je P O)) ops ops.toList T H with
  | some (T1,H1)=>some (.normal,T1,H1)
  | none=>none
 | .region _ ops true,T,H=>if yS P ops then match jK P ⟨hp,!(checked P ops).isEmpty,fixed P ops⟩ (checked P ops) (again P ops) (yG O.hp hp (je P O)) ops 0 [] ops.toList T H with
  | some (T1,H1)=>some (.normal,T1,H1)
  | none=>none
  else none
 | .seq x y,T,H=>match zG P O hp x T H with
  | some (.normal,T1,H1)=>zG P O hp y T1 H1
  | r=>r
 | .cond c x y,T,H=>if yE c then
   match zT T c with
   | .bool true=>zG P O hp x T H
   | .bool false=>zG P O hp y T H
   | _=>none
  else none
 | .block id c,T,H=>match zG P O hp c T H with
  | some (.exit id',T1,H1)=>if id'=id then some (.normal,T1,H1) else some (.exit id',T1,H1)
  | r=>r
 | .loop c,T,H=>yH (zG P O hp c) T H
 | .exit id,T,H=>some (.exit id,T,H)
 | .ret,T,H=>some (.ret,T,H)
 | _,_,_=>none
theorem WX {hp:Bool}:∀ (c:Code) (T:List Value) (H:zx) (r),zG P O hp c T H=some r→∃ k0,∀ k fuel,k0≤k→k0≤fuel→wL P hp (yG O.hp hp (qC P O k)) fuel c T H=some r:=by
 intro c
 induction c with
 | skip=>intro T H r h;exact ⟨0,fun k fuel _ _=>h⟩
 | region i ops d =>
  intro T H r h
  cases d with
  | false =>
   simp only [zG] at h
   split at h
   ·
    rename_i T1 H1 ho
    obtain ⟨k0,h0⟩:=acQ (Ya QK) _ _ _ _ ho
    exact ⟨k0,fun k fuel hk _=>by simp only [wL,h0 k hk];exact h⟩
   ·
    cases h
  | true =>
   simp only [zG] at h
   split at h
   ·
    rename_i hd
    split at h
    ·
     rename_i T1 H1 ho
     obtain ⟨k0,h0⟩:=abg (Ya QK) _ _ _ _ _ _ ho
     exact ⟨k0,fun k fuel hk _=>by simp only [wL,hd,if_true,h0 k hk];exact h⟩
    ·
     cases h
   ·
    cases h
 | seq x y ihx ihy =>
  intro T H r h
  simp only [zG] at h
  split at h
  ·
   rename_i T1 H1 hx
   obtain ⟨k1,h1⟩:=ihx _ _ _ hx
   obtain ⟨k2,h2⟩:=ihy _ _ _ h
   exact ⟨max k1 k2,fun k fuel hk hf=>by simp only [wL,h1 k fuel (by omega) (by omega)];exact h2 k fuel (by omega) (by omega)⟩
  ·
   rename_i hne
   obtain ⟨k1,h1⟩:=ihx _ _ _ h
   refine ⟨k1,fun k fuel hk hf=>?_⟩
   simp only [wL,h1 k fuel hk hf]
   split
   ·
    rename_i T1 H1 he;exact absurd (h.trans he) (hne T1 H1)
   ·
    rfl
 | cond c x y ihx ihy =>
  intro T H r h
  simp only [zG] at h
  split at h
  ·
   rename_i hok
   split at h
   ·
    rename_i hb
    obtain ⟨k1,h1⟩:=ihx _ _ _ h
    exact ⟨k1,fun k fuel hk hf=>by simp only [wL,hok,if_true,hb];exact h1 k fuel hk hf⟩
   ·
    rename_i hb
    obtain ⟨k1,h1⟩:=ihy _ _ _ h
    exact ⟨k1,fun k fuel hk hf=>by simp only [wL,hok,if_true,hb];exact h1 k fuel hk hf⟩
   ·
    cases h
  ·
   cases h
 | block id c ih =>
  intro T H r h
  simp only [zG] at h
  split at h
  ·
   rename_i id' T1 H1 hc
   obtain ⟨k1,h1⟩:=ih _ _ _ hc
   exact ⟨k1,fun k fuel hk hf=>by simp only [wL,h1 k fuel hk hf];exact h⟩
  ·
   rename_i hne
   obtain ⟨k1,h1⟩:=ih _ _ _ h
   refine ⟨k1,fun k fuel hk hf=>?_⟩
   simp only [wL,h1 k fuel hk hf]
   split
   ·
    rename_i id' T1 H1 he;exact absurd (h.trans he) (hne id' T1 H1)
   ·
    rfl
 | loop c ih =>
  intro T H r h
  simp only [zG] at h
  obtain ⟨n,hn⟩:=vg h
  have key:∀ (n:Nat) (T:List Value) (H:zx),yh n (zG P O hp c) T H=some r→∃ k0,∀ k fuel,k0≤k→k0≤fuel→∀ j,n≤j→yh j (wL P hp (yG O.hp hp (qC P O k)) fuel c) T H=some r:=by
   intro n
   induction n with
   | zero=>intro T H h;cases h
   | succ n ihn =>
    intro T H h
    simp only [yh] at h
    split at h
    ·
     rename_i T1 H1 hf
     obtain ⟨k1,h1⟩:=ih _ _ _ hf
     obtain ⟨k2,h2⟩:=ihn _ _ h
     refine ⟨max k1 k2,fun k fuel hk hfu j hj=>?_⟩
     obtain ⟨j,rfl⟩:∃ i,j=i+1:=⟨j - 1,by omega⟩
     simp only [yh,h1 k fuel (by omega) (by omega)]
     exact h2 k fuel (by omega) (by omega) j (by omega)
    ·
     rename_i hne
     obtain ⟨k1,h1⟩:=ih _ _ _ h
     refine ⟨k1,fun k fuel hk hfu j hj=>?_⟩
     obtain ⟨j,rfl⟩:∃ i,j=i+1:=⟨j - 1,by omega⟩
     simp only [yh,h1 k fuel hk hfu]
     split
     ·
      rename_i T1 H1 he;exact absurd (h.trans he) (hne T1 H1)
     ·
      rfl
  obtain ⟨k0,h0⟩:=key n T H hn
  exact ⟨max k0 n,fun k fuel hk hf=>by simp only [wL];exact h0 k fuel (by omega) (by omega) fuel (by omega)⟩
 | exit id=>intro T H r h;exact ⟨0,fun k fuel _ _=>h⟩
 | ret=>intro T H r h;exact ⟨0,fun k fuel _ _=>h⟩
 | _=>intro T H r h;simp only [zG] at h;cases h
theorem jY {f:FuncId} {fn:Func} {c:Code} {args:List Value} {H H1 H':zx} {e:AEx} {T:List Value} {v:Value} (ho:O.fn f=none) (hpu:O.pu f=false) (hf:P.funcs[f]?=some fn) (hn:afm fn=true) (hb:fn.body=some c)
  (h:zG P O (O.hp f) c (args++List.replicate (fn.ntmps - args.length) zh) H=some (e,T,H1)) (he:e=.normal∨e=.ret) (hres:aan P fn T H1=some (v,H')):je P O f args H=some (v,H'):=by
 obtain ⟨k0,h0⟩:=WX _ _ _ _ h
 refine Y2 ⟨k0+1,fun k hk=>?_⟩
 obtain ⟨k,rfl⟩:∃ i,k=i+1:=⟨k - 1,by omega⟩
 simp only [qC,ho,hf,if_pos hn,hb,hpu,Bool.false_eq_true,if_false,acy,h0 k k (by omega) (by omega)]
 rcases he with rfl | rfl <;> exact hres
theorem Vy {f:FuncId} {fn:Func} {c:Code} {args:List Value} {S H1 H':zx} {e:AEx} {T:List Value} {v:Value} (ho:O.fn f=none) (hpu:O.pu f=true) (hf:P.funcs[f]?=some fn) (hn:afm fn=true) (hb:fn.body=some c)
  (h:zG P O (O.hp f) c (args++List.replicate (fn.ntmps - args.length) zh) zx.empty=some (e,T,H1)) (he:e=.normal∨e=.ret) (hres:aan P fn T H1=some (v,H')) (hca:args.all (jk 16)=true) (hcv:jk 16 (jO H' 16 v)=true):je P O f args S=some (jO H' 16 v,S):=by
 obtain ⟨k0,h0⟩:=WX _ _ _ _ h
 refine Y2 ⟨k0+1,fun k hk=>?_⟩
 obtain ⟨k,rfl⟩:∃ i,k=i+1:=⟨k - 1,by omega⟩
 have hr:acy P (O.hp f) (yG O.hp (O.hp f) (qC P O k)) k fn c args zx.empty=some (v,H'):=by
  simp only [acy,h0 k k (by omega) (by omega)]
  rcases he with rfl | rfl <;> exact hres
 simp only [qC,ho,hf,if_pos hn,hb,hpu,if_true,abR,if_pos hca,hr,if_pos hcv]
theorem QW (S:zx):∀ (d d':Nat) (v:Value),jk d v=true→jO S d' v=v:=by
 intro d
 induction d with
 | zero=>intro d' v h;cases h
 | succ d ih =>
  intro d' v h
  cases d' with
  | zero=>rfl
  | succ d' =>
   cases v with
   | agg cs =>
    simp only [jk] at h
    show Value.agg (cs.map (jO S d'))=.agg cs
    congr 1
    apply Array.ext (by simp)
    intro i h1 h2
    rw [Array.getElem_map]
    exact ih d' _ (List.all_eq_true.1 h _ (by simp))
   | tuple cs =>
    simp only [jk] at h
    show Value.tuple (cs.map (jO S d'))=.tuple cs
    congr 1
    apply Array.ext (by simp)
    intro i h1 h2
    rw [Array.getElem_map]
    exact ih d' _ (List.all_eq_true.1 h _ (by simp))
   | slice a n c =>
    cases a with
    | none=>rfl
    | some a=>simp [jk] at h
   | _=>rfl
theorem xR {f:FuncId} {fn:Func} {c:Code} {args:List Value} {S H1 H':zx} {e:AEx} {T:List Value} {v:Value} (ho:O.fn f=none) (hpu:O.pu f=true) (hf:P.funcs[f]?=some fn) (hn:afm fn=true) (hb:fn.body=some c)
  (h:zG P O (O.hp f) c (args++List.replicate (fn.ntmps - args.length) zh) zx.empty=some (e,T,H1)) (he:e=.normal∨e=.ret) (hres:aan P fn T H1=some (v,H')) (hca:args.all (jk 16)=true) (hcv:jk 16 v=true):je P O f args S=some (v,S):=by
 have e1:=QW H' 16 16 v hcv
 have:=Vy (S:=S) ho hpu hf hn hb h he hres hca (by rw [e1];exact hcv)
 rwa [e1] at this
def Ty.Jk:(t:Ty)→t.Val→List Value
 | .int k,n=>[.int k n]
 | .bool,b=>[.bool b]
 | .str,s=>[.string s]
 | .slc _ e,l=>match l with
  | none=>[.slice none 0 0]
  | some l=>[SL 1 e.sz l.length (l.flatMap e.Jk)]
 | .pair a b,(x,y)=>a.Jk x++b.Jk y
 | .unit,_=>[]
theorem Ty.Xx:∀ (t:Ty) (x:t.Val),(t.Jk x).length=t.sz:=by
 intro t
 induction t with
 | pair a b iha ihb=>rintro ⟨x,y⟩;simp [Ty.Jk,Ty.sz,iha,ihb]
 | slc bytes e ih=>intro x;cases x <;> rfl
 | _=>intro x;rfl
theorem Ji {e:Ty} (l:List e.Val):(l.flatMap e.Jk).length=l.length * e.sz:=by
 induction l with
 | nil=>simp
 | cons x l ih=>simp [List.flatMap_cons,Ty.Xx,ih,Nat.add_mul];omega
def M0:Mu:=⟨fun _=>none,fun _=>false,[]⟩
theorem GI.none {H:zx}:GI M0 zx.empty H:=⟨(fun q o h=>by cases h),(fun q q' r h=>by cases h),(fun q r b h=>by cases h),(fun q _=>rfl),(fun q r h=>by cases h),(fun r h=>by cases h),rfl,(fun q cs anc e h=>by cases h)⟩
theorem Ty.Yz:∀ (t:Ty) (x:t.Val) (H:zx),Later M0 H M0 (t.place x H).2∧L0 M0 (t.place x H).2 (t.Jk x) (t.place x H).1:=by
 intro t
 induction t with
 | int k=>intro x H;exact ⟨Later.refl _ _,VL.cons (.sg rfl) VL.nil⟩
 | bool=>intro x H;exact ⟨Later.refl _ _,VL.cons (.sg rfl) VL.nil⟩
 | str=>intro x H;exact ⟨Later.refl _ _,VL.cons (.sg rfl) VL.nil⟩
 | unit=>intro x H;exact ⟨Later.refl _ _,VL.nil⟩
 | pair a b iha ihb =>
  rintro ⟨x,y⟩ H
  obtain ⟨h1,h2⟩:=iha x H
  obtain ⟨h3,h4⟩:=ihb y (a.place x H).2
  exact ⟨h1.trans h3,(h2.later h3).append h4⟩
 | slc bytes e ih =>
  intro x H
  match x with
  | none=>exact ⟨Later.refl _ _,VL.cons (.sg rfl) VL.nil⟩
  | some []=>exact ⟨Later.refl _ _,VL.cons (.slE (e:=e.sz)) VL.nil⟩
  | some (x::l) =>
   have key:∀ (l:List e.Val) (H:zx),Later M0 H M0 (jV e.place l H).2∧L0 M0 (jV e.place l H).2 (l.flatMap e.Jk) (jV e.place l H).1:=by
    intro l
    induction l with
    | nil=>intro H;exact ⟨Later.refl _ _,VL.nil⟩
    | cons x l ihl =>
     intro H
     obtain ⟨h1,h2⟩:=ih x H
     obtain ⟨h3,h4⟩:=ihl (e.place x H).2
     exact ⟨h1.trans h3,(h2.later h3).append h4⟩
   obtain ⟨h1,h2⟩:=key (x::l) H
   have hL:Later M0 (jV e.place (x::l) H).2 M0 ((jV e.place (x::l) H).2.push (.cells (jV e.place (x::l) H).1 .ro e.sz)):=WY (fun q r h=>by cases h) _
   refine ⟨h1.trans hL,VL.cons ?_ VL.nil⟩
   have hlen:(jV e.place (x::l) H).1.length=(l.length+1) * e.sz:=by rw [← h2.1,Ji];rfl
   show V0 M0 ((jV e.place (x::l) H).2.push (.cells (jV e.place (x::l) H).1 .ro e.sz)) (SL 1 e.sz (l.length+1) ((x::l).flatMap e.Jk)) (.slice (some ⟨(jV e.place (x::l) H).2.next,0,none⟩) (l.length+1) (l.length+1))
   refine VV.sl (o:=0) (l:=(jV e.place (x::l) H).1) (own:=.ro) (by simp) ⟨fun q h=>(by cases h),rfl⟩ (by rw [zx.zZ,if_pos rfl]) (by omega) (by rw [List.toList_toArray,Ji];rfl) (fun i hi=>?_)
   rw [Nat.zero_add,List.toList_toArray]
   exact (h2.2 i).kD hL
def Args.Jk:(l:List (Bool×Ty))→Args l→List Value
 | [],_=>[]
 | (b,c)::l,(x,xs)=>xg b (c.Jk x)::Args.Jk l xs
theorem acY {H:zx} {b:Bool} {cs cs':List Value} (h:L0 M0 H cs cs'):V0 M0 H (xg b cs) (xg b cs'):=by
 unfold xg
 split
 ·
  exact JJ h
 ·
  rw [vw,vw];exact h.2 0
theorem Args.Yz:∀ (l:List (Bool×Ty)) (x:Args l) (H:zx),Later M0 H M0 (Args.place l x H).2∧L0 M0 (Args.place l x H).2 (Args.Jk l x) (Args.place l x H).1:=by
 intro l
 induction l with
 | nil=>intro x H;exact ⟨Later.refl _ _,VL.nil⟩
 | cons p l ih =>
  obtain ⟨b,c⟩:=p
  rintro ⟨x,xs⟩ H
  obtain ⟨h1,h2⟩:=c.Yz x H
  obtain ⟨h3,h4⟩:=ih xs (c.place x H).2
  exact ⟨h1.trans h3,VL.cons ((acY h2).kD h3) h4⟩
theorem XE (hO:KT P O) {f:FuncId} {codes:List (Bool×Ty)} {x:Args codes} {S':zx} (h:je P O f (Args.Jk codes x) zx.empty=some (.bool true,S')) :
  ∃ k,(kM P k f (Args.place codes x zx.empty).1 (Args.place codes x zx.empty).2).map (·.1)=some (.bool true):=by
 obtain ⟨h1,h2⟩:=Args.Yz codes x zx.empty
 obtain ⟨a,H',μ',ω',k1,k2,k3,k4,k5,k6⟩:=aaF hO f _ _ _ _ _ h M0 _ W0 GI.none h2 (fun r s hs=>by cases hs) (fun r s hs=>by cases hs)
 have:a=.bool true:=jl (k6.v0) rfl
 subst this
 exact VK k1
theorem adr {hps pus:FuncId→Bool}:KT P ⟨fun _=>none,hps,pus⟩:=fun f q h=>by cases h
end
end Go.Abs
namespace Go.Abs
open Go.RowKit
section
variable {R:Type} {P:Program} {O:Ora} {fx:Fx} {hp nm:Bool} {chk:List Nat} {call:FuncId→List Value→M Value} {ops:Array Oper}
def okC (v:Value) (r:Option R):Option R:=if okq 3 v=true then r else none
@[simp] theorem X5 (b:Bool) (r:Option R):okC (.bool b) r=r:=Eq.trans rfl rfl
@[simp] theorem aaU (k:IntKind) (n:Int) (r:Option R):okC (.int k n) r=r:=Eq.trans rfl rfl
@[simp] theorem Yh (s:ByteArray) (r:Option R):okC (.string s) r=r:=Eq.trans rfl rfl
@[simp] theorem KE (a:Option Addr) (n c:Nat) (r:Option R):okC (.slice a n c) r=r:=Eq.trans rfl rfl
@[simp] theorem KJ (k:Nat) (v:Value) (r:Option R):okC (.iface k v) r=r:=Eq.trans rfl rfl
@[simp] theorem ae9 (a:Option Addr) (r:Option R):okC (.pointer a) r=r:=Eq.trans rfl rfl
def gdC (v:Value) (b:Bool) (s:M Value) (S:zx) (K:Value→zx→Option R):Option R :=
 if (vb v == some b)=true then andThen (s S) (fun v S1=>okC v (K v S1)) else K zh S
@[simp] theorem aez (s:M Value) (H:zx) (K:Value→zx→Option R):gdC (.bool true) true s H K=andThen (s H) (fun v S1=>okC v (K v S1)):=Eq.trans rfl rfl
@[simp] theorem ad6 (s:M Value) (H:zx) (K:Value→zx→Option R):gdC (.bool false) false s H K=andThen (s H) (fun v S1=>okC v (K v S1)):=Eq.trans rfl rfl
@[simp] theorem aeD (s:M Value) (H:zx) (K:Value→zx→Option R):gdC (.bool true) false s H K=K zh H:=Eq.trans rfl rfl
@[simp] theorem ad4 (s:M Value) (H:zx) (K:Value→zx→Option R):gdC (.bool false) true s H K=K zh H:=Eq.trans rfl rfl
@[simp] theorem adU (s:M Value) (b:Bool) (H:zx) (K:Value→zx→Option R):gdC zh b s H K=K zh H:=Eq.trans rfl rfl
abbrev ZB {α:Type} (a:α):Type:=Unit
def zS (s:Option (Value×zx)) (K:Value→zx→Option R) (p:ZB K):Option R:=andThen s K
def gdK (v:Value) (b:Bool) (s:M Value) (S:zx) (K:Value→zx→Option R) (p:ZB K):Option R:=gd v b s S K
def agG (v:Value) (b:Bool) (s:M Value) (S:zx) (K:Value→zx→Option R) (p:ZB K):Option R:=gdC v b s S K
def okK (v:Value) (r:Option R) (p:ZB r):Option R:=okC v r
@[simp] theorem Kq (v:Value) (H:zx) (K:Value→zx→Option R) (p:ZB K):zS (some (v,H)) K p=K v H:=Eq.trans rfl rfl
@[simp] theorem aem (s:M Value) (H:zx) (K:Value→zx→Option R) (p:ZB K):gdK (.bool true) true s H K p=zS (s H) K p:=Eq.trans rfl rfl
@[simp] theorem aeo (s:M Value) (H:zx) (K:Value→zx→Option R) (p:ZB K):gdK (.bool false) false s H K p=zS (s H) K p:=Eq.trans rfl rfl
@[simp] theorem ad5 (s:M Value) (H:zx) (K:Value→zx→Option R) (p:ZB K):gdK (.bool true) false s H K p=K zh H:=Eq.trans rfl rfl
@[simp] theorem aea (s:M Value) (H:zx) (K:Value→zx→Option R) (p:ZB K):gdK (.bool false) true s H K p=K zh H:=Eq.trans rfl rfl
@[simp] theorem aeb (s:M Value) (b:Bool) (H:zx) (K:Value→zx→Option R) (p:ZB K):gdK zh b s H K p=K zh H:=Eq.trans rfl rfl
@[simp] theorem aaN (s:M Value) (H:zx) (K:Value→zx→Option R) (p:ZB K):agG (.bool true) true s H K p=zS (s H) (fun v S1=>okK v (K v S1) ()) ():=Eq.trans rfl rfl
@[simp] theorem aat (s:M Value) (H:zx) (K:Value→zx→Option R) (p:ZB K):agG (.bool false) false s H K p=zS (s H) (fun v S1=>okK v (K v S1) ()) ():=Eq.trans rfl rfl
@[simp] theorem aar (s:M Value) (H:zx) (K:Value→zx→Option R) (p:ZB K):agG (.bool true) false s H K p=K zh H:=Eq.trans rfl rfl
@[simp] theorem aaS (s:M Value) (H:zx) (K:Value→zx→Option R) (p:ZB K):agG (.bool false) true s H K p=K zh H:=Eq.trans rfl rfl
@[simp] theorem abS (s:M Value) (b:Bool) (H:zx) (K:Value→zx→Option R) (p:ZB K):agG zh b s H K p=K zh H:=Eq.trans rfl rfl
@[simp] theorem Vb (b:Bool) (r:Option R) (p:ZB r):okK (.bool b) r p=r:=Eq.trans rfl rfl
@[simp] theorem aa4 (k:IntKind) (n:Int) (r:Option R) (p:ZB r):okK (.int k n) r p=r:=Eq.trans rfl rfl
@[simp] theorem WS (s:ByteArray) (r:Option R) (p:ZB r):okK (.string s) r p=r:=Eq.trans rfl rfl
@[simp] theorem QF (a:Option Addr) (n c:Nat) (r:Option R) (p:ZB r):okK (.slice a n c) r p=r:=Eq.trans rfl rfl
@[simp] theorem JE (a:Option Addr) (r:Option R) (p:ZB r):okK (.pointer a) r p=r:=Eq.trans rfl rfl
theorem abf {v:Value} (h:okq 3 v=true) (r:Option R) (p:ZB r):okK v r p=r:=if_pos h
theorem abO {l rest:List Oper} {o:Oper} {T:List Value} {T1:Value→List Value} {S:zx} {v:Value} {r:Option (List Value×zx)} (hl:l=o::rest) (hg:o.guard=none) (hm:∀ v,kN o rest T v=T1 v)
  (hs:jZ P fx call T o S=some (v,S)) (hK:jy P fx call ops rest (T1 v) S=r):jy P fx call ops l T S=r:=by
 subst hl
 simp only [jy,Region.wanted,hg,if_true,hs,hm]
 exact hK
theorem afv {l rest:List Oper} {o:Oper} {T:List Value} {T1:Value→List Value} {S:zx} {s:Option (Value×zx)} {K:Value→zx→Option (List Value×zx)} (hl:l=o::rest) (hg:o.guard=none) (hm:∀ v,kN o rest T v=T1 v)
  (hs:jZ P fx call T o S=s) (hK:∀ v S1,jy P fx call ops rest (T1 v) S1=K v S1):jy P fx call ops l T S=zS s K ():=by
 show _=andThen s K
 subst hl hs
 simp only [jy,Region.wanted,hg,if_true,hm,hK]
 rfl
theorem aeJ {l rest:List Oper} {o:Oper} {T:List Value} {T1:Value→List Value} {S:zx} {j:Nat} {b:Bool} {g:Value} {s:M Value} {K:Value→zx→Option (List Value×zx)} (hl:l=o::rest) (hg:o.guard=some (j,b)) (hm:∀ v,kN o rest T v=T1 v)
  (hy:ynd ops T j=vb g) (hs:jZ P fx call T o S=s S) (hK:∀ v S1,jy P fx call ops rest (T1 v) S1=K v S1):jy P fx call ops l T S=gdK g b s S K ():=by
 show _=gd g b s S K
 subst hl
 simp only [jy,Region.wanted,hg,hy,hs,hm,hK,gd]
 rfl
theorem acV {l rest:List Oper} {o:Oper} {T:List Value} {T1:Value→List Value} {S:zx} {k:Nat} {s:Option (Value×zx)} {K:Value→zx→Option (List Value×zx)} (hc:chk.contains k=false) (hl:l=o::rest) (hg:o.guard=none) (hm:∀ v,kN o rest T v=T1 v)
  (hs:jZ P fx call T o S=s) (hK:∀ v S1,jK P fx chk [] call ops (k+1) [] rest (T1 v) S1=K v S1):jK P fx chk [] call ops k [] l T S=zS s K ():=by
 show _=andThen s K
 subst hl hs
 simp only [jK,qJ,List.isEmpty_nil,if_true,Region.wanted,hg,if_true,hm,hK,hc,Bool.not_false,Bool.true_or]
 rfl
theorem acp {l rest:List Oper} {o:Oper} {T:List Value} {T1:Value→List Value} {S:zx} {k:Nat} {s:Option (Value×zx)} {K:Value→zx→Option (List Value×zx)} (hc:chk.contains k=true) (hl:l=o::rest) (hg:o.guard=none) (hm:∀ v,kN o rest T v=T1 v)
  (hs:jZ P fx call T o S=s) (hK:∀ v S1,jK P fx chk [] call ops (k+1) [] rest (T1 v) S1=K v S1):jK P fx chk [] call ops k [] l T S=zS s (fun v S1=>okK v (K v S1) ()) ():=by
 show _=andThen s (fun v S1=>okC v (K v S1))
 subst hl hs
 simp only [jK,qJ,List.isEmpty_nil,if_true,Region.wanted,hg,if_true,hm,hK,hc,Bool.not_true,Bool.false_or]
 rfl
theorem aak {l rest:List Oper} {o:Oper} {T:List Value} {T1:Value→List Value} {S:zx} {k:Nat} {v:Value} {r:Option (List Value×zx)} (hc:chk.contains k=false) (hl:l=o::rest) (hg:o.guard=none) (hm:∀ v,kN o rest T v=T1 v)
  (hs:jZ P fx call T o S=some (v,S)) (hK:jK P fx chk [] call ops (k+1) [] rest (T1 v) S=r):jK P fx chk [] call ops k [] l T S=r:=by
 subst hl
 simp only [jK,qJ,List.isEmpty_nil,if_true,Region.wanted,hg,if_true,hs,hm,hc,Bool.not_false,Bool.true_or]
 exact hK
theorem XC {l rest:List Oper} {o:Oper} {T:List Value} {T1:Value→List Value} {S:zx} {k:Nat} {v:Value} {r:Option (List Value×zx)} (hc:chk.contains k=true) (hl:l=o::rest) (hg:o.guard=none) (hm:∀ v,kN o rest T v=T1 v)
  (hs:jZ P fx call T o S=some (v,S)) (hK:jK P fx chk [] call ops (k+1) [] rest (T1 v) S=r):jK P fx chk [] call ops k [] l T S=okK v r ():=by
 show _=okC v r
 subst hl
 simp only [jK,qJ,List.isEmpty_nil,if_true,Region.wanted,hg,if_true,hs,hm,hc,Bool.not_true,Bool.false_or]
 rw [← hK]
 rfl
theorem ada {l rest:List Oper} {o:Oper} {T:List Value} {T1:Value→List Value} {S:zx} {k:Nat} {s:Option (Value×zx)} {K:Value→zx→Option (List Value×zx)} (hc:chk.contains k=false) {x:Nat×Nat} {nl:List (Nat×Nat)} {hist:List (Value×zx)} {pe:Value} (hpe:y9 T o=pe) (hl:l=o::rest) (hg:o.guard=none) (hm:∀ v,kN o rest T v=T1 v)
  (hs:jZ P fx call T o S=s) (hK:∀ v S1,jK P fx chk (x::nl) call ops (k+1) (hist++[(pe,S)]) rest (T1 v) S1=K v S1):jK P fx chk (x::nl) call ops k hist l T S=zS s K ():=by
 show _=andThen s K
 subst hl hs
 simp only [jK,qJ,List.isEmpty_cons,Bool.false_eq_true,if_false,hpe,Region.wanted,hg,if_true,hm,hK,hc,Bool.not_false,Bool.true_or]
 rfl
theorem aaz {l rest:List Oper} {o:Oper} {T:List Value} {T1:Value→List Value} {S:zx} {k:Nat} {s:Option (Value×zx)} {K:Value→zx→Option (List Value×zx)} (hc:chk.contains k=true) {x:Nat×Nat} {nl:List (Nat×Nat)} {hist:List (Value×zx)} {pe:Value} (hpe:y9 T o=pe) (hl:l=o::rest) (hg:o.guard=none) (hm:∀ v,kN o rest T v=T1 v)
  (hs:jZ P fx call T o S=s) (hK:∀ v S1,jK P fx chk (x::nl) call ops (k+1) (hist++[(pe,S)]) rest (T1 v) S1=K v S1):jK P fx chk (x::nl) call ops k hist l T S=zS s (fun v S1=>okK v (K v S1) ()) ():=by
 show _=andThen s (fun v S1=>okC v (K v S1))
 subst hl hs
 simp only [jK,qJ,List.isEmpty_cons,Bool.false_eq_true,if_false,hpe,Region.wanted,hg,if_true,hm,hK,hc,Bool.not_true,Bool.false_or]
 rfl
theorem VN {l rest:List Oper} {o:Oper} {T:List Value} {T1:Value→List Value} {S:zx} {k:Nat} {v:Value} {r:Option (List Value×zx)} (hc:chk.contains k=false) {x:Nat×Nat} {nl:List (Nat×Nat)} {hist:List (Value×zx)} {pe:Value} (hpe:y9 T o=pe) (hl:l=o::rest) (hg:o.guard=none) (hm:∀ v,kN o rest T v=T1 v)
  (hs:jZ P fx call T o S=some (v,S)) (hK:jK P fx chk (x::nl) call ops (k+1) (hist++[(pe,S)]) rest (T1 v) S=r):jK P fx chk (x::nl) call ops k hist l T S=r:=by
 subst hl
 simp only [jK,qJ,List.isEmpty_cons,Bool.false_eq_true,if_false,hpe,Region.wanted,hg,if_true,hs,hm,hc,Bool.not_false,Bool.true_or]
 exact hK
theorem XH {l rest:List Oper} {o:Oper} {T:List Value} {T1:Value→List Value} {S:zx} {k:Nat} {v:Value} {r:Option (List Value×zx)} (hc:chk.contains k=true) {x:Nat×Nat} {nl:List (Nat×Nat)} {hist:List (Value×zx)} {pe:Value} (hpe:y9 T o=pe) (hl:l=o::rest) (hg:o.guard=none) (hm:∀ v,kN o rest T v=T1 v)
  (hs:jZ P fx call T o S=some (v,S)) (hK:jK P fx chk (x::nl) call ops (k+1) (hist++[(pe,S)]) rest (T1 v) S=r):jK P fx chk (x::nl) call ops k hist l T S=okK v r ():=by
 show _=okC v r
 subst hl
 simp only [jK,qJ,List.isEmpty_cons,Bool.false_eq_true,if_false,hpe,Region.wanted,hg,if_true,hs,hm,hc,Bool.not_true,Bool.false_or]
 rw [← hK]
 rfl
theorem adn {l rest:List Oper} {o:Oper} {T:List Value} {T1:Value→List Value} {S:zx} {j k:Nat} {b:Bool} {g:Value} {s:M Value} {K:Value→zx→Option (List Value×zx)} (hc:chk.contains k=false) {x:Nat×Nat} {nl:List (Nat×Nat)} {hist:List (Value×zx)} {pe:Value} (hpe:y9 T o=pe) (hl:l=o::rest) (hg:o.guard=some (j,b)) (hm:∀ v,kN o rest T v=T1 v)
  (hy:ynd ops T j=vb g) (hs:jZ P fx call T o S=s S) (hK:∀ v S1,jK P fx chk (x::nl) call ops (k+1) (hist++[(pe,S)]) rest (T1 v) S1=K v S1):jK P fx chk (x::nl) call ops k hist l T S=gdK g b s S K ():=by
 show _=gd g b s S K
 subst hl
 simp only [jK,qJ,List.isEmpty_cons,Bool.false_eq_true,if_false,hpe,Region.wanted,hg,hy,hs,hm,hK,gd,hc,Bool.not_false,Bool.true_or,if_true]
 rfl
def ckK (c:Bool) (r:Option R) (p:ZB r):Option R:=if c then r else none
@[simp] theorem X9 (r:Option R) (p:ZB r):ckK true r p=r:=Eq.trans rfl rfl
noncomputable def aeY (P:Program) (O:Ora) (hp:Bool) (v:Value) (x y:Code) (T:List Value) (S:zx):St:=adu v (zG P O hp x T S) (zG P O hp y T S)
@[simp] theorem Yo (x y:Code) (T:List Value) (S:zx):aeY P O hp (.bool true) x y T S=zG P O hp x T S:=Eq.trans rfl rfl
@[simp] theorem Wi (x y:Code) (T:List Value) (S:zx):aeY P O hp (.bool false) x y T S=zG P O hp y T S:=Eq.trans rfl rfl
@[simp] theorem J6 (T:List Value) (H:zx):zG P O hp .skip T H=some (.normal,T,H):=Eq.trans rfl rfl
@[simp] theorem Yi (T:List Value) (H:zx):zG P O hp .ret T H=some (.ret,T,H):=Eq.trans rfl rfl
@[simp] theorem J8 (i:Nat) (T:List Value) (H:zx):zG P O hp (.exit i) T H=some (.exit i,T,H):=Eq.trans rfl rfl
@[simp] theorem ZF (i:Nat) (ops:Array Oper) (T:List Value) (H:zx):zG P O false (.region i ops false) T H=Jt (jy P ⟨false,false,false⟩ (je P O) ops ops.toList T H):=Eq.trans rfl rfl
@[simp] theorem vM (i:Nat) (ops:Array Oper) (T:List Value) (H:zx):zG P O true (.region i ops false) T H=Jt (jy P ⟨true,false,false⟩ (yG O.hp true (je P O)) ops ops.toList T H):=Eq.trans rfl rfl
theorem yu {i:Nat} {ops:Array Oper} (hd:yS P ops=true) (hf:fixed P ops=nm) (hc:checked P ops=chk) {nl:List (Nat×Nat)} (hn:again P ops=nl) (T:List Value) (H:zx):zG P O false (.region i ops true) T H=Jt (jK P ⟨false,!chk.isEmpty,nm⟩ chk nl (je P O) ops 0 [] ops.toList T H):=by
 subst hf hc hn
 simp only [zG,hd,if_true,yG]
 rfl
theorem YL {i:Nat} {ops:Array Oper} (hd:yS P ops=true) (hf:fixed P ops=nm) (hc:checked P ops=chk) {nl:List (Nat×Nat)} (hn:again P ops=nl) (T:List Value) (H:zx):zG P O true (.region i ops true) T H=Jt (jK P ⟨true,!chk.isEmpty,nm⟩ chk nl (yG O.hp true (je P O)) ops 0 [] ops.toList T H):=by
 subst hf hc hn
 simp only [zG,hd,if_true]
 rfl
@[simp] theorem WQ (x y:Code) (T:List Value) (H:zx):zG P O hp (.seq x y) T H=agH (zG P O hp x T H) (zG P O hp y):=Eq.trans rfl rfl
@[simp] theorem Jb (i:Nat) (c:Code) (T:List Value) (H:zx):zG P O hp (.block i c) T H=Q5 i (zG P O hp c T H):=Eq.trans rfl rfl
@[simp] theorem Wn (c:Code) (T:List Value) (H:zx):zG P O hp (.loop c) T H=yH (zG P O hp c) T H:=Eq.trans rfl rfl
@[simp] theorem Wl (t:Tmp) (x y:Code) (T:List Value) (H:zx):zG P O hp (.cond (.tmp t) x y) T H=aeY P O hp (T.getD t zh) x y T H:=by
 simp only [zG,yE,if_true,zT]
 rfl
@[simp] theorem JU:dem zh=zh:=xP
@[simp] theorem aaL (k:IntKind) (n:Int):dem (.int k n)=.int k n:=Eq.trans rfl rfl
@[simp] theorem Va (b:Bool):dem (.bool b)=.bool b:=Eq.trans rfl rfl
@[simp] theorem Yc (s:ByteArray):dem (.string s)=.string s:=Eq.trans rfl rfl
@[simp] theorem acg:dem (.slice none 0 0)=.slice none 0 0:=Eq.trans rfl rfl
@[simp] theorem ab5 (x:Array Value):dem (.agg x)=.agg x:=Eq.trans rfl rfl
@[simp] theorem X0 (f:Fn) (x c:Array Value):dem (.func f x c)=.func f x c:=Eq.trans rfl rfl
@[simp] theorem Jw (a:Option Addr):dem (.pointer a)=.pointer a:=Eq.trans rfl rfl
@[simp] theorem agZ (e n:Nat) (cs:List Value):dem (SL 1 e n cs)=SL 1 e n cs:=Eq.trans rfl rfl
@[simp] theorem ag3 (e n:Nat) (cs:List Value):dem (SL 2 e n cs)=SL 1 e n cs:=Eq.trans rfl rfl
@[simp] theorem aes (k e n:Nat) (cs:List Value) (r:Option R) (p:ZB r):okK (SL k e n cs) r p=r:=Eq.trans rfl rfl
@[simp] theorem aey (cs:List Value) (r:Option R) (p:ZB r):okK (EP cs) r p=r:=Eq.trans rfl rfl
@[simp] theorem ahc (k e n:Nat) (cs:List Value) (r:Option R):okC (SL k e n cs) r=r:=Eq.trans rfl rfl
@[simp] theorem aew (cs:List Value) (r:Option R):okC (EP cs) r=r:=Eq.trans rfl rfl
def sv (k e n:Nat) (cs:List Value):Value:=if k=0 then .slice none 0 0 else SL k e n cs
structure Okv (k n:Nat) (cs:List Value):Prop where
 le:k≤2
 nil:k=0→n=0∧cs=[]
theorem sv0 {e n:Nat} {cs:List Value}:sv 0 e n cs=.slice none 0 0:=rfl
theorem sv1 {e n:Nat} {cs:List Value}:sv 1 e n cs=SL 1 e n cs:=rfl
theorem sv2 {e n:Nat} {cs:List Value}:sv 2 e n cs=SL 2 e n cs:=rfl
@[simp] theorem Vm (k e n:Nat) (cs:List Value):dem (sv k e n cs)=sv (if k=2 then 1 else k) e n cs:=by
 unfold sv
 by_cases h0:k=0
 ·
  subst h0;rfl
 ·
  by_cases h2:k=2
  ·
   subst h2;rfl
  ·
   rw [if_neg h0,if_neg h2,if_neg h0]
   simp only [SL,dem,qK,if_neg h2]
@[simp] theorem KP (k e n:Nat) (cs:List Value) (r:Option R):okC (sv k e n cs) r=r:=by
 unfold sv;split <;> rfl
@[simp] theorem aeB (k e n:Nat) (cs:List Value) (r:Option R) (p:ZB r):okK (sv k e n cs) r p=r:=KP k e n cs r
theorem Vd {k e n:Nat} {cs:List Value} (h:Okv k n cs):∃ e',vSl (sv k e n cs)=some (e',n,cs)∧(e'=e∨n=0∧cs=[]):=by
 unfold sv
 by_cases h0:k=0
 ·
  obtain ⟨rfl,rfl⟩:=h.nil h0
  rw [if_pos h0]
  exact ⟨0,rfl,.inr ⟨rfl,rfl⟩⟩
 ·
  rw [if_neg h0]
  have:k=1∨k=2:=by have:=h.le;omega
  exact ⟨e,by simp [SL,vSl,this],.inl rfl⟩
theorem aft {t te:TypeId} {k e n:Nat} {cs:List Value} {S:zx} (ht:P.underlying t=some (.slice te)) (h:Okv k n cs):qO P t (sv k e n cs) S=some (goInt n,S):=by
 by_cases h0:k=0
 ·
  obtain ⟨rfl,rfl⟩:=h.nil h0
  subst h0
  simp only [sv0,qO,QV,ht]
 ·
  obtain ⟨e',h1,_⟩:=Vd (e:=e) h
  simp only [sv,if_neg h0] at h1 ⊢
  simp only [SL] at h1 ⊢
  simp only [qO,ht,h1]
theorem YG {t te:TypeId} {k e n:Nat} {cs:List Value} {S:zx} {ki:IntKind} {i:Int} (ht:P.underlying t=some (.slice te)) (he:qI P te=some e) (h:Okv k n cs) (h0:0≤i) (hi:i < n) :
  jv P t (sv k e n cs) (.int ki i) S=some (EP ((cs.drop (i.toNat * e)).take e),S):=by
 have hk:k≠0:=fun e=>by have:=(h.nil e).1;omega
 have hk2:k=1∨k=2:=by have:=h.le;omega
 have h1:vSl (SL k e n cs)=some (e,n,cs):=by simp [SL,vSl,hk2]
 simp only [sv,if_neg hk]
 simp only [SL] at h1 ⊢
 simp only [jv,ht,h1,he,if_true]
 rw [if_pos ⟨h0,hi⟩]
@[simp] theorem Q9 {t:TypeId} {v:Value} {S:zx} (ht:qg P t=some false):jA P nm t (EP [v]) S=some (v,S):=by
 simp [EP,jA,ht]
theorem aap {t:TypeId} {n:Nat} {cs:List Value} {S:zx} (ht:qg P t=some true) (hn:qI P t=some n) (hc:cs.length=n):jA P nm t (EP cs) S=some (.agg cs.toArray,S):=by
 simp only [EP,jA,ht,hn,if_true,List.toList_toArray]
 rw [if_pos (by omega),← hc,List.take_length]
theorem aaP {t te:TypeId} {k e n:Nat} {cs:List Value} {S:zx} {lo hi:Option Value} {i j:Int} (ht:P.underlying t=some (.slice te)) (he:qI P te=some e) (h:Okv k n cs) (hlo:yX 0 lo=some i) (hhi:yX n hi=some j)
  (h0:0≤i) (hij:i≤j) (hj:j≤n):y5 P t (sv k e n cs) lo hi S=some (sv (if k=2 then 1 else k) e (j.toNat - i.toNat) ((cs.drop (i.toNat * e)).take ((j.toNat - i.toNat) * e)),S):=by
 by_cases hk:k=0
 ·
  obtain ⟨rfl,rfl⟩:=h.nil hk
  subst hk
  simp only [sv0,y5,ht,vSl,he,hlo,hhi,if_pos h0,if_pos hij,if_pos hj]
  rfl
 ·
  have hk2:k=1∨k=2:=by have:=h.le;omega
  have h1:vSl (SL k e n cs)=some (e,n,cs):=by simp [SL,vSl,hk2]
  have h3:(if k=2 then 1 else k)=1:=by rcases hk2 with rfl | rfl <;> rfl
  rw [h3]
  simp only [sv,if_neg hk]
  simp only [SL] at h1 ⊢
  simp only [y5,ht,h1,he,hlo,hhi,if_pos h0,if_pos hij,if_pos hj,if_true]
  rfl
theorem acO {t te:TypeId} {k e n:Nat} {cs:List Value} {S:zx} (ht:P.underlying t=some (.slice te)) (h:Okv k n cs):wz P .eql t (sv k e n cs) (.slice none 0 0) S=some (.bool (decide (k=0)),S):=by
 by_cases hk:k=0
 ·
  subst hk
  simp only [sv0,wz,xW,yV,ht,xk]
  rfl
 ·
  have hk2:k=1∨k=2:=by have:=h.le;omega
  have h1:vSl (SL k e n cs)=some (e,n,cs):=by simp [SL,vSl,hk2]
  simp only [sv,if_neg hk]
  simp only [SL] at h1 ⊢
  simp only [wz,ht,h1]
  simp [hk]
@[simp] theorem JG (k e n:Nat) (cs:List Value):Yn (sv k e n cs)=false:=by unfold sv;split <;> rfl
@[simp] theorem ZL (dr:Bool) (t:TypeId) (k e n:Nat) (cs:List Value) (lo hi:Option Value) (S:zx):wC P dr t (sv k e n cs) lo hi S=y5 P t (sv k e n cs) lo hi S:=by
 unfold wC;rw [JG];rfl
@[simp] theorem vP (dr:Bool) (t:TypeId) (s:ByteArray) (lo hi:Option Value) (S:zx):wC P dr t (.string s) lo hi S=y5 P t (.string s) lo hi S:=Eq.trans rfl rfl
@[simp] theorem JK (hp dr:Bool) (src dst:TypeId) (k e n:Nat) (cs:List Value) (S:zx):wV P hp dr src dst (sv k e n cs) S=vI P src dst (sv k e n cs) S:=by
 unfold wV
 rw [JG]
 have:∀ s,sv k e n cs≠.string s:=by intro s;unfold sv;split <;> (intro h;cases h)
 cases hp <;> simp only [Bool.false_eq_true,if_false] <;> (split <;> first | rfl | (rename_i h;exact absurd h (this _)) | skip)
@[simp] theorem Yf (hp dr:Bool) (src dst:TypeId) (k:IntKind) (n:Int) (S:zx):wV P hp dr src dst (.int k n) S=vI P src dst (.int k n) S:=by cases hp <;> rfl
@[simp] theorem Zu (dr:Bool) (src dst:TypeId) (s:ByteArray) (S:zx):wV P false dr src dst (.string s) S=vI P src dst (.string s) S:=Eq.trans rfl rfl
@[simp] theorem vS (dr:Bool) (src dst:TypeId) (s:ByteArray) (S:zx):wV P true dr src dst (.string s) S=wE P src dst (.string s) S:=Eq.trans rfl rfl
theorem Vu {t te tx tex:TypeId} {k e n j m bytes:Nat} {cs ds:List Value} {z:Value} {S:zx} (ht:P.underlying t=some (.slice te)) (he:qI P te=some e) (hz:zeroOf P te=some z) (hzs:z.cells.size=e) (hb:bytesOf P te=some bytes) (hp:0 < e)
  (htx:P.underlying tx=some (.slice tex)) (h:Okv k n cs) (hk:k≠1) (hx:Okv j m ds) (hn:cs.length=n * e) (hm:ds.length=m * e) (h1:cs.all (·.oneCell')=true) (h2:ds.all (·.oneCell')=true) (hl:(n+m) * bytes≤140737488355328) (hmax:n+m≤4611686018427387903) :
  jF P t tx (sv k e n cs) (sv j e m ds) S=some (sv (if k=0∧m=0 then 0 else 2) e (n+m) (cs++ds),S):=by
 have hel:wF P t=some te:=by simp only [wF,ht]
 have hsrc:aeX P tx e (sv j e m ds)=some (m,ds):=by
  obtain ⟨e',q1,q2⟩:=Vd (e:=e) hx
  have hns:∀ s,sv j e m ds≠.string s:=by intro s;unfold sv;split <;> (intro h;cases h)
  have hcond:m=0∨e'=e:=q2.elim .inr fun h=>.inl h.1
  unfold aeX
  split
  ·
   rename_i s hs;exact absurd hs (hns s)
  ·
   simp only [htx,q1,if_pos hcond,if_pos hm,h2,if_true]
 have hsrc:WE P tx e (sv j e m ds) S=some (m,ds):=by
  unfold WE
  rw [JG]
  exact hsrc
 by_cases hk0:k=0
 ·
  obtain ⟨rfl,rfl⟩:=h.nil hk0
  subst hk0
  simp only [sv0,jF,yB,hel,he,hz,hb,if_pos hp,if_pos hzs,hsrc]
  by_cases hm0:m=0
  ·
   subst hm0
   simp [sv0]
  ·
   rw [Nat.zero_add] at hl hmax
   rw [if_neg hm0,if_pos hl,if_pos hmax,if_neg Bool.false_ne_true,if_neg (fun h=>hm0 h.2),sv2,Nat.zero_add,List.nil_append]
 ·
  have hk2:k=2:=by have:=h.le;omega
  subst hk2
  rw [if_neg (fun h=>hk0 h.1)]
  have h1':cs.toArray.toList.all (·.oneCell')=true:=by simpa using h1
  simp only [sv2,SL,jF,yB,hel,he,hz,hb,if_pos hp,if_pos hzs,hsrc,if_true,if_pos hl,if_pos hmax,h1']
@[simp] theorem XO (op:BinOp) (t:TypeId) (k k':IntKind) (a b:Int) (S:zx):wz P op t (.int k a) (.int k' b) S=xW P op t (.int k a) (.int k' b) S:=Eq.trans rfl rfl
@[simp] theorem Jr (op:BinOp) (t:TypeId) (a b:ByteArray) (S:zx):wz P op t (.string a) (.string b) S=xW P op t (.string a) (.string b) S:=Eq.trans rfl rfl
@[simp] theorem Qv (op:BinOp) (t:TypeId) (a b:Bool) (S:zx):wz P op t (.bool a) (.bool b) S=xW P op t (.bool a) (.bool b) S:=Eq.trans rfl rfl
@[simp] theorem agL (op:BinOp) (t:TypeId) (a b:Array Value) (S:zx):wz P op t (.agg a) (.agg b) S=xW P op t (.agg a) (.agg b) S:=Eq.trans rfl rfl
@[simp] theorem WM (b:Bool) (x y:Value) (S:zx):qY (.bool b) x y S=some (if b then dem x else dem y,S):=Eq.trans rfl rfl
@[simp] theorem KC {src dst:TypeId} (k:IntKind) (n:Int) (S:zx):vI P src dst (.int k n) S=wE P src dst (.int k n) S:=Eq.trans rfl rfl
@[simp] theorem vU (vs:List Value) (i:Nat) (S:zx):zL (.tuple vs.toArray) i S=(vs[i]?).map (·,S):=by
 simp only [zL,List.getElem?_toArray]
 cases vs[i]? <;> rfl
end
end Go.Abs
namespace Go.Abs
theorem qB {P:Program} {fn:Func} {a b:Value} {r:List Value} {T:List Value} {S:zx} (h:zQ P T S fn.results.toList=some (a::b::r)) (hn:afs fn.results.toList=true) (hall:(a::b::r).all jD=true) :
  aan P fn T S=some (.tuple (a::b::r).toArray,S):=by
 unfold aan
 rw [h]
 dsimp only
 rw [if_pos hn,if_pos hall]
theorem yM {P:Program} {fn:Func} {a:Value} {T:List Value} {S:zx} (h:zQ P T S fn.results.toList=some [a]) (hn:afs fn.results.toList=true):aan P fn T S=some (a,S):=by
 unfold aan
 rw [h]
 dsimp only
 rw [if_pos hn]
@[simp] theorem jc (k:IntKind) (n:Int):jD (.int k n)=true:=rfl
@[simp] theorem zX (b:Bool):jD (.bool b)=true:=rfl
@[simp] theorem XF (k e n:Nat) (cs:List Value):jD (sv k e n cs)=true:=by unfold sv;split <;> rfl
@[simp] theorem jd (x:Array Value):jD (.agg x)=true:=rfl
@[simp] theorem zO (a:Option Addr) (n c:Nat):jD (.slice a n c)=true:=rfl
end Go.Abs
namespace Go.Abs
open Go.RowKit
def vs {α:Type} (f:α→List Value) (e k:Nat) (l:List α):Value:=sv k e l.length (l.flatMap f)
structure Okl {α:Type} (k:Nat) (l:List α):Prop where
 le:k≤2
 nil:k=0→l=[]
theorem Okl.own {α:Type} {l:List α}:Okl 2 l:=⟨Nat.le_refl 2,(fun h=>by cases h)⟩
theorem Okl.read {α:Type} {l:List α}:Okl 1 l:=⟨by omega,(fun h=>by cases h)⟩
theorem Okl.none {α:Type}:Okl 0 ([]:List α):=⟨by omega,fun _=>rfl⟩
theorem Okl.dem {α:Type} {k:Nat} {l:List α} (h:Okl k l):Okl (if k=2 then 1 else k) l:=⟨by have:=h.le;split <;> omega,fun hk=>h.nil (by split at hk <;> omega)⟩
def cb (b:UInt8):List Value:=[.int .u8 b.toNat]
def ci (n:Int):List Value:=[.int .i64 n]
section
variable {R α:Type} {P:Program} {f:α→List Value} {e k j:Nat} {l m:List α} {t te tx tex:TypeId} {S:zx}
theorem Okl.okv (h:Okl k l):Okv k l.length (l.flatMap f):=⟨h.le,fun h0=>by rw [h.nil h0];exact ⟨rfl,rfl⟩⟩
theorem kV (hf:∀ x,(f x).length=e) (l:List α):(l.flatMap f).length=l.length * e:=by
 induction l with
 | nil=>simp
 | cons x l ih=>simp only [List.flatMap_cons,List.length_append,hf,ih,List.length_cons,Nat.add_mul];omega
theorem Je (hf:∀ x,(f x).length=e) (l:List α):∀ (i:Nat),(l.flatMap f).drop (i * e)=(l.drop i).flatMap f:=by
 induction l with
 | nil=>intro i;simp
 | cons x l ih =>
  intro i
  cases i with
  | zero=>simp
  | succ i =>
   rw [List.flatMap_cons,List.drop_succ_cons,← ih i,List.drop_append,List.drop_eq_nil_of_le (by rw [hf,Nat.add_mul];omega),List.nil_append,hf]
   congr 1
   rw [Nat.add_mul];omega
theorem Z9 (hf:∀ x,(f x).length=e) (l:List α):∀ (i:Nat),(l.flatMap f).take (i * e)=(l.take i).flatMap f:=by
 induction l with
 | nil=>intro i;simp
 | cons x l ih =>
  intro i
  cases i with
  | zero=>simp
  | succ i =>
   rw [List.flatMap_cons,List.take_succ_cons,List.flatMap_cons,← ih i,List.take_append,List.take_of_length_le (by rw [hf,Nat.add_mul];omega),hf]
   congr 2
   rw [Nat.add_mul];omega
@[simp] theorem abe:dem (vs f e k l)=vs f e (if k=2 then 1 else k) l:=Vm _ _ _ _
@[simp] theorem adZ (r:Option R):okC (vs f e k l) r=r:=KP _ _ _ _ _
@[simp] theorem aex (r:Option R) (p:ZB r):okK (vs f e k l) r p=r:=KP _ _ _ _ _
@[simp] theorem agS:Yn (vs f e k l)=false:=JG _ _ _ _
@[simp] theorem Yb (dr:Bool) (lo hi:Option Value):wC P dr t (vs f e k l) lo hi S=y5 P t (vs f e k l) lo hi S:=ZL _ _ _ _ _ _ _ _ _
@[simp] theorem Ze (hp dr:Bool) (src dst:TypeId):wV P hp dr src dst (vs f e k l) S=vI P src dst (vs f e k l) S:=JK _ _ _ _ _ _ _ _ _
@[simp] theorem jg:jD (vs f e k l)=true:=XF _ _ _ _
theorem aax (ht:P.underlying t=some (.slice te)) (h:Okl k l):qO P t (vs f e k l) S=some (goInt l.length,S):=aft ht h.okv
theorem adl (ht:P.underlying t=some (.slice te)) (h:Okl k l):wz P .eql t (vs f e k l) (.slice none 0 0) S=some (.bool (decide (k=0)),S):=acO ht h.okv
theorem aeR {ki:IntKind} {i:Int} (ht:P.underlying t=some (.slice te)) (he:qI P te=some e) (hf:∀ x,(f x).length=e) (h:Okl k l) (h0:0≤i) (hi:i < l.length) :
  jv P t (vs f e k l) (.int ki i) S=some (EP (f (l[i.toNat]'(by omega))),S):=by
 unfold vs
 rw [YG ht he h.okv h0 hi,Je hf]
 have hlt:i.toNat < l.length:=by omega
 have:=Z9 hf (l.drop i.toNat) 1
 rw [Nat.one_mul] at this
 rw [this,List.drop_eq_getElem_cons hlt,List.take_succ_cons,List.take_zero,List.flatMap_cons,List.flatMap_nil,List.append_nil]
theorem XP {lo hi:Option Value} {i j:Int} (ht:P.underlying t=some (.slice te)) (he:qI P te=some e) (hf:∀ x,(f x).length=e) (h:Okl k l) (hlo:yX 0 lo=some i) (hhi:yX l.length hi=some j) (h0:0≤i) (hij:i≤j) (hj:j≤l.length) :
  y5 P t (vs f e k l) lo hi S=some (vs f e (if k=2 then 1 else k) ((l.drop i.toNat).take (j.toNat - i.toNat)),S):=by
 unfold vs
 rw [aaP ht he h.okv hlo hhi h0 hij hj,Je hf,Z9 hf]
 congr 3
 simp;omega
theorem Zc {bytes:Nat} {z:Value} (ht:P.underlying t=some (.slice te)) (he:qI P te=some e) (hz:zeroOf P te=some z) (hzs:z.cells.size=e) (hb:bytesOf P te=some bytes) (hp:0 < e) (htx:P.underlying tx=some (.slice tex))
  (hf:∀ x,(f x).length=e) (h1:∀ x,(f x).all (·.oneCell')=true) (h:Okl k l) (hk:k≠1) (hm:Okl j m) (hl:(l.length+m.length) * bytes≤140737488355328) (hmax:l.length+m.length≤4611686018427387903) :
  jF P t tx (vs f e k l) (vs f e j m) S=some (vs f e (if k=0∧m.length=0 then 0 else 2) (l++m),S):=by
 have hone:∀ l:List α,(l.flatMap f).all (·.oneCell')=true:=by
  intro l
  rw [List.all_flatMap,List.all_eq_true]
  exact fun x _=>h1 x
 unfold vs
 rw [Vu ht he hz hzs hb hp htx h.okv hk hm.okv (kV hf l) (kV hf m) (hone l) (hone m) hl hmax,List.flatMap_append,List.length_append]
theorem QO (x:UInt8):(cb x).length=1:=rfl
theorem agu (x:UInt8):(cb x).all (·.oneCell')=true:=rfl
theorem aeh (x:Int):(ci x).length=1:=rfl
theorem agI (x:Int):(ci x).all (·.oneCell')=true:=rfl
theorem adQ (l:List UInt8):wK (l.flatMap cb)=some l:=by
 induction l with
 | nil=>rfl
 | cons b l ih =>
  have:(b::l).flatMap cb=.int .u8 b.toNat::l.flatMap cb:=rfl
  rw [this]
  simp only [wK,Wp,ih]
  simp
theorem jr {v:Value} {i j:Nat} {S:zx} (h:j≠i):zL (zY j v) i S=zL v i S:=by
 cases v with
 | tuple vs=>simp only [zY,zL,Array.getElem?_modify,if_neg h]
 | _=>rfl
theorem ab7 {v:Value} {S:zx}:zL (zY 0 v) 1 S=zL v 1 S:=jr (by decide)
theorem aa5 {v:Value} {S:zx}:zL (zY 0 v) 2 S=zL v 2 S:=jr (by decide)
theorem abh {v:Value} {S:zx}:zL (zY 1 v) 2 S=zL v 2 S:=jr (by decide)
theorem aa2 {v:Value} {S:zx}:zL (zY 0 v) 3 S=zL v 3 S:=jr (by decide)
theorem aa9 {v:Value} {S:zx}:zL (zY 1 v) 3 S=zL v 3 S:=jr (by decide)
theorem aaH {v:Value} {S:zx}:zL (zY 2 v) 3 S=zL v 3 S:=jr (by decide)
theorem ab9 {v:Value} {S:zx}:zL (zY 0 v) 4 S=zL v 4 S:=jr (by decide)
theorem aaD {v:Value} {S:zx}:zL (zY 1 v) 4 S=zL v 4 S:=jr (by decide)
theorem abl {v:Value} {S:zx}:zL (zY 2 v) 4 S=zL v 4 S:=jr (by decide)
theorem aa0 {v:Value} {S:zx}:zL (zY 3 v) 4 S=zL v 4 S:=jr (by decide)
theorem aaI {v:Value} {S:zx}:zL (zY 0 v) 5 S=zL v 5 S:=jr (by decide)
theorem aa8 {v:Value} {S:zx}:zL (zY 1 v) 5 S=zL v 5 S:=jr (by decide)
theorem ach {v:Value} {S:zx}:zL (zY 2 v) 5 S=zL v 5 S:=jr (by decide)
theorem aaW {v:Value} {S:zx}:zL (zY 3 v) 5 S=zL v 5 S:=jr (by decide)
theorem abX {v:Value} {S:zx}:zL (zY 4 v) 5 S=zL v 5 S:=jr (by decide)
abbrev by_ (k:Nat) (l:List UInt8):Value:=vs cb 1 k l
abbrev iz (k:Nat) (l:List Int):Value:=vs ci 1 k l
theorem aaK {src dst:TypeId} {k:Nat} {l:List UInt8} (hs:P.underlying src=some (.slice te)) (he:P.underlying te=some (.int .u8)) (hd:P.underlying dst=some .string) (h:Okl k l):vI P src dst (by_ k l) S=some (.string ⟨l.toArray⟩,S):=by
 obtain ⟨e',h1,_⟩:=Vd (e:=1) (h.okv (f:=cb))
 have hlen:(l.flatMap cb).length=l.length:=by rw [kV QO];omega
 have hns:∀ s,by_ k l≠.string s:=by intro s;unfold by_ vs sv;split <;> (intro h;cases h)
 unfold vI
 split
 ·
  rename_i s hs;exact absurd hs (hns s)
 ·
  unfold by_ vs
  rw [h1]
  simp only [hs,hd,he,if_pos hlen,adQ]
end
end Go.Abs
namespace Go.Abs
open Go.RowKit
def CLe (c d:FuncId→List Value→M Value):Prop:=∀ g a S r,c g a S=some r→d g a S=some r
section
variable {P:Program} {O:Ora} {c d:FuncId→List Value→M Value}
theorem Yd (h:CLe c d) {fx:Fx} {T:List Value} {o:Oper} {S:zx} {r:Value×zx} (hs:jZ P fx c T o S=some r):jZ P fx d T o S=some r:=by
 unfold jZ at hs ⊢
 split at hs
 ·
  rename_i hok
  rw [if_pos hok]
  cases hop:o.op with
  | call q =>
   rw [hop] at hs
   dsimp only at hs ⊢
   cases hcal:q.callee with
   | value f =>
    rw [hcal] at hs
    dsimp only at hs ⊢
    split at hs
    ·
     rename_i g first captured hev
     exact h _ _ _ _ hs
    ·
     cases hs
   | builtin b=>rw [hcal] at hs;exact hs
   | invoke a b=>rw [hcal] at hs;cases hs
  | _=>rw [hop] at hs;exact hs
 ·
  cases hs
theorem ab3 (h:CLe c d) {fx:Fx} {ops:Array Oper}:∀ (l:List Oper) (T:List Value) (S:zx) (r:List Value×zx),jy P fx c ops l T S=some r→jy P fx d ops l T S=some r:=by
 intro l
 induction l with
 | nil=>intro T S r hs;exact hs
 | cons o l ih =>
  intro T S r hs
  simp only [jy] at hs ⊢
  split at hs
  ·
   rename_i hw
   rw [if_pos hw]
   split at hs
   ·
    rename_i v S' he
    rw [Yd h he]
    exact ih _ _ _ hs
   ·
    cases hs
  ·
   rename_i hw
   rw [if_neg hw]
   exact ih _ _ _ hs
theorem aal (h:CLe c d) {fx:Fx} {chk:List Nat} {nl:List (Nat×Nat)} {ops:Array Oper}:∀ (l:List Oper) (i:Nat) (hist:List (Value×zx)) (T:List Value) (S:zx) (r:List Value×zx),jK P fx chk nl c ops i hist l T S=some r→jK P fx chk nl d ops i hist l T S=some r:=by
 intro l
 induction l with
 | nil=>intro i hist T S r hs;exact hs
 | cons o l ih =>
  intro i hist T S r hs
  simp only [jK] at hs ⊢
  split at hs
  ·
   rename_i hw
   rw [if_pos hw]
   split at hs
   ·
    rename_i v S' he
    rw [Yd h he]
    dsimp only
    split at hs
    ·
     rename_i hq
     rw [if_pos hq]
     exact ih _ _ _ _ _ hs
    ·
     cases hs
   ·
    cases hs
  ·
   rename_i hw
   rw [if_neg hw]
   exact ih _ _ _ _ _ hs
theorem WU (h:CLe c d) {hp:Bool} {n m:Nat} (hn:n≤m):∀ (q:Code) (T:List Value) (S:zx) (r),wL P hp c n q T S=some r→wL P hp d m q T S=some r:=by
 intro q
 induction q with
 | skip=>intro T S r hs;exact hs
 | exit id=>intro T S r hs;exact hs
 | ret=>intro T S r hs;exact hs
 | region i ops dr =>
  intro T S r hs
  cases dr with
  | false =>
   simp only [wL] at hs ⊢
   split at hs
   ·
    rename_i T1 S1 ho
    rw [ab3 h _ _ _ _ ho];exact hs
   ·
    cases hs
  | true =>
   simp only [wL] at hs ⊢
   split at hs
   ·
    rename_i hd
    rw [if_pos hd]
    split at hs
    ·
     rename_i T1 S1 ho
     rw [aal h _ _ _ _ _ _ ho];exact hs
    ·
     cases hs
   ·
    cases hs
 | seq x y ihx ihy =>
  intro T S r hs
  simp only [wL] at hs ⊢
  split at hs
  ·
   rename_i T1 S1 hx
   rw [ihx _ _ _ hx]
   exact ihy _ _ _ hs
  ·
   rename_i hne
   rw [ihx _ _ _ hs]
   split
   ·
    rename_i T1 S1 he;exact absurd (hs.trans he) (hne T1 S1)
   ·
    rfl
 | cond x y z ihy ihz =>
  intro T S r hs
  simp only [wL] at hs ⊢
  split at hs
  ·
   rename_i hok
   rw [if_pos hok]
   split at hs
   ·
    rename_i hb;exact ihy _ _ _ hs
   ·
    rename_i hb;exact ihz _ _ _ hs
   ·
    cases hs
  ·
   cases hs
 | block id x ih =>
  intro T S r hs
  simp only [wL] at hs ⊢
  split at hs
  ·
   rename_i id' T1 S1 hx
   rw [ih _ _ _ hx];exact hs
  ·
   rename_i hne
   rw [ih _ _ _ hs]
   split
   ·
    rename_i id' T1 S1 he;exact absurd (hs.trans he) (hne id' T1 S1)
   ·
    rfl
 | loop x ih =>
  intro T S r hs
  simp only [wL] at hs ⊢
  have key:∀ (n:Nat) (T:List Value) (S:zx),∀ k,yh k (wL P hp c n x) T S=some r→(∀ T S r,wL P hp c n x T S=some r→wL P hp d m x T S=some r)→yh k (wL P hp d m x) T S=some r:=by
   intro n T S k hk hx
   induction k generalizing T S with
   | zero=>cases hk
   | succ k ihk =>
    simp only [yh] at hk ⊢
    split at hk
    ·
     rename_i T1 S1 h1
     rw [hx _ _ _ h1]
     exact ihk _ _ hk
    ·
     rename_i hne
     rw [hx _ _ _ hk]
     split
     ·
      rename_i T1 S1 he;exact absurd (hk.trans he) (hne T1 S1)
     ·
      rfl
  exact Yw hn (key n T S n hs ih)
 | _=>intro T S r hs;simp only [wL] at hs;cases hs
theorem VI {hps:FuncId→Bool} {hp:Bool} (h:CLe c d):CLe (yG hps hp c) (yG hps hp d):=by
 cases hp with
 | false=>exact h
 | true =>
  intro g a S r hs
  unfold yG at hs ⊢
  dsimp only at hs ⊢
  split at hs
  ·
   rename_i hg;rw [if_pos hg];exact h _ _ _ _ hs
  ·
   rename_i hg
   rw [if_neg hg]
   split at hs <;> first | (cases hs;done) | skip
   rename_i m S1 hf
   split at hs <;> first | (cases hs;done) | skip
   rename_i r0 hr0
   (try rw [hf])
   (try dsimp only)
   rw [h _ _ _ _ hr0]
   exact hs
theorem Kv (h:CLe c d) {hp:Bool} {n m:Nat} (hn:n≤m) {fn:Func} {q:Code} {a:List Value} {S:zx} {r:Value×zx} (hs:acy P hp c n fn q a S=some r):acy P hp d m fn q a S=some r:=by
 unfold acy at hs ⊢
 split at hs
 ·
  rename_i T1 S1 hx
  rw [WU h hn _ _ _ _ hx];exact hs
 ·
  rename_i T1 S1 hx
  rw [WU h hn _ _ _ _ hx];exact hs
 ·
  cases hs
theorem ac6:∀ (n m:Nat),n≤m→CLe (qC P O n) (qC P O m):=by
 intro n
 induction n with
 | zero=>intro m _ g a S r h;cases h
 | succ n ih =>
  intro m hm g a S r h
  obtain ⟨m,rfl⟩:∃ k,m=k+1:=⟨m - 1,by omega⟩
  simp only [qC] at h ⊢
  cases ho:O.fn g with
  | some q=>rw [ho] at h;exact h
  | none =>
   rw [ho] at h
   dsimp only at h ⊢
   cases hf:P.funcs[g]? with
   | none=>rw [hf] at h;cases h
   | some fn =>
    rw [hf] at h
    dsimp only at h ⊢
    split at h
    case isFalse=>cases h
    case isTrue =>
     rename_i hn
     rw [if_pos hn]
     cases hb:fn.body with
     | none=>rw [hb] at h;cases h
     | some q =>
      rw [hb] at h
      dsimp only at h ⊢
      have hc:=VI (hps:=O.hp) (hp:=O.hp g) (ih m (by omega))
      split at h
      ·
       rename_i hpu
       rw [if_pos hpu]
       unfold abR at h ⊢
       split at h <;> first | (cases h;done) | skip
       rename_i hca
       rw [if_pos hca]
       split at h <;> first | (cases h;done) | skip
       rename_i v1 S1 hr
       rw [Kv hc (by omega) hr]
       exact h
      ·
       rename_i hpu
       rw [if_neg hpu]
       exact Kv hc (by omega) h
theorem Vo {n:Nat} {g:FuncId} {args:List Value} {S:zx} {r:Value×zx} (h:qC P O n g args S=some r):je P O g args S=some r :=
 Y2 ⟨n,fun k hk=>ac6 n k hk _ _ _ _ h⟩
end
end Go.Abs
namespace Go.Abs
open Go.RowKit
theorem acZ (x:(Ty.slc 1 (.int .u8)).Val) (hg:(Ty.slc 1 (.int .u8)).Good x):∃ k l,Okl k l∧k≠2∧(Ty.slc 1 (.int .u8)).Jk x=[by_ k l]∧l.length≤140737488351232:=by
 match x,hg with
 | none,_=>exact ⟨0,[],Okl.none,by decide,rfl,by simp⟩
 | some xs,hg =>
  obtain ⟨h1,h2,h3⟩:=hg
  have key:∀ xs:List Int,(∀ n ∈ xs,(Lit.int .u8 n).wf=true)→(xs.flatMap fun n=>[Value.int .u8 n])=(xs.map fun n=>UInt8.ofNat n.toNat).flatMap cb:=by
   intro xs
   induction xs with
   | nil=>intro _;rfl
   | cons n xs ih =>
    intro h
    have hw:=h n (by simp)
    simp [Lit.wf,IntKind.min,IntKind.max,IntKind.signed,IntKind.bits] at hw
    have e:(Value.int .u8 n)=.int .u8 ((UInt8.ofNat n.toNat).toNat:Int):=by
     simp only [UInt8.toNat_ofNat']
     congr 1
     omega
    rw [List.flatMap_cons,ih (fun m hm=>h m (by simp [hm])),List.map_cons,List.flatMap_cons,e]
    rfl
  refine ⟨1,(show List Int from xs).map fun n=>UInt8.ofNat n.toNat,Okl.read,by decide,?_,?_⟩
  ·
   have e:=key (show List Int from xs) h3
   show [SL 1 1 (show List Int from xs).length ((show List Int from xs).flatMap fun n=>[Value.int .u8 n])]=[_]
   unfold by_ vs
   rw [sv1,List.length_map,← e]
  ·
   have:(show List Int from xs).length * 1≤140737488351232:=h1
   rw [List.length_map];omega
theorem Qw {n:Int} (h:(Lit.int .i64 n).wf=true):-9223372036854775808≤n∧n < 9223372036854775808:=by
 simp [Lit.wf,IntKind.min,IntKind.max,IntKind.signed,IntKind.bits] at h
 omega
theorem ag1 {P:Program} {hp:Bool} {ts:Array TypeId} {ty:TypeId} {k:IntKind} {a b:Int} {S:zx}:yK P hp .min ts ty [.int k a,.int k b] S=some (.int k (if b < a then b else a),S):=by
 show jP P [.int k a,.int k b] (Builtin.min_ ts ty #[.int k a,.int k b]) S=_
 exact jC rfl rfl rfl
theorem agY {P:Program} {hp:Bool} {ts:Array TypeId} {ty:TypeId} {k:IntKind} {a b:Int} {S:zx}:yK P hp .max ts ty [.int k a,.int k b] S=some (.int k (if b > a then b else a),S):=by
 show jP P [.int k a,.int k b] (Builtin.max_ ts ty #[.int k a,.int k b]) S=_
 exact jC rfl rfl rfl
def acJ (call:FuncId→List Value→M Value) (g:FuncId) (args:List Value):M Value:=fun S=>match vG args S with
 | some (m,S1)=>match call g m S1 with
  | some r=>some (abP S S1 args r)
  | none=>none
 | none=>none
end Go.Abs
namespace Go.Abs
open Go.RowKit
section
variable {P:Program} {μ μ1:Mu} {S S1 H H1:zx} {ω ω1:Nat→Option wO}
def YK (n:Nat) (lg:List Nat) (μ:Mu):Mu:=⟨fun q=>if q < n then μ q else none,μ.hid,lg⟩
theorem qj {n q:Nat} {lg:List Nat} {μ:Mu} {x:Nat×Bool} (h:YK n lg μ q=some x):μ q=some x∧q < n:=by
 simp only [YK] at h
 split at h
 ·
  exact ⟨h,by assumption⟩
 ·
  cases h
theorem kP {n q:Nat} {lg:List Nat} {μ:Mu} (h:q < n):YK n lg μ q=μ q:=if_pos h
theorem xX.cut {n r:Nat} {lg:List Nat} {μ:Mu} (h:xX μ r):xX (YK n lg μ) r:=⟨fun q hq=>h.1 q (qj hq).1,h.2⟩
theorem VV.cut {n:Nat} {lg:List Nat} (hf:∀ q,n≤q→μ q=none) {ℓ:Option wO} {v a:Value} (h:VV μ1 H1 ω1 ℓ v a):∀ {H0:zx} {ω0:Nat→Option wO} {ℓ0:Option wO} {a0:Value},VV μ H0 ω0 ℓ0 v a0→VV (YK n lg μ1) H1 ω1 ℓ v a:=by
 have lt:∀ {q:Nat} {x:Nat×Bool},μ q=some x→q < n:=fun {q x} h=>Nat.lt_of_not_le fun hn=>by rw [hf q hn] at h;cases h
 induction h with
 | sg h=>intro _ _ _ _ _;exact .sg h
 | ptr h =>
  intro _ _ _ _ h0
  cases h0 with
  | sg hs=>simp [Go.Abs.sg] at hs
  | ptr k=>exact .ptr (by rw [kP (lt k)];exact h)
 | map h =>
  intro _ _ _ _ h0
  cases h0 with
  | sg hs=>simp [Go.Abs.sg] at hs
  | map k=>exact .map (by rw [kP (lt k)];exact h)
 | slm h =>
  intro _ _ _ _ h0
  cases h0 with
  | sg hs=>simp [Go.Abs.sg] at hs
  | slm k=>exact .slm (by rw [kP (lt k)];exact h)
 | slE=>intro _ _ _ _ _;exact .slE
 | sl hr hp hg hl hn hc ih =>
  intro _ _ _ _ h0
  cases h0 with
  | sg hs=>simp [Go.Abs.sg] at hs
  | slE=>exact .sl hr hp.cut hg hl hn (fun i hi=>by simp at hi)
  | sl _ _ _ _ _ k=>exact .sl hr hp.cut hg hl hn (fun i hi=>ih i hi (k i hi))
 | so hω hr hp hg hl hn hc ih =>
  intro _ _ _ _ h0
  cases h0 with
  | sg hs=>simp [Go.Abs.sg] at hs
  | so _ _ _ _ _ _ k=>exact .so hω hr hp.cut hg hl hn (fun i hi=>ih i hi (k i hi))
 | ep hr hp hg hl hc ih =>
  intro _ _ _ _ h0
  cases h0 with
  | sg hs=>simp [Go.Abs.sg] at hs
  | ep _ _ _ _ k=>exact .ep hr hp.cut hg hl (fun i hi=>ih i hi (k i hi))
 | func fn hx hc h1 h2 ih1 ih2 =>
  intro _ _ _ _ h0
  cases h0 with
  | sg hs=>simp [Go.Abs.sg] at hs
  | func _ _ _ k1 k2=>exact .func fn hx hc (fun i=>ih1 i (k1 i)) (fun i=>ih2 i (k2 i))
 | agg hx hh ih =>
  intro _ _ _ _ h0
  cases h0 with
  | sg hs=>simp [Go.Abs.sg] at hs
  | agg _ k=>exact .agg hx (fun i=>ih i (k i))
 | nores=>intro _ _ _ _ _;exact .nores
 | tuple hx hh ih =>
  intro _ _ _ _ h0
  cases h0 with
  | sg hs=>simp [Go.Abs.sg] at hs
  | nores=>exact .tuple hx (fun i=>ih i (a0:=Go.undef) (show VV μ H1 ω1 none ((#[]:Array Value).getD i Go.undef) Go.undef from by simpa using VV.zh))
  | tuple _ k=>exact .tuple hx (fun i=>ih i (k i))
structure Ext (S S1:zx):Prop where
 next:S.next≤S1.next
 get:∀ k,k < S.next→S1.get k=S.get k
 log:∃ new,S1.log=new++S.log∧∀ k ∈ new,S.next≤k
theorem Ext.refl (S:zx):Ext S S:=⟨Nat.le_refl _,fun _ _=>rfl,[],rfl,fun k h=>by cases h⟩
theorem Ext.trans {S2:zx} (h:Ext S S1) (k:Ext S1 S2):Ext S S2:=⟨Nat.le_trans h.1 k.1,fun q hq=>(k.2 q (Nat.lt_of_lt_of_le hq h.1)).trans (h.2 q hq),by
 obtain ⟨n1,e1,f1⟩:=h.log
 obtain ⟨n2,e2,f2⟩:=k.log
 refine ⟨n2++n1,by rw [e2,e1,List.append_assoc],fun q hq=>?_⟩
 rcases List.mem_append.1 hq with hq | hq
 ·
  exact Nat.le_trans h.1 (f2 q hq)
 ·
  exact f1 q hq⟩
theorem Ext.push (S:zx) (o:yg):Ext S (S.push o):=⟨by simp,fun k hk=>by rw [zx.zZ,if_neg (by omega)],[],rfl,fun k h=>by cases h⟩
theorem Ext.set {S S1:zx} (h:Ext S S1) {r:Nat} (hr:S.next≤r) (o:yg):Ext S (S1.set r o):=⟨by simpa using h.1,fun k hk=>by rw [zx.jw,if_neg (by omega)];exact h.2 k hk,by
 obtain ⟨n1,e1,f1⟩:=h.log
 refine ⟨r::n1,by rw [zx.Qk,e1];rfl,fun q hq=>?_⟩
 rcases List.mem_cons.1 hq with rfl | hq
 ·
  exact hr
 ·
  exact f1 q hq⟩
theorem GI.cut (hG:GI μ S H) (hG1:GI μ1 S1 H1) (hE:Ext S S1):GI (YK S.next S.log μ1) S H1:=by
 have lt:∀ {q o},S.get q=some o→o.alive=true→q < S.next:=fun {q o} h ha=>by
  obtain ⟨r,o',h1,_⟩:=hG.obj q o h ha
  exact Nat.lt_of_not_le fun hn=>by rw [hG.fresh q hn] at h1;cases h1
 refine ⟨fun q o ho ha=>?_,fun q q' r h1 h2=>hG1.inj q q' r (qj h1).1 (qj h2).1,fun q r b h=>hG1.lt q r b (qj h).1,fun q h=>if_neg (by omega),fun q r h=>hG1.vis q r (qj h).1,hG1.hlt,rfl,hG.anc⟩
 have hq:=lt ho ha
 obtain ⟨r1,o1,h1,h2,h3⟩:=hG1.obj q o (by rw [hE.2 q hq];exact ho) ha
 obtain ⟨r0,o0,k1,k2,k3⟩:=hG.obj q o ho ha
 refine ⟨r1,o1,by rw [kP hq];exact h1,h2,?_⟩
 cases o with
 | cells cs own esz =>
  cases o1 with
  | cells cs1 own1 esz1 =>
   cases o0 with
   | cells cs0 own0 esz0 =>
    obtain ⟨e1,w1,l1⟩:=h3
    obtain ⟨e0,w0,l0⟩:=k3
    refine ⟨e1,?_,l1.1,fun i=>(l1.2 i).cut hG.fresh (l0.2 i)⟩
    cases own with
    | ro=>cases own1 with
     | ro=>exact True.intro
     | own a=>exact w1.elim
    | own a=>cases own1 with
     | ro=>exact w1.elim
     | own a1=>cases own0 with
      | ro=>exact w0.elim
      | own a0 =>
       refine Wv.mono w1 fun b hb r hr=>?_
       obtain ⟨r2,h2⟩:=Wv.left w0 b hb
       rw [kP (Nat.lt_of_not_le fun hn=>by rw [hG.fresh b hn] at h2;cases h2)]
       exact hr
   | map es c=>exact k3.elim
   | dead=>exact k3.elim
  | map es c=>exact h3.elim
  | dead=>exact h3.elim
 | map es c =>
  cases o1 with
  | map es1 c1 =>
   cases o0 with
   | map es0 c0 =>
    obtain ⟨e1,w1,l1⟩:=h3
    obtain ⟨e0,w0,l0⟩:=k3
    refine ⟨e1,w1,fun i e he=>?_⟩
    obtain ⟨e',p1,p2,p3,p4⟩:=l1 i e he
    obtain ⟨e'',q1,q2,q3,q4⟩:=l0 i e he
    exact ⟨e',p1,p2,p3,p4.cut hG.fresh q4⟩
   | cells cs own e=>exact k3.elim
   | dead=>exact k3.elim
  | cells cs own e=>exact h3.elim
  | dead=>exact h3.elim
 | dead=>cases ha
inductive Lower (S:zx) (v1:Value) (S1:zx):Value→Prop
 | same (h:ground v1=true):Lower S v1 S1 v1
 | own {r n e:Nat} {cs:List Value} (hv:v1=.slice (some ⟨r,0,none⟩) n n) (hr:S.next≤r) (hg:S1.get r=some (.cells cs (.own []) e)) (hn:cs.length=n * e) (hs:cs.all sg=true):Lower S v1 S1 (SL 2 e n cs)
theorem afS {O0:Ora} (hO:KT P O0) {f:FuncId} {q:List Value→M Value} (h:∀ args S v S',q args S=some (v,S')→S'=S∧∃ v1 S1,je P O0 f args S=some (v1,S1)∧Ext S S1∧Lower S v1 S1 v) :
  ZK P (fun g args=>if g=f then q args else fun _=>none):=by
 intro g args aargs S v S' hq μ H ω hG hA hD hE
 dsimp only at hq
 split at hq
 ·
  rename_i hgf
  subst hgf
  obtain ⟨rfl,v1,S1,hv,hx,hlow⟩:=h _ _ _ _ hq
  obtain ⟨a,H1,μ1,ω1,k1,k2,k3,k4,k5,k6⟩:=aaF hO g args aargs S' v1 S1 hv μ H ω hG hA hD hE
  have hL:Later μ H (YK S'.next S'.log μ1) H1:=by
   refine ⟨fun q r b hm=>?_,k3.next,fun q r hm=>k3.new q r (qj hm).1,k3.hid,k3.same,(by
    obtain ⟨new,n1,n2⟩:=k3.still
    obtain ⟨nx,x1,x2⟩:=hx.log
    refine ⟨[],by show S'.log=_;rw [hG.log];rfl,fun q r hq _=>?_⟩
    have hqn:q < S'.next:=Nat.lt_of_not_le fun hn=>by rw [hG.fresh q hn] at hq;cases hq
    have hnew:q ∉ new:=fun hm=>by
     rw [k2.log,hG.log,x1] at n1
     have:=List.append_cancel_right n1
     subst this
     have:=x2 q hm
     omega
    obtain ⟨p1,p2⟩:=n2 q r hq hnew
    exact ⟨by rw [kP hqn];exact p1,p2⟩),fun r l own e hr hp hg=>k3.cells r l own e hr hp hg⟩
   obtain ⟨b',hb⟩:=k3.mu q r b hm
   exact ⟨b',by rw [kP (Nat.lt_of_not_le fun hn=>by rw [hG.fresh q hn] at hm;cases hm)];exact hb⟩
  have hDom:Dom (YK S'.next S'.log μ1) H1 ω1:=fun r s hr=>⟨(k5 r s hr).1,(k5 r s hr).2.cut⟩
  cases hlow with
  | same hgr =>
   have:a=v:=jl k6.v0 hgr
   subst this
   exact ⟨a,H1,_,ω1,k1,hG.cut k2 hx,hL,k4,hDom,VV.jS hgr⟩
  | @own r n e cs hv1 hr hg hn hs =>
   subst hv1
   cases k6 with
   | sg hs=>simp [Go.Abs.sg] at hs
   | @slm _ _ _ r' b _ hm =>
    obtain ⟨r2,l,own',ho,hm',hg',hl⟩:=k2.cells hg
    rw [hm] at hm';cases hm'
    cases own' with
    | ro=>exact ho.elim
    | own anc' =>
    have hpr:xX (YK S'.next S'.log μ1) r':=⟨fun q hq=>by
     obtain ⟨h1,h2⟩:=qj hq
     have:=k2.inj q r r' h1 hm
     omega,k2.vis r r' hm⟩
    have hnω:∀ x s,ω1 x=some s→x≠r':=fun x s hx e=>(k5 x s hx).2.1 r (by rw [e];exact hm)
    refine ⟨_,H1,_,fun x=>if x=r' then some (.res none) else ω1 x,k1,hG.cut k2 hx,hL,fun x hx=>?_,fun x s hx=>?_,?_⟩
    ·
     obtain ⟨e1,e2⟩:=k4 x hx
     exact ⟨by dsimp only;rw [if_neg (hnω x _ e1)];exact e1,e2⟩
    ·
     dsimp only at hx
     split at hx
     ·
      rename_i e1;subst e1;exact ⟨k2.lt r x _ hm,hpr⟩
     ·
      exact hDom x s hx
    ·
     refine .so (by simp) (k2.lt r r' _ hm) hpr hg' (by rw [← hl.1];exact hn) (by simpa using hn) fun i hi=>?_
     have h2:=hl.2 i
     have hi':i < cs.length:=by omega
     have hsi:sg (cs.getD i zh)=true:=by
      rw [List.getD_eq_getElem?_getD,List.getElem?_eq_getElem hi']
      exact List.all_eq_true.1 hs _ (List.getElem_mem hi')
     have:l.getD i zh=cs.getD i zh:=by
      generalize cs.getD i zh=u at h2 hsi
      generalize l.getD i zh=u' at h2
      cases h2 <;> first | rfl | (simp [Go.Abs.sg] at hsi)
     simp only [List.toList_toArray]
     rw [this]
     exact .sg hsi
 ·
  cases hq
end
end Go.Abs
namespace Go.Abs
open Go.RowKit
section
variable {P:Program} {S:zx} {t te tx tex:TypeId} {q o n c e i r:Nat} {cs:List Value} {own:Own} {anc:List Nat} {v x:Value} {hp:Bool}
theorem yj (a:Addr) (S:zx):jL (.pointer (some a)) S=some (.pointer (some a),S):=Eq.trans rfl rfl
theorem Y9 (h:S.get q=some (.cells cs own e)) (ha:qg P t=some false) (hv:cs[o]?=some v) (hn:∀ l,v≠.agg l):jA P false t (.pointer (some ⟨q,o,none⟩)) S=some (dem v,S):=by
 unfold jA
 simp only [Bool.false_eq_true,if_false]
 have:wS P t (.pointer (some ⟨q,o,none⟩)) S=some (v,S):=by simp only [wS,h,ha,hv]
 rw [this]
 split
 ·
  rename_i l S2 he;cases he;exact absurd rfl (hn _)
 ·
  rename_i v2 S2 _ he;cases he;rfl
 ·
  rename_i he;cases he
theorem kQ {k:IntKind} {m:Int} (h:S.get q=some (.cells cs own e)) (ha:qg P t=some false) (hv:cs[o]?=some (.int k m)):jA P false t (.pointer (some ⟨q,o,none⟩)) S=some (.int k m,S) :=
 Y9 h ha hv (fun l h=>by cases h)
theorem xu {a:Option Addr} {n c:Nat} (h:S.get q=some (.cells cs own e)) (ha:qg P t=some false) (hv:cs[o]?=some (.slice a n c)):jA P false t (.pointer (some ⟨q,o,none⟩)) S=some (.slice a n c,S) :=
 Y9 h ha hv (fun l h=>by cases h)
theorem acW (h:S.get q=some (.cells cs own e)) (ha:qg P t=some true) (hs:qI P t=some n) (hle:o+n≤cs.length):jA P false t (.pointer (some ⟨q,o,none⟩)) S=some (.agg (((cs.drop o).take n).toArray.map qK),S):=by
 unfold jA
 simp only [Bool.false_eq_true,if_false]
 have:wS P t (.pointer (some ⟨q,o,none⟩)) S=some (.agg ((cs.drop o).take n).toArray,S):=by simp only [wS,h,ha,hs,if_pos hle]
 rw [this]
theorem kJ (h:S.get q=some (.cells cs (.own anc) e)) (hs:qI P t=some n) (hx:x.cells.size=n) (h1:x.cells.toList.all (·.oneCell')=true) (hle:o+n≤cs.length) :
  qG P t (.pointer (some ⟨q,o,none⟩)) x S=some (zh,(S.kills anc).set q (.cells (splice cs o x.cells.toList) (.own []) e)):=by
 simp only [qG,vT,h,hs,if_pos hx,if_pos h1,if_pos hle]
theorem Qn (ht:P.underlying t=some (.slice te)) (a:Option Addr) (n c:Nat) (S:zx):qO P t (.slice a n c) S=some (goInt n,S):=by
 simp only [qO,QV,ht]
theorem abr {lo hi:Option Value} {l h:Int} {dr:Bool} (hd:dr=false) (hg:S.get q=some (.cells cs own e)) (ht:P.underlying t=some (.slice te)) (hs:qI P te=some e) (hl:yX 0 lo=some l) (hh:yX n hi=some h) (h0:0≤l) (h1:l≤h) (h2:h≤n) :
  wC P dr t (.slice (some ⟨q,o,none⟩) n c) lo hi S=some (.slice (some ⟨q,o+l.toNat * e,none⟩) (h.toNat - l.toNat) (h.toNat - l.toNat),S):=by
 subst hd
 simp only [wC,Yn,if_true,Bool.false_eq_true,if_false,yU,ht,hs,hl,hh,if_pos h0,if_pos h1,if_pos h2,hg]
theorem abp {lo hi:Option Value} {l h:Int} {dr:Bool} (ht:P.underlying t=some (.slice te)) (hs:qI P te=some e) (hl:yX 0 lo=some l) (hh:yX 0 hi=some h) (h0:0≤l) (h1:l≤h) (h2:h≤0) :
  wC P dr t (.slice none 0 0) lo hi S=some (.slice none 0 0,S):=by
 have h2':h≤((0:Nat):Int):=h2
 simp only [wC,Yn,Bool.false_eq_true,if_false,y5,ht,vSl,hs,hl,hh,if_pos h0,if_pos h1,if_pos h2']
theorem aeQ {k m:Nat} {ds:List Value} (htx:P.underlying tx=some (.slice tex)) (hx:Okv k m ds) (hm:ds.length=m * e) (h2:ds.all (·.oneCell')=true):aeX P tx e (sv k e m ds)=some (m,ds):=by
 obtain ⟨e',q1,q2⟩:=Vd (e:=e) hx
 have hns:∀ s,sv k e m ds≠.string s:=by intro s;unfold sv;split <;> (intro h;cases h)
 have hcond:m=0∨e'=e:=q2.elim .inr fun h=>.inl h.1
 unfold aeX
 split
 ·
  rename_i s hs;exact absurd hs (hns s)
 ·
  simp only [htx,q1,if_pos hcond,if_pos hm,h2,if_true]
theorem acI {k m:Nat} {ds:List Value} (htx:P.underlying tx=some (.slice tex)) (hx:Okv k m ds) (hm:ds.length=m * e) (h2:ds.all (·.oneCell')=true):WE P tx e (sv k e m ds) S=some (m,ds):=by
 unfold WE
 rw [JG]
 exact aeQ htx hx hm h2
theorem Vw {bytes k:Nat} {z:Value} {news:List Value} (hel:P.underlying t=some (.slice te)) (he:qI P te=some e) (hz:zeroOf P te=some z) (hzs:z.cells.size=e) (hb:bytesOf P te=some bytes) (hpos:0 < e) (hsrc:WE P tx e x S=some (k,news))
  (hg:S.get q=some (.cells cs (.own anc) e)) (hle:o+n * e≤cs.length) (hmax:(n+k) * bytes≤140737488355328) (hmax2:n+k≤4611686018427387903) (h1:((cs.drop o).take (n * e)).all (·.oneCell')=true) :
  yB P hp t tx (.slice (some ⟨q,o,none⟩) n c) x S=some (.slice (some ⟨S.next,0,none⟩) (n+k) (n+k),
   if o+n * e=cs.length then (S.set q (.cells cs .ro e)).push (.cells ((cs.drop o).take (n * e)++news) (.own (if n * e=0 then [] else q::anc)) e)
   else ((S.kills anc).set q .dead).push (.cells ((cs.drop o).take (n * e)++news) (.own []) e)):=by
 have hel2:wF P t=some te:=by simp only [wF,hel]
 simp only [yB,hel2,he,hz,hb,if_pos hpos,if_pos hzs,hsrc,hg,if_true,if_pos hle,if_pos hmax,if_pos hmax2,if_pos h1,yJ]
 by_cases h:o+n * e=cs.length
 ·
  rw [if_pos h,if_pos h]
 ·
  rw [if_neg h,if_neg h]
theorem aad {bytes k:Nat} {z:Value} {news:List Value} (hel:P.underlying t=some (.slice te)) (he:qI P te=some e) (hz:zeroOf P te=some z) (hzs:z.cells.size=e) (hb:bytesOf P te=some bytes) (hpos:0 < e) (hsrc:WE P tx e x S=some (k,news))
  (hmax:k * bytes≤140737488355328) (hmax2:k≤4611686018427387903) :
  yB P true t tx (.slice none 0 0) x S=some (if k=0 then .slice none 0 0 else .slice (some ⟨S.next,0,none⟩) k k,if k=0 then S else S.push (.cells news (.own []) e)):=by
 have hel2:wF P t=some te:=by simp only [wF,hel]
 simp only [yB,hel2,he,hz,hb,if_pos hpos,if_pos hzs,hsrc,if_pos hmax,if_pos hmax2,if_true]
 by_cases h:k=0
 ·
  rw [if_pos h,if_pos h,if_pos h]
 ·
  rw [if_neg h,if_neg h,if_neg h]
theorem aeK {r2 o2 c2:Nat} {cs2:List Value} {own2:Own} {e2:Nat} (ht:P.underlying t=some (.slice te)) (hs:qI P te=some e) (hg2:S.get r2=some (.cells cs2 own2 e2)) (hle2:o2+n * e≤cs2.length) (hg:S.get q=some (.cells cs (.own anc) i)) (hn:n≠0) (hle:o+n * e≤cs.length) (h1:((cs2.drop o2).take (n * e)).all (·.oneCell')=true) :
  WB P t tx (.slice (some ⟨q,o,none⟩) n c) (.slice (some ⟨r2,o2,none⟩) n c2) S=some (goInt n,(S.kills anc).set q (.cells (splice cs o ((cs2.drop o2).take (n * e))) (.own []) i)):=by
 have hel2:wF P t=some te:=by simp only [wF,ht]
 have hmin:Nat.min n n=n:=Nat.min_self n
 simp only [WB,hel2,hs,J9,hmin,if_neg hn,hg,wX,hg2,if_pos hle2,if_pos hle,h1,if_true]
theorem Kr (ht:P.underlying t=some (.slice te)) (hs:qI P te=some e) (c2:Nat) (s:Value) (hsn:∃ f,J9 s S=some (0,f)) (a:Option Addr) (ha:a=none∨∃ q o,a=some ⟨q,o,none⟩):WB P t tx (.slice a 0 0) s S=some (goInt 0,S):=by
 have hel2:wF P t=some te:=by simp only [wF,ht]
 obtain ⟨f,hf⟩:=hsn
 have hmin:Nat.min 0 0=0:=Nat.min_self 0
 rcases ha with rfl | ⟨q,o,rfl⟩
 ·
  simp only [WB,hel2,hs,hf]
 ·
  simp only [WB,hel2,hs,hf,hmin,if_true]
theorem XY {l:Nat} {k k2:IntKind} {z:Value} {bytes:Nat} (ht:P.underlying t=some (.slice te)) (he:qI P te=some e) (hz:zeroOf P te=some z) (hb:bytesOf P te=some bytes) (hgz:ground z=true) (hzs:z.cells.size=e) (hpos:0 < e) (hmax:l * bytes≤140737488355328) (hmax2:l≤9223372036854775807) :
  jU P t (.int k l) (.int k2 l) S=some (.slice (some ⟨S.next,0,none⟩) l l,S.push (.cells (zl z.cells.toList l) (.own []) e)):=by
 have hel2:wF P t=some te:=by simp only [wF,ht]
 have h0:(0:Int)≤(l:Int):=by omega
 have h1:(l:Int) * bytes≤140737488355328:=by
  have h:((l * bytes:Nat):Int)≤140737488355328:=by omega
  rwa [Int.natCast_mul] at h
 have h2:(l:Int)≤9223372036854775807:=by omega
 simp only [jU,hel2,he,hz,hb,if_pos hgz,if_pos hzs,if_pos hpos,if_pos h0,Int.le_refl,if_true,if_pos h1,if_pos h2,Int.toNat_natCast]
end
theorem Jp {α:Type} {f:α→List Value} {e k d:Nat} {l:List α} (hk:k≤2) (h:∀ x ∈ l,(f x).all (jk d)=true):jk (d+4) (vs f e k l)=true:=by
 unfold vs sv
 split
 ·
  rfl
 ·
  show ((l.flatMap f).toArray.toList.all (jk d))=true
  rw [List.toList_toArray,List.all_flatMap,List.all_eq_true]
  exact h
theorem Yx {k d:Nat} {l:List UInt8} (hk:k≤2):jk (d+5) (by_ k l)=true:=Jp hk (fun _ _=>rfl)
theorem abq {l:List Value} {d:Nat} (h:l.all (jk d)=true):jk (d+1) (.agg l.toArray)=true:=by
 show l.toArray.toList.all (jk d)=true
 simpa using h
theorem vY {l:List Value} {d:Nat} (h:l.all (jk d)=true):jk (d+1) (.tuple l.toArray)=true:=by
 show l.toArray.toList.all (jk d)=true
 simpa using h
theorem all1 {p:Value→Bool} {a:Value} (h:p a=true):[a].all p=true:=by simp [h]
theorem all2 {p:Value→Bool} {a b:Value} (h:p a=true) (k:p b=true):[a,b].all p=true:=by simp [h,k]
theorem ac1 {k e n:Nat} {cs:List Value}:(sv k e n cs).cells=#[sv k e n cs]:=by unfold sv;split <;> rfl
theorem acS {α:Type} {f:α→List Value} {e k:Nat} {l:List α}:(vs f e k l).cells=#[vs f e k l]:=ac1
theorem afz {k e n:Nat} {cs:List Value}:qK (sv k e n cs)=sv (if k=2 then 1 else k) e n cs:=by rw [← Vm];unfold sv;split <;> rfl
theorem afh {α:Type} {f:α→List Value} {e k:Nat} {l:List α}:qK (vs f e k l)=vs f e (if k=2 then 1 else k) l:=afz
theorem adA {k:IntKind} {n:Int}:qK (.int k n)=.int k n:=rfl
theorem xC {x:Array Value}:(Value.agg x).cells=x:=rfl
theorem Zb {k:IntKind} {n:Int}:(Value.int k n).cells=#[.int k n]:=rfl
@[simp] theorem KI (a:Option Addr) (n c:Nat):dem (.slice a n c)=.slice a n c:=Eq.trans rfl rfl
@[simp] theorem aav (a:Option Nat):dem (.map a)=.map a:=Eq.trans rfl rfl
theorem wrap_i64 {n:Int} (h0:-9223372036854775808≤n) (h:n < 9223372036854775808):IntKind.i64.wrap n=n:=by
 simp [IntKind.wrap,IntKind.bits,IntKind.signed]
 split <;> omega
theorem QL {l pre suf:List Int} {n:Int} (hl:l=pre++n::suf) (h:Int.toNat (pre.length:Int) < l.length):l[Int.toNat (pre.length:Int)]=n:=by
 subst hl;simp
theorem aeF {α:Type} {l pre suf:List α} {n:α} (hl:l=pre++n::suf) (h:Int.toNat (pre.length:Int) < l.length):l[Int.toNat (pre.length:Int)]=n:=by
 subst hl;simp
theorem afW (k:Nat):(if (if k=2 then 1 else k)=2 then 1 else if k=2 then 1 else k)=if k=2 then 1 else k:=by split <;> simp_all
theorem abV (k:Nat):(if k=2 then 1 else k)≠2:=by split <;> omega
theorem Z8 (Sa Sb:zx):yQ zh Sa Sb=true:=rfl
theorem QB (cs:List Value) (Sa Sb:zx):yQ (EP cs) Sa Sb=true:=rfl
theorem vX {q o e:Nat} {cs:List Value} {own:Own} {S:zx} (h:S.get q=some (.cells cs own e)):yQ (.pointer (some ⟨q,o,none⟩)) S S=true:=by
 simp only [yQ,h,Nat.sub_self,List.take_zero,List.contains_nil,Bool.not_false,Bool.and_self]
end Go.Abs
namespace Go.Abs
open Go.RowKit
section
variable {P:Program} {fx:Fx} {chk:List Nat} {call:FuncId→List Value→M Value} {ops:Array Oper}
theorem sP (f:Func) (i n:Nat) {l:List Oper} {T:List Value} {T1:Value→List Value} {S:zx} {v:Value} {r:Option (List Value×zx)} (hK:jy P fx call ops ((reg f i).toList.drop (n+1)) (T1 v) S=r) (hl:l=(opAt f i n)::((reg f i).toList.drop (n+1)):=by kernel_rfl) (hg:(opAt f i n).guard=none:=by kernel_rfl) (hm:∀ v,kN (opAt f i n) ((reg f i).toList.drop (n+1)) T v=T1 v:=by exact fun _=>rfl) (hs:jZ P fx call T (opAt f i n) S=some (v,S):=by kernel_rfl):jy P fx call ops l T S=r :=
 abO hl hg hm hs hK
theorem sD (f:Func) (i n:Nat) {l:List Oper} {T:List Value} {T1:Value→List Value} {S:zx} {s:Option (Value×zx)} {K:Value→zx→Option (List Value×zx)} (hK:∀ v S1,jy P fx call ops ((reg f i).toList.drop (n+1)) (T1 v) S1=K v S1) (hl:l=(opAt f i n)::((reg f i).toList.drop (n+1)):=by kernel_rfl) (hg:(opAt f i n).guard=none:=by kernel_rfl) (hm:∀ v,kN (opAt f i n) ((reg f i).toList.drop (n+1)) T v=T1 v:=by exact fun _=>rfl) (hs:jZ P fx call T (opAt f i n) S=s:=by kernel_rfl):jy P fx call ops l T S=zS s K () :=
 afv hl hg hm hs hK
theorem sG (f:Func) (i n:Nat) {l:List Oper} {T:List Value} {T1:Value→List Value} {S:zx} {j:Nat} {b:Bool} {g:Value} {s:M Value} {K:Value→zx→Option (List Value×zx)} (hK:∀ v S1,jy P fx call ops ((reg f i).toList.drop (n+1)) (T1 v) S1=K v S1) (hl:l=(opAt f i n)::((reg f i).toList.drop (n+1)):=by kernel_rfl) (hg:(opAt f i n).guard=some (j,b):=by kernel_rfl) (hm:∀ v,kN (opAt f i n) ((reg f i).toList.drop (n+1)) T v=T1 v:=by exact fun _=>rfl) (hy:ynd ops T j=vb g:=by kernel_rfl) (hs:jZ P fx call T (opAt f i n) S=s S:=by kernel_rfl):jy P fx call ops l T S=gdK g b s S K () :=
 aeJ hl hg hm hy hs hK
theorem tD (f:Func) (i n:Nat) {l:List Oper} {T:List Value} {T1:Value→List Value} {S:zx} {k:Nat} {s:Option (Value×zx)} {K:Value→zx→Option (List Value×zx)} (hK:∀ v S1,jK P fx chk [] call ops (k+1) [] ((reg f i).toList.drop (n+1)) (T1 v) S1=K v S1) (hc:chk.contains k=false:=by kernel_rfl) (hl:l=(opAt f i n)::((reg f i).toList.drop (n+1)):=by kernel_rfl) (hg:(opAt f i n).guard=none:=by kernel_rfl) (hm:∀ v,kN (opAt f i n) ((reg f i).toList.drop (n+1)) T v=T1 v:=by exact fun _=>rfl) (hs:jZ P fx call T (opAt f i n) S=s:=by kernel_rfl):jK P fx chk [] call ops k [] l T S=zS s K () :=
 acV hc hl hg hm hs hK
theorem tDC (f:Func) (i n:Nat) {l:List Oper} {T:List Value} {T1:Value→List Value} {S:zx} {k:Nat} {s:Option (Value×zx)} {K:Value→zx→Option (List Value×zx)} (hK:∀ v S1,jK P fx chk [] call ops (k+1) [] ((reg f i).toList.drop (n+1)) (T1 v) S1=K v S1) (hc:chk.contains k=true:=by kernel_rfl) (hl:l=(opAt f i n)::((reg f i).toList.drop (n+1)):=by kernel_rfl) (hg:(opAt f i n).guard=none:=by kernel_rfl) (hm:∀ v,kN (opAt f i n) ((reg f i).toList.drop (n+1)) T v=T1 v:=by exact fun _=>rfl) (hs:jZ P fx call T (opAt f i n) S=s:=by kernel_rfl):jK P fx chk [] call ops k [] l T S=zS s (fun v S1=>okK v (K v S1) ()) () :=
 acp hc hl hg hm hs hK
theorem tP (f:Func) (i n:Nat) {l:List Oper} {T:List Value} {T1:Value→List Value} {S:zx} {k:Nat} {v:Value} {r:Option (List Value×zx)} (hK:jK P fx chk [] call ops (k+1) [] ((reg f i).toList.drop (n+1)) (T1 v) S=r) (hc:chk.contains k=false:=by kernel_rfl) (hl:l=(opAt f i n)::((reg f i).toList.drop (n+1)):=by kernel_rfl) (hg:(opAt f i n).guard=none:=by kernel_rfl) (hm:∀ v,kN (opAt f i n) ((reg f i).toList.drop (n+1)) T v=T1 v:=by exact fun _=>rfl) (hs:jZ P fx call T (opAt f i n) S=some (v,S):=by kernel_rfl):jK P fx chk [] call ops k [] l T S=r :=
 aak hc hl hg hm hs hK
theorem tPC (f:Func) (i n:Nat) {l:List Oper} {T:List Value} {T1:Value→List Value} {S:zx} {k:Nat} {v:Value} {r:Option (List Value×zx)} (hK:jK P fx chk [] call ops (k+1) [] ((reg f i).toList.drop (n+1)) (T1 v) S=r) (hc:chk.contains k=true:=by kernel_rfl) (hl:l=(opAt f i n)::((reg f i).toList.drop (n+1)):=by kernel_rfl) (hg:(opAt f i n).guard=none:=by kernel_rfl) (hm:∀ v,kN (opAt f i n) ((reg f i).toList.drop (n+1)) T v=T1 v:=by exact fun _=>rfl) (hs:jZ P fx call T (opAt f i n) S=some (v,S):=by kernel_rfl):jK P fx chk [] call ops k [] l T S=okK v r () :=
 XC hc hl hg hm hs hK
theorem uD (f:Func) (i n:Nat) {l:List Oper} {T:List Value} {T1:Value→List Value} {S:zx} {k:Nat} {s:Option (Value×zx)} {K:Value→zx→Option (List Value×zx)} {x:Nat×Nat} {nl:List (Nat×Nat)} {hist:List (Value×zx)} {pe:Value} (hK:∀ v S1,jK P fx chk (x::nl) call ops (k+1) (hist++[(pe,S)]) ((reg f i).toList.drop (n+1)) (T1 v) S1=K v S1) (hc:chk.contains k=false:=by kernel_rfl) (hpe:y9 T (opAt f i n)=pe:=by kernel_rfl) (hl:l=(opAt f i n)::((reg f i).toList.drop (n+1)):=by kernel_rfl) (hg:(opAt f i n).guard=none:=by kernel_rfl) (hm:∀ v,kN (opAt f i n) ((reg f i).toList.drop (n+1)) T v=T1 v:=by exact fun _=>rfl) (hs:jZ P fx call T (opAt f i n) S=s:=by kernel_rfl):jK P fx chk (x::nl) call ops k hist l T S=zS s K () :=
 ada hc hpe hl hg hm hs hK
theorem uDC (f:Func) (i n:Nat) {l:List Oper} {T:List Value} {T1:Value→List Value} {S:zx} {k:Nat} {s:Option (Value×zx)} {K:Value→zx→Option (List Value×zx)} {x:Nat×Nat} {nl:List (Nat×Nat)} {hist:List (Value×zx)} {pe:Value} (hK:∀ v S1,jK P fx chk (x::nl) call ops (k+1) (hist++[(pe,S)]) ((reg f i).toList.drop (n+1)) (T1 v) S1=K v S1) (hc:chk.contains k=true:=by kernel_rfl) (hpe:y9 T (opAt f i n)=pe:=by kernel_rfl) (hl:l=(opAt f i n)::((reg f i).toList.drop (n+1)):=by kernel_rfl) (hg:(opAt f i n).guard=none:=by kernel_rfl) (hm:∀ v,kN (opAt f i n) ((reg f i).toList.drop (n+1)) T v=T1 v:=by exact fun _=>rfl) (hs:jZ P fx call T (opAt f i n) S=s:=by kernel_rfl):jK P fx chk (x::nl) call ops k hist l T S=zS s (fun v S1=>okK v (K v S1) ()) () :=
 aaz hc hpe hl hg hm hs hK
theorem uP (f:Func) (i n:Nat) {l:List Oper} {T:List Value} {T1:Value→List Value} {S:zx} {k:Nat} {v:Value} {r:Option (List Value×zx)} {x:Nat×Nat} {nl:List (Nat×Nat)} {hist:List (Value×zx)} {pe:Value} (hK:jK P fx chk (x::nl) call ops (k+1) (hist++[(pe,S)]) ((reg f i).toList.drop (n+1)) (T1 v) S=r) (hc:chk.contains k=false:=by kernel_rfl) (hpe:y9 T (opAt f i n)=pe:=by kernel_rfl) (hl:l=(opAt f i n)::((reg f i).toList.drop (n+1)):=by kernel_rfl) (hg:(opAt f i n).guard=none:=by kernel_rfl) (hm:∀ v,kN (opAt f i n) ((reg f i).toList.drop (n+1)) T v=T1 v:=by exact fun _=>rfl) (hs:jZ P fx call T (opAt f i n) S=some (v,S):=by kernel_rfl):jK P fx chk (x::nl) call ops k hist l T S=r :=
 VN hc hpe hl hg hm hs hK
theorem uPC (f:Func) (i n:Nat) {l:List Oper} {T:List Value} {T1:Value→List Value} {S:zx} {k:Nat} {v:Value} {r:Option (List Value×zx)} {x:Nat×Nat} {nl:List (Nat×Nat)} {hist:List (Value×zx)} {pe:Value} (hK:jK P fx chk (x::nl) call ops (k+1) (hist++[(pe,S)]) ((reg f i).toList.drop (n+1)) (T1 v) S=r) (hc:chk.contains k=true:=by kernel_rfl) (hpe:y9 T (opAt f i n)=pe:=by kernel_rfl) (hl:l=(opAt f i n)::((reg f i).toList.drop (n+1)):=by kernel_rfl) (hg:(opAt f i n).guard=none:=by kernel_rfl) (hm:∀ v,kN (opAt f i n) ((reg f i).toList.drop (n+1)) T v=T1 v:=by exact fun _=>rfl) (hs:jZ P fx call T (opAt f i n) S=some (v,S):=by kernel_rfl):jK P fx chk (x::nl) call ops k hist l T S=okK v r () :=
 XH hc hpe hl hg hm hs hK
theorem uG (f:Func) (i n:Nat) {l:List Oper} {T:List Value} {T1:Value→List Value} {S:zx} {j k:Nat} {b:Bool} {g:Value} {s:M Value} {K:Value→zx→Option (List Value×zx)} {x:Nat×Nat} {nl:List (Nat×Nat)} {hist:List (Value×zx)} {pe:Value} (hK:∀ v S1,jK P fx chk (x::nl) call ops (k+1) (hist++[(pe,S)]) ((reg f i).toList.drop (n+1)) (T1 v) S1=K v S1) (hc:chk.contains k=false:=by kernel_rfl) (hpe:y9 T (opAt f i n)=pe:=by kernel_rfl) (hl:l=(opAt f i n)::((reg f i).toList.drop (n+1)):=by kernel_rfl) (hg:(opAt f i n).guard=some (j,b):=by kernel_rfl) (hm:∀ v,kN (opAt f i n) ((reg f i).toList.drop (n+1)) T v=T1 v:=by exact fun _=>rfl) (hy:ynd ops T j=vb g:=by kernel_rfl) (hs:jZ P fx call T (opAt f i n) S=s S:=by kernel_rfl):jK P fx chk (x::nl) call ops k hist l T S=gdK g b s S K () :=
 adn hc hpe hl hg hm hy hs hK
end
end Go.Abs
namespace Go.Proofs.Ytblpnklfimkfoaa
open Go.Abs
def O0:Ora:=⟨fun _=>none,fun f=>([23,25,40]:List Nat).contains f,fun f=>([9,11,12,13,16,18,20,22,24,29,31,37,38,41]:List Nat).contains f⟩
theorem afC:KT zi O0:=adr
end Go.Proofs.Ytblpnklfimkfoaa
namespace Go.Proofs.Ytblpnklfimkfoaa
open Go.Abs
abbrev zH.id:FuncId:=25
noncomputable def zH.code:Code:=(.seq (.region 0 (reg Try.f25 0) false) (.seq (.region 1 (reg Try.f25 1) false) (.seq (.region 2 (reg Try.f25 2) false) (.seq (.region 3 (reg Try.f25 3) false) Code.ret))))
theorem zH.body:Try.f25.body=some zH.code:=by kernel_rfl
variable (b m u c o p q r s t d f g i j k l:Value) (S:zx)
theorem zH.r0 :jy zi ⟨true,false,false⟩ (yG O0.hp true (je zi O0)) (reg Try.f25 0) (reg Try.f25 0).toList ([b,m,u,c,o,p,q,r,s,t,d,f,g,i,j,k,l]) S =
  ( some ([b,m,Value.slice none 0 0,c,o,p,q,r,s,t,d,f,g,i,j,k,l],S)):=by
 kernel_rfl
theorem zH.r1 :jy zi ⟨true,false,false⟩ (yG O0.hp true (je zi O0)) (reg Try.f25 1) (reg Try.f25 1).toList ([b,m,u,c,o,p,q,r,s,t,d,f,g,i,j,k,l]) S =
  (zS (jL (dem b) S) (fun C n=>zS (zW zi 73 C 0 n) (fun w z=>zS (jA zi false 26 w z) (fun x A=>zS (qO zi 26 x A) (fun v B=>zS (jU zi 26 v v B) (fun y D=>some ([b,m,u,y,dem b,C,w,x,v,dem y,d,f,g,i,j,k,l],D)) ()) ()) ()) ()) ()):=by
 kernel_rfl
theorem zH.r2 :jy zi ⟨true,false,false⟩ (yG O0.hp true (je zi O0)) (reg Try.f25 2) (reg Try.f25 2).toList ([b,m,u,c,o,p,q,r,s,t,d,f,g,i,j,k,l]) S =
  (zS (jL (dem b) S) (fun w n=>zS (zW zi 73 w 0 n) (fun x z=>zS (jA zi false 26 x z) (fun v A=>zS (WB zi 26 26 (dem c) v A) (fun y B=>some ([b,m,u,c,o,p,q,r,s,t,dem c,dem b,w,x,v,y,l],B)) ()) ()) ()) ()):=by
 kernel_rfl
theorem zH.r3 :jy zi ⟨true,false,false⟩ (yG O0.hp true (je zi O0)) (reg Try.f25 3) (reg Try.f25 3).toList ([b,m,u,c,o,p,q,r,s,t,d,f,g,i,j,k,l]) S =
  ( some ([b,m,c,dem c,o,p,q,r,s,t,d,f,g,i,j,k,dem c],S)):=by
 kernel_rfl
theorem zH.rs:type_of% (ahi @zH.r0 (ahi @zH.r1 (ahi @zH.r2 (@zH.r3)))):=ahi @zH.r0 (ahi @zH.r1 (ahi @zH.r2 (@zH.r3)))
theorem zH.runs {b:Value} {S n:zx} {e:AEx} {T:List Value} (h:zG zi O0 true zH.code ([b,zh,zh,zh,zh,zh,zh,zh,zh,zh,zh,zh,zh,zh,zh,zh,zh]) S=some (e,T,n)) (he:e=.normal∨e=.ret):je zi O0 25 [b] S=some (T.getD 2 zh,n) :=
 jY rfl rfl Try.func25 (by decide) zH.body (by exact h) he (yM (a:=T.getD 2 zh) ((show zQ zi T n Try.f25.results.toList=zQ zi T n [(ResultVar.tmp 2)] from by kernel_rfl).trans (by simp only [zQ])) (by kernel_rfl))
end Go.Proofs.Ytblpnklfimkfoaa
namespace Go.Proofs.Ytblpnklfimkfoaa
open Go.Abs
theorem af8:zi.underlying 3=some (TypeDesc.int IntKind.i64):=by kernel_rfl
theorem adv:qI zi 3=some 1:=by kernel_rfl
theorem ag2:bytesOf zi 3=some 8:=by kernel_rfl
theorem agN:zeroOf zi 3=(some (Value.int IntKind.i64 0)):=by kernel_rfl
theorem QH:qg zi 3=some false:=by kernel_rfl
theorem KU:zi.underlying 5=some (TypeDesc.int IntKind.u8):=by kernel_rfl
theorem qH:qI zi 5=some 1:=by kernel_rfl
theorem J4:bytesOf zi 5=some 1:=by kernel_rfl
theorem JW:zeroOf zi 5=(some (Value.int IntKind.u8 0)):=by kernel_rfl
theorem afl:qg zi 5=some false:=by kernel_rfl
theorem ac3:zi.underlying 9=some TypeDesc.string:=by kernel_rfl
theorem yO:zi.underlying 22=some (TypeDesc.slice 28):=by kernel_rfl
theorem jJ:zi.underlying 26=some (TypeDesc.slice 5):=by kernel_rfl
theorem Q8:qI zi 26=some 1:=by kernel_rfl
theorem yY:qg zi 26=some false:=by kernel_rfl
theorem qo:qI zi 28=some 5:=by kernel_rfl
theorem QI:bytesOf zi 28=some 56:=by kernel_rfl
theorem QD:zeroOf zi 28=(some (Value.agg #[(Value.int IntKind.i64 0),(Value.int IntKind.i64 0),(Value.int IntKind.i64 0),(Value.int IntKind.i64 0),(Value.slice none 0 0)])):=by kernel_rfl
theorem Ku:qg zi 28=some true:=by kernel_rfl
theorem YC:zi.underlying 56=some (TypeDesc.slice 3):=by kernel_rfl
theorem Jq:zi.underlying 75=some (TypeDesc.int IntKind.u64):=by kernel_rfl
theorem xJ (q o:Nat) (S:zx):zW zi 28 (.pointer (some ⟨q,o,none⟩)) 0 S=some (.pointer (some ⟨q,o+0,none⟩),S):=by kernel_rfl
theorem xA (q o:Nat) (S:zx):zW zi 28 (.pointer (some ⟨q,o,none⟩)) 1 S=some (.pointer (some ⟨q,o+1,none⟩),S):=by kernel_rfl
theorem xK (q o:Nat) (S:zx):zW zi 28 (.pointer (some ⟨q,o,none⟩)) 2 S=some (.pointer (some ⟨q,o+2,none⟩),S):=by kernel_rfl
theorem xq (q o:Nat) (S:zx):zW zi 28 (.pointer (some ⟨q,o,none⟩)) 3 S=some (.pointer (some ⟨q,o+3,none⟩),S):=by kernel_rfl
theorem xI (q o:Nat) (S:zx):zW zi 28 (.pointer (some ⟨q,o,none⟩)) 4 S=some (.pointer (some ⟨q,o+4,none⟩),S):=by kernel_rfl
theorem wY (q o:Nat) (S:zx):zW zi 73 (.pointer (some ⟨q,o,none⟩)) 0 S=some (.pointer (some ⟨q,o+0,none⟩),S):=by kernel_rfl
theorem Wx (q o:Nat) (S:zx):zW zi 73 (.pointer (some ⟨q,o,none⟩)) 1 S=some (.pointer (some ⟨q,o+1,none⟩),S):=by kernel_rfl
theorem vO (q o:Nat) (S:zx):zW zi 73 (.pointer (some ⟨q,o,none⟩)) 2 S=some (.pointer (some ⟨q,o+2,none⟩),S):=by kernel_rfl
theorem Z4 {fx:Bool} {x0 x1 x2 x3 x4:Value} {S:zx}:jA zi fx 28 (EP [x0,x1,x2,x3,x4]) S=some (.agg [x0,x1,x2,x3,x4].toArray,S):=aap Ku qo rfl
theorem aam {q:Nat} {x0 x1 x2 x3 x4:Value} {own:Own} {e:Nat} {S:zx} (h:S.get q=some (.cells [x0,x1,x2,x3,x4] own e)):jA zi false 28 (.pointer (some ⟨q,0,none⟩)) S=some (.agg [qK x0,qK x1,qK x2,qK x3,qK x4].toArray,S):=(acW (o:=0) h Ku qo (by simp)).trans (by simp)
theorem VD  (S:zx):yR zi 28 [] S=some (.agg [(Value.int IntKind.i64 0),(Value.int IntKind.i64 0),(Value.int IntKind.i64 0),(Value.int IntKind.i64 0),(Value.slice none 0 0)].toArray,S):=by
 kernel_rfl
theorem vJ {y0 y1 y2 y3 y4:Value} (h0:y0.cells=#[y0]) (h1:y1.cells=#[y1]) (h2:y2.cells=#[y2]) (h3:y3.cells=#[y3]) (h4:y4.cells=#[y4]) (S:zx):yR zi 28 [(0,y0),(1,y1),(2,y2),(3,y3),(4,y4)] S=some (.agg [y0,y1,y2,y3,y4].toArray,S):=by
 rw [show yR zi 28 [(0,y0),(1,y1),(2,y2),(3,y3),(4,y4)] S=(match vK ([(0,1),(1,1),(2,1),(3,1),(4,1)][·]?) [(Value.int IntKind.i64 0),(Value.int IntKind.i64 0),(Value.int IntKind.i64 0),(Value.int IntKind.i64 0),(Value.slice none 0 0)] [(0,y0),(1,y1),(2,y2),(3,y3),(4,y4)] with | some l=>some (.agg l.toArray,S) | none=>none) from by kernel_rfl]
 simp [vK,splice,xC,h0,h1,h2,h3,h4]
theorem QC  (S:zx):yR zi 73 [] S=some (.agg [(Value.slice none 0 0),(Value.int IntKind.i64 0),(Value.int IntKind.i64 0)].toArray,S):=by
 kernel_rfl
@[simp] theorem qM (k:IntKind) (n:Int) (H:zx):wE zi 3 75 (.int k n) H=some (.int IntKind.u64 (IntKind.wrap IntKind.u64 n),H):=ZJ af8 Jq k n
@[simp] theorem JV (k:IntKind) (n:Int) (H:zx):wE zi 5 75 (.int k n) H=some (.int IntKind.u64 (IntKind.wrap IntKind.u64 n),H):=ZJ KU Jq k n
@[simp] theorem Y1 (k:IntKind) (n:Int) (H:zx):wE zi 75 3 (.int k n) H=some (.int IntKind.i64 (IntKind.wrap IntKind.i64 n),H):=ZJ Jq af8 k n
@[simp] theorem xG (k:IntKind) (n:Int) (H:zx):wE zi 75 5 (.int k n) H=some (.int IntKind.u8 (IntKind.wrap IntKind.u8 n),H):=ZJ Jq KU k n
theorem WG (S:zx):jh zi 22 0 [] S=some (sv 2 5 0 [],S):=by kernel_rfl
theorem xM (S:zx):jh zi 26 0 [] S=some (sv 2 1 0 [],S):=by kernel_rfl
theorem Jg (x0:Int) (S:zx):jh zi 26 1 [(0,.int IntKind.u8 x0)] S=some (sv 2 1 1 [.int IntKind.u8 x0],S):=by kernel_rfl
theorem aag (S:zx):jh zi 56 0 [] S=some (sv 2 1 0 [],S):=by kernel_rfl
theorem V6 (x0:Int) (S:zx):jh zi 56 1 [(0,.int IntKind.i64 x0)] S=some (sv 2 1 1 [.int IntKind.i64 x0],S):=by kernel_rfl
theorem qp {k:Nat} {l:List UInt8} {S:zx} (h:Okl k l):qO zi 26 (by_ k l) S=some (goInt l.length,S):=aax jJ h
theorem agQ {k:Nat} {l:List UInt8} {S:zx} {ki:IntKind} {i:Int} (h:Okl k l) (h0:0≤i) (hi:i < l.length):jv zi 26 (by_ k l) (.int ki i) S=some (EP [.int .u8 (l[i.toNat]'(by omega)).toNat],S):=aeR jJ qH QO h h0 hi
theorem aeZ {fx:Bool} {v:Value} {S:zx}:jA zi fx 5 (EP [v]) S=some (v,S):=Q9 afl
theorem Zw {k:Nat} {l:List UInt8} {S:zx} {lo hi:Option Value} {i j:Int} (h:Okl k l) (hlo:yX 0 lo=some i) (hhi:yX l.length hi=some j) (h0:0≤i) (hij:i≤j) (hj:j≤l.length):y5 zi 26 (by_ k l) lo hi S=some (by_ (if k=2 then 1 else k) ((l.drop i.toNat).take (j.toNat - i.toNat)),S):=XP jJ qH QO h hlo hhi h0 hij hj
theorem qU {k:Nat} {l:List UInt8} {S:zx} {j:Nat} {m:List UInt8} (h:Okl k l) (hk:k≠1) (hm:Okl j m) (hl:l.length+m.length≤140737488355328):jF zi 26 26 (by_ k l) (by_ j m) S=some (by_ (if k=0∧m.length=0 then 0 else 2) (l++m),S):=Zc jJ qH JW rfl J4 (by omega) jJ QO agu h hk hm (by omega) (by omega)
theorem aeT {k:Nat} {l:List UInt8} {S:zx} (h:Okl k l) (hl:l.length≤140737488355328):jF zi 26 26 (by_ 2 []) (by_ k l) S=some (by_ 2 l,S):=by
 rw [qU Okl.own (by decide) h (by simpa using hl)];rfl
theorem acH {k:Nat} {l:List UInt8} {S:zx} (h:Okl k l):wz zi .eql 26 (by_ k l) (.slice none 0 0) S=some (.bool (decide (k=0)),S):=adl jJ h
theorem ad2 {k:Nat} {l:List UInt8} {S:zx} (h:Okl k l):vI zi 26 9 (by_ k l) S=some (.string ⟨l.toArray⟩,S):=aaK jJ KU ac3 h
theorem Vh {k:Nat} {l:List Int} {S:zx} (h:Okl k l):qO zi 56 (iz k l) S=some (goInt l.length,S):=aax YC h
theorem aeL {k:Nat} {l:List Int} {S:zx} {ki:IntKind} {i:Int} (h:Okl k l) (h0:0≤i) (hi:i < l.length):jv zi 56 (iz k l) (.int ki i) S=some (EP [.int .i64 (l[i.toNat]'(by omega))],S):=aeR YC adv aeh h h0 hi
theorem xw {fx:Bool} {v:Value} {S:zx}:jA zi fx 3 (EP [v]) S=some (v,S):=Q9 QH
theorem QA {k:Nat} {l:List Int} {S:zx} {j:Nat} {m:List Int} (h:Okl k l) (hk:k≠1) (hm:Okl j m) (hl:l.length+m.length≤17592186044416):jF zi 56 56 (iz k l) (iz j m) S=some (iz (if k=0∧m.length=0 then 0 else 2) (l++m),S):=Zc YC adv agN rfl ag2 (by omega) YC aeh agI h hk hm (by omega) (by omega)
theorem wk:type_of% (ahi @WQ (ahi @ZF (ahi @Jb (ahi @J6 (ahi @Yi (ahi @J8 (ahi @Wl (ahi @Wn (ahi @Jf (ahi @QZ (ahi @JL (ahi @QE (ahi @Vp (ahi @Zf (ahi @Yl (ahi @J3 (ahi @Yo (ahi @Wi (ahi @Kq (ahi @aem (ahi @aeo (ahi @ad5 (ahi @aea (ahi @aeb (ahi @aaN (ahi @aat (ahi @aar (ahi @aaS (ahi @abS (ahi @X9 (ahi @Z8 (ahi @QB (ahi @Bool.and_true (ahi @Bool.true_and (ahi @Bool.and_self (ahi @Vb (ahi @aa4 (ahi @WS (ahi @QF (ahi @JE (ahi @aes (ahi @aey (ahi @aeB (ahi @aex (ahi @af2 (ahi @agz (ahi @afX (ahi @agk (ahi @agD (ahi @aez (ahi @ad6 (ahi @aeD (ahi @ad4 (ahi @adU (ahi @aaM (ahi @WM (ahi @Bool.false_eq_true (ahi @X5 (ahi @aaU (ahi @Yh (ahi @KE (ahi @KJ (ahi @adZ (ahi @KP (ahi @aew (ahi @JU (ahi @aaL (ahi @Va (ahi @Yc (ahi @acg (ahi @ab5 (ahi @X0 (ahi @Jw (ahi @KI (ahi @aav (ahi @abe (ahi @Vm (ahi @YX (ahi @XO (ahi @Jr (ahi @Qv (ahi @KC (ahi @Yf (ahi @Zu (ahi @vS (ahi @JK (ahi @Ze (ahi @ZL (ahi @Yb (ahi @vP (ahi @vM (ahi @vU (ahi @Qi (ahi @Ql (ahi @XQ (ahi @Qj (ahi @YV (ahi @Qe (ahi @YH (ahi @YP (ahi @YB (ahi @aa3 (ahi @Bool.not_true (ahi @Bool.not_false (ahi @Bool.true_eq_false (ahi @decide_true (ahi @decide_false (ahi @ab7 (ahi @aa5 (ahi @abh (ahi @aa2 (ahi @aa9 (ahi @aaH (ahi @ab9 (ahi @aaD (ahi @abl (ahi @aa0 (ahi @aaI (ahi @aa8 (ahi @ach (ahi @aaW (@abX)))))))))))))))))))))))))))))))))))))))))))))))))))))))))))))))))))))))))))))))))))))))))))))))))))))))))))))))))))))))))):=ahi @WQ (ahi @ZF (ahi @Jb (ahi @J6 (ahi @Yi (ahi @J8 (ahi @Wl (ahi @Wn (ahi @Jf (ahi @QZ (ahi @JL (ahi @QE (ahi @Vp (ahi @Zf (ahi @Yl (ahi @J3 (ahi @Yo (ahi @Wi (ahi @Kq (ahi @aem (ahi @aeo (ahi @ad5 (ahi @aea (ahi @aeb (ahi @aaN (ahi @aat (ahi @aar (ahi @aaS (ahi @abS (ahi @X9 (ahi @Z8 (ahi @QB (ahi @Bool.and_true (ahi @Bool.true_and (ahi @Bool.and_self (ahi @Vb (ahi @aa4 (ahi @WS (ahi @QF (ahi @JE (ahi @aes (ahi @aey (ahi @aeB (ahi @aex (ahi @af2 (ahi @agz (ahi @afX (ahi @agk (ahi @agD (ahi @aez (ahi @ad6 (ahi @aeD (ahi @ad4 (ahi @adU (ahi @aaM (ahi @WM (ahi @Bool.false_eq_true (ahi @X5 (ahi @aaU (ahi @Yh (ahi @KE (ahi @KJ (ahi @adZ (ahi @KP (ahi @aew (ahi @JU (ahi @aaL (ahi @Va (ahi @Yc (ahi @acg (ahi @ab5 (ahi @X0 (ahi @Jw (ahi @KI (ahi @aav (ahi @abe (ahi @Vm (ahi @YX (ahi @XO (ahi @Jr (ahi @Qv (ahi @KC (ahi @Yf (ahi @Zu (ahi @vS (ahi @JK (ahi @Ze (ahi @ZL (ahi @Yb (ahi @vP (ahi @vM (ahi @vU (ahi @Qi (ahi @Ql (ahi @XQ (ahi @Qj (ahi @YV (ahi @Qe (ahi @YH (ahi @YP (ahi @YB (ahi @aa3 (ahi @Bool.not_true (ahi @Bool.not_false (ahi @Bool.true_eq_false (ahi @decide_true (ahi @decide_false (ahi @ab7 (ahi @aa5 (ahi @abh (ahi @aa2 (ahi @aa9 (ahi @aaH (ahi @ab9 (ahi @aaD (ahi @abl (ahi @aa0 (ahi @aaI (ahi @aa8 (ahi @ach (ahi @aaW (@abX)))))))))))))))))))))))))))))))))))))))))))))))))))))))))))))))))))))))))))))))))))))))))))))))))))))))))))))))))))))))))
theorem zSs:type_of% (ahi wk (ahi (@List.getD_cons_succ Value) (ahi (@List.getD_cons_zero Value) (ahi @if_true.{1} (ahi @if_false.{1} (ahi (@List.getElem?_cons_succ Value) (ahi (@List.getElem?_cons_zero Value) (ahi @Option.map_some.{0,0} @eq_self.{1})))))))):=ahi wk (ahi (@List.getD_cons_succ Value) (ahi (@List.getD_cons_zero Value) (ahi @if_true.{1} (ahi @if_false.{1} (ahi (@List.getElem?_cons_succ Value) (ahi (@List.getElem?_cons_zero Value) (ahi @Option.map_some.{0,0} @eq_self.{1})))))))
end Go.Proofs.Ytblpnklfimkfoaa
namespace Go.Proofs.Ytblpnklfimkfoaa
open Go.Abs
def Ym (args:List Value):M Value:=fun S =>
 match args with
 | [.pointer (some ⟨q,0,none⟩)]=>match S.get q with
  | some (.cells (dv::_) _ _)=>if q < S.next then match dv with
   | .slice none 0 0=>some (SL 2 1 0 [],S)
   | .slice (some ⟨r,0,none⟩) n _=>match S.get r with
    | some (.cells cs _ _)=>if n≤cs.length then if (cs.take n).all sg then if n≤140737488355328 then if r < S.next then some (SL 2 1 n (cs.take n),S) else none else none else none else none
    | _=>none
   | _=>none
   else none
  | _=>none
 | _=>none
theorem ZW {cs xs:List Value} (h:cs.length=xs.length):splice cs 0 xs=xs:=by
 unfold splice
 rw [List.take_zero,List.nil_append,Nat.zero_add,← h,List.drop_length,List.append_nil]
theorem ZR {l:List Value} (h:l.all sg=true):l.all (·.oneCell')=true:=by
 rw [List.all_eq_true] at *
 intro x hx
 have:=h x hx
 cases x <;> first | rfl | (simp [sg] at this)
theorem zH.nil {S:zx} {q e:Nat} {rest:List Value} {own:Own} (hq:S.get q=some (.cells (.slice none 0 0::rest) own e)) (hlt:q < S.next) :
  je zi O0 zH.id [.pointer (some ⟨q,0,none⟩)] S=some (.slice (some ⟨S.next,0,none⟩) 0 0,S.push (.cells [] (.own []) 1)):=by
 obtain ⟨T,hTe⟩:∃ T,T=(.pointer (some ⟨q,0,none⟩)::zh::zh::zh::zh::zh::zh::zh::zh::zh::zh::zh::zh::zh::zh::zh::zh::[]):=⟨_,rfl⟩
 have hr:zG zi O0 true zH.code T S=zG zi O0 true zH.code T S:=rfl
 have l1:=xu (t:=26) (o:=0+0) hq yY rfl
 have m1:=XY (S:=S) (k:=.i64) (k2:=.i64) (l:=0) jJ qH JW J4 rfl rfl (by decide) (by decide) (by decide)
 have hq2:(S.push (.cells (zl (Value.int .u8 0).cells.toList 0) (.own []) 1)).get q=some (.cells (.slice none 0 0::rest) own e):=by rw [zx.zZ,if_neg (by omega)];exact hq
 have l2:=xu (t:=26) (o:=0+0) hq2 yY rfl
 have c2:=Kr (P:=zi) (t:=26) (tx:=26) (S:=S.push (.cells (zl (Value.int .u8 0).cells.toList 0) (.own []) 1)) jJ qH 0 (.slice none 0 0) ⟨_,rfl⟩ (some ⟨S.next,0,none⟩) (.inr ⟨_,_,rfl⟩)
 have ln:=fun S=>Qn jJ none 0 0 S
 conv at hr =>
  rhs
  rw [hTe]
  simp only [zH.code,zH.rs,zSs,reduceIte,zk,zn,zo,zq,yj,wY,l1,ln,goInt,m1,l2,c2]
 rw [hTe] at hr
 exact zH.runs hr (.inr rfl)
theorem zH.full {S:zx} {q e r n c i:Nat} {rest cs:List Value} {own own2:Own} (hq:S.get q=some (.cells (.slice (some ⟨r,0,none⟩) n c::rest) own e)) (hlt:q < S.next) (hg:S.get r=some (.cells cs own2 i)) (hn:n≤cs.length)
  (hs:(cs.take n).all sg=true) (hb:n≤140737488355328) (hrn:r < S.next) :
  ∃ S1,je zi O0 zH.id [.pointer (some ⟨q,0,none⟩)] S=some (.slice (some ⟨S.next,0,none⟩) n n,S1)∧Ext S S1∧S1.get S.next=some (.cells (cs.take n) (.own []) 1):=by
 obtain ⟨T,hTe⟩:∃ T,T=(.pointer (some ⟨q,0,none⟩)::zh::zh::zh::zh::zh::zh::zh::zh::zh::zh::zh::zh::zh::zh::zh::zh::[]):=⟨_,rfl⟩
 have hr:zG zi O0 true zH.code T S=zG zi O0 true zH.code T S:=rfl
 have l1:=xu (t:=26) (o:=0+0) hq yY rfl
 have m1:=XY (S:=S) (k:=.i64) (k2:=.i64) (l:=n) jJ qH JW J4 rfl rfl (by decide) (by omega) (by omega)
 have hq2:(S.push (.cells (zl (Value.int .u8 0).cells.toList n) (.own []) 1)).get q=some (.cells (.slice (some ⟨r,0,none⟩) n c::rest) own e):=by rw [zx.zZ,if_neg (by omega)];exact hq
 have hg2:(S.push (.cells (zl (Value.int .u8 0).cells.toList n) (.own []) 1)).get r=some (.cells cs own2 i):=by rw [zx.zZ,if_neg (by omega)];exact hg
 have hg3:(S.push (.cells (zl (Value.int .u8 0).cells.toList n) (.own []) 1)).get S.next=some (.cells (zl (Value.int .u8 0).cells.toList n) (.own []) 1):=by rw [zx.zZ,if_pos rfl]
 have l2:=xu (t:=26) (o:=0+0) hq2 yY rfl
 have ln:=fun S=>Qn jJ (some ⟨r,0,none⟩) n c S
 by_cases h0:n=0
 ·
  subst h0
  have c2:WB zi 26 26 (.slice (some ⟨S.next,0,none⟩) 0 0) (.slice (some ⟨r,0,none⟩) 0 c) (S.push (.cells (zl (Value.int .u8 0).cells.toList 0) (.own []) 1))=some (goInt 0,S.push (.cells (zl (Value.int .u8 0).cells.toList 0) (.own []) 1)) :=
   Kr jJ qH 0 _ ⟨_,rfl⟩ (some ⟨S.next,0,none⟩) (.inr ⟨_,_,rfl⟩)
  conv at hr =>
   rhs
   rw [hTe]
   simp only [zH.code,zH.rs,zSs,reduceIte,zk,zn,zo,zq,yj,wY,l1,ln,goInt,m1,l2,c2]
  rw [hTe] at hr
  have hrun:=zH.runs hr (.inr rfl)
  exact ⟨_,hrun,Ext.push _ _,hg3⟩
 ·
  have c2:=aeK (t:=26) (tx:=26) (o:=0) (o2:=0) (c:=n) (c2:=c) jJ qH hg2 (n:=n) (by omega) hg3 h0 (by rw [XL];show 0+n * 1≤n * 1;omega) (by rw [List.drop_zero,Nat.mul_one];exact ZR hs)
  conv at hr =>
   rhs
   rw [hTe]
   simp only [zH.code,zH.rs,zSs,reduceIte,zk,zn,zo,zq,yj,wY,l1,ln,goInt,m1,l2,c2]
  rw [hTe] at hr
  have hrun:=zH.runs hr (.inr rfl)
  refine ⟨_,hrun,(Ext.push _ _).set (Nat.le_refl _) _,?_⟩
  rw [zx.jw,if_pos rfl,List.drop_zero,Nat.mul_one,ZW (by rw [XL,List.length_take,Nat.min_eq_left hn];show n * 1=n;omega)]
theorem aaT:ZK zi (fun g args=>if g=25 then Ym args else fun _=>none):=by
 refine afS afC fun args S v S' h=>?_
 unfold Ym at h
 split at h <;> first | (cases h;done) | skip
 rename_i q
 split at h <;> first | (cases h;done) | skip
 rename_i dv rest own e hq
 split at h <;> first | (cases h;done) | skip
 rename_i hlt
 split at h <;> first | (cases h;done) | skip
 ·
  cases h
  exact ⟨rfl,_,_,zH.nil hq hlt,Ext.push _ _,.own rfl (Nat.le_refl _) (by rw [zx.zZ,if_pos rfl]) rfl rfl⟩
 ·
  rename_i r n c
  split at h <;> first | (cases h;done) | skip
  rename_i cs own2 i hg
  split at h <;> first | (cases h;done) | skip
  rename_i h1
  split at h <;> first | (cases h;done) | skip
  rename_i h2
  split at h <;> first | (cases h;done) | skip
  rename_i h3
  split at h <;> first | (cases h;done) | skip
  rename_i h4
  cases h
  obtain ⟨S1,k1,k2,k3⟩:=zH.full hq hlt hg h1 h2 h3 h4
  exact ⟨rfl,_,S1,k1,k2,.own rfl (Nat.le_refl _) k3 (by rw [List.length_take,Nat.min_eq_left h1,Nat.mul_one]) h2⟩
end Go.Proofs.Ytblpnklfimkfoaa
namespace Go.Proofs.Ytblpnklfimkfoaa
open Go.Abs
def O:Ora:=⟨fun f=>if f=25 then some Ym else none,fun f=>([23,25,40]:List Nat).contains f,fun f=>([9,11,12,13,16,18,20,22,24,29,31,37,38,41]:List Nat).contains f⟩
theorem agn:KT zi O:=by
 intro f q h
 simp only [O] at h
 split at h
 ·
  rename_i hf;subst hf;cases h;exact aaT
 ·
  cases h
end Go.Proofs.Ytblpnklfimkfoaa
namespace Go.Proofs.Ytblpnklfimkfoaa
open Go.Abs
noncomputable def zu.jB:Code:=(.seq (.region 9 (reg Try.f8 9) false) (.seq (.cond (.tmp 36) Code.skip (.exit 0)) (.seq (.block 1 (.seq (.region 10 (reg Try.f8 10) false) (.seq (.region 11 (reg Try.f8 11) false) (.seq (.region 12 (reg Try.f8 12) false) (.cond (.tmp 45) (.seq (.region 13 (reg Try.f8 13) false) (.seq (.region 14 (reg Try.f8 14) false) (.region 15 (reg Try.f8 15) false))) Code.skip))))) (.region 16 (reg Try.f8 16) false))))
noncomputable def zu.WI:Code:=(.seq (.region 20 (reg Try.f8 20) false) (.seq (.cond (.tmp 66) Code.skip (.exit 2)) (.seq (.block 3 (.seq (.region 21 (reg Try.f8 21) false) (.seq (.region 22 (reg Try.f8 22) false) (.cond (.tmp 72) (.region 23 (reg Try.f8 23) false) Code.skip)))) (.region 24 (reg Try.f8 24) false))))
noncomputable def zu.code:Code:=(.seq (.region 0 (reg Try.f8 0) false) (.seq (.seq (.region 1 (reg Try.f8 1) false) (.cond (.tmp 22) (.seq (.region 2 (reg Try.f8 2) false) Code.ret) Code.skip)) (.seq (.seq (.region 3 (reg Try.f8 3) false) (.cond (.tmp 29) (.seq (.region 4 (reg Try.f8 4) false) Code.ret) Code.skip)) (.seq (.region 5 (reg Try.f8 5) false) (.seq (.region 6 (reg Try.f8 6) false) (.seq (.region 7 (reg Try.f8 7) false) (.seq (.seq (.region 8 (reg Try.f8 8) false) (.block 0 (.loop zu.jB))) (.seq (.region 17 (reg Try.f8 17) false) (.seq (.region 18 (reg Try.f8 18) false) (.seq (.seq (.region 19 (reg Try.f8 19) false) (.block 2 (.loop zu.WI))) (.seq (.region 25 (reg Try.f8 25) false) (.seq (.seq (.region 26 (reg Try.f8 26) false) (.cond (.tmp 96) (.seq (.region 27 (reg Try.f8 27) false) Code.ret) Code.skip)) (.seq (.region 28 (reg Try.f8 28) false) (.seq (.region 29 (reg Try.f8 29) false) (.seq (.region 30 (reg Try.f8 30) false) (.seq (.seq (.region 31 (reg Try.f8 31) false) (.cond (.tmp 109) (.seq (.region 32 (reg Try.f8 32) false) Code.ret) Code.skip)) (.seq (.region 33 (reg Try.f8 33) true) Code.ret)))))))))))))))))
theorem zu.body:Try.f8.body=some zu.code:=by kernel_rfl
theorem zu.eta {T:List Value} (h:T.length=121):T=[T.getD 0 zh,T.getD 1 zh,T.getD 2 zh,T.getD 3 zh,T.getD 4 zh,T.getD 5 zh,T.getD 6 zh,T.getD 7 zh,T.getD 8 zh,T.getD 9 zh,T.getD 10 zh,T.getD 11 zh,T.getD 12 zh,T.getD 13 zh,T.getD 14 zh,T.getD 15 zh,T.getD 16 zh,T.getD 17 zh,T.getD 18 zh,T.getD 19 zh,T.getD 20 zh,T.getD 21 zh,T.getD 22 zh,T.getD 23 zh,T.getD 24 zh,T.getD 25 zh,T.getD 26 zh,T.getD 27 zh,T.getD 28 zh,T.getD 29 zh,T.getD 30 zh,T.getD 31 zh,T.getD 32 zh,T.getD 33 zh,T.getD 34 zh,T.getD 35 zh,T.getD 36 zh,T.getD 37 zh,T.getD 38 zh,T.getD 39 zh,T.getD 40 zh,T.getD 41 zh,T.getD 42 zh,T.getD 43 zh,T.getD 44 zh,T.getD 45 zh,T.getD 46 zh,T.getD 47 zh,T.getD 48 zh,T.getD 49 zh,T.getD 50 zh,T.getD 51 zh,T.getD 52 zh,T.getD 53 zh,T.getD 54 zh,T.getD 55 zh,T.getD 56 zh,T.getD 57 zh,T.getD 58 zh,T.getD 59 zh,T.getD 60 zh,T.getD 61 zh,T.getD 62 zh,T.getD 63 zh,T.getD 64 zh,T.getD 65 zh,T.getD 66 zh,T.getD 67 zh,T.getD 68 zh,T.getD 69 zh,T.getD 70 zh,T.getD 71 zh,T.getD 72 zh,T.getD 73 zh,T.getD 74 zh,T.getD 75 zh,T.getD 76 zh,T.getD 77 zh,T.getD 78 zh,T.getD 79 zh,T.getD 80 zh,T.getD 81 zh,T.getD 82 zh,T.getD 83 zh,T.getD 84 zh,T.getD 85 zh,T.getD 86 zh,T.getD 87 zh,T.getD 88 zh,T.getD 89 zh,T.getD 90 zh,T.getD 91 zh,T.getD 92 zh,T.getD 93 zh,T.getD 94 zh,T.getD 95 zh,T.getD 96 zh,T.getD 97 zh,T.getD 98 zh,T.getD 99 zh,T.getD 100 zh,T.getD 101 zh,T.getD 102 zh,T.getD 103 zh,T.getD 104 zh,T.getD 105 zh,T.getD 106 zh,T.getD 107 zh,T.getD 108 zh,T.getD 109 zh,T.getD 110 zh,T.getD 111 zh,T.getD 112 zh,T.getD 113 zh,T.getD 114 zh,T.getD 115 zh,T.getD 116 zh,T.getD 117 zh,T.getD 118 zh,T.getD 119 zh,T.getD 120 zh]:=(qw T 121 h).trans (by kernel_rfl)
variable (x0 x1 x2 x3 x4 x5 x6 x7 x8 x9 L F G H C I J D M B A U V W X Y Z a0 a1 a2 a3 a4 a5 N P K a6 a7 a8 a9 b0 b1 b2 b3 b4 b5 b6 b7 b8 b9 c0 c1 c2 c3 c4 c5 c6 c7 c8 c9 d0 d1 d2 Q R E d3 d4 d5 d6 d7 d8 d9 f0 f1 f2 f3 f4 f5 f6 f7 f9 g0 g1 g2 g3 g4 g5 g6 g7 g8 g9 i0 i1 i2 i3 i4 i5 i6 i7 b c d f g i k l m n o p q r s t u w x y z:Value) (S:zx)
theorem zu.r0 :jy zi ⟨false,false,false⟩ (je zi O) (reg Try.f8 0) (reg Try.f8 0).toList ([x0,x1,x2,x3,x4,x5,x6,x7,x8,x9,L,F,G,H,C,I,J,D,M,B,A,U,V,W,X,Y,Z,a0,a1,a2,a3,a4,a5,N,P,K,a6,a7,a8,a9,b0,b1,b2,b3,b4,b5,b6,b7,b8,b9,c0,c1,c2,c3,c4,c5,c6,c7,c8,c9,d0,d1,d2,Q,R,E,d3,d4,d5,d6,d7,d8,d9,f0,f1,f2,f3,f4,f5,f6,f7,f9,g0,g1,g2,g3,g4,g5,g6,g7,g8,g9,i0,i1,i2,i3,i4,i5,i6,i7,b,c,d,f,g,i,k,l,m,n,o,p,q,r,s,t,u,w,x,y,z]) S =
  (zS (YJ (dem x2) S) (fun v0 S1=>some ([x0,x1,x2,x3,x4,v0,Value.bool false,x7,x8,x9,L,F,G,H,C,I,J,D,M,B,A,U,V,W,X,Y,Z,a0,a1,a2,a3,a4,a5,N,P,K,a6,a7,a8,a9,b0,b1,b2,b3,b4,b5,b6,b7,b8,b9,c0,c1,c2,c3,c4,c5,c6,c7,c8,c9,d0,d1,d2,Q,R,E,d3,d4,d5,d6,d7,d8,d9,f0,f1,f2,f3,f4,f5,f6,f7,f9,g0,g1,g2,g3,g4,g5,g6,g7,g8,g9,i0,i1,i2,i3,i4,i5,i6,i7,b,c,d,f,g,i,k,l,m,n,o,p,q,r,s,t,u,w,x,y,z],S1)) ()):=by
 kernel_rfl
theorem zu.r1 :jy zi ⟨false,false,false⟩ (je zi O) (reg Try.f8 1) (reg Try.f8 1).toList ([x0,x1,x2,x3,x4,x5,x6,x7,x8,x9,L,F,G,H,C,I,J,D,M,B,A,U,V,W,X,Y,Z,a0,a1,a2,a3,a4,a5,N,P,K,a6,a7,a8,a9,b0,b1,b2,b3,b4,b5,b6,b7,b8,b9,c0,c1,c2,c3,c4,c5,c6,c7,c8,c9,d0,d1,d2,Q,R,E,d3,d4,d5,d6,d7,d8,d9,f0,f1,f2,f3,f4,f5,f6,f7,f9,g0,g1,g2,g3,g4,g5,g6,g7,g8,g9,i0,i1,i2,i3,i4,i5,i6,i7,b,c,d,f,g,i,k,l,m,n,o,p,q,r,s,t,u,w,x,y,z]) S =
  (zS ((je zi O) 10 [] S) (fun v0 S1=>zS (aUn zi UnOp.not v0 S1) (fun v1 S2=>some ([x0,x1,x2,x3,x4,x5,x6,x7,x8,x9,L,F,G,H,C,I,J,D,M,B,A,v0,v1,W,X,Y,Z,a0,a1,a2,a3,a4,a5,N,P,K,a6,a7,a8,a9,b0,b1,b2,b3,b4,b5,b6,b7,b8,b9,c0,c1,c2,c3,c4,c5,c6,c7,c8,c9,d0,d1,d2,Q,R,E,d3,d4,d5,d6,d7,d8,d9,f0,f1,f2,f3,f4,f5,f6,f7,f9,g0,g1,g2,g3,g4,g5,g6,g7,g8,g9,i0,i1,i2,i3,i4,i5,i6,i7,b,c,d,f,g,i,k,l,m,n,o,p,q,r,s,t,u,w,x,y,z],S2)) ()) ()):=by
 kernel_rfl
theorem zu.r2 :jy zi ⟨false,false,false⟩ (je zi O) (reg Try.f8 2) (reg Try.f8 2).toList ([x0,x1,x2,x3,x4,x5,x6,x7,x8,x9,L,F,G,H,C,I,J,D,M,B,A,U,V,W,X,Y,Z,a0,a1,a2,a3,a4,a5,N,P,K,a6,a7,a8,a9,b0,b1,b2,b3,b4,b5,b6,b7,b8,b9,c0,c1,c2,c3,c4,c5,c6,c7,c8,c9,d0,d1,d2,Q,R,E,d3,d4,d5,d6,d7,d8,d9,f0,f1,f2,f3,f4,f5,f6,f7,f9,g0,g1,g2,g3,g4,g5,g6,g7,g8,g9,i0,i1,i2,i3,i4,i5,i6,i7,b,c,d,f,g,i,k,l,m,n,o,p,q,r,s,t,u,w,x,y,z]) S =
  ( some ([x0,x1,x2,x3,x4,x5,Value.bool false,x7,x8,x9,L,F,G,H,C,I,J,D,M,B,A,U,V,W,X,Y,Z,a0,a1,a2,a3,a4,a5,N,P,K,a6,a7,a8,a9,b0,b1,b2,b3,b4,b5,b6,b7,b8,b9,c0,c1,c2,c3,c4,c5,c6,c7,c8,c9,d0,d1,d2,Q,R,E,d3,d4,d5,d6,d7,d8,d9,f0,f1,f2,f3,f4,f5,f6,f7,f9,g0,g1,g2,g3,g4,g5,g6,g7,g8,g9,i0,i1,i2,i3,i4,i5,i6,i7,b,c,d,f,g,i,k,l,m,n,o,p,q,r,s,t,u,w,x,y,z],S)):=by
 kernel_rfl
theorem zu.r3 :jy zi ⟨false,false,false⟩ (je zi O) (reg Try.f8 3) (reg Try.f8 3).toList ([x0,x1,x2,x3,x4,x5,x6,x7,x8,x9,L,F,G,H,C,I,J,D,M,B,A,U,V,W,X,Y,Z,a0,a1,a2,a3,a4,a5,N,P,K,a6,a7,a8,a9,b0,b1,b2,b3,b4,b5,b6,b7,b8,b9,c0,c1,c2,c3,c4,c5,c6,c7,c8,c9,d0,d1,d2,Q,R,E,d3,d4,d5,d6,d7,d8,d9,f0,f1,f2,f3,f4,f5,f6,f7,f9,g0,g1,g2,g3,g4,g5,g6,g7,g8,g9,i0,i1,i2,i3,i4,i5,i6,i7,b,c,d,f,g,i,k,l,m,n,o,p,q,r,s,t,u,w,x,y,z]) S =
  (zS (qO zi 22 (dem x0) S) (fun v1 S1=>zS (wz zi BinOp.gtr 3 v1 (.int .i64 30) S1) (fun v2 S2=>gdK (dem v2) false (ret x1) S2 (fun v4 S3=>gdK (dem v2) false (wz zi BinOp.lss 3 (dem v4) (.int .i64 0)) S3 (fun v5 S4=>zS (qY (dem v2) (Value.bool true) v5 S4) (fun v6 S5=>some ([x0,x1,x2,x3,x4,x5,x6,x7,x8,x9,L,F,G,H,C,I,J,D,M,B,A,U,V,dem x0,v1,v2,dem v2,dem v4,v5,v6,a3,a4,a5,N,P,K,a6,a7,a8,a9,b0,b1,b2,b3,b4,b5,b6,b7,b8,b9,c0,c1,c2,c3,c4,c5,c6,c7,c8,c9,d0,d1,d2,Q,R,E,d3,d4,d5,d6,d7,d8,d9,f0,f1,f2,f3,f4,f5,f6,f7,f9,g0,g1,g2,g3,g4,g5,g6,g7,g8,g9,i0,i1,i2,i3,i4,i5,i6,i7,b,c,d,f,g,i,k,l,m,n,o,p,q,r,s,t,u,w,x,y,z],S5)) ()) ()) ()) ()) ()):=by
 refine sP Try.f8 3 0 (v:=x0) ?_
 refine sD Try.f8 3 1 (fun v1 S1=>?_)
 refine sD Try.f8 3 2 (fun v2 S2=>?_)
 refine sP Try.f8 3 3 (v:=v2) ?_
 refine sG Try.f8 3 4 (j:=3) (fun v4 S3=>?_)
 refine sG Try.f8 3 5 (j:=3) (fun v5 S4=>?_)
 refine sD Try.f8 3 6 (fun v6 S5=>?_)
 kernel_rfl
theorem zu.r4 :jy zi ⟨false,false,false⟩ (je zi O) (reg Try.f8 4) (reg Try.f8 4).toList ([x0,x1,x2,x3,x4,x5,x6,x7,x8,x9,L,F,G,H,C,I,J,D,M,B,A,U,V,W,X,Y,Z,a0,a1,a2,a3,a4,a5,N,P,K,a6,a7,a8,a9,b0,b1,b2,b3,b4,b5,b6,b7,b8,b9,c0,c1,c2,c3,c4,c5,c6,c7,c8,c9,d0,d1,d2,Q,R,E,d3,d4,d5,d6,d7,d8,d9,f0,f1,f2,f3,f4,f5,f6,f7,f9,g0,g1,g2,g3,g4,g5,g6,g7,g8,g9,i0,i1,i2,i3,i4,i5,i6,i7,b,c,d,f,g,i,k,l,m,n,o,p,q,r,s,t,u,w,x,y,z]) S =
  ( some ([x0,x1,x2,x3,x4,x5,Value.bool true,x7,x8,x9,L,F,G,H,C,I,J,D,M,B,A,U,V,W,X,Y,Z,a0,a1,a2,a3,a4,a5,N,P,K,a6,a7,a8,a9,b0,b1,b2,b3,b4,b5,b6,b7,b8,b9,c0,c1,c2,c3,c4,c5,c6,c7,c8,c9,d0,d1,d2,Q,R,E,d3,d4,d5,d6,d7,d8,d9,f0,f1,f2,f3,f4,f5,f6,f7,f9,g0,g1,g2,g3,g4,g5,g6,g7,g8,g9,i0,i1,i2,i3,i4,i5,i6,i7,b,c,d,f,g,i,k,l,m,n,o,p,q,r,s,t,u,w,x,y,z],S)):=by
 kernel_rfl
theorem zu.r5 :jy zi ⟨false,false,false⟩ (je zi O) (reg Try.f8 5) (reg Try.f8 5).toList ([x0,x1,x2,x3,x4,x5,x6,x7,x8,x9,L,F,G,H,C,I,J,D,M,B,A,U,V,W,X,Y,Z,a0,a1,a2,a3,a4,a5,N,P,K,a6,a7,a8,a9,b0,b1,b2,b3,b4,b5,b6,b7,b8,b9,c0,c1,c2,c3,c4,c5,c6,c7,c8,c9,d0,d1,d2,Q,R,E,d3,d4,d5,d6,d7,d8,d9,f0,f1,f2,f3,f4,f5,f6,f7,f9,g0,g1,g2,g3,g4,g5,g6,g7,g8,g9,i0,i1,i2,i3,i4,i5,i6,i7,b,c,d,f,g,i,k,l,m,n,o,p,q,r,s,t,u,w,x,y,z]) S =
  (zS (jh zi 26 0 [] S) (fun v0 S1=>some ([x0,x1,x2,x3,x4,x5,x6,v0,x8,x9,L,F,G,H,C,I,J,D,M,B,A,U,V,W,X,Y,Z,a0,a1,a2,dem v0,a4,a5,N,P,K,a6,a7,a8,a9,b0,b1,b2,b3,b4,b5,b6,b7,b8,b9,c0,c1,c2,c3,c4,c5,c6,c7,c8,c9,d0,d1,d2,Q,R,E,d3,d4,d5,d6,d7,d8,d9,f0,f1,f2,f3,f4,f5,f6,f7,f9,g0,g1,g2,g3,g4,g5,g6,g7,g8,g9,i0,i1,i2,i3,i4,i5,i6,i7,b,c,d,f,g,i,k,l,m,n,o,p,q,r,s,t,u,w,x,y,z],S1)) ()):=by
 kernel_rfl
theorem zu.r6 :jy zi ⟨false,false,false⟩ (je zi O) (reg Try.f8 6) (reg Try.f8 6).toList ([x0,x1,x2,x3,x4,x5,x6,x7,x8,x9,L,F,G,H,C,I,J,D,M,B,A,U,V,W,X,Y,Z,a0,a1,a2,a3,a4,a5,N,P,K,a6,a7,a8,a9,b0,b1,b2,b3,b4,b5,b6,b7,b8,b9,c0,c1,c2,c3,c4,c5,c6,c7,c8,c9,d0,d1,d2,Q,R,E,d3,d4,d5,d6,d7,d8,d9,f0,f1,f2,f3,f4,f5,f6,f7,f9,g0,g1,g2,g3,g4,g5,g6,g7,g8,g9,i0,i1,i2,i3,i4,i5,i6,i7,b,c,d,f,g,i,k,l,m,n,o,p,q,r,s,t,u,w,x,y,z]) S =
  (zS (jh zi 22 0 [] S) (fun v0 S1=>some ([x0,x1,x2,x3,x4,x5,x6,x7,v0,x9,L,F,G,H,C,I,J,D,M,B,A,U,V,W,X,Y,Z,a0,a1,a2,a3,dem v0,a5,N,P,K,a6,a7,a8,a9,b0,b1,b2,b3,b4,b5,b6,b7,b8,b9,c0,c1,c2,c3,c4,c5,c6,c7,c8,c9,d0,d1,d2,Q,R,E,d3,d4,d5,d6,d7,d8,d9,f0,f1,f2,f3,f4,f5,f6,f7,f9,g0,g1,g2,g3,g4,g5,g6,g7,g8,g9,i0,i1,i2,i3,i4,i5,i6,i7,b,c,d,f,g,i,k,l,m,n,o,p,q,r,s,t,u,w,x,y,z],S1)) ()):=by
 kernel_rfl
theorem zu.r7 :jy zi ⟨false,false,false⟩ (je zi O) (reg Try.f8 7) (reg Try.f8 7).toList ([x0,x1,x2,x3,x4,x5,x6,x7,x8,x9,L,F,G,H,C,I,J,D,M,B,A,U,V,W,X,Y,Z,a0,a1,a2,a3,a4,a5,N,P,K,a6,a7,a8,a9,b0,b1,b2,b3,b4,b5,b6,b7,b8,b9,c0,c1,c2,c3,c4,c5,c6,c7,c8,c9,d0,d1,d2,Q,R,E,d3,d4,d5,d6,d7,d8,d9,f0,f1,f2,f3,f4,f5,f6,f7,f9,g0,g1,g2,g3,g4,g5,g6,g7,g8,g9,i0,i1,i2,i3,i4,i5,i6,i7,b,c,d,f,g,i,k,l,m,n,o,p,q,r,s,t,u,w,x,y,z]) S =
  (zS (jh zi 56 0 [] S) (fun v0 S1=>some ([x0,x1,x2,x3,x4,x5,x6,x7,x8,v0,L,F,G,H,C,I,J,D,M,B,A,U,V,W,X,Y,Z,a0,a1,a2,a3,a4,dem v0,N,P,K,a6,a7,a8,a9,b0,b1,b2,b3,b4,b5,b6,b7,b8,b9,c0,c1,c2,c3,c4,c5,c6,c7,c8,c9,d0,d1,d2,Q,R,E,d3,d4,d5,d6,d7,d8,d9,f0,f1,f2,f3,f4,f5,f6,f7,f9,g0,g1,g2,g3,g4,g5,g6,g7,g8,g9,i0,i1,i2,i3,i4,i5,i6,i7,b,c,d,f,g,i,k,l,m,n,o,p,q,r,s,t,u,w,x,y,z],S1)) ()):=by
 kernel_rfl
theorem zu.r8 :jy zi ⟨false,false,false⟩ (je zi O) (reg Try.f8 8) (reg Try.f8 8).toList ([x0,x1,x2,x3,x4,x5,x6,x7,x8,x9,L,F,G,H,C,I,J,D,M,B,A,U,V,W,X,Y,Z,a0,a1,a2,a3,a4,a5,N,P,K,a6,a7,a8,a9,b0,b1,b2,b3,b4,b5,b6,b7,b8,b9,c0,c1,c2,c3,c4,c5,c6,c7,c8,c9,d0,d1,d2,Q,R,E,d3,d4,d5,d6,d7,d8,d9,f0,f1,f2,f3,f4,f5,f6,f7,f9,g0,g1,g2,g3,g4,g5,g6,g7,g8,g9,i0,i1,i2,i3,i4,i5,i6,i7,b,c,d,f,g,i,k,l,m,n,o,p,q,r,s,t,u,w,x,y,z]) S =
  (zS (qO zi 22 (dem x0) S) (fun v1 S1=>some ([x0,x1,x2,x3,x4,x5,x6,x7,x8,x9,L,F,G,H,C,I,J,D,M,B,A,U,V,W,X,Y,Z,a0,a1,a2,a3,a4,a5,dem x0,v1,.int .i64 0,a6,a7,a8,a9,b0,b1,b2,b3,b4,b5,b6,b7,b8,b9,c0,c1,c2,c3,c4,c5,c6,c7,c8,c9,d0,d1,d2,Q,R,E,d3,d4,d5,d6,d7,d8,d9,f0,f1,f2,f3,f4,f5,f6,f7,f9,g0,g1,g2,g3,g4,g5,g6,g7,g8,g9,i0,i1,i2,i3,i4,i5,i6,i7,b,c,d,f,g,i,k,l,m,n,o,p,q,r,s,t,u,w,x,y,z],S1)) ()):=by
 kernel_rfl
theorem zu.r9 :jy zi ⟨false,false,false⟩ (je zi O) (reg Try.f8 9) (reg Try.f8 9).toList ([x0,x1,x2,x3,x4,x5,x6,x7,x8,x9,L,F,G,H,C,I,J,D,M,B,A,U,V,W,X,Y,Z,a0,a1,a2,a3,a4,a5,N,P,K,a6,a7,a8,a9,b0,b1,b2,b3,b4,b5,b6,b7,b8,b9,c0,c1,c2,c3,c4,c5,c6,c7,c8,c9,d0,d1,d2,Q,R,E,d3,d4,d5,d6,d7,d8,d9,f0,f1,f2,f3,f4,f5,f6,f7,f9,g0,g1,g2,g3,g4,g5,g6,g7,g8,g9,i0,i1,i2,i3,i4,i5,i6,i7,b,c,d,f,g,i,k,l,m,n,o,p,q,r,s,t,u,w,x,y,z]) S =
  (zS (wz zi BinOp.lss 3 K P S) (fun v0 S1=>some ([x0,x1,x2,x3,x4,x5,x6,x7,x8,x9,L,F,G,H,C,I,J,D,M,B,A,U,V,W,X,Y,Z,a0,a1,a2,a3,a4,a5,N,P,K,v0,a7,a8,a9,b0,b1,b2,b3,b4,b5,b6,b7,b8,b9,c0,c1,c2,c3,c4,c5,c6,c7,c8,c9,d0,d1,d2,Q,R,E,d3,d4,d5,d6,d7,d8,d9,f0,f1,f2,f3,f4,f5,f6,f7,f9,g0,g1,g2,g3,g4,g5,g6,g7,g8,g9,i0,i1,i2,i3,i4,i5,i6,i7,b,c,d,f,g,i,k,l,m,n,o,p,q,r,s,t,u,w,x,y,z],S1)) ()):=by
 kernel_rfl
theorem zu.r10 :jy zi ⟨false,false,false⟩ (je zi O) (reg Try.f8 10) (reg Try.f8 10).toList ([x0,x1,x2,x3,x4,x5,x6,x7,x8,x9,L,F,G,H,C,I,J,D,M,B,A,U,V,W,X,Y,Z,a0,a1,a2,a3,a4,a5,N,P,K,a6,a7,a8,a9,b0,b1,b2,b3,b4,b5,b6,b7,b8,b9,c0,c1,c2,c3,c4,c5,c6,c7,c8,c9,d0,d1,d2,Q,R,E,d3,d4,d5,d6,d7,d8,d9,f0,f1,f2,f3,f4,f5,f6,f7,f9,g0,g1,g2,g3,g4,g5,g6,g7,g8,g9,i0,i1,i2,i3,i4,i5,i6,i7,b,c,d,f,g,i,k,l,m,n,o,p,q,r,s,t,u,w,x,y,z]) S =
  (zS (jv zi 22 N K S) (fun v0 S1=>zS (jA zi false 28 v0 S1) (fun v1 S2=>zS (qW zi 28 S2) (fun v2 S3=>zS (qG zi 28 v2 (dem v1) S3) (fun v3 S4=>some ([x0,x1,x2,x3,x4,x5,x6,x7,x8,x9,L,v2,G,H,C,I,J,D,M,B,A,U,V,W,X,Y,Z,a0,a1,a2,a3,a4,a5,N,P,K,a6,v0,v1,a9,b0,b1,b2,b3,b4,b5,b6,b7,b8,b9,c0,c1,c2,c3,c4,c5,c6,c7,c8,c9,d0,d1,d2,Q,R,E,d3,d4,d5,d6,d7,d8,d9,f0,f1,f2,f3,f4,f5,f6,f7,f9,g0,g1,g2,g3,g4,g5,g6,g7,g8,g9,i0,i1,i2,i3,i4,i5,i6,i7,b,c,d,f,g,i,k,l,m,n,o,p,q,r,s,t,u,w,x,y,z],S4)) ()) ()) ()) ()):=by
 kernel_rfl
theorem zu.r11 :jy zi ⟨false,false,false⟩ (je zi O) (reg Try.f8 11) (reg Try.f8 11).toList ([x0,x1,x2,x3,x4,x5,x6,x7,x8,x9,L,F,G,H,C,I,J,D,M,B,A,U,V,W,X,Y,Z,a0,a1,a2,a3,a4,a5,N,P,K,a6,a7,a8,a9,b0,b1,b2,b3,b4,b5,b6,b7,b8,b9,c0,c1,c2,c3,c4,c5,c6,c7,c8,c9,d0,d1,d2,Q,R,E,d3,d4,d5,d6,d7,d8,d9,f0,f1,f2,f3,f4,f5,f6,f7,f9,g0,g1,g2,g3,g4,g5,g6,g7,g8,g9,i0,i1,i2,i3,i4,i5,i6,i7,b,c,d,f,g,i,k,l,m,n,o,p,q,r,s,t,u,w,x,y,z]) S =
  (zS (jA zi false 28 F S) (fun v0 S1=>zS ((je zi O) 11 [(dem v0)] S1) (fun v1 S2=>zS (zL v1 0 S2) (fun v3 S3=>zS (zL (zY 0 v1) 1 S3) (fun v4 S4=>some ([x0,x1,x2,x3,x4,x5,x6,x7,x8,x9,L,F,v3,v4,C,I,J,D,M,B,A,U,V,W,X,Y,Z,a0,a1,a2,a3,a4,a5,N,P,K,a6,a7,a8,zY 1 (zY 0 v1),v0,dem v1,dem v3,dem v4,b4,b5,b6,b7,b8,b9,c0,c1,c2,c3,c4,c5,c6,c7,c8,c9,d0,d1,d2,Q,R,E,d3,d4,d5,d6,d7,d8,d9,f0,f1,f2,f3,f4,f5,f6,f7,f9,g0,g1,g2,g3,g4,g5,g6,g7,g8,g9,i0,i1,i2,i3,i4,i5,i6,i7,b,c,d,f,g,i,k,l,m,n,o,p,q,r,s,t,u,w,x,y,z],S4)) ()) ()) ()) ()):=by
 kernel_rfl
theorem zu.r12 :jy zi ⟨false,false,false⟩ (je zi O) (reg Try.f8 12) (reg Try.f8 12).toList ([x0,x1,x2,x3,x4,x5,x6,x7,x8,x9,L,F,G,H,C,I,J,D,M,B,A,U,V,W,X,Y,Z,a0,a1,a2,a3,a4,a5,N,P,K,a6,a7,a8,a9,b0,b1,b2,b3,b4,b5,b6,b7,b8,b9,c0,c1,c2,c3,c4,c5,c6,c7,c8,c9,d0,d1,d2,Q,R,E,d3,d4,d5,d6,d7,d8,d9,f0,f1,f2,f3,f4,f5,f6,f7,f9,g0,g1,g2,g3,g4,g5,g6,g7,g8,g9,i0,i1,i2,i3,i4,i5,i6,i7,b,c,d,f,g,i,k,l,m,n,o,p,q,r,s,t,u,w,x,y,z]) S =
  (zS (wz zi BinOp.eql 29 (dem H) (.int .i64 0) S) (fun v1 S1=>some ([x0,x1,x2,x3,x4,x5,x6,x7,x8,x9,L,F,G,H,C,I,J,D,M,B,A,U,V,W,X,Y,Z,a0,a1,a2,a3,a4,a5,N,P,K,a6,a7,a8,a9,b0,b1,b2,b3,dem H,v1,b6,b7,b8,b9,c0,c1,c2,c3,c4,c5,c6,c7,c8,c9,d0,d1,d2,Q,R,E,d3,d4,d5,d6,d7,d8,d9,f0,f1,f2,f3,f4,f5,f6,f7,f9,g0,g1,g2,g3,g4,g5,g6,g7,g8,g9,i0,i1,i2,i3,i4,i5,i6,i7,b,c,d,f,g,i,k,l,m,n,o,p,q,r,s,t,u,w,x,y,z],S1)) ()):=by
 kernel_rfl
theorem zu.r13 :jy zi ⟨false,false,false⟩ (je zi O) (reg Try.f8 13) (reg Try.f8 13).toList ([x0,x1,x2,x3,x4,x5,x6,x7,x8,x9,L,F,G,H,C,I,J,D,M,B,A,U,V,W,X,Y,Z,a0,a1,a2,a3,a4,a5,N,P,K,a6,a7,a8,a9,b0,b1,b2,b3,b4,b5,b6,b7,b8,b9,c0,c1,c2,c3,c4,c5,c6,c7,c8,c9,d0,d1,d2,Q,R,E,d3,d4,d5,d6,d7,d8,d9,f0,f1,f2,f3,f4,f5,f6,f7,f9,g0,g1,g2,g3,g4,g5,g6,g7,g8,g9,i0,i1,i2,i3,i4,i5,i6,i7,b,c,d,f,g,i,k,l,m,n,o,p,q,r,s,t,u,w,x,y,z]) S =
  (zS (jF zi 26 26 x7 (dem G) S) (fun v2 S1=>some ([x0,x1,x2,x3,x4,x5,x6,v2,x8,x9,L,F,G,H,C,I,J,D,M,B,A,U,V,W,X,Y,Z,a0,a1,a2,a3,a4,a5,N,P,K,a6,a7,a8,a9,b0,b1,b2,b3,b4,b5,dem x7,dem G,dem v2,b9,c0,c1,c2,c3,c4,c5,c6,c7,c8,c9,d0,d1,d2,Q,R,E,d3,d4,d5,d6,d7,d8,d9,f0,f1,f2,f3,f4,f5,f6,f7,f9,g0,g1,g2,g3,g4,g5,g6,g7,g8,g9,i0,i1,i2,i3,i4,i5,i6,i7,b,c,d,f,g,i,k,l,m,n,o,p,q,r,s,t,u,w,x,y,z],S1)) ()):=by
 kernel_rfl
theorem zu.r14 :jy zi ⟨false,false,false⟩ (je zi O) (reg Try.f8 14) (reg Try.f8 14).toList ([x0,x1,x2,x3,x4,x5,x6,x7,x8,x9,L,F,G,H,C,I,J,D,M,B,A,U,V,W,X,Y,Z,a0,a1,a2,a3,a4,a5,N,P,K,a6,a7,a8,a9,b0,b1,b2,b3,b4,b5,b6,b7,b8,b9,c0,c1,c2,c3,c4,c5,c6,c7,c8,c9,d0,d1,d2,Q,R,E,d3,d4,d5,d6,d7,d8,d9,f0,f1,f2,f3,f4,f5,f6,f7,f9,g0,g1,g2,g3,g4,g5,g6,g7,g8,g9,i0,i1,i2,i3,i4,i5,i6,i7,b,c,d,f,g,i,k,l,m,n,o,p,q,r,s,t,u,w,x,y,z]) S =
  (zS (jA zi false 28 F S) (fun v1 S1=>zS (jh zi 22 1 [(0,v1)] S1) (fun v2 S2=>zS (jF zi 22 22 x8 v2 S2) (fun v3 S3=>some ([x0,x1,x2,x3,x4,x5,x6,x7,v3,x9,L,F,G,H,C,I,J,D,M,B,A,U,V,W,X,Y,Z,a0,a1,a2,a3,a4,a5,N,P,K,a6,a7,a8,a9,b0,b1,b2,b3,b4,b5,b6,b7,b8,dem x8,v1,v2,dem v3,c3,c4,c5,c6,c7,c8,c9,d0,d1,d2,Q,R,E,d3,d4,d5,d6,d7,d8,d9,f0,f1,f2,f3,f4,f5,f6,f7,f9,g0,g1,g2,g3,g4,g5,g6,g7,g8,g9,i0,i1,i2,i3,i4,i5,i6,i7,b,c,d,f,g,i,k,l,m,n,o,p,q,r,s,t,u,w,x,y,z],S3)) ()) ()) ()):=by
 kernel_rfl
theorem zu.r15 :jy zi ⟨false,false,false⟩ (je zi O) (reg Try.f8 15) (reg Try.f8 15).toList ([x0,x1,x2,x3,x4,x5,x6,x7,x8,x9,L,F,G,H,C,I,J,D,M,B,A,U,V,W,X,Y,Z,a0,a1,a2,a3,a4,a5,N,P,K,a6,a7,a8,a9,b0,b1,b2,b3,b4,b5,b6,b7,b8,b9,c0,c1,c2,c3,c4,c5,c6,c7,c8,c9,d0,d1,d2,Q,R,E,d3,d4,d5,d6,d7,d8,d9,f0,f1,f2,f3,f4,f5,f6,f7,f9,g0,g1,g2,g3,g4,g5,g6,g7,g8,g9,i0,i1,i2,i3,i4,i5,i6,i7,b,c,d,f,g,i,k,l,m,n,o,p,q,r,s,t,u,w,x,y,z]) S =
  (zS (qO zi 26 (dem x7) S) (fun v2 S1=>zS (jh zi 56 1 [(0,v2)] S1) (fun v3 S2=>zS (jF zi 56 56 x9 v3 S2) (fun v4 S3=>some ([x0,x1,x2,x3,x4,x5,x6,x7,x8,v4,L,F,G,H,C,I,J,D,M,B,A,U,V,W,X,Y,Z,a0,a1,a2,a3,a4,a5,N,P,K,a6,a7,a8,a9,b0,b1,b2,b3,b4,b5,b6,b7,b8,b9,c0,c1,c2,dem x9,dem x7,v2,v3,dem v4,c8,c9,d0,d1,d2,Q,R,E,d3,d4,d5,d6,d7,d8,d9,f0,f1,f2,f3,f4,f5,f6,f7,f9,g0,g1,g2,g3,g4,g5,g6,g7,g8,g9,i0,i1,i2,i3,i4,i5,i6,i7,b,c,d,f,g,i,k,l,m,n,o,p,q,r,s,t,u,w,x,y,z],S3)) ()) ()) ()):=by
 kernel_rfl
theorem zu.r16 :jy zi ⟨false,false,false⟩ (je zi O) (reg Try.f8 16) (reg Try.f8 16).toList ([x0,x1,x2,x3,x4,x5,x6,x7,x8,x9,L,F,G,H,C,I,J,D,M,B,A,U,V,W,X,Y,Z,a0,a1,a2,a3,a4,a5,N,P,K,a6,a7,a8,a9,b0,b1,b2,b3,b4,b5,b6,b7,b8,b9,c0,c1,c2,c3,c4,c5,c6,c7,c8,c9,d0,d1,d2,Q,R,E,d3,d4,d5,d6,d7,d8,d9,f0,f1,f2,f3,f4,f5,f6,f7,f9,g0,g1,g2,g3,g4,g5,g6,g7,g8,g9,i0,i1,i2,i3,i4,i5,i6,i7,b,c,d,f,g,i,k,l,m,n,o,p,q,r,s,t,u,w,x,y,z]) S =
  (zS (wz zi BinOp.add 3 K (.int .i64 1) S) (fun v0 S1=>some ([x0,x1,x2,x3,x4,x5,x6,x7,x8,x9,L,F,G,H,C,I,J,D,M,B,A,U,V,W,X,Y,Z,a0,a1,a2,a3,a4,a5,N,P,dem v0,a6,a7,a8,a9,b0,b1,b2,b3,b4,b5,b6,b7,b8,b9,c0,c1,c2,c3,c4,c5,c6,c7,v0,c9,d0,d1,d2,Q,R,E,d3,d4,d5,d6,d7,d8,d9,f0,f1,f2,f3,f4,f5,f6,f7,f9,g0,g1,g2,g3,g4,g5,g6,g7,g8,g9,i0,i1,i2,i3,i4,i5,i6,i7,b,c,d,f,g,i,k,l,m,n,o,p,q,r,s,t,u,w,x,y,z],S1)) ()):=by
 kernel_rfl
theorem zu.r17 :jy zi ⟨false,false,false⟩ (je zi O) (reg Try.f8 17) (reg Try.f8 17).toList ([x0,x1,x2,x3,x4,x5,x6,x7,x8,x9,L,F,G,H,C,I,J,D,M,B,A,U,V,W,X,Y,Z,a0,a1,a2,a3,a4,a5,N,P,K,a6,a7,a8,a9,b0,b1,b2,b3,b4,b5,b6,b7,b8,b9,c0,c1,c2,c3,c4,c5,c6,c7,c8,c9,d0,d1,d2,Q,R,E,d3,d4,d5,d6,d7,d8,d9,f0,f1,f2,f3,f4,f5,f6,f7,f9,g0,g1,g2,g3,g4,g5,g6,g7,g8,g9,i0,i1,i2,i3,i4,i5,i6,i7,b,c,d,f,g,i,k,l,m,n,o,p,q,r,s,t,u,w,x,y,z]) S =
  (zS (qO zi 26 (dem x7) S) (fun v2 S1=>zS (yK zi false Builtin.min #[3,3] 3 [(dem x1),v2] S1) (fun v3 S2=>some ([x0,v3,x2,x3,x4,x5,x6,x7,x8,x9,L,F,G,H,C,I,J,D,M,B,A,U,V,W,X,Y,Z,a0,a1,a2,a3,a4,a5,N,P,K,a6,a7,a8,a9,b0,b1,b2,b3,b4,b5,b6,b7,b8,b9,c0,c1,c2,c3,c4,c5,c6,c7,c8,dem x1,dem x7,v2,dem v3,Q,R,E,d3,d4,d5,d6,d7,d8,d9,f0,f1,f2,f3,f4,f5,f6,f7,f9,g0,g1,g2,g3,g4,g5,g6,g7,g8,g9,i0,i1,i2,i3,i4,i5,i6,i7,b,c,d,f,g,i,k,l,m,n,o,p,q,r,s,t,u,w,x,y,z],S2)) ()) ()):=by
 kernel_rfl
theorem zu.r18 :jy zi ⟨false,false,false⟩ (je zi O) (reg Try.f8 18) (reg Try.f8 18).toList ([x0,x1,x2,x3,x4,x5,x6,x7,x8,x9,L,F,G,H,C,I,J,D,M,B,A,U,V,W,X,Y,Z,a0,a1,a2,a3,a4,a5,N,P,K,a6,a7,a8,a9,b0,b1,b2,b3,b4,b5,b6,b7,b8,b9,c0,c1,c2,c3,c4,c5,c6,c7,c8,c9,d0,d1,d2,Q,R,E,d3,d4,d5,d6,d7,d8,d9,f0,f1,f2,f3,f4,f5,f6,f7,f9,g0,g1,g2,g3,g4,g5,g6,g7,g8,g9,i0,i1,i2,i3,i4,i5,i6,i7,b,c,d,f,g,i,k,l,m,n,o,p,q,r,s,t,u,w,x,y,z]) S =
  ( some ([x0,x1,x2,x3,x4,x5,x6,x7,x8,x9,L,F,G,H,.int .i64 0,.int .i64 0,J,D,M,B,A,U,V,W,X,Y,Z,a0,a1,a2,a3,a4,a5,N,P,K,a6,a7,a8,a9,b0,b1,b2,b3,b4,b5,b6,b7,b8,b9,c0,c1,c2,c3,c4,c5,c6,c7,c8,c9,d0,d1,d2,Q,R,E,d3,d4,d5,d6,d7,d8,d9,f0,f1,f2,f3,f4,f5,f6,f7,f9,g0,g1,g2,g3,g4,g5,g6,g7,g8,g9,i0,i1,i2,i3,i4,i5,i6,i7,b,c,d,f,g,i,k,l,m,n,o,p,q,r,s,t,u,w,x,y,z],S)):=by
 kernel_rfl
theorem zu.r19 :jy zi ⟨false,false,false⟩ (je zi O) (reg Try.f8 19) (reg Try.f8 19).toList ([x0,x1,x2,x3,x4,x5,x6,x7,x8,x9,L,F,G,H,C,I,J,D,M,B,A,U,V,W,X,Y,Z,a0,a1,a2,a3,a4,a5,N,P,K,a6,a7,a8,a9,b0,b1,b2,b3,b4,b5,b6,b7,b8,b9,c0,c1,c2,c3,c4,c5,c6,c7,c8,c9,d0,d1,d2,Q,R,E,d3,d4,d5,d6,d7,d8,d9,f0,f1,f2,f3,f4,f5,f6,f7,f9,g0,g1,g2,g3,g4,g5,g6,g7,g8,g9,i0,i1,i2,i3,i4,i5,i6,i7,b,c,d,f,g,i,k,l,m,n,o,p,q,r,s,t,u,w,x,y,z]) S =
  (zS (qO zi 56 (dem x9) S) (fun v1 S1=>some ([x0,x1,x2,x3,x4,x5,x6,x7,x8,x9,L,F,G,H,C,I,J,D,M,B,A,U,V,W,X,Y,Z,a0,a1,a2,a3,a4,a5,N,P,K,a6,a7,a8,a9,b0,b1,b2,b3,b4,b5,b6,b7,b8,b9,c0,c1,c2,c3,c4,c5,c6,c7,c8,c9,d0,d1,d2,dem x9,v1,.int .i64 0,d3,d4,d5,d6,d7,d8,d9,f0,f1,f2,f3,f4,f5,f6,f7,f9,g0,g1,g2,g3,g4,g5,g6,g7,g8,g9,i0,i1,i2,i3,i4,i5,i6,i7,b,c,d,f,g,i,k,l,m,n,o,p,q,r,s,t,u,w,x,y,z],S1)) ()):=by
 kernel_rfl
theorem zu.r20 :jy zi ⟨false,false,false⟩ (je zi O) (reg Try.f8 20) (reg Try.f8 20).toList ([x0,x1,x2,x3,x4,x5,x6,x7,x8,x9,L,F,G,H,C,I,J,D,M,B,A,U,V,W,X,Y,Z,a0,a1,a2,a3,a4,a5,N,P,K,a6,a7,a8,a9,b0,b1,b2,b3,b4,b5,b6,b7,b8,b9,c0,c1,c2,c3,c4,c5,c6,c7,c8,c9,d0,d1,d2,Q,R,E,d3,d4,d5,d6,d7,d8,d9,f0,f1,f2,f3,f4,f5,f6,f7,f9,g0,g1,g2,g3,g4,g5,g6,g7,g8,g9,i0,i1,i2,i3,i4,i5,i6,i7,b,c,d,f,g,i,k,l,m,n,o,p,q,r,s,t,u,w,x,y,z]) S =
  (zS (wz zi BinOp.lss 3 E R S) (fun v0 S1=>some ([x0,x1,x2,x3,x4,x5,x6,x7,x8,x9,L,F,G,H,C,I,J,D,M,B,A,U,V,W,X,Y,Z,a0,a1,a2,a3,a4,a5,N,P,K,a6,a7,a8,a9,b0,b1,b2,b3,b4,b5,b6,b7,b8,b9,c0,c1,c2,c3,c4,c5,c6,c7,c8,c9,d0,d1,d2,Q,R,E,v0,d4,d5,d6,d7,d8,d9,f0,f1,f2,f3,f4,f5,f6,f7,f9,g0,g1,g2,g3,g4,g5,g6,g7,g8,g9,i0,i1,i2,i3,i4,i5,i6,i7,b,c,d,f,g,i,k,l,m,n,o,p,q,r,s,t,u,w,x,y,z],S1)) ()):=by
 kernel_rfl
theorem zu.r21 :jy zi ⟨false,false,false⟩ (je zi O) (reg Try.f8 21) (reg Try.f8 21).toList ([x0,x1,x2,x3,x4,x5,x6,x7,x8,x9,L,F,G,H,C,I,J,D,M,B,A,U,V,W,X,Y,Z,a0,a1,a2,a3,a4,a5,N,P,K,a6,a7,a8,a9,b0,b1,b2,b3,b4,b5,b6,b7,b8,b9,c0,c1,c2,c3,c4,c5,c6,c7,c8,c9,d0,d1,d2,Q,R,E,d3,d4,d5,d6,d7,d8,d9,f0,f1,f2,f3,f4,f5,f6,f7,f9,g0,g1,g2,g3,g4,g5,g6,g7,g8,g9,i0,i1,i2,i3,i4,i5,i6,i7,b,c,d,f,g,i,k,l,m,n,o,p,q,r,s,t,u,w,x,y,z]) S =
  (zS (jv zi 56 Q (dem E) S) (fun v1 S1=>zS (jA zi false 3 v1 S1) (fun v2 S2=>some ([x0,x1,x2,x3,x4,x5,x6,x7,x8,x9,L,F,G,H,C,I,E,v2,M,B,A,U,V,W,X,Y,Z,a0,a1,a2,a3,a4,a5,N,P,K,a6,a7,a8,a9,b0,b1,b2,b3,b4,b5,b6,b7,b8,b9,c0,c1,c2,c3,c4,c5,c6,c7,c8,c9,d0,d1,d2,Q,R,dem E,d3,dem E,v1,dem v2,d7,d8,d9,f0,f1,f2,f3,f4,f5,f6,f7,f9,g0,g1,g2,g3,g4,g5,g6,g7,g8,g9,i0,i1,i2,i3,i4,i5,i6,i7,b,c,d,f,g,i,k,l,m,n,o,p,q,r,s,t,u,w,x,y,z],S2)) ()) ()):=by
 kernel_rfl
theorem zu.r22 :jy zi ⟨false,false,false⟩ (je zi O) (reg Try.f8 22) (reg Try.f8 22).toList ([x0,x1,x2,x3,x4,x5,x6,x7,x8,x9,L,F,G,H,C,I,J,D,M,B,A,U,V,W,X,Y,Z,a0,a1,a2,a3,a4,a5,N,P,K,a6,a7,a8,a9,b0,b1,b2,b3,b4,b5,b6,b7,b8,b9,c0,c1,c2,c3,c4,c5,c6,c7,c8,c9,d0,d1,d2,Q,R,E,d3,d4,d5,d6,d7,d8,d9,f0,f1,f2,f3,f4,f5,f6,f7,f9,g0,g1,g2,g3,g4,g5,g6,g7,g8,g9,i0,i1,i2,i3,i4,i5,i6,i7,b,c,d,f,g,i,k,l,m,n,o,p,q,r,s,t,u,w,x,y,z]) S =
  (zS (wz zi BinOp.leq 3 (dem D) (dem x1) S) (fun v2 S1=>some ([x0,x1,x2,x3,x4,x5,x6,x7,x8,x9,L,F,G,H,C,I,J,D,M,B,A,U,V,W,X,Y,Z,a0,a1,a2,a3,a4,a5,N,P,K,a6,a7,a8,a9,b0,b1,b2,b3,b4,b5,b6,b7,b8,b9,c0,c1,c2,c3,c4,c5,c6,c7,c8,c9,d0,d1,d2,Q,R,E,d3,d4,d5,d6,dem D,dem x1,v2,f0,f1,f2,f3,f4,f5,f6,f7,f9,g0,g1,g2,g3,g4,g5,g6,g7,g8,g9,i0,i1,i2,i3,i4,i5,i6,i7,b,c,d,f,g,i,k,l,m,n,o,p,q,r,s,t,u,w,x,y,z],S1)) ()):=by
 kernel_rfl
theorem zu.r23 :jy zi ⟨false,false,false⟩ (je zi O) (reg Try.f8 23) (reg Try.f8 23).toList ([x0,x1,x2,x3,x4,x5,x6,x7,x8,x9,L,F,G,H,C,I,J,D,M,B,A,U,V,W,X,Y,Z,a0,a1,a2,a3,a4,a5,N,P,K,a6,a7,a8,a9,b0,b1,b2,b3,b4,b5,b6,b7,b8,b9,c0,c1,c2,c3,c4,c5,c6,c7,c8,c9,d0,d1,d2,Q,R,E,d3,d4,d5,d6,d7,d8,d9,f0,f1,f2,f3,f4,f5,f6,f7,f9,g0,g1,g2,g3,g4,g5,g6,g7,g8,g9,i0,i1,i2,i3,i4,i5,i6,i7,b,c,d,f,g,i,k,l,m,n,o,p,q,r,s,t,u,w,x,y,z]) S =
  (zS (wz zi BinOp.add 3 (dem J) (.int .i64 1) S) (fun v1 S1=>some ([x0,x1,x2,x3,x4,x5,x6,x7,x8,x9,L,F,G,H,v1,D,J,dem D,M,B,A,U,V,W,X,Y,Z,a0,a1,a2,a3,a4,a5,N,P,K,a6,a7,a8,a9,b0,b1,b2,b3,b4,b5,b6,b7,b8,b9,c0,c1,c2,c3,c4,c5,c6,c7,c8,c9,d0,d1,d2,Q,R,E,d3,d4,d5,d6,d7,d8,d9,dem J,dem v1,dem D,f3,f4,f5,f6,f7,f9,g0,g1,g2,g3,g4,g5,g6,g7,g8,g9,i0,i1,i2,i3,i4,i5,i6,i7,b,c,d,f,g,i,k,l,m,n,o,p,q,r,s,t,u,w,x,y,z],S1)) ()):=by
 kernel_rfl
theorem zu.r24 :jy zi ⟨false,false,false⟩ (je zi O) (reg Try.f8 24) (reg Try.f8 24).toList ([x0,x1,x2,x3,x4,x5,x6,x7,x8,x9,L,F,G,H,C,I,J,D,M,B,A,U,V,W,X,Y,Z,a0,a1,a2,a3,a4,a5,N,P,K,a6,a7,a8,a9,b0,b1,b2,b3,b4,b5,b6,b7,b8,b9,c0,c1,c2,c3,c4,c5,c6,c7,c8,c9,d0,d1,d2,Q,R,E,d3,d4,d5,d6,d7,d8,d9,f0,f1,f2,f3,f4,f5,f6,f7,f9,g0,g1,g2,g3,g4,g5,g6,g7,g8,g9,i0,i1,i2,i3,i4,i5,i6,i7,b,c,d,f,g,i,k,l,m,n,o,p,q,r,s,t,u,w,x,y,z]) S =
  (zS (wz zi BinOp.add 3 E (.int .i64 1) S) (fun v0 S1=>some ([x0,x1,x2,x3,x4,x5,x6,x7,x8,x9,L,F,G,H,C,I,J,D,M,B,A,U,V,W,X,Y,Z,a0,a1,a2,a3,a4,a5,N,P,K,a6,a7,a8,a9,b0,b1,b2,b3,b4,b5,b6,b7,b8,b9,c0,c1,c2,c3,c4,c5,c6,c7,c8,c9,d0,d1,d2,Q,R,dem v0,d3,d4,d5,d6,d7,d8,d9,f0,f1,f2,v0,f4,f5,f6,f7,f9,g0,g1,g2,g3,g4,g5,g6,g7,g8,g9,i0,i1,i2,i3,i4,i5,i6,i7,b,c,d,f,g,i,k,l,m,n,o,p,q,r,s,t,u,w,x,y,z],S1)) ()):=by
 kernel_rfl
theorem zu.r25 :jy zi ⟨false,false,false⟩ (je zi O) (reg Try.f8 25) (reg Try.f8 25).toList ([x0,x1,x2,x3,x4,x5,x6,x7,x8,x9,L,F,G,H,C,I,J,D,M,B,A,U,V,W,X,Y,Z,a0,a1,a2,a3,a4,a5,N,P,K,a6,a7,a8,a9,b0,b1,b2,b3,b4,b5,b6,b7,b8,b9,c0,c1,c2,c3,c4,c5,c6,c7,c8,c9,d0,d1,d2,Q,R,E,d3,d4,d5,d6,d7,d8,d9,f0,f1,f2,f3,f4,f5,f6,f7,f9,g0,g1,g2,g3,g4,g5,g6,g7,g8,g9,i0,i1,i2,i3,i4,i5,i6,i7,b,c,d,f,g,i,k,l,m,n,o,p,q,r,s,t,u,w,x,y,z]) S =
  (zS (jh zi 26 0 [] S) (fun v0 S1=>zS (wC zi false 26 (dem x7) none (some (dem x1)) S1) (fun v3 S2=>zS (jF zi 26 26 v0 v3 S2) (fun v4 S3=>zS ((je zi O) 9 [(dem v4)] S3) (fun v5 S4=>zS (zL v5 0 S4) (fun v7 S5=>zS (zL (zY 0 v5) 1 S5) (fun v8 S6=>some ([x0,x1,x2,x3,x4,x5,x6,x7,x8,x9,L,F,G,H,C,I,J,D,v7,v8,A,U,V,W,X,Y,Z,a0,a1,a2,a3,a4,a5,N,P,K,a6,a7,a8,a9,b0,b1,b2,b3,b4,b5,b6,b7,b8,b9,c0,c1,c2,c3,c4,c5,c6,c7,c8,c9,d0,d1,d2,Q,R,E,d3,d4,d5,d6,d7,d8,d9,f0,f1,f2,f3,zY 1 (zY 0 v5),dem v0,dem x7,dem x1,v3,v4,dem v5,dem v7,dem v8,g4,g5,g6,g7,g8,g9,i0,i1,i2,i3,i4,i5,i6,i7,b,c,d,f,g,i,k,l,m,n,o,p,q,r,s,t,u,w,x,y,z],S6)) ()) ()) ()) ()) ()) ()):=by
 kernel_rfl
theorem zu.r26 :jy zi ⟨false,false,false⟩ (je zi O) (reg Try.f8 26) (reg Try.f8 26).toList ([x0,x1,x2,x3,x4,x5,x6,x7,x8,x9,L,F,G,H,C,I,J,D,M,B,A,U,V,W,X,Y,Z,a0,a1,a2,a3,a4,a5,N,P,K,a6,a7,a8,a9,b0,b1,b2,b3,b4,b5,b6,b7,b8,b9,c0,c1,c2,c3,c4,c5,c6,c7,c8,c9,d0,d1,d2,Q,R,E,d3,d4,d5,d6,d7,d8,d9,f0,f1,f2,f3,f4,f5,f6,f7,f9,g0,g1,g2,g3,g4,g5,g6,g7,g8,g9,i0,i1,i2,i3,i4,i5,i6,i7,b,c,d,f,g,i,k,l,m,n,o,p,q,r,s,t,u,w,x,y,z]) S =
  (zS (wz zi BinOp.neq 3 (dem B) (dem I) S) (fun v2 S1=>gdK (dem v2) false (ret M) S1 (fun v4 S2=>gdK (dem v2) false (ret x8) S2 (fun v5 S3=>gdK (dem v2) false (ret C) S3 (fun v6 S4=>gdK (dem v2) false (wC zi false 22 (dem v5) none (some (dem v6))) S4 (fun v7 S5=>gdK (dem v2) false ((je zi O) 14 [(dem (dem v4)),(dem v7)]) S5 (fun v8 S6=>gdK (dem v2) false (aUn zi UnOp.not v8) S6 (fun v9 S7=>zS (qY (dem v2) (Value.bool true) v9 S7) (fun i8 S8=>some ([x0,x1,x2,x3,x4,x5,x6,x7,x8,x9,L,F,G,H,C,I,J,D,M,B,A,U,V,W,X,Y,Z,a0,a1,a2,a3,a4,a5,N,P,K,a6,a7,a8,a9,b0,b1,b2,b3,b4,b5,b6,b7,b8,b9,c0,c1,c2,c3,c4,c5,c6,c7,c8,c9,d0,d1,d2,Q,R,E,d3,d4,d5,d6,d7,d8,d9,f0,f1,f2,f3,f4,f5,f6,f7,f9,g0,g1,g2,g3,dem B,dem I,v2,dem v2,dem v4,dem v5,dem v6,v7,v8,v9,i8,i5,i6,i7,b,c,d,f,g,i,k,l,m,n,o,p,q,r,s,t,u,w,x,y,z],S8)) ()) ()) ()) ()) ()) ()) ()) ()):=by
 refine sP Try.f8 26 0 (v:=B) ?_
 refine sP Try.f8 26 1 (v:=I) ?_
 refine sD Try.f8 26 2 (fun v2 S1=>?_)
 refine sP Try.f8 26 3 (v:=v2) ?_
 refine sG Try.f8 26 4 (j:=3) (fun v4 S2=>?_)
 refine sG Try.f8 26 5 (j:=3) (fun v5 S3=>?_)
 refine sG Try.f8 26 6 (j:=3) (fun v6 S4=>?_)
 refine sG Try.f8 26 7 (j:=3) (fun v7 S5=>?_)
 refine sG Try.f8 26 8 (j:=3) (fun v8 S6=>?_)
 refine sG Try.f8 26 9 (j:=3) (fun v9 S7=>?_)
 refine sD Try.f8 26 10 (fun i8 S8=>?_)
 kernel_rfl
theorem zu.r27 :jy zi ⟨false,false,false⟩ (je zi O) (reg Try.f8 27) (reg Try.f8 27).toList ([x0,x1,x2,x3,x4,x5,x6,x7,x8,x9,L,F,G,H,C,I,J,D,M,B,A,U,V,W,X,Y,Z,a0,a1,a2,a3,a4,a5,N,P,K,a6,a7,a8,a9,b0,b1,b2,b3,b4,b5,b6,b7,b8,b9,c0,c1,c2,c3,c4,c5,c6,c7,c8,c9,d0,d1,d2,Q,R,E,d3,d4,d5,d6,d7,d8,d9,f0,f1,f2,f3,f4,f5,f6,f7,f9,g0,g1,g2,g3,g4,g5,g6,g7,g8,g9,i0,i1,i2,i3,i4,i5,i6,i7,b,c,d,f,g,i,k,l,m,n,o,p,q,r,s,t,u,w,x,y,z]) S =
  ( some ([x0,x1,x2,x3,x4,x5,Value.bool false,x7,x8,x9,L,F,G,H,C,I,J,D,M,B,A,U,V,W,X,Y,Z,a0,a1,a2,a3,a4,a5,N,P,K,a6,a7,a8,a9,b0,b1,b2,b3,b4,b5,b6,b7,b8,b9,c0,c1,c2,c3,c4,c5,c6,c7,c8,c9,d0,d1,d2,Q,R,E,d3,d4,d5,d6,d7,d8,d9,f0,f1,f2,f3,f4,f5,f6,f7,f9,g0,g1,g2,g3,g4,g5,g6,g7,g8,g9,i0,i1,i2,i3,i4,i5,i6,i7,b,c,d,f,g,i,k,l,m,n,o,p,q,r,s,t,u,w,x,y,z],S)):=by
 kernel_rfl
theorem zu.r28 :jy zi ⟨false,false,false⟩ (je zi O) (reg Try.f8 28) (reg Try.f8 28).toList ([x0,x1,x2,x3,x4,x5,x6,x7,x8,x9,L,F,G,H,C,I,J,D,M,B,A,U,V,W,X,Y,Z,a0,a1,a2,a3,a4,a5,N,P,K,a6,a7,a8,a9,b0,b1,b2,b3,b4,b5,b6,b7,b8,b9,c0,c1,c2,c3,c4,c5,c6,c7,c8,c9,d0,d1,d2,Q,R,E,d3,d4,d5,d6,d7,d8,d9,f0,f1,f2,f3,f4,f5,f6,f7,f9,g0,g1,g2,g3,g4,g5,g6,g7,g8,g9,i0,i1,i2,i3,i4,i5,i6,i7,b,c,d,f,g,i,k,l,m,n,o,p,q,r,s,t,u,w,x,y,z]) S =
  (zS ((je zi O) 15 [(.int .i64 65536)] S) (fun v0 S1=>some ([x0,x1,x2,x3,x4,x5,x6,x7,x8,x9,L,F,G,H,C,I,J,D,M,B,v0,U,V,W,X,Y,Z,a0,a1,a2,a3,a4,a5,N,P,K,a6,a7,a8,a9,b0,b1,b2,b3,b4,b5,b6,b7,b8,b9,c0,c1,c2,c3,c4,c5,c6,c7,c8,c9,d0,d1,d2,Q,R,E,d3,d4,d5,d6,d7,d8,d9,f0,f1,f2,f3,f4,f5,f6,f7,f9,g0,g1,g2,g3,g4,g5,g6,g7,g8,g9,i0,i1,i2,i3,i4,dem v0,i6,i7,b,c,d,f,g,i,k,l,m,n,o,p,q,r,s,t,u,w,x,y,z],S1)) ()):=by
 kernel_rfl
theorem zu.r29 :jy zi ⟨false,false,false⟩ (je zi O) (reg Try.f8 29) (reg Try.f8 29).toList ([x0,x1,x2,x3,x4,x5,x6,x7,x8,x9,L,F,G,H,C,I,J,D,M,B,A,U,V,W,X,Y,Z,a0,a1,a2,a3,a4,a5,N,P,K,a6,a7,a8,a9,b0,b1,b2,b3,b4,b5,b6,b7,b8,b9,c0,c1,c2,c3,c4,c5,c6,c7,c8,c9,d0,d1,d2,Q,R,E,d3,d4,d5,d6,d7,d8,d9,f0,f1,f2,f3,f4,f5,f6,f7,f9,g0,g1,g2,g3,g4,g5,g6,g7,g8,g9,i0,i1,i2,i3,i4,i5,i6,i7,b,c,d,f,g,i,k,l,m,n,o,p,q,r,s,t,u,w,x,y,z]) S =
  (zS (wC zi false 26 (dem x7) none (some (dem x1)) S) (fun v3 S1=>zS ((je zi O) 23 [(dem (dem A)),(dem v3)] S1) (fun v4 S2=>some ([x0,x1,x2,x3,x4,x5,x6,x7,x8,x9,L,F,G,H,C,I,J,D,M,B,A,U,V,W,X,Y,Z,a0,a1,a2,a3,a4,a5,N,P,K,a6,a7,a8,a9,b0,b1,b2,b3,b4,b5,b6,b7,b8,b9,c0,c1,c2,c3,c4,c5,c6,c7,c8,c9,d0,d1,d2,Q,R,E,d3,d4,d5,d6,d7,d8,d9,f0,f1,f2,f3,f4,f5,f6,f7,f9,g0,g1,g2,g3,g4,g5,g6,g7,g8,g9,i0,i1,i2,i3,i4,i5,dem A,dem x7,dem x1,v3,v4,f,g,i,k,l,m,n,o,p,q,r,s,t,u,w,x,y,z],S2)) ()) ()):=by
 kernel_rfl
theorem zu.r30 :jy zi ⟨false,false,false⟩ (je zi O) (reg Try.f8 30) (reg Try.f8 30).toList ([x0,x1,x2,x3,x4,x5,x6,x7,x8,x9,L,F,G,H,C,I,J,D,M,B,A,U,V,W,X,Y,Z,a0,a1,a2,a3,a4,a5,N,P,K,a6,a7,a8,a9,b0,b1,b2,b3,b4,b5,b6,b7,b8,b9,c0,c1,c2,c3,c4,c5,c6,c7,c8,c9,d0,d1,d2,Q,R,E,d3,d4,d5,d6,d7,d8,d9,f0,f1,f2,f3,f4,f5,f6,f7,f9,g0,g1,g2,g3,g4,g5,g6,g7,g8,g9,i0,i1,i2,i3,i4,i5,i6,i7,b,c,d,f,g,i,k,l,m,n,o,p,q,r,s,t,u,w,x,y,z]) S =
  (zS ((je zi O) 27 [(dem (dem A)),(dem (dem B))] S) (fun v2 S1=>some ([x0,x1,x2,x3,x4,x5,x6,x7,x8,x9,L,F,G,H,C,I,J,D,M,B,A,U,V,W,X,Y,Z,a0,a1,a2,a3,a4,a5,N,P,K,a6,a7,a8,a9,b0,b1,b2,b3,b4,b5,b6,b7,b8,b9,c0,c1,c2,c3,c4,c5,c6,c7,c8,c9,d0,d1,d2,Q,R,E,d3,d4,d5,d6,d7,d8,d9,f0,f1,f2,f3,f4,f5,f6,f7,f9,g0,g1,g2,g3,g4,g5,g6,g7,g8,g9,i0,i1,i2,i3,i4,i5,i6,i7,b,c,d,dem A,dem B,v2,k,l,m,n,o,p,q,r,s,t,u,w,x,y,z],S1)) ()):=by
 kernel_rfl
theorem zu.r31 :jy zi ⟨false,false,false⟩ (je zi O) (reg Try.f8 31) (reg Try.f8 31).toList ([x0,x1,x2,x3,x4,x5,x6,x7,x8,x9,L,F,G,H,C,I,J,D,M,B,A,U,V,W,X,Y,Z,a0,a1,a2,a3,a4,a5,N,P,K,a6,a7,a8,a9,b0,b1,b2,b3,b4,b5,b6,b7,b8,b9,c0,c1,c2,c3,c4,c5,c6,c7,c8,c9,d0,d1,d2,Q,R,E,d3,d4,d5,d6,d7,d8,d9,f0,f1,f2,f3,f4,f5,f6,f7,f9,g0,g1,g2,g3,g4,g5,g6,g7,g8,g9,i0,i1,i2,i3,i4,i5,i6,i7,b,c,d,f,g,i,k,l,m,n,o,p,q,r,s,t,u,w,x,y,z]) S =
  (zS (jA zi false 28 x5 S) (fun v1 S1=>zS ((je zi O) 17 [(dem (dem A)),(dem v1)] S1) (fun v2 S2=>zS (wz zi BinOp.neq 29 v2 (.int .i64 0) S2) (fun v3 S3=>some ([x0,x1,x2,x3,x4,x5,x6,x7,x8,x9,L,F,G,H,C,I,J,D,M,B,A,U,V,W,X,Y,Z,a0,a1,a2,a3,a4,a5,N,P,K,a6,a7,a8,a9,b0,b1,b2,b3,b4,b5,b6,b7,b8,b9,c0,c1,c2,c3,c4,c5,c6,c7,c8,c9,d0,d1,d2,Q,R,E,d3,d4,d5,d6,d7,d8,d9,f0,f1,f2,f3,f4,f5,f6,f7,f9,g0,g1,g2,g3,g4,g5,g6,g7,g8,g9,i0,i1,i2,i3,i4,i5,i6,i7,b,c,d,f,g,i,dem A,v1,v2,v3,o,p,q,r,s,t,u,w,x,y,z],S3)) ()) ()) ()):=by
 kernel_rfl
theorem zu.r32 :jy zi ⟨false,false,false⟩ (je zi O) (reg Try.f8 32) (reg Try.f8 32).toList ([x0,x1,x2,x3,x4,x5,x6,x7,x8,x9,L,F,G,H,C,I,J,D,M,B,A,U,V,W,X,Y,Z,a0,a1,a2,a3,a4,a5,N,P,K,a6,a7,a8,a9,b0,b1,b2,b3,b4,b5,b6,b7,b8,b9,c0,c1,c2,c3,c4,c5,c6,c7,c8,c9,d0,d1,d2,Q,R,E,d3,d4,d5,d6,d7,d8,d9,f0,f1,f2,f3,f4,f5,f6,f7,f9,g0,g1,g2,g3,g4,g5,g6,g7,g8,g9,i0,i1,i2,i3,i4,i5,i6,i7,b,c,d,f,g,i,k,l,m,n,o,p,q,r,s,t,u,w,x,y,z]) S =
  ( some ([x0,x1,x2,x3,x4,x5,Value.bool true,x7,x8,x9,L,F,G,H,C,I,J,D,M,B,A,U,V,W,X,Y,Z,a0,a1,a2,a3,a4,a5,N,P,K,a6,a7,a8,a9,b0,b1,b2,b3,b4,b5,b6,b7,b8,b9,c0,c1,c2,c3,c4,c5,c6,c7,c8,c9,d0,d1,d2,Q,R,E,d3,d4,d5,d6,d7,d8,d9,f0,f1,f2,f3,f4,f5,f6,f7,f9,g0,g1,g2,g3,g4,g5,g6,g7,g8,g9,i0,i1,i2,i3,i4,i5,i6,i7,b,c,d,f,g,i,k,l,m,n,o,p,q,r,s,t,u,w,x,y,z],S)):=by
 kernel_rfl
theorem zu.d33:yS zi (reg Try.f8 33)=true:=by kernel_rfl
theorem zu.ahg:fixed zi (reg Try.f8 33)=false:=by kernel_rfl
theorem zu.k33:checked zi (reg Try.f8 33)=[0,0,3,3,3,4,4,4,5,5,5,7,7,7]:=by kernel_rfl
theorem zu.g33:again zi (reg Try.f8 33)=[(7,1),(7,2),(7,6)]:=by kernel_rfl
theorem zu.r33 :zG zi O false (.region 33 (reg Try.f8 33) true) ([x0,x1,x2,x3,x4,x5,x6,x7,x8,x9,L,F,G,H,C,I,J,D,M,B,A,U,V,W,X,Y,Z,a0,a1,a2,a3,a4,a5,N,P,K,a6,a7,a8,a9,b0,b1,b2,b3,b4,b5,b6,b7,b8,b9,c0,c1,c2,c3,c4,c5,c6,c7,c8,c9,d0,d1,d2,Q,R,E,d3,d4,d5,d6,d7,d8,d9,f0,f1,f2,f3,f4,f5,f6,f7,f9,g0,g1,g2,g3,g4,g5,g6,g7,g8,g9,i0,i1,i2,i3,i4,i5,i6,i7,b,c,d,f,g,i,k,l,m,n,o,p,q,r,s,t,u,w,x,y,z]) S =
  Jt (okK A ( zS ((je zi O) 26 [(dem (dem A))] S) (fun v1 S1=>zS (jh zi 22 0 [] S1) (fun v2 S2=>okK x8 ( okK C ( zS (wC zi true 22 (dem x8) none (some (dem C)) S2) (fun v5 S3=>okK v5 ( zS (jF zi 22 22 v2 v5 S3) (fun v6 S4=>zS (jA zi false 28 x5 S4) (fun v7 S5=>okK v7 ( zS (jh zi 22 1 [(0,v7)] S5) (fun v8 S6=>zS (jF zi 22 22 v6 v8 S6) (fun v9 S7=>zS ((je zi O) 14 [(dem v1),(dem v9)] S7) (fun i8 S8=>ckK (yQ x5 S S4 && (yQ x5 S1 S4 && (yQ x5 S3 S4 && (true)))) (some ([x0,x1,x2,x3,x4,x5,i8,x7,x8,x9,L,F,G,H,C,I,J,D,M,B,A,U,V,W,X,Y,Z,a0,a1,a2,a3,a4,a5,N,P,K,a6,a7,a8,a9,b0,b1,b2,b3,b4,b5,b6,b7,b8,b9,c0,c1,c2,c3,c4,c5,c6,c7,c8,c9,d0,d1,d2,Q,R,E,d3,d4,d5,d6,d7,d8,d9,f0,f1,f2,f3,f4,f5,f6,f7,f9,g0,g1,g2,g3,g4,g5,g6,g7,g8,g9,i0,i1,i2,i3,i4,i5,i6,i7,b,c,d,f,g,i,k,l,m,n,dem A,v1,dem v2,dem x8,dem C,v5,dem v6,v7,v8,v9,dem i8],S8)) ()) ()) ()) ()) ()) ()) ()) ()) ()) ()) ()) ()) ()) ()):=by
 rw [yu zu.d33 zu.ahg zu.k33 zu.g33]
 refine congrArg Jt ?_
 refine uPC Try.f8 33 0 (v:=A) (pe:=zh) ?_
 refine uD Try.f8 33 1 (pe:=zh) (fun v1 S1=>?_)
 refine uD Try.f8 33 2 (pe:=zh) (fun v2 S2=>?_)
 refine uPC Try.f8 33 3 (v:=x8) (pe:=zh) ?_
 refine uPC Try.f8 33 4 (v:=C) (pe:=zh) ?_
 refine uDC Try.f8 33 5 (pe:=zh) (fun v5 S3=>?_)
 refine uD Try.f8 33 6 (pe:=zh) (fun v6 S4=>?_)
 refine uDC Try.f8 33 7 (pe:=x5) (fun v7 S5=>?_)
 refine uD Try.f8 33 8 (pe:=zh) (fun v8 S6=>?_)
 refine uD Try.f8 33 9 (pe:=zh) (fun v9 S7=>?_)
 refine uD Try.f8 33 10 (pe:=zh) (fun i8 S8=>?_)
 refine uP Try.f8 33 11 (v:=i8) (pe:=zh) ?_
 kernel_rfl
theorem zu.rs:type_of% (ahi @zu.r0 (ahi @zu.r1 (ahi @zu.r2 (ahi @zu.r3 (ahi @zu.r4 (ahi @zu.r5 (ahi @zu.r6 (ahi @zu.r7 (ahi @zu.r8 (ahi @zu.r9 (ahi @zu.r10 (ahi @zu.r11 (ahi @zu.r12 (ahi @zu.r13 (ahi @zu.r14 (ahi @zu.r15 (ahi @zu.r16 (ahi @zu.r17 (ahi @zu.r18 (ahi @zu.r19 (ahi @zu.r20 (ahi @zu.r21 (ahi @zu.r22 (ahi @zu.r23 (ahi @zu.r24 (ahi @zu.r25 (ahi @zu.r26 (ahi @zu.r27 (ahi @zu.r28 (ahi @zu.r29 (ahi @zu.r30 (ahi @zu.r31 (ahi @zu.r32 (@zu.r33)))))))))))))))))))))))))))))))))):=ahi @zu.r0 (ahi @zu.r1 (ahi @zu.r2 (ahi @zu.r3 (ahi @zu.r4 (ahi @zu.r5 (ahi @zu.r6 (ahi @zu.r7 (ahi @zu.r8 (ahi @zu.r9 (ahi @zu.r10 (ahi @zu.r11 (ahi @zu.r12 (ahi @zu.r13 (ahi @zu.r14 (ahi @zu.r15 (ahi @zu.r16 (ahi @zu.r17 (ahi @zu.r18 (ahi @zu.r19 (ahi @zu.r20 (ahi @zu.r21 (ahi @zu.r22 (ahi @zu.r23 (ahi @zu.r24 (ahi @zu.r25 (ahi @zu.r26 (ahi @zu.r27 (ahi @zu.r28 (ahi @zu.r29 (ahi @zu.r30 (ahi @zu.r31 (ahi @zu.r32 (@zu.r33)))))))))))))))))))))))))))))))))
theorem zu.runs {x0 x1 x2:Value} {S S1:zx} {e:AEx} {T:List Value} (h:zG zi O false zu.code ([x0,x1,x2,zh,zh,zh,zh,zh,zh,zh,zh,zh,zh,zh,zh,zh,zh,zh,zh,zh,zh,zh,zh,zh,zh,zh,zh,zh,zh,zh,zh,zh,zh,zh,zh,zh,zh,zh,zh,zh,zh,zh,zh,zh,zh,zh,zh,zh,zh,zh,zh,zh,zh,zh,zh,zh,zh,zh,zh,zh,zh,zh,zh,zh,zh,zh,zh,zh,zh,zh,zh,zh,zh,zh,zh,zh,zh,zh,zh,zh,zh,zh,zh,zh,zh,zh,zh,zh,zh,zh,zh,zh,zh,zh,zh,zh,zh,zh,zh,zh,zh,zh,zh,zh,zh,zh,zh,zh,zh,zh,zh,zh,zh,zh,zh,zh,zh,zh,zh,zh,zh]) S=some (e,T,S1)) (he:e=.normal∨e=.ret):je zi O 8 [x0,x1,x2] S=some (T.getD 6 zh,S1) :=
 jY rfl rfl Try.func8 (by decide) zu.body (by exact h) he (yM (a:=T.getD 6 zh) ((show zQ zi T S1 Try.f8.results.toList=zQ zi T S1 [(ResultVar.tmp 6)] from by kernel_rfl).trans (by simp only [zQ])) (by kernel_rfl))
end Go.Proofs.Ytblpnklfimkfoaa
namespace Go.Proofs.Ytblpnklfimkfoaa
open Go.Abs
abbrev zU.id:FuncId:=38
noncomputable def zU.code:Code:=(.seq (.region 0 (reg Try.f38 0) false) (.seq (.region 1 (reg Try.f38 1) false) Code.ret))
theorem zU.body:Try.f38.body=some zU.code:=by kernel_rfl
variable (g i k l x4 x5 x6 x7 x8 x9 o p q r s t u w x y z A B C D E F G H I J K L M N P Q R U V:Value) (S:zx)
theorem zU.r0 :jy zi ⟨false,false,false⟩ (je zi O) (reg Try.f38 0) (reg Try.f38 0).toList ([g,i,k,l,x4,x5,x6,x7,x8,x9,o,p,q,r,s,t,u,w,x,y,z,A,B,C,D,E,F,G,H,I,J,K,L,M,N,P,Q,R,U,V]) S =
  (zS (YJ (dem g) S) (fun W m=>zS (YJ (dem i) m) (fun X S2=>some ([g,i,W,X,Value.bool false,x5,x6,x7,x8,x9,o,p,q,r,s,t,u,w,x,y,z,A,B,C,D,E,F,G,H,I,J,K,L,M,N,P,Q,R,U,V],S2)) ()) ()):=by
 kernel_rfl
theorem zU.r1 :jy zi ⟨false,false,false⟩ (je zi O) (reg Try.f38 1) (reg Try.f38 1).toList ([g,i,k,l,x4,x5,x6,x7,x8,x9,o,p,q,r,s,t,u,w,x,y,z,A,B,C,D,E,F,G,H,I,J,K,L,M,N,P,Q,R,U,V]) S =
  (zS (zW zi 28 k 0 S) (fun W m=>zS (jA zi false 3 W m) (fun X S2=>zS (zW zi 28 l 0 S2) (fun v2 S3=>zS (jA zi false 3 v2 S3) (fun v3 S4=>zS (wz zi BinOp.eql 3 X v3 S4) (fun f S5=>gdK (dem f) true (zW zi 28 k 1) S5 (fun v6 S6=>gdK (dem f) true (jA zi false 3 v6) S6 (fun v7 S7=>gdK (dem f) true (zW zi 28 l 1) S7 (fun v8 S8=>gdK (dem f) true (jA zi false 3 v8) S8 (fun v9 S9=>gdK (dem f) true (wz zi BinOp.eql 3 v7 v9) S9 (fun Y b6=>zS (qY (dem f) Y (Value.bool false) b6) (fun c b7=>gdK (dem c) true (zW zi 28 k 2) b7 (fun Z b8=>gdK (dem c) true (jA zi false 3 Z) b8 (fun a0 b9=>gdK (dem c) true (zW zi 28 l 2) b9 (fun a1 c0=>gdK (dem c) true (jA zi false 3 a1) c0 (fun a2 c1=>gdK (dem c) true (wz zi BinOp.eql 3 a0 a2) c1 (fun a3 c2=>zS (qY (dem c) a3 (Value.bool false) c2) (fun d c3=>gdK (dem d) true (zW zi 28 k 3) c3 (fun a4 c4=>gdK (dem d) true (jA zi false 3 a4) c4 (fun a5 c5=>gdK (dem d) true (zW zi 28 l 3) c5 (fun a6 c6=>gdK (dem d) true (jA zi false 3 a6) c6 (fun a7 c7=>gdK (dem d) true (wz zi BinOp.eql 3 a5 a7) c7 (fun a8 c8=>zS (qY (dem d) a8 (Value.bool false) c8) (fun b c9=>gdK (dem b) true (zW zi 28 k 4) c9 (fun a9 d0=>gdK (dem b) true (jA zi false 26 a9) d0 (fun b0 d1=>gdK (dem b) true (wV zi false false 26 9 b0) d1 (fun b1 d2=>gdK (dem b) true (zW zi 28 l 4) d2 (fun b2 d3=>gdK (dem b) true (jA zi false 26 b2) d3 (fun b3 d4=>gdK (dem b) true (wV zi false false 26 9 b3) d4 (fun b4 d5=>gdK (dem b) true (wz zi BinOp.eql 9 b1 b4) d5 (fun b5 d6=>zS (qY (dem b) b5 (Value.bool false) d6) (fun n d7=>some ([g,i,k,l,n,W,X,v2,v3,f,dem f,v6,v7,v8,v9,Y,c,dem c,Z,a0,a1,a2,a3,d,dem d,a4,a5,a6,a7,a8,b,dem b,a9,b0,b1,b2,b3,b4,b5,dem n],d7)) ()) ()) ()) ()) ()) ()) ()) ()) ()) ()) ()) ()) ()) ()) ()) ()) ()) ()) ()) ()) ()) ()) ()) ()) ()) ()) ()) ()) ()) ()) ()):=by
 refine sD Try.f38 1 0 (fun W m=>?_)
 refine sD Try.f38 1 1 (fun X S2=>?_)
 refine sD Try.f38 1 2 (fun v2 S3=>?_)
 refine sD Try.f38 1 3 (fun v3 S4=>?_)
 refine sD Try.f38 1 4 (fun f S5=>?_)
 refine sP Try.f38 1 5 (v:=f) ?_
 refine sG Try.f38 1 6 (j:=5) (fun v6 S6=>?_)
 refine sG Try.f38 1 7 (j:=5) (fun v7 S7=>?_)
 refine sG Try.f38 1 8 (j:=5) (fun v8 S8=>?_)
 refine sG Try.f38 1 9 (j:=5) (fun v9 S9=>?_)
 refine sG Try.f38 1 10 (j:=5) (fun Y b6=>?_)
 refine sD Try.f38 1 11 (fun c b7=>?_)
 refine sP Try.f38 1 12 (v:=c) ?_
 refine sG Try.f38 1 13 (j:=12) (fun Z b8=>?_)
 refine sG Try.f38 1 14 (j:=12) (fun a0 b9=>?_)
 refine sG Try.f38 1 15 (j:=12) (fun a1 c0=>?_)
 refine sG Try.f38 1 16 (j:=12) (fun a2 c1=>?_)
 refine sG Try.f38 1 17 (j:=12) (fun a3 c2=>?_)
 refine sD Try.f38 1 18 (fun d c3=>?_)
 refine sP Try.f38 1 19 (v:=d) ?_
 refine sG Try.f38 1 20 (j:=19) (fun a4 c4=>?_)
 refine sG Try.f38 1 21 (j:=19) (fun a5 c5=>?_)
 refine sG Try.f38 1 22 (j:=19) (fun a6 c6=>?_)
 refine sG Try.f38 1 23 (j:=19) (fun a7 c7=>?_)
 refine sG Try.f38 1 24 (j:=19) (fun a8 c8=>?_)
 refine sD Try.f38 1 25 (fun b c9=>?_)
 refine sP Try.f38 1 26 (v:=b) ?_
 refine sG Try.f38 1 27 (j:=26) (fun a9 d0=>?_)
 refine sG Try.f38 1 28 (j:=26) (fun b0 d1=>?_)
 refine sG Try.f38 1 29 (j:=26) (fun b1 d2=>?_)
 refine sG Try.f38 1 30 (j:=26) (fun b2 d3=>?_)
 refine sG Try.f38 1 31 (j:=26) (fun b3 d4=>?_)
 refine sG Try.f38 1 32 (j:=26) (fun b4 d5=>?_)
 refine sG Try.f38 1 33 (j:=26) (fun b5 d6=>?_)
 refine sD Try.f38 1 34 (fun n d7=>?_)
 refine sP Try.f38 1 35 (v:=n) ?_
 kernel_rfl
theorem zU.rs:type_of% (ahi @zU.r0 (@zU.r1)):=ahi @zU.r0 (@zU.r1)
theorem zU.runs {g i:Value} {S m:zx} {e:AEx} {T:List Value} (h:zG zi O false zU.code ([g,i,zh,zh,zh,zh,zh,zh,zh,zh,zh,zh,zh,zh,zh,zh,zh,zh,zh,zh,zh,zh,zh,zh,zh,zh,zh,zh,zh,zh,zh,zh,zh,zh,zh,zh,zh,zh,zh,zh]) zx.empty=some (e,T,m)) (he:e=.normal∨e=.ret) (hca:[g,i].all (jk 16)=true) (hcv:jk 16 (T.getD 4 zh)=true):je zi O 38 [g,i] S=some (T.getD 4 zh,S) :=
 xR rfl rfl Try.func38 (by decide) zU.body (by exact h) he (yM (a:=T.getD 4 zh) ((show zQ zi T m Try.f38.results.toList=zQ zi T m [(ResultVar.tmp 4)] from by kernel_rfl).trans (by simp only [zQ])) (by kernel_rfl)) hca hcv
end Go.Proofs.Ytblpnklfimkfoaa
namespace Go.Proofs.Ytblpnklfimkfoaa
open Go.Abs
abbrev zy.id:FuncId:=14
noncomputable def zy.jB:Code:=(.seq (.region 4 (reg Try.f14 4) false) (.seq (.cond (.tmp 14) Code.skip (.exit 0)) (.seq (.block 1 (.seq (.region 5 (reg Try.f14 5) false) (.seq (.region 6 (reg Try.f14 6) true) (.cond (.tmp 25) (.seq (.region 7 (reg Try.f14 7) false) Code.ret) Code.skip)))) (.region 8 (reg Try.f14 8) false))))
noncomputable def zy.code:Code:=(.seq (.region 0 (reg Try.f14 0) false) (.seq (.seq (.region 1 (reg Try.f14 1) false) (.cond (.tmp 10) (.seq (.region 2 (reg Try.f14 2) false) Code.ret) Code.skip)) (.seq (.seq (.region 3 (reg Try.f14 3) false) (.block 0 (.loop zy.jB))) (.seq (.region 9 (reg Try.f14 9) false) Code.ret))))
theorem zy.body:Try.f14.body=some zy.code:=by kernel_rfl
theorem zy.eta {T:List Value} (h:T.length=27):T=[T.getD 0 zh,T.getD 1 zh,T.getD 2 zh,T.getD 3 zh,T.getD 4 zh,T.getD 5 zh,T.getD 6 zh,T.getD 7 zh,T.getD 8 zh,T.getD 9 zh,T.getD 10 zh,T.getD 11 zh,T.getD 12 zh,T.getD 13 zh,T.getD 14 zh,T.getD 15 zh,T.getD 16 zh,T.getD 17 zh,T.getD 18 zh,T.getD 19 zh,T.getD 20 zh,T.getD 21 zh,T.getD 22 zh,T.getD 23 zh,T.getD 24 zh,T.getD 25 zh,T.getD 26 zh]:=(qw T 27 h).trans (by kernel_rfl)
variable (d w y z E x A B C D f g c b i j k l m n o p q r s t u:Value) (S:zx)
theorem zy.r0 :jy zi ⟨false,false,false⟩ (je zi O) (reg Try.f14 0) (reg Try.f14 0).toList ([d,w,y,z,E,x,A,B,C,D,f,g,c,b,i,j,k,l,m,n,o,p,q,r,s,t,u]) S =
  ( some ([d,w,y,z,Value.bool false,x,A,B,C,D,f,g,c,b,i,j,k,l,m,n,o,p,q,r,s,t,u],S)):=by
 kernel_rfl
theorem zy.r1 :jy zi ⟨false,false,false⟩ (je zi O) (reg Try.f14 1) (reg Try.f14 1).toList ([d,w,y,z,E,x,A,B,C,D,f,g,c,b,i,j,k,l,m,n,o,p,q,r,s,t,u]) S =
  (zS (qO zi 22 (dem d) S) (fun H F=>zS (qO zi 22 (dem w) F) (fun G I=>zS (wz zi BinOp.neq 3 H G I) (fun W J=>some ([d,w,y,z,E,x,dem d,H,dem w,G,W,g,c,b,i,j,k,l,m,n,o,p,q,r,s,t,u],J)) ()) ()) ()):=by
 kernel_rfl
theorem zy.r2 :jy zi ⟨false,false,false⟩ (je zi O) (reg Try.f14 2) (reg Try.f14 2).toList ([d,w,y,z,E,x,A,B,C,D,f,g,c,b,i,j,k,l,m,n,o,p,q,r,s,t,u]) S =
  ( some ([d,w,y,z,Value.bool false,x,A,B,C,D,f,g,c,b,i,j,k,l,m,n,o,p,q,r,s,t,u],S)):=by
 kernel_rfl
theorem zy.r3 :jy zi ⟨false,false,false⟩ (je zi O) (reg Try.f14 3) (reg Try.f14 3).toList ([d,w,y,z,E,x,A,B,C,D,f,g,c,b,i,j,k,l,m,n,o,p,q,r,s,t,u]) S =
  (zS (qO zi 22 (dem d) S) (fun H F=>some ([d,w,y,z,E,x,A,B,C,D,f,dem d,H,.int .i64 0,i,j,k,l,m,n,o,p,q,r,s,t,u],F)) ()):=by
 kernel_rfl
theorem zy.r4 :jy zi ⟨false,false,false⟩ (je zi O) (reg Try.f14 4) (reg Try.f14 4).toList ([d,w,y,z,E,x,A,B,C,D,f,g,c,b,i,j,k,l,m,n,o,p,q,r,s,t,u]) S =
  (zS (wz zi BinOp.lss 3 b c S) (fun K F=>some ([d,w,y,z,E,x,A,B,C,D,f,g,c,b,K,j,k,l,m,n,o,p,q,r,s,t,u],F)) ()):=by
 kernel_rfl
theorem zy.r5 :jy zi ⟨false,false,false⟩ (je zi O) (reg Try.f14 5) (reg Try.f14 5).toList ([d,w,y,z,E,x,A,B,C,D,f,g,c,b,i,j,k,l,m,n,o,p,q,r,s,t,u]) S =
  ( some ([d,w,y,z,E,b,A,B,C,D,f,g,c,dem b,i,dem b,k,l,m,n,o,p,q,r,s,t,u],S)):=by
 kernel_rfl
theorem zy.d6:yS zi (reg Try.f14 6)=true:=by kernel_rfl
theorem zy.ff6:fixed zi (reg Try.f14 6)=false:=by kernel_rfl
theorem zy.k6:checked zi (reg Try.f14 6)=[]:=by kernel_rfl
theorem zy.g6:again zi (reg Try.f14 6)=[]:=by kernel_rfl
theorem zy.r6 :zG zi O false (.region 6 (reg Try.f14 6) true) ([d,w,y,z,E,x,A,B,C,D,f,g,c,b,i,j,k,l,m,n,o,p,q,r,s,t,u]) S =
  Jt (zS (jv zi 22 (dem d) (dem x) S) (fun L F=>zS (jA zi false 28 L F) (fun G I=>zS (jv zi 22 (dem w) (dem x) I) (fun M J=>zS (jA zi false 28 M J) (fun N Q=>zS ((je zi O) 38 [(dem G),(dem N)] Q) (fun P R=>zS (aUn zi UnOp.not P R) (fun U V=>some ([d,w,y,z,E,x,A,B,C,D,f,g,c,b,i,j,dem d,dem x,L,G,dem w,dem x,M,N,P,U,u],V)) ()) ()) ()) ()) ()) ()):=by
 rw [yu zy.d6 zy.ff6 zy.k6 zy.g6]
 refine congrArg Jt ?_
 refine tP Try.f14 6 0 (v:=d) ?_
 refine tP Try.f14 6 1 (v:=x) ?_
 refine tD Try.f14 6 2 (fun L F=>?_)
 refine tD Try.f14 6 3 (fun G I=>?_)
 refine tP Try.f14 6 4 (v:=w) ?_
 refine tP Try.f14 6 5 (v:=x) ?_
 refine tD Try.f14 6 6 (fun M J=>?_)
 refine tD Try.f14 6 7 (fun N Q=>?_)
 refine tD Try.f14 6 8 (fun P R=>?_)
 refine tD Try.f14 6 9 (fun U V=>?_)
 kernel_rfl
theorem zy.r7 :jy zi ⟨false,false,false⟩ (je zi O) (reg Try.f14 7) (reg Try.f14 7).toList ([d,w,y,z,E,x,A,B,C,D,f,g,c,b,i,j,k,l,m,n,o,p,q,r,s,t,u]) S =
  ( some ([d,w,y,z,Value.bool false,x,A,B,C,D,f,g,c,b,i,j,k,l,m,n,o,p,q,r,s,t,u],S)):=by
 kernel_rfl
theorem zy.r8 :jy zi ⟨false,false,false⟩ (je zi O) (reg Try.f14 8) (reg Try.f14 8).toList ([d,w,y,z,E,x,A,B,C,D,f,g,c,b,i,j,k,l,m,n,o,p,q,r,s,t,u]) S =
  (zS (wz zi BinOp.add 3 b (.int .i64 1) S) (fun K F=>some ([d,w,y,z,E,x,A,B,C,D,f,g,c,dem K,i,j,k,l,m,n,o,p,q,r,s,t,K],F)) ()):=by
 kernel_rfl
theorem zy.r9 :jy zi ⟨false,false,false⟩ (je zi O) (reg Try.f14 9) (reg Try.f14 9).toList ([d,w,y,z,E,x,A,B,C,D,f,g,c,b,i,j,k,l,m,n,o,p,q,r,s,t,u]) S =
  ( some ([d,w,y,z,Value.bool true,x,A,B,C,D,f,g,c,b,i,j,k,l,m,n,o,p,q,r,s,t,u],S)):=by
 kernel_rfl
theorem zy.rs:type_of% (ahi @zy.r0 (ahi @zy.r1 (ahi @zy.r2 (ahi @zy.r3 (ahi @zy.r4 (ahi @zy.r5 (ahi @zy.r6 (ahi @zy.r7 (ahi @zy.r8 (@zy.r9)))))))))):=ahi @zy.r0 (ahi @zy.r1 (ahi @zy.r2 (ahi @zy.r3 (ahi @zy.r4 (ahi @zy.r5 (ahi @zy.r6 (ahi @zy.r7 (ahi @zy.r8 (@zy.r9)))))))))
theorem zy.runs {d w:Value} {S F:zx} {e:AEx} {T:List Value} (h:zG zi O false zy.code ([d,w,zh,zh,zh,zh,zh,zh,zh,zh,zh,zh,zh,zh,zh,zh,zh,zh,zh,zh,zh,zh,zh,zh,zh,zh,zh]) S=some (e,T,F)) (he:e=.normal∨e=.ret):je zi O 14 [d,w] S=some (T.getD 4 zh,F) :=
 jY rfl rfl Try.func14 (by decide) zy.body (by exact h) he (yM (a:=T.getD 4 zh) ((show zQ zi T F Try.f14.results.toList=zQ zi T F [(ResultVar.tmp 4)] from by kernel_rfl).trans (by simp only [zQ])) (by kernel_rfl))
end Go.Proofs.Ytblpnklfimkfoaa
namespace Go.Proofs.Ytblpnklfimkfoaa
open Go.Abs
abbrev jf.id:FuncId:=17
noncomputable def jf.code:Code:=(.seq (.region 0 (reg Try.f17 0) false) (.seq (.region 1 (reg Try.f17 1) false) (.seq (.seq (.region 2 (reg Try.f17 2) false) (.cond (.tmp 13) (.seq (.region 3 (reg Try.f17 3) false) Code.ret) Code.skip)) (.seq (.region 4 (reg Try.f17 4) false) Code.ret))))
theorem jf.body:Try.f17.body=some jf.code:=by kernel_rfl
variable (b c q r v p n s t u d f g i j k l m:Value) (S:zx)
theorem jf.r0 :jy zi ⟨false,false,false⟩ (je zi O) (reg Try.f17 0) (reg Try.f17 0).toList ([b,c,q,r,v,p,n,s,t,u,d,f,g,i,j,k,l,m]) S =
  (zS (YJ (dem c) S) (fun x o=>some ([b,c,q,x,.int .i64 0,p,n,s,t,u,d,f,g,i,j,k,l,m],o)) ()):=by
 kernel_rfl
theorem jf.r1 :jy zi ⟨false,false,false⟩ (je zi O) (reg Try.f17 1) (reg Try.f17 1).toList ([b,c,q,r,v,p,n,s,t,u,d,f,g,i,j,k,l,m]) S =
  (zS (jA zi false 28 r S) (fun x o=>zS ((je zi O) 11 [(dem x)] o) (fun w B=>zS (zL w 0 B) (fun y C=>zS (zL (zY 0 w) 1 C) (fun z D=>some ([b,c,q,r,v,y,z,zY 1 (zY 0 w),x,dem w,dem y,dem z,g,i,j,k,l,m],D)) ()) ()) ()) ()):=by
 kernel_rfl
theorem jf.r2 :jy zi ⟨false,false,false⟩ (je zi O) (reg Try.f17 2) (reg Try.f17 2).toList ([b,c,q,r,v,p,n,s,t,u,d,f,g,i,j,k,l,m]) S =
  (zS (wz zi BinOp.neq 29 (dem n) (.int .i64 0) S) (fun w o=>some ([b,c,q,r,v,p,n,s,t,u,d,f,dem n,w,j,k,l,m],o)) ()):=by
 kernel_rfl
theorem jf.r3 :jy zi ⟨false,false,false⟩ (je zi O) (reg Try.f17 3) (reg Try.f17 3).toList ([b,c,q,r,v,p,n,s,t,u,d,f,g,i,j,k,l,m]) S =
  ( some ([b,c,q,r,n,p,dem n,s,t,u,d,f,g,i,dem n,k,l,m],S)):=by
 kernel_rfl
theorem jf.r4 :jy zi ⟨false,false,false⟩ (je zi O) (reg Try.f17 4) (reg Try.f17 4).toList ([b,c,q,r,v,p,n,s,t,u,d,f,g,i,j,k,l,m]) S =
  (zS ((je zi O) 23 [(dem (dem b)),(dem (dem p))] S) (fun A o=>some ([b,c,q,r,A,p,n,s,t,u,d,f,g,i,j,dem b,dem p,dem A],o)) ()):=by
 kernel_rfl
theorem jf.rs:type_of% (ahi @jf.r0 (ahi @jf.r1 (ahi @jf.r2 (ahi @jf.r3 (@jf.r4))))):=ahi @jf.r0 (ahi @jf.r1 (ahi @jf.r2 (ahi @jf.r3 (@jf.r4))))
theorem jf.runs {b c:Value} {S o:zx} {e:AEx} {T:List Value} (h:zG zi O false jf.code ([b,c,zh,zh,zh,zh,zh,zh,zh,zh,zh,zh,zh,zh,zh,zh,zh,zh]) S=some (e,T,o)) (he:e=.normal∨e=.ret):je zi O 17 [b,c] S=some (T.getD 4 zh,o) :=
 jY rfl rfl Try.func17 (by decide) jf.body (by exact h) he (yM (a:=T.getD 4 zh) ((show zQ zi T o Try.f17.results.toList=zQ zi T o [(ResultVar.tmp 4)] from by kernel_rfl).trans (by simp only [zQ])) (by kernel_rfl))
end Go.Proofs.Ytblpnklfimkfoaa
namespace Go.Proofs.Ytblpnklfimkfoaa
open Go.Abs
abbrev jm.id:FuncId:=26
noncomputable def jm.code:Code:=(.seq (.region 0 (reg Try.f26 0) false) (.seq (.region 1 (reg Try.f26 1) false) (.seq (.region 2 (reg Try.f26 2) false) Code.ret)))
theorem jm.body:Try.f26.body=some jm.code:=by kernel_rfl
variable (b g p f j k l m n o c d:Value) (S:zx)
theorem jm.r0 :jy zi ⟨false,false,false⟩ (je zi O) (reg Try.f26 0) (reg Try.f26 0).toList ([b,g,p,f,j,k,l,m,n,o,c,d]) S =
  ( some ([b,g,Value.slice none 0 0,f,j,k,l,m,n,o,c,d],S)):=by
 kernel_rfl
theorem jm.r1 :jy zi ⟨false,false,false⟩ (je zi O) (reg Try.f26 1) (reg Try.f26 1).toList ([b,g,p,f,j,k,l,m,n,o,c,d]) S =
  (zS ((je zi O) 25 [(dem (dem b))] S) (fun r i=>zS ((je zi O) 9 [(dem r)] i) (fun q u=>zS (zL q 0 u) (fun s v=>zS (zL (zY 0 q) 1 v) (fun t w=>some ([b,g,p,s,t,zY 1 (zY 0 q),dem b,r,dem q,dem s,dem t,d],w)) ()) ()) ()) ()):=by
 kernel_rfl
theorem jm.r2 :jy zi ⟨false,false,false⟩ (je zi O) (reg Try.f26 2) (reg Try.f26 2).toList ([b,g,p,f,j,k,l,m,n,o,c,d]) S =
  ( some ([b,g,f,dem f,j,k,l,m,n,o,c,dem f],S)):=by
 kernel_rfl
theorem jm.rs:type_of% (ahi @jm.r0 (ahi @jm.r1 (@jm.r2))):=ahi @jm.r0 (ahi @jm.r1 (@jm.r2))
theorem jm.runs {b:Value} {S i:zx} {e:AEx} {T:List Value} (h:zG zi O false jm.code ([b,zh,zh,zh,zh,zh,zh,zh,zh,zh,zh,zh]) S=some (e,T,i)) (he:e=.normal∨e=.ret):je zi O 26 [b] S=some (T.getD 2 zh,i) :=
 jY rfl rfl Try.func26 (by decide) jm.body (by exact h) he (yM (a:=T.getD 2 zh) ((show zQ zi T i Try.f26.results.toList=zQ zi T i [(ResultVar.tmp 2)] from by kernel_rfl).trans (by simp only [zQ])) (by kernel_rfl))
end Go.Proofs.Ytblpnklfimkfoaa
