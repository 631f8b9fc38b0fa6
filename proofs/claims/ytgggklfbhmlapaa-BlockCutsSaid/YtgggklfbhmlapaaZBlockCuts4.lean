/-
The law BlockCuts returns true for every input, and leaves it as it was; no condition. Part 4 of 5 of the texts (put together by a program: own names are short, what isn't needed is left out).
-/
import Derived.Test.YtgggklfbhmlapaaZBlockCuts3
import Derived.KernelRfl
import Derived.Test.YtgggklfbhmlapaaChecked
set_option linter.unusedVariables false
set_option linter.unusedSimpArgs false
set_option maxRecDepth 100000
open Go renaming undef → zh
open Go.Proofs.Try renaming prog → zi
open Nat renaming reduceEqDiff → zk
open Int renaming reduceEq → zn
open Int renaming reduceLT → zo
open Int renaming reduceLE → zq
namespace Go.Abs
open Go.RowKit
def ZY (P:Program) (call:FuncId→List Value→M Value):Prop:=∀ g args aargs S v S',call g args S=some (v,S')→∀ μ H ω,GI μ S H→L0 μ H args aargs→Dom μ H ω→(∀ r s,ω r=some s→s=.ext) →
 ∃ a H' μ' ω',lim P g aargs H=some (a,H')∧GI μ' S' H'∧Later μ H μ' H'∧Kept ω H ω' H'∧Dom μ' H' ω'∧VV μ' H' ω' (some (.res none)) v a
section
variable {P:Program} {call:FuncId→List Value→M Value} {μ:Mu} {ω:Nat→Option wH} {S S' H:zx} {T A:List Value}
theorem adb (hc:ZY P call) {g:FuncId} {args aargs:List Value} {v:Value} (hG:GI μ S H) (hT:TI μ H ω T A) (h:call g args S=some (v,S')) (ha:L0 μ H args aargs):Out μ ω H A T S' v (lim P g aargs H):=by
 obtain ⟨a,H',μ',ω',h1,h2,h3,h4,h5,h6⟩:=hc g args aargs S v S' h μ H (fun r=>(ω r).map fun _=>.ext) hG ha (fun r s hs=>by
  cases hr:ω r with
  | none=>simp [hr] at hs
  | some s0=>exact hT.dom r s0 hr) (fun r s hs=>by
  cases hr:ω r with
  | none=>simp [hr] at hs
  | some s0=>simp [hr] at hs;exact hs.symm)
 have kept:∀ r s,ω r=some s→ω' r=some .ext∧H'.get r=H.get r:=fun r s hs=>h4 r (by dsimp only;rw [hs];rfl)
 refine ⟨a,H',μ',fun r=>match ω' r with | some .ext=>ω r | some (.slot _ _)=>none | x=>x,h1,h2,h3,fun r hr=>?_,fun r s hs=>?_,hT.len,fun i=>?_,?_⟩
 ·
  obtain ⟨k1,k2⟩:=kept r _ hr
  exact ⟨by (try dsimp only);rw [k1];exact hr,k2⟩
 ·
  dsimp only at hs
  cases hr:ω' r with
  | none=>rw [hr] at hs;cases hs
  | some s0 =>
   have:=h5 r s0 hr
   exact this
 ·
  refine (hT.slots i).later h3 (K:=fun _=>True) (fun _ _ _ _ _=>trivial) (fun r s _ hr=>?_) (fun _ _=>trivial)
  obtain ⟨k1,k2⟩:=kept r s hr
  exact ⟨by (try dsimp only);rw [k1];exact hr,k2⟩
 ·
  refine h6.later (Later.refl _ _) (K:=fun s=>∃ j,s=.res j) (fun s i t ⟨j,hj⟩ ht=>by subst hj;cases j <;> cases ht;exact ⟨_,rfl⟩) (fun r s ⟨j,hj⟩ hr=>?_) (fun s hs=>by cases hs;exact ⟨_,rfl⟩)
  subst hj
  exact ⟨by (try dsimp only);rw [hr],rfl⟩
def Zu (t:Nat):wH→Option wH
 | .slot i j=>if i=t then some (.res j) else some (.slot i j)
 | s=>some s
def Z5 (t k:Nat):wH→Option wH
 | .slot i (some j)=>if i=t∧j=k then some (.res none) else some (.slot i (some j))
 | s=>some s
theorem KX {x:Operand} (hG:GI μ S H) (hT:TI μ H ω T A) (hx:yw x=true):Out μ ω H A (jW T x) S (zL T x) (some (zL A x,H)):=by
 cases x with
 | const v=>exact Out.same hG hT (VV.jX hx)
 | global g=>cases hx
 | func f=>exact Out.same hG hT (hT.eval (x:=.func f) rfl)
 | tmp t =>
  refine ⟨_,H,μ,fun r=>(ω r).bind (Zu t),rfl,hG,Later.refl μ H,fun r hr=>⟨by dsimp only;rw [hr];rfl,rfl⟩,fun r s hs=>?_,by simp [jW,yx,hT.len],fun i=>?_,?_⟩
  ·
   dsimp only at hs
   cases hr:ω r with
   | none=>rw [hr] at hs;cases hs
   | some s0=>exact hT.dom r s0 hr
  ·
   dsimp only [jW,yx]
   rw [wM]
   by_cases hi:i=t
   ·
    subst hi
    by_cases hlt:i < T.length
    ·
     rw [if_pos ⟨rfl,hlt⟩]
     exact (hT.slots i).v0.at0
    ·
     rw [if_neg (fun h=>hlt h.2)]
     rw [List.getD_eq_getElem?_getD,List.getElem?_eq_none (Nat.le_of_not_lt hlt),List.getD_eq_getElem?_getD,List.getElem?_eq_none (by rw [← hT.len];omega)]
     exact .nores
   ·
    rw [if_neg (fun h=>hi h.1)]
    refine (hT.slots i).Yq (fun _=>rfl) _ (fun s hs=>?_)
    cases hs
    refine ⟨_,rfl,by simp only [Zu];rw [if_neg hi],fun k t' ht=>?_⟩
    cases ht
    exact ⟨_,rfl,by simp only [Zu];rw [if_neg hi]⟩
  ·
   refine (hT.slots t).Yq (fun _=>rfl) _ (fun s hs=>?_)
   cases hs
   refine ⟨_,rfl,by simp only [Zu,if_true],fun k t' ht=>?_⟩
   cases ht
   exact ⟨_,rfl,by simp only [Zu,if_true]⟩
theorem getD_modify (vs:Array Value) (i k:Nat) (f:Value→Value) (hf:f zh=zh):(vs.modify i f).getD k zh=if k=i then f (vs.getD k zh) else vs.getD k zh:=by
 rw [Array.getD_eq_getD_getElem?,Array.getD_eq_getD_getElem?,Array.getElem?_modify]
 by_cases h:i=k
 ·
  subst h
  rw [if_pos rfl,if_pos rfl]
  cases vs[i]? with
  | none=>exact hf.symm
  | some v=>rfl
 ·
  rw [if_neg h,if_neg (fun e=>h e.symm)]
theorem VV.part {ω':Nat→Option wH} {ℓ ℓ':Option wH} {v a:Value} (h:VV μ H ω ℓ v a) (hℓ:∀ s,ℓ=some s→∀ k,s.comp k=none):VV μ H ω' ℓ' (Go.Abs.qg v) a:=by
 by_cases ht:∃ x,v=.tuple x
 ·
  obtain ⟨x,rfl⟩:=ht
  show VV μ H ω' ℓ' (.tuple x) a
  cases h with
  | sg hs=>simp [Go.Abs.sg] at hs
  | nores=>exact .nores
  | tuple hx hh =>
   refine .tuple hx fun i=>?_
   have:=hh i
   cases ℓ with
   | none=>exact this.at0
   | some s =>
    have e:(some s).bind (·.comp i)=none:=hℓ s rfl i
    rw [e] at this
    exact this.at0
 ·
  have e:Go.Abs.dem v=Go.Abs.qg v:=by
   cases v <;> first | rfl | exact absurd ⟨_,rfl⟩ ht
  rw [← e]
  exact h.v0.at0
def ZG (T:List Value) (i:Nat):Operand→List Value
 | .tmp t=>T.set t (zM i (T.getD t zh))
 | _=>T
theorem QZ {x:Operand} {i:Nat} {v:Value} (hG:GI μ S H) (hT:TI μ H ω T A) (hx:yw x=true) (h:zF (zL T x) i S=some (v,S')) :
  Out μ ω H A (ZG T i x) S' v (zF (zL A x) i H):=by
 cases x with
 | const w =>
  exfalso
  unfold zF at h
  split at h
  ·
   rename_i vs he
   simp only [zL] at he
   subst he
   simp [yw,ground,Go.Abs.sg] at hx
  ·
   cases h
 | global g=>cases hx
 | func f=>simp [zL,zF] at h
 | tmp t =>
  simp only [zL,ZG] at h ⊢
  unfold zF at h
  split at h
  ·
   rename_i vs hvs
   split at h <;> first | (cases h;done) | skip
   rename_i w hw
   cases h
   have hs:=hT.slots t
   rw [hvs] at hs
   have hil:i < vs.size:=(Array.getElem?_eq_some_iff.1 hw).1
   have hlt:t < T.length:=by
    rcases Nat.lt_or_ge t T.length with h | h
    ·
     exact h
    ·
     rw [List.getD_eq_getElem?_getD,List.getElem?_eq_none h] at hvs
     cases hvs
     simp at hil
   generalize hA:A.getD t zh=at' at hs
   cases hs with
   | sg hs=>simp [Go.Abs.sg] at hs
   | nores=>simp at hil
   | @tuple _ _ y hxs hxx =>
    have hiy:i < y.size:=by rw [← hxs];exact hil
    have hrun:zF (.tuple y) i H=some (y[i],H):=by simp only [zF,Array.getElem?_eq_getElem hiy]
    rw [hrun]
    have hcomp:=hxx i
    rw [Array.getD_eq_getD_getElem?,hw,Array.getD_eq_getD_getElem?,Array.getElem?_eq_getElem hiy] at hcomp
    simp only [Option.getD_some] at hcomp
    refine ⟨_,H,μ,fun r=>(ω r).bind (Z5 t i),rfl,hG,Later.refl μ H,fun r hr=>⟨by dsimp only;rw [hr];rfl,rfl⟩,fun r s hs=>?_,by simp [hT.len],fun k=>?_,?_⟩
    ·
     dsimp only at hs
     cases hr:ω r with
     | none=>rw [hr] at hs;cases hs
     | some s0=>exact hT.dom r s0 hr
    ·
     rw [wM]
     by_cases hk:k=t
     ·
      subst hk
      rw [if_pos ⟨rfl,hlt⟩,hA,hvs]
      simp only [zM]
      refine .tuple (by simpa using hxs) fun j=>?_
      rw [getD_modify _ _ _ _ rfl]
      by_cases hj:j=i
      ·
       subst hj
       rw [if_pos rfl]
       exact (hxx j).part (fun s hs k=>by cases hs;rfl)
      ·
       rw [if_neg hj]
       refine (hxx j).Yq (fun _=>rfl) _ (fun s hs=>?_)
       cases hs
       refine ⟨_,rfl,by simp only [Z5];rw [if_neg (fun e=>hj e.2)],fun a b hb=>by cases hb⟩
     ·
      rw [if_neg (fun e=>hk e.1)]
      refine (hT.slots k).Yq (fun _=>rfl) _ (fun s hs=>?_)
      cases hs
      refine ⟨_,rfl,rfl,fun a b hb=>?_⟩
      cases hb
      exact ⟨_,rfl,by simp only [Z5];rw [if_neg (fun e=>hk e.1)]⟩
    ·
     refine hcomp.Yq (fun _=>rfl) _ (fun s hs=>?_)
     cases hs
     exact ⟨_,rfl,by simp [Z5],fun a b hb=>by cases hb⟩
  ·
   cases h
theorem adX (hT:TI μ H ω T A):∀ (xs:List Operand),xs.all yw=true→L0 μ H (xs.map fun x=>dem (zL T x)) (xs.map (zL A)):=by
 intro xs h
 exact LV.map fun x hx=>hT.eval (List.all_eq_true.1 h x hx)
theorem Ju {xs:List Operand} (hT:TI μ H ω T A) (h:xs.all yw=true) (hg:(xs.map (zL T)).all ground=true):xs.map (zL A)=xs.map (zL T):=by
 apply List.map_congr_left
 intro x hx
 exact zW (hT.eval (List.all_eq_true.1 h x hx)) (List.all_eq_true.1 hg _ (List.mem_map.2 ⟨x,hx,rfl⟩))
theorem ac1 {o:Oper} (h:hands o=false) (hc:∀ c,o.op≠.call c):moved o T=T:=by
 unfold moved
 unfold hands at h
 split <;> first | rfl | (rename_i he;exact absurd he (hc _)) | (rename_i he;rw [he] at h;cases h)
theorem ab1 {fx:Fx} (hc:ZY P call) {o:Oper} {v:Value} (hG:GI μ S H) (hT:TI μ H ω T A) (h:wC P fx call T o S=some (v,S')):Out μ ω H A (moved o T) S' v (jT P (lim P) A o H):=by
 unfold wC at h
 split at h <;> first | (cases h;done) | skip
 rename_i hok
 unfold jT
 rw [if_pos hok]
 have hargs:o.op.operands.toList.all yw=true:=hok
 have hev:∀ x ∈ o.op.operands.toList,V0 μ H (dem (zL T x)) (zL A x):=fun x hx=>hT.eval (List.all_eq_true.1 hargs x hx)
 have hoka:∀ x ∈ o.op.operands.toList,yw x=true:=fun x hx=>List.all_eq_true.1 hargs x hx
 obtain ⟨dst,op,type,pos,after,guard⟩:=o
 by_cases hcall:∃ c,op=.call c
 ·
  obtain ⟨c,rfl⟩:=hcall
  dsimp only at h hev hoka hargs ⊢
  have hcargs:c.args.toList.all yw=true:=by
   rw [List.all_eq_true]
   intro x hx
   refine hoka x ?_
   simp only [Op.operands,Call.operands]
   cases c.callee <;> simp <;> first | exact .inr (by simpa using hx) | exact (by simpa using hx)
  cases hcal:c.callee with
  | value f =>
   rw [hcal] at h
   dsimp only at h ⊢
   have hf:=hev f (by simp [Op.operands,Call.operands,hcal])
   split at h <;> first | (cases h;done) | skip
   rename_i g first captured hfe
   rw [hfe] at hf
   have hf:V0 μ H (.func (.func g) first captured) (zL A f):=hf
   generalize hfa:zL A f=fa at hf
   cases hf with
   | sg hs=>simp [Go.Abs.sg] at hs
   | func _ hx hcs h1 h2 =>
    rename_i x' c'
    dsimp only
    have l1:L0 μ H first.toList x'.toList:=⟨by simpa using hx,fun i=>by rw [getD_toList,getD_toList];exact h1 i⟩
    have l2:L0 μ H captured.toList c'.toList:=⟨by simpa using hcs,fun i=>by rw [getD_toList,getD_toList];exact h2 i⟩
    have hm:moved ⟨dst,.call c,type,pos,after,guard⟩ T=T:=by simp only [moved,hcal]
    rw [hm]
    exact adb hc hG hT h ((l1.append (adX hT _ hcargs)).append l2)
  | invoke r m=>rw [hcal] at h;cases h
  | builtin b =>
   rw [hcal] at h
   dsimp only at h ⊢
   unfold YR at h
   unfold yV
   cases b <;> dsimp only at h ⊢ <;> first | (cases h;done) | skip
   case len =>
    split at h <;> first | (cases h;done) | skip
    rename_i t x0 ht ha
    obtain ⟨x,hx,rfl⟩:∃ x,c.args.toList=[x]∧zL T x=x0:=by
     match hl:c.args.toList with
     | []=>rw [hl] at ha;cases ha
     | [y]=>rw [hl] at ha;simp at ha;exact ⟨y,rfl,ha⟩
     | y::z::w=>rw [hl] at ha;simp at ha
    have hm:moved ⟨dst,.call c,type,pos,after,guard⟩ T=T:=by simp only [moved,hcal]
    rw [hm,ht,hx]
    rw [hx] at hcargs
    obtain ⟨rfl,a,h1,h2⟩:=abo h (hT.eval (List.all_eq_true.1 hcargs x (by simp)))
    simp only [List.map_cons,List.map_nil]
    rw [h1]
    exact Out.same hG hT h2
   case append =>
    split at h <;> first | (cases h;done) | skip
    rename_i t tx s0 x0 ht ha
    obtain ⟨so,x,hx,rfl,rfl⟩:∃ so x,c.args.toList=[so,x]∧zL T so=s0∧zL T x=x0:=by
     match hl:c.args.toList with
     | []=>rw [hl] at ha;cases ha
     | [y]=>rw [hl] at ha;simp at ha
     | [y,z]=>rw [hl] at ha;simp at ha;exact ⟨y,z,rfl,ha.1,ha.2⟩
     | y::z::w::u=>rw [hl] at ha;simp at ha
    rw [hx] at hcargs
    have hso:=List.all_eq_true.1 hcargs so (by simp)
    have hm:moved ⟨dst,.call c,type,pos,after,guard⟩ T=jW T so:=by
     simp only [moved,hcal,hx]
     cases so <;> rfl
    rw [hm,ht,hx]
    exact VK hG hT hso h (hT.eval (List.all_eq_true.1 hcargs x (by simp)))
   case copy =>
    split at h <;> first | (cases h;done) | skip
    rename_i t tx s0 x0 ht ha
    obtain ⟨so,x,hx,rfl,rfl⟩:∃ so x,c.args.toList=[so,x]∧zL T so=s0∧zL T x=x0:=by
     match hl:c.args.toList with
     | []=>rw [hl] at ha;cases ha
     | [y]=>rw [hl] at ha;simp at ha
     | [y,z]=>rw [hl] at ha;simp at ha;exact ⟨y,z,rfl,ha.1,ha.2⟩
     | y::z::w::u=>rw [hl] at ha;simp at ha
    rw [hx] at hcargs
    have hm:moved ⟨dst,.call c,type,pos,after,guard⟩ T=T:=by simp only [moved,hcal]
    rw [hm,ht,hx]
    exact ab9 hG hT h (hT.eval (List.all_eq_true.1 hcargs so (by simp))) (hT.eval (List.all_eq_true.1 hcargs x (by simp)))
   case clear =>
    split at h <;> first | (cases h;done) | skip
    rename_i t x0 ht ha
    obtain ⟨x,hx,rfl⟩:∃ x,c.args.toList=[x]∧zL T x=x0:=by
     match hl:c.args.toList with
     | []=>rw [hl] at ha;cases ha
     | [y]=>rw [hl] at ha;simp at ha;exact ⟨y,rfl,ha⟩
     | y::z::w=>rw [hl] at ha;simp at ha
    have hm:moved ⟨dst,.call c,type,pos,after,guard⟩ T=T:=by simp only [moved,hcal]
    rw [hm,ht,hx]
    rw [hx] at hcargs
    exact abA hG hT h (hT.eval (List.all_eq_true.1 hcargs x (by simp)))
   case min =>
    obtain ⟨rfl,hg,hga,hh⟩:=jR (H:=H) h
    have hm:moved ⟨dst,.call c,type,pos,after,guard⟩ T=T:=by simp only [moved,hcal]
    rw [hm,Ju hT hcargs hga,hh]
    exact Out.same hG hT (V0.ground hg)
   case max =>
    obtain ⟨rfl,hg,hga,hh⟩:=jR (H:=H) h
    have hm:moved ⟨dst,.call c,type,pos,after,guard⟩ T=T:=by simp only [moved,hcal]
    rw [hm,Ju hT hcargs hga,hh]
    exact Out.same hG hT (V0.ground hg)
 ·
  have hnc:∀ c,op≠.call c:=fun c hc=>hcall ⟨c,hc⟩
  have hV:vOp P fx (zL T) ⟨dst,op,type,pos,after,guard⟩ S=some (v,S'):=by
   cases op <;> first | exact h | exact absurd rfl (hnc _)
  suffices hs:Out μ ω H A (moved ⟨dst,op,type,pos,after,guard⟩ T) S' v (aOp P (zL A) ⟨dst,op,type,pos,after,guard⟩ H) by
   cases op <;> first | exact hs | exact absurd rfl (hnc _)
  by_cases hh:hands ⟨dst,op,type,pos,after,guard⟩=true
  ·
   cases op <;> first | (cases hh;done) | skip
   case move x =>
    cases hV
    have:=KX hG hT (hoka x (by simp [Op.operands]))
    have hm:moved ⟨dst,.move x,type,pos,after,guard⟩ T=jW T x:=by cases x <;> rfl
    rw [hm];exact this
   case assign x =>
    cases hV
    have:=KX hG hT (hoka x (by simp [Op.operands]))
    have hm:moved ⟨dst,.assign x,type,pos,after,guard⟩ T=jW T x:=by cases x <;> rfl
    rw [hm];exact this
   case extract x i =>
    have:=QZ hG hT (hoka x (by simp [Op.operands])) hV
    have hm:moved ⟨dst,.extract x i,type,pos,after,guard⟩ T=(ZG T i x):=by cases x <;> rfl
    rw [hm];exact this
  ·
   have hh:hands ⟨dst,op,type,pos,after,guard⟩=false:=by simpa using hh
   rw [ac1 hh hnc]
   by_cases hch:Zm P ⟨dst,op,type,pos,after,guard⟩=false
   ·
    obtain ⟨rfl,a,h1,h2,h3⟩:=Y1 hV hch hev (.inr hG) (.inr hG)
    rw [h1]
    exact Out.same hG hT (h3 hh)
   ·
    unfold vOp at hV
    unfold aOp
    cases op <;> dsimp only at hV hev ⊢ <;> first | (cases hV;done) | (exact absurd rfl hch) | (cases hh;done) | skip
    case alloc e=>exact aaM hG hT hV
    case box x _=>exact ad6 hG hT hV (hev x (by simp [Op.operands]))
    case buildSlice t len parts _ =>
     have hps:=Y0 (μ:=μ) (H:=H) (parts:=parts.toList) (ρ:=zL T) (ρA:=zL A) fun p hp=>hev p.2 (by simp [Op.operands];exact ⟨p.1,by simpa using hp⟩)
     split at hV
     ·
      exact QA hG hT hV hps
     ·
      exact J6 hG hT hV hps
    case makeMap t r _=>exact Ky hG hT hV (fun h=>by cases r <;> simp at h ⊢)
    case mapUpdate t x k w _=>exact Yk hG hT hV (hev x (by simp [Op.operands])) (hev k (by simp [Op.operands])) (hev w (by simp [Op.operands]))
    case store a x _=>exact abx hG hT hV (hev a (by simp [Op.operands])) (hev x (by simp [Op.operands]))
    case makeSlice l c _ =>
     split at hV
     ·
      exact QO hG hT hV (hev l (by simp [Op.operands])) (hev c (by simp [Op.operands]))
     ·
      exact Yz hG hT hV (hev l (by simp [Op.operands])) (hev c (by simp [Op.operands]))
    case convert dst' x _ =>
     have hd:∃ e,P.underlying dst'=some (.slice e):=by
      unfold Zm at hch
      dsimp only at hch
      split at hch
      ·
       exact ⟨_,by assumption⟩
      ·
       exact absurd rfl hch
     obtain ⟨e,hd⟩:=hd
     cases x with
     | tmp t=>exact Jk hG hT hV (hT.slots t) hd
     | const w=>exact Jk hG hT hV (VV.jX (ℓ:=none) (hoka (.const w) (by simp [Op.operands]))) hd
     | global g=>have:=hoka (.global g) (by simp [Op.operands]);cases this
     | func f=>exact Jk hG hT hV (ℓ:=none) ((hT.eval (x:=.func f) rfl).at0) hd
theorem aaH {ops:Array Oper} (hT:TI μ H ω T A) (j:Nat):ynd ops T j=ynd ops A j:=by
 unfold ynd
 cases hd:(ops[j]?).bind (·.dst) with
 | none=>rfl
 | some d =>
  simp only [Option.bind_some]
  have:=hT.slots d
  have e:=hT.len
  by_cases hlt:d < T.length
  ·
   have hlt':d < A.length:=by rw [← e];exact hlt
   simp only [List.getD_eq_getElem?_getD,List.getElem?_eq_getElem hlt,List.getElem?_eq_getElem hlt',Option.getD_some] at this
   rw [List.getElem?_eq_getElem hlt,List.getElem?_eq_getElem hlt']
   generalize T[d]=u at *
   generalize A[d]=u' at *
   cases this <;> rfl
  ·
   have hlt':A.length≤d:=by rw [← e];exact Nat.le_of_not_lt hlt
   rw [List.getElem?_eq_none (Nat.le_of_not_lt hlt),List.getElem?_eq_none hlt']
theorem TI.moved (hT:TI μ H ω T A) (o:Oper):TI μ H ω (moved o T) A:=by
 have slot:∀ t,TI μ H ω (yx T t) A:=by
  intro t
  refine ⟨by simp [yx,hT.len],fun i=>?_,hT.dom,hT.nores⟩
  rw [yx,wM]
  split
  ·
   rename_i h;rw [h.1];exact (hT.slots t).dem
  ·
   exact hT.slots i
 unfold Go.Abs.moved
 split
 ·
  exact slot _
 ·
  exact slot _
 ·
  rename_i t i _
  refine ⟨by simp [hT.len],fun k=>?_,hT.dom,hT.nores⟩
  rw [wM]
  split
  ·
   rename_i h
   rw [h.1]
   have:=hT.slots t
   generalize T.getD t zh=w at this
   cases w with
   | tuple vs =>
    simp only [zM]
    generalize A.getD t zh=a at this
    cases this with
    | sg hs=>simp [Go.Abs.sg] at hs
    | nores=>rw [show (#[]:Array Value).modify i Go.Abs.qg=#[] by simp];exact .nores
    | @tuple _ _ y hxs hxx =>
     refine .tuple (by simpa using hxs) fun j=>?_
     rw [getD_modify _ _ _ _ rfl]
     by_cases hj:j=i
     ·
      subst hj
      rw [if_pos rfl]
      exact (hxx j).part (fun s hs k=>by cases hs;rfl)
     ·
      rw [if_neg hj];exact hxx j
   | _=>exact this
  ·
   exact hT.slots k
 ·
  split
  ·
   exact slot _
  ·
   exact hT
 ·
  exact hT
def After (μ:Mu) (ω:Nat→Option wH) (H:zx) (T':List Value) (S':zx) (R:Option (List Value×zx)):Prop :=
 ∃ A' H' μ' ω',R=some (A',H')∧GI μ' S' H'∧Later μ H μ' H'∧Kept ω H ω' H'∧TI μ' H' ω' T' A'
theorem Xv {fx:Fx} (hc:ZY P call) {o:Oper} {rest:List Oper} {v:Value} (hG:GI μ S H) (hT:TI μ H ω T A) (h:wC P fx call T o S=some (v,S')) :
  ∃ a H' μ' ω',jT P (lim P) A o H=some (a,H')∧GI μ' S' H'∧Later μ H μ' H'∧Kept ω H ω' H'∧TI μ' H' ω' (vg o rest T v) (Zn A o.dst a):=by
 unfold vg
 split
 ·
  rename_i hl
  have hm:∃ x,o.op=.move x:=by
   unfold agu at hl
   split at hl
   ·
    rename_i x _ he _;exact ⟨x,he⟩
   ·
    cases hl
  obtain ⟨x,hx⟩:=hm
  unfold wC at h
  split at h <;> first | (cases h;done) | skip
  rename_i hok
  have hox:yw x=true:=List.all_eq_true.1 (show o.op.operands.toList.all yw=true from hok) x (by rw [hx];simp [Op.operands])
  rw [hx] at h
  dsimp only at h
  unfold vOp at h
  rw [hx] at h
  cases h
  have ha:jT P (lim P) A o H=some (zL A x,H):=by
   unfold jT
   rw [if_pos hok,hx]
   dsimp only
   unfold aOp
   rw [hx]
   rfl
  rw [ha]
  exact (Out.same hG hT (hT.eval hox)).put o.dst
 ·
  exact (ab1 hc hG hT h).put o.dst
theorem ZL {o:Oper} {rest:List Oper} (hG:GI μ S H) (hT:TI μ H ω T A):∃ μ' ω',GI μ' S H∧Later μ H μ' H∧Kept ω H ω' H∧TI μ' H ω' (vg o rest T zh) (Zn A o.dst zh):=by
 unfold vg
 split
 ·
  rw [show dem zh=zh from kX]
  obtain ⟨a,H1,μ1,ω1,h1,h2,h3,h4,h5⟩:=(Out.same hG hT (VV.zh)).put o.dst
  cases h1
  exact ⟨μ1,ω1,h2,h3,h4,h5⟩
 ·
  obtain ⟨a,H1,μ1,ω1,h1,h2,h3,h4,h5⟩:=(Out.same hG (hT.moved o) (VV.zh)).put o.dst
  cases h1
  exact ⟨μ1,ω1,h2,h3,h4,h5⟩
theorem ad2 {fx:Fx} (hc:ZY P call) {ops:Array Oper}:∀ (l:List Oper) (T T' A:List Value) (S S' H:zx) (μ:Mu) (ω:Nat→Option wH),jq P fx call ops l T S=some (T',S')→GI μ S H→TI μ H ω T A→After μ ω H T' S' (QN P (lim P) ops l A H):=by
 intro l
 induction l with
 | nil =>
  intro T T' A S S' H μ ω h hG hT
  simp only [jq,Option.some.injEq,Prod.mk.injEq] at h
  obtain ⟨rfl,rfl⟩:=h
  exact ⟨A,H,μ,ω,rfl,hG,Later.refl _ _,Kept.refl _ _,hT⟩
 | cons o l ih =>
  intro T T' A S S' H μ ω h hG hT
  have hy:(ynd ops T)=ynd ops A:=funext fun j=>aaH hT j
  simp only [jq] at h
  simp only [QN,← hy]
  split at h
  ·
   rename_i hw
   split at h
   ·
    rename_i v S1 hs
    obtain ⟨a,H1,μ1,ω1,h1,h2,h3,h4,h5⟩:=Xv (rest:=l) hc hG hT hs
    obtain ⟨A2,H2,μ2,ω2,k1,k2,k3,k4,k5⟩:=ih _ _ _ _ _ _ _ _ h h2 h5
    refine ⟨A2,H2,μ2,ω2,?_,k2,h3.trans k3,h4.trans k4,k5⟩
    rw [if_pos hw,h1]
    exact k1
   ·
    cases h
  ·
   rename_i hw
   obtain ⟨μ1,ω1,h2,h3,h4,h5⟩:=ZL (o:=o) (rest:=l) hG hT
   obtain ⟨A2,H2,μ2,ω2,k1,k2,k3,k4,k5⟩:=ih _ _ _ _ _ _ _ _ h h2 h5
   refine ⟨A2,H2,μ2,ω2,?_,k2,h3.trans k3,h4.trans k4,k5⟩
   rw [if_neg hw]
   exact k1
end
end Go.Abs
namespace Go.Abs
open Go.RowKit
section
variable {P:Program} {call:FuncId→List Value→M Value} {μ μ2:Mu} {S S' G H H2:zx} {T A:List Value}
theorem kS.two {s:M Value} (hs:kS s) {a:Value} {G':zx} (h:s G=some (a,G')):∀ H,s H=some (a,H):=by
 obtain ⟨o,ho⟩:=hs
 rw [ho] at h
 cases o with
 | none=>cases h
 | some w =>
  simp only [Option.map_some,Option.some.injEq,Prod.mk.injEq] at h
  intro H
  rw [ho,h.1];rfl
theorem KF {t:TypeId} {ps:List (Nat×Value)}:kS (wQ P t ps):=by
 refine ⟨(wQ P t ps zx.empty).map (·.1),fun H=>?_⟩
 unfold wQ
 split
 ·
  split
  ·
   split
   ·
    split
    ·
     split <;> rfl
    ·
     rfl
   ·
    split
    ·
     split <;> rfl
    ·
     rfl
   ·
    rfl
  ·
   rfl
 ·
  rfl
theorem JZ {x:Value}:kS (yZ x):=by
 refine ⟨(yZ x zx.empty).map (·.1),fun H=>?_⟩
 unfold yZ
 split <;> rfl
theorem QS {t:TypeId} {x i:Value}:kS (qL P t x i):=by
 unfold qL
 refine ⟨(qL P t x i zx.empty).map (·.1),fun H=>?_⟩
 unfold qL
 dsimp only
 split
 ·
  split
  ·
   split
   ·
    split <;> rfl
   ·
    rfl
  ·
   rfl
 ·
  obtain ⟨o,ho⟩:=wG (P:=P) _ _
  rw [ho,ho]
  cases o <;> rfl
 ·
  rfl
theorem aaS {t:TypeId} {x:Value} (hx:∀ m,x≠.map m):kS (QL P t x):=by
 refine ⟨(QL P t x zx.empty).map (·.1),fun H=>?_⟩
 unfold QL
 split <;> first | rfl | exact absurd rfl (hx _)
theorem Je {d:Nat} {v:Value} (h:okq d v=true):okq d (dem v)=true:=by
 cases v with
 | iface k v=>cases d <;> rfl
 | tuple vs=>cases d <;> cases h
 | _=>exact h
theorem JD:∀ (d:Nat) {v a:Value},okq d v=true→V0 μ H v a→VP d a a=true:=by
 intro d
 induction d with
 | zero =>
  intro v a h hv
  cases hv <;> first | (cases h;done) | (simp [VP];done) | skip
  rename_i hs
  cases v <;> first | (simp [VP];done) | (simp [Go.Abs.sg] at hs;done) | skip
 | succ d ih =>
  intro v a h hv
  cases hv <;> first | (cases h;done) | (simp [VP];done) | skip
  ·
   rename_i hs
   cases v <;> first | (simp [VP];done) | (simp [Go.Abs.sg] at hs;done) | skip
  ·
   rename_i x x' hx hh
   unfold VP
   simp only [decide_true,Bool.true_and]
   rw [List.all_eq_true]
   intro p hp
   obtain ⟨i,hi,he⟩:=List.mem_iff_getElem.1 hp
   simp only [List.length_zip,Nat.min_self] at hi
   rw [List.getElem_zip] at he
   subst he
   have hi':i < x'.size:=by simpa using hi
   have hi2:i < x.size:=by rw [hx];exact hi'
   have h2:=hh i
   rw [Array.getD_eq_getD_getElem?,Array.getElem?_eq_getElem hi2,Array.getD_eq_getD_getElem?,Array.getElem?_eq_getElem hi'] at h2
   have h3:okq d x[i]=true:=List.all_eq_true.1 (show x.toList.all (okq d)=true from h) _ (by simp)
   have:=ih h3 h2
   simpa using this
theorem XG (x:Value):YT (dem x)=YT x:=by cases x <;> rfl
theorem adP {fx:Fx} {o:Oper} {v:Value} (hdr:fx.dr=true) (h:wC P fx call T o S=some (v,S')) (hn:Zm P o=false) (hr:yY o=false) (ho:∀ x ∈ o.op.operands.toList,V0 μ G (dem (zL T x)) (zL A x)) :
  ∃ a,V0 μ G (dem v) a∧∀ H,aOp P (zL A) o H=some (a,H)∧jT P (lim P) A o H=some (a,H):=by
 have hrm:yJ o=false:=by
  unfold yY at hr
  unfold yJ
  split <;> simp_all
 unfold wC at h
 split at h <;> first | (cases h;done) | skip
 rename_i hok
 obtain ⟨dst,op,type,pos,after,guard⟩:=o
 by_cases hcall:∃ c,op=.call c
 ·
  obtain ⟨c,rfl⟩:=hcall
  dsimp only at h ho
  unfold Zm at hn
  dsimp only at hn
  have hcargs:∀ x ∈ c.args.toList,V0 μ G (dem (zL T x)) (zL A x):=by
   intro x hx
   refine ho x ?_
   simp only [Op.operands,Call.operands]
   cases c.callee <;> simp <;> first | exact .inr (by simpa using hx) | exact (by simpa using hx)
  have step:∀ {b:Builtin} (a:Value),c.callee=.builtin b→(∀ H,yV P b c.argTypes type (c.args.toList.map (zL A)) H=some (a,H))→∀ H,aOp P (zL A) ⟨dst,.call c,type,pos,after,guard⟩ H=some (a,H)∧jT P (lim P) A ⟨dst,.call c,type,pos,after,guard⟩ H=some (a,H):=by
   intro b a hb hall H
   constructor
   ·
    unfold aOp;dsimp only;rw [hb];exact hall H
   ·
    unfold jT;rw [if_pos hok];dsimp only;rw [hb];exact hall H
  cases hcal:c.callee with
  | value f=>rw [hcal] at hn;cases hn
  | invoke r m=>rw [hcal] at hn;cases hn
  | builtin b =>
   rw [hcal] at h
   dsimp only at h
   unfold YR at h
   rw [hcal] at hn
   have gargs:(c.args.toList.map (zL T)).all ground=true→c.args.toList.map (zL A)=c.args.toList.map (zL T):=by
    intro hg
    apply List.map_congr_left
    intro x hx
    exact zW (hcargs x hx) (List.all_eq_true.1 hg _ (List.mem_map.2 ⟨x,hx,rfl⟩))
   cases b <;> dsimp only at h hn <;> first | (cases h;done) | (cases hn;done) | skip
   case len =>
    split at h <;> first | (cases h;done) | skip
    rename_i t x0 ht ha
    obtain ⟨x,hx,rfl⟩:∃ x,c.args.toList=[x]∧zL T x=x0:=by
     match hl:c.args.toList with
     | []=>rw [hl] at ha;cases ha
     | [y]=>rw [hl] at ha;simp at ha;exact ⟨y,rfl,ha⟩
     | y::z::w=>rw [hl] at ha;simp at ha
    have hxv:=hcargs x (by rw [hx];simp)
    obtain ⟨rfl,a,h1,h2⟩:=abo h hxv
    have hmap:∀ m,zL A x≠.map m:=by
     intro m hm
     rw [hm] at hxv
     generalize hu:dem (zL T x)=u at hxv
     have hum:∃ m',u=.map m':=by cases hxv <;> exact ⟨_,rfl⟩
     obtain ⟨m',rfl⟩:=hum
     have:zL T x=.map m':=by
      cases hv:zL T x <;> rw [hv] at hu <;> simp [dem,qg] at hu <;> rw [hu]
     rw [this] at h
     simp [JI] at h
    refine ⟨a,h2.dem,step a hcal fun H=>?_⟩
    unfold yV
    dsimp only
    rw [ht,hx]
    exact (aaS hmap).two h1 H
   case min =>
    obtain ⟨rfl,hg,hga,hh⟩:=jR (H:=G) h
    refine ⟨v,(V0.ground hg).dem,step v hcal fun H=>?_⟩
    unfold yV
    dsimp only
    rw [gargs hga]
    exact (wG _ _).two hh H
   case max =>
    obtain ⟨rfl,hg,hga,hh⟩:=jR (H:=G) h
    refine ⟨v,(V0.ground hg).dem,step v hcal fun H=>?_⟩
    unfold yV
    dsimp only
    rw [gargs hga]
    exact (wG _ _).two hh H
 ·
  have hnc:∀ c,op≠.call c:=fun c hc=>hcall ⟨c,hc⟩
  have hV:vOp P fx (zL T) ⟨dst,op,type,pos,after,guard⟩ S=some (v,S'):=by
   cases op <;> first | exact h | exact absurd rfl (hnc _)
  obtain ⟨rfl,a,h1,h2,h3⟩:=Y1 (ρA:=zL A) hV hn ho (.inl (ZB hrm)) (.inl hdr)
  have hA:∀ H,jT P (lim P) A ⟨dst,op,type,pos,after,guard⟩ H=aOp P (zL A) ⟨dst,op,type,pos,after,guard⟩ H:=by
   intro H
   unfold jT
   rw [if_pos hok]
   cases op <;> first | rfl | exact absurd rfl (hnc _)
  refine ⟨a,h2,fun H=>?_⟩
  rw [hA]
  have key:aOp P (zL A) ⟨dst,op,type,pos,after,guard⟩ H=some (a,H):=by
   have hf:kS (aOp P (zL A) ⟨dst,op,type,pos,after,guard⟩):=by
    unfold Zm at hn
    unfold yY at hr
    unfold aOp
    unfold vOp at hV
    cases op <;> dsimp only at hn hr hV ⊢ <;> first | (cases hn;done) | (cases hr;done) | (cases hV;done) | skip
    ·
     exact JM _
    ·
     exact JM _
    ·
     exact Vo _ _ _
    ·
     exact KF
    ·
     exact JZ
    ·
     exact YZ _ _ _ _
    ·
     exact abW _ _
    ·
     exact JM _
    ·
     exact JQ _ _ _
    ·
     exact KU _ _ _
    ·
     exact JH _ _ _
    ·
     exact QS
    ·
     exact Yo _ _
   exact hf.two h1 H
  exact ⟨key,key⟩
theorem aah {t:TypeId} {r o e:Nat} {l:List Value} {own own':Own} {a:Value} (hg:G.get r=some (.cells l own e)) (hg':H2.get r=some (.cells l own' e)) (h:wK P t (.pointer (some ⟨r,o,none⟩)) G=some (a,G)) :
  wK P t (.pointer (some ⟨r,o,none⟩)) H2=some (a,H2):=by
 simp only [wK,hg] at h
 simp only [wK,hg']
 (repeat' split at h) <;> first | (cases h;done) | skip
 all_goals simp_all
theorem VV.backed {v:Value} {r o n c:Nat} (h:V0 μ G v (.slice (some ⟨r,o,none⟩) n c)) (hv:YT v=false):∃ l own e,r < G.next∧xR μ r∧G.get r=some (.cells l own e):=by
 cases h with
 | sg hs=>simp [Go.Abs.sg] at hs
 | slm hm=>simp [YT] at hv
 | sl hr hp hg _ _ _=>exact ⟨_,_,_,hr,hp,hg⟩
theorem XZ {x:Value} {n:Nat} {cs:List Value} (hx:∀ r o n c,x=.slice (some ⟨r,o,none⟩) n c→∃ l own own' e,G.get r=some (.cells l own e)∧H2.get r=some (.cells l own' e)) (h:wV x n G=some cs):wV x n H2=some cs:=by
 unfold wV at h ⊢
 split at h
 ·
  rename_i r o k c
  obtain ⟨l,own,own',e,hg,hg'⟩:=hx _ _ _ _ rfl
  rw [hg] at h
  rw [hg']
  exact h
 ·
  exact h
 ·
  exact h
 ·
  cases h
theorem aat {src dst:TypeId} {x a:Value} (hd:∀ e,P.underlying dst≠some (.slice e)) (hx:∀ r o n c,x=.slice (some ⟨r,o,none⟩) n c→∃ l own own' e,G.get r=some (.cells l own e)∧H2.get r=some (.cells l own' e)) (h:wo P src dst x G=some (a,G)) :
  wo P src dst x H2=some (a,H2):=by
 unfold wo at h ⊢
 split at h
 ·
  rename_i b n c
  (try dsimp only)
  split at h
  ·
   rename_i e hs hdd
   split at h <;> first | (cases h;done) | skip
   rename_i he
   split at h <;> first | (cases h;done) | skip
   rename_i cs hcs
   rw [XZ hx hcs]
   (try dsimp only)
   split at h <;> first | (cases h;done) | skip
   rename_i bs hbs
   (try rw [hbs])
   cases h
   rfl
  ·
   rename_i e0 e hs hdd
   exact absurd hdd (hd e)
  ·
   cases h
 ·
  rename_i s
  (try dsimp only)
  split at h
  ·
   rename_i d e hs hdd
   exact absurd hdd (hd e)
  ·
   exact (wG _ _).two h H2
 ·
  exact (wG _ _).two h H2
theorem XV {t:TypeId} {x a:Value} {lo hi:Option Value} (hx:∀ r o n c,x=.slice (some ⟨r,o,none⟩) n c→∃ l own own' e,G.get r=some (.cells l own e)∧H2.get r=some (.cells l own' e)) (h:yO P t x lo hi G=some (a,G)) :
  yO P t x lo hi H2=some (a,H2):=by
 unfold yO at h ⊢
 split at h
 ·
  rename_i s hu
  exact (wG _ _).two h H2
 ·
  rename_i e b n c hu
  (try dsimp only)
  split at h <;> first | (cases h;done) | skip
  rename_i size l hh hs hl hhi
  (try simp only [hs,hl,hhi])
  split at h <;> first | (cases h;done) | skip
  rename_i c0
  split at h <;> first | (cases h;done) | skip
  rename_i c1
  split at h <;> first | (cases h;done) | skip
  rename_i c2
  rw [if_pos c0,if_pos c1,if_pos c2]
  split at h
  ·
   split at h <;> first | (cases h;done) | skip
   rename_i hn
   cases h
   rw [if_pos hn]
  ·
   rename_i r o
   obtain ⟨l2,own,own',e2,hg,hg'⟩:=hx _ _ _ _ rfl
   rw [hg] at h
   rw [hg']
   dsimp only at h ⊢
   split at h <;> first | (cases h;done) | skip
   rename_i he
   rw [if_pos he]
   cases h
   rfl
  ·
   split at h <;> first | (cases h;done) | skip
   rename_i hn
   cases h
   rw [if_pos hn]
  ·
   cases h
 ·
  cases h
theorem Zz {t:TypeId} {r o:Nat} {a:Value} {G':zx} (hg:H2.get r=G.get r) (h:wK P t (.pointer (some ⟨r,o,none⟩)) G=some (a,G')):wK P t (.pointer (some ⟨r,o,none⟩)) H2=some (a,H2):=by
 simp only [wK] at h ⊢
 rw [hg]
 (repeat' split at h) <;> first | (cases h;done) | skip
 all_goals simp_all
theorem Y5 {t:TypeId} {x k:Value} {ok:Bool} {a:Value} {G':zx} (hg:∀ r,x=.map (some r)→H2.get r=G.get r) (h:jP P t x k ok G=some (a,G')):jP P t x k ok H2=some (a,H2):=by
 have e:∀ H:zx,jP P t x k ok H=(jP P t x k ok H).map (fun r=>(r.1,H)):=by
  intro H
  unfold jP
  (try dsimp only)
  (repeat' split) <;> rfl
 have e2:(jP P t x k ok H2).map (·.1)=(jP P t x k ok G).map (·.1):=by
  cases x with
  | map b =>
   cases b with
   | none=>unfold jP;dsimp only;(repeat' split) <;> rfl
   | some r =>
    unfold jP
    dsimp only
    rw [hg r rfl]
    (repeat' split) <;> rfl
  | _=>unfold jP;(try dsimp only) <;> (try ((repeat' split) <;> rfl))
 rw [h] at e2
 rw [e H2]
 cases hh:jP P t x k ok H2 with
 | none=>rw [hh] at e2;cases e2
 | some w =>
  rw [hh] at e2
  simp only [Option.map_some,Option.some.injEq] at e2 ⊢
  rw [e2]
theorem aeg {fx:Fx} {o:Oper} {v:Value} (hdr:fx.dr=true) (h:wC P fx call T o S=some (v,S')) (hn:Zm P o=false) (hm:qE (zL T) o) (ho:∀ x ∈ o.op.operands.toList,V0 μ G (dem (zL T x)) (zL A x)) (hL:Later μ G μ2 H2) :
  ∃ a,V0 μ G (dem v) a∧aOp P (zL A) o G=some (a,G)∧aOp P (zL A) o H2=some (a,H2)∧jT P (lim P) A o G=some (a,G)∧jT P (lim P) A o H2=some (a,H2):=by
 by_cases hr:yY o=false
 ·
  obtain ⟨a,h1,h2⟩:=adP hdr h hn hr ho
  exact ⟨a,h1,(h2 G).1,(h2 H2).1,(h2 G).2,(h2 H2).2⟩
 ·
  unfold wC at h
  split at h <;> first | (cases h;done) | skip
  rename_i hok
  obtain ⟨dst,op,type,pos,after,guard⟩:=o
  unfold yY at hr
  cases op <;> dsimp only at h hr <;> first | (exact absurd rfl hr) | skip
  case load t addr =>
   obtain ⟨rfl,a,h1,h2,h3⟩:=Y1 (ρA:=zL A) h hn ho (.inl hm) (.inl hdr)
   have hA:∀ H,jT P (lim P) A ⟨dst,.load t addr,type,pos,after,guard⟩ H=aOp P (zL A) ⟨dst,.load t addr,type,pos,after,guard⟩ H:=fun H=>by unfold jT;rw [if_pos hok]
   have key:aOp P (zL A) ⟨dst,.load t addr,type,pos,after,guard⟩ H2=some (a,H2):=by
    have hx:=ho addr (by simp [Op.operands])
    have h:jk P fx.nm t (zL T addr) S'=some (v,S'):=h
    unfold aOp at h1 ⊢
    dsimp only at h1 ⊢
    unfold jk at h
    split at h
    ·
     rename_i k cs he
     split at h <;> first | (cases h;done) | skip
     rename_i hk
     subst hk
     rw [he] at hx
     have hx:V0 μ G (.iface 3 (.agg cs)) (zL A addr):=hx
     generalize hq:zL A addr=q at hx h1 ⊢
     cases hx with
     | sg hs=>simp [Go.Abs.sg] at hs
     | ep hr hp hg hl hc =>
      obtain ⟨own',hg'⟩:=hL.cells _ _ _ _ hr hp hg
      exact aah hg hg' h1
    ·
     rename_i ad he
     exact absurd he (hm ad)
    ·
     cases h
   exact ⟨a,h2,h1,key,by rw [hA];exact h1,by rw [hA];exact key⟩
  case convert src d x =>
   obtain ⟨rfl,a,h1,h2,h3⟩:=Y1 (ρA:=zL A) h hn ho (.inl hm) (.inl hdr)
   have hA:∀ H,jT P (lim P) A ⟨dst,.convert src d x,type,pos,after,guard⟩ H=aOp P (zL A) ⟨dst,.convert src d x,type,pos,after,guard⟩ H:=fun H=>by unfold jT;rw [if_pos hok]
   have key:aOp P (zL A) ⟨dst,.convert src d x,type,pos,after,guard⟩ H2=some (a,H2):=by
    have hx:=ho x (by simp [Op.operands])
    unfold aOp at h1 ⊢
    dsimp only at h1 ⊢
    refine aat (fun e he=>?_) (fun r o n c hq=>?_) h1
    ·
     unfold Zm at hn
     dsimp only at hn
     rw [he] at hn;cases hn
    ·
     rw [hq] at hx
     have hh:YT (dem (zL T x))=false:=by
      rw [XG]
      have h:yQ P fx.hp fx.dr src d (zL T x) S'=some (v,S'):=h
      unfold yQ at h
      split at h
      ·
       first | (cases h;done) | (rw [hdr] at h;simp at h)
      ·
       rename_i hh;simpa using hh
     obtain ⟨l,own,e,hr,hp,hg⟩:=hx.backed hh
     obtain ⟨own',hg'⟩:=hL.cells _ _ _ _ hr hp hg
     exact ⟨l,own,own',e,hg,hg'⟩
   exact ⟨a,h2,h1,key,by rw [hA];exact h1,by rw [hA];exact key⟩
  case slice t x lo hi mx =>
   obtain ⟨rfl,a,h1,h2,h3⟩:=Y1 (ρA:=zL A) h hn ho (.inl hm) (.inl hdr)
   have hA:∀ H,jT P (lim P) A ⟨dst,.slice t x lo hi mx,type,pos,after,guard⟩ H=aOp P (zL A) ⟨dst,.slice t x lo hi mx,type,pos,after,guard⟩ H:=fun H=>by unfold jT;rw [if_pos hok]
   have key:aOp P (zL A) ⟨dst,.slice t x lo hi mx,type,pos,after,guard⟩ H2=some (a,H2):=by
    have hx:=ho x (by simp [Op.operands])
    unfold aOp at h1 ⊢
    cases mx with
    | some m=>cases h1
    | none =>
     dsimp only at h1 ⊢
     refine XV (fun r o n c hq=>?_) h1
     rw [hq] at hx
     have hh:YT (dem (zL T x))=false:=by
      rw [XG]
      have h:qF P fx.dr t (zL T x) (lo.map (zL T)) (hi.map (zL T)) S'=some (v,S'):=h
      unfold qF at h
      split at h
      ·
       first | (cases h;done) | (rw [hdr] at h;simp at h)
      ·
       rename_i hh;simpa using hh
     obtain ⟨l,own,e,hr,hp,hg⟩:=hx.backed hh
     obtain ⟨own',hg'⟩:=hL.cells _ _ _ _ hr hp hg
     exact ⟨l,own,own',e,hg,hg'⟩
   exact ⟨a,h2,h1,key,by rw [hA];exact h1,by rw [hA];exact key⟩
  case lookup t x k ok =>
   exact hm.elim
end
end Go.Abs
namespace Go.Abs
open Go.RowKit
structure Line (P : Program) (fx : Fx) (chk : List Nat) (call : FuncId → List Value → M Value) (ops : Array Oper) (k0 : Nat) (l : List Oper) (Ts As : Nat → List Value) (Ss Hs : Nat → zx) (μs : Nat → Mu) (ωs : Nat → Nat → Option wH) (vs zf : Nat → Value) : Prop where
  inv : ∀ k, k ≤ l.length → GI (μs k) (Ss k) (Hs k) ∧ TI (μs k) (Hs k) (ωs k) (Ts k) (As k)
  step : ∀ k o, l[k]? = some o → Later (μs k) (Hs k) (μs (k + 1)) (Hs (k + 1)) ∧ Kept (ωs k) (Hs k) (ωs (k + 1)) (Hs (k + 1)) ∧
    ((Region.wanted o (ynd ops (As k)) = true ∧ wC P fx call (Ts k) o (Ss k) = some (vs k, Ss (k + 1)) ∧ jT P (lim P) (As k) o (Hs k) = some (zf k, Hs (k + 1)) ∧
        Ts (k + 1) = vg o (l.drop (k + 1)) (Ts k) (vs k) ∧ As (k + 1) = Zn (As k) o.dst (zf k) ∧ (chk.contains (k0 + k) = true → okq 3 (vs k) = true)) ∨
     (Region.wanted o (ynd ops (As k)) = false ∧ zf k = zh ∧ Ts (k + 1) = vg o (l.drop (k + 1)) (Ts k) zh ∧ As (k + 1) = Zn (As k) o.dst zh ∧ Hs (k + 1) = Hs k))
section
variable {P:Program} {call:FuncId→List Value→M Value}
theorem line_of {fx : Fx} {chk : List Nat} {nl : List (Nat × Nat)} (hc : ZY P call) {ops : Array Oper} : ∀ (l : List Oper) (k0 : Nat) (hist : List (Value × zx)) (T T' A : List Value) (S S' H : zx) (μ : Mu) (ω : Nat → Option wH), wI P fx chk nl call ops k0 hist l T S = some (T', S') → GI μ S H → TI μ H ω T A →
    ∃ Ts As Ss Hs μs ωs vs zf tr, Line P fx chk call ops k0 l Ts As Ss Hs μs ωs vs zf ∧ Ts 0 = T ∧ As 0 = A ∧ Ss 0 = S ∧ Hs 0 = H ∧ μs 0 = μ ∧ ωs 0 = ω ∧ Ts l.length = T' ∧ Ss l.length = S' ∧
      yu P (lim P) ops l A H = some (tr, As l.length, Hs l.length) ∧ (∀ k, k < l.length → tr[k]? = some (As k, Hs k, zf k)) ∧ (∀ k, k ≤ l.length → (tr.map (·.2.1) ++ [Hs l.length])[k]? = some (Hs k)) ∧
      ∃ hs : List (Value × zx), hs.length = l.length ∧ (∀ k o, l[k]? = some o → hs[k]? = some (yL (Ts k) o, Ss k)) ∧ (nl.isEmpty = false → nl.all (Qz (hist ++ hs ++ [(zh, S')])) = true) := by
  intro l
  induction l with
  | nil =>
    intro k0 hist T T' A S S' H μ ω h hG hT
    simp only [wI] at h
    split at h <;> first | (cases h; done) | skip
    rename_i hst
    cases h
    refine ⟨fun _ => T, fun _ => A, fun _ => S, fun _ => H, fun _ => μ, fun _ => ω, fun _ => zh, fun _ => zh, [], ⟨fun k _ => ⟨hG, hT⟩, fun k o ho => by simp at ho⟩, rfl, rfl, rfl, rfl, rfl, rfl, rfl, rfl, rfl, fun k hk => by simp at hk, fun k hk => ?_, [], rfl, fun k o ho => by simp at ho, fun he => ?_⟩
    · have : k = 0 := by simpa using hk
      subst this
      rfl
    · simpa [kM, he] using hst
  | cons o l ih =>
    intro k0 hist T T' A S S' H μ ω h hG hT
    have hy : (ynd ops T) = ynd ops A := funext fun j => aaH hT j
    simp only [wI] at h
    have glue : ∀ (T1 A1 : List Value) (S1 H1 : zx) (μ1 : Mu) (ω1 : Nat → Option wH) (v a : Value), wI P fx chk nl call ops (k0 + 1) (kM nl hist (yL T o) S) l T1 S1 = some (T', S') → GI μ1 S1 H1 → TI μ1 H1 ω1 T1 A1 → Later μ H μ1 H1 → Kept ω H ω1 H1 →
        ((Region.wanted o (ynd ops A) = true ∧ wC P fx call T o S = some (v, S1) ∧ jT P (lim P) A o H = some (a, H1) ∧ T1 = vg o l T v ∧ A1 = Zn A o.dst a ∧ (chk.contains k0 = true → okq 3 v = true)) ∨
         (Region.wanted o (ynd ops A) = false ∧ a = zh ∧ T1 = vg o l T zh ∧ A1 = Zn A o.dst zh ∧ H1 = H)) →
        (∀ tr A2 H2, yu P (lim P) ops l A1 H1 = some (tr, A2, H2) → yu P (lim P) ops (o :: l) A H = some ((A, H, a) :: tr, A2, H2)) →
        ∃ Ts As Ss Hs μs ωs vs zf tr, Line P fx chk call ops k0 (o :: l) Ts As Ss Hs μs ωs vs zf ∧ Ts 0 = T ∧ As 0 = A ∧ Ss 0 = S ∧ Hs 0 = H ∧ μs 0 = μ ∧ ωs 0 = ω ∧ Ts (o :: l).length = T' ∧ Ss (o :: l).length = S' ∧
          yu P (lim P) ops (o :: l) A H = some (tr, As (o :: l).length, Hs (o :: l).length) ∧ (∀ k, k < (o :: l).length → tr[k]? = some (As k, Hs k, zf k)) ∧ (∀ k, k ≤ (o :: l).length → (tr.map (·.2.1) ++ [Hs (o :: l).length])[k]? = some (Hs k)) ∧
          ∃ hs : List (Value × zx), hs.length = (o :: l).length ∧ (∀ k o', (o :: l)[k]? = some o' → hs[k]? = some (yL (Ts k) o', Ss k)) ∧ (nl.isEmpty = false → nl.all (Qz (hist ++ hs ++ [(zh, S')])) = true) := by
      intro T1 A1 S1 H1 μ1 ω1 v a hrest hG1 hT1 hL hK hstep htr
      obtain ⟨Ts, As, Ss, Hs, μs, ωs, vs, zf, tr, hline, e1, e2, e3, e4, e5, e6, e7, e8, e9, e10, e11, hs, e12, e13, e14⟩ := ih _ _ _ _ _ _ _ _ _ _ hrest hG1 hT1
      refine ⟨fun k => match k with | 0 => T | k + 1 => Ts k, fun k => match k with | 0 => A | k + 1 => As k, fun k => match k with | 0 => S | k + 1 => Ss k, fun k => match k with | 0 => H | k + 1 => Hs k,
        fun k => match k with | 0 => μ | k + 1 => μs k, fun k => match k with | 0 => ω | k + 1 => ωs k, fun k => match k with | 0 => v | k + 1 => vs k, fun k => match k with | 0 => a | k + 1 => zf k, (A, H, a) :: tr,
        ⟨fun k hk => ?_, fun k o' ho => ?_⟩, rfl, rfl, rfl, rfl, rfl, rfl, e7, e8, htr _ _ _ e9, fun k hk => ?_, fun k hk => ?_, (yL T o, S) :: hs, by simp [e12], fun k o' ho => ?_, fun he => ?_⟩
      · cases k with
        | zero => exact ⟨hG, hT⟩
        | succ k => exact hline.inv k (by simpa using hk)
      · cases k with
        | zero =>
          simp only [List.getElem?_cons_zero, Option.some.injEq] at ho
          subst ho
          dsimp only
          rw [e1, e2, e3, e4, e5, e6]
          exact ⟨hL, hK, hstep⟩
        | succ k =>
          have := hline.step k o' (by simpa using ho)
          rw [show k0 + 1 + k = k0 + (k + 1) by omega] at this
          exact this
      · cases k with
        | zero => rfl
        | succ k => simpa using e10 k (by simpa using hk)
      · cases k with
        | zero => rfl
        | succ k => simpa using e11 k (by simpa using hk)
      · cases k with
        | zero =>
          simp only [List.getElem?_cons_zero, Option.some.injEq] at ho
          subst ho
          rfl
        | succ k => simpa using e13 k o' (by simpa using ho)
      · have := e14 he
        rw [show kM nl hist (yL T o) S = hist ++ [(yL T o, S)] by simp [kM, he]] at this
        simpa using this
    split at h
    · rename_i hw
      split at h
      · rename_i v S1 hs
        split at h <;> first | (cases h; done) | skip
        rename_i hchk
        obtain ⟨a, H1, μ1, ω1, h1, h2, h3, h4, h5⟩ := Xv (rest := l) hc hG hT hs
        have hw' : Region.wanted o (ynd ops A) = true := by rw [← hy]; exact hw
        refine glue _ _ _ H1 μ1 ω1 v a h h2 h5 h3 h4 (.inl ⟨hw', hs, h1, rfl, rfl, fun hk => ?_⟩) (fun tr A2 H2 ht => ?_)
        · rw [hk] at hchk; simpa using hchk
        · simp only [yu, hw', if_true, h1, ht]
      · cases h
    · rename_i hw
      obtain ⟨μ1, ω1, h2, h3, h4, h5⟩ := ZL (o := o) (rest := l) hG hT
      have hw' : Region.wanted o (ynd ops A) = false := by rw [← hy]; simpa using hw
      refine glue _ _ _ H μ1 ω1 zh zh h h2 h5 h3 h4 (.inr ⟨hw', rfl, rfl, rfl, rfl⟩) (fun tr A2 H2 ht => ?_)
      simp only [yu, hw', ht]
      rfl
variable {fx:Fx} {chk:List Nat} {ops:Array Oper} {k0:Nat} {l:List Oper} {Ts As:Nat→List Value} {Ss Hs:Nat→zx} {μs:Nat→Mu} {ωs:Nat→Nat→Option wH} {vs zf:Nat→Value}
theorem Line.later (hl:Line P fx chk call ops k0 l Ts As Ss Hs μs ωs vs zf) {i:Nat}:∀ (d:Nat),i+d≤l.length→Later (μs i) (Hs i) (μs (i+d)) (Hs (i+d)):=by
 intro d
 induction d with
 | zero=>intro _;exact Later.refl _ _
 | succ d ih =>
  intro hd
  have ho:l[i+d]?=some l[i+d]:=List.getElem?_eq_getElem (by omega)
  exact (ih (by omega)).trans (hl.step (i+d) _ ho).1
theorem Line.kept (hl:Line P fx chk call ops k0 l Ts As Ss Hs μs ωs vs zf):∀ (d:Nat),d≤l.length→Kept (ωs 0) (Hs 0) (ωs d) (Hs d):=by
 intro d
 induction d with
 | zero=>intro _;exact Kept.refl _ _
 | succ d ih =>
  intro hd
  have ho:l[d]?=some l[d]:=List.getElem?_eq_getElem (by omega)
  exact (ih (by omega)).trans (hl.step d _ ho).2.1
theorem Q7 (i:Nat) (w:Value):dem (zM i w)=dem w:=by
 cases w with
 | tuple vs =>
  simp only [zM,dem]
  congr 1
  apply Array.ext (by simp)
  intro k h1 h2
  rw [Array.getElem_map,Array.getElem_map,Array.getElem_modify]
  split
  ·
   have:∀ v,qg (qg v)=qg v:=by
    intro v
    cases v with
    | iface k v =>
     simp only [qg]
     by_cases h:k=2
     ·
      rw [if_pos h,if_neg (by decide)]
     ·
      rw [if_neg h,if_neg h]
    | _=>rfl
   exact this _
  ·
   rfl
 | _=>rfl
theorem Qm (o:Oper) (T:List Value) (t:Nat):dem ((moved o T).getD t zh)=dem (T.getD t zh):=by
 have slot:∀ t',dem ((yx T t').getD t zh)=dem (T.getD t zh):=by
  intro t'
  rw [yx,wM]
  split
  ·
   rename_i h;rw [h.1,Yt]
  ·
   rfl
 unfold moved
 split
 ·
  exact slot _
 ·
  exact slot _
 ·
  rw [wM]
  split
  ·
   rename_i h;rw [h.1,Q7]
  ·
   rfl
 ·
  split
  ·
   exact slot _
  ·
   rfl
 ·
  rfl
theorem moved_length (o:Oper) (T:List Value):(moved o T).length=T.length:=by
 unfold moved
 split <;> first | simp [yx] | rfl | skip
 split <;> first | simp [yx] | rfl
theorem QJ {o:Oper} {rest:List Oper} {T:List Value} {v:Value} (hd:o.dst=none) (t:Nat):dem ((vg o rest T v).getD t zh)=dem (T.getD t zh):=by
 unfold vg
 rw [hd]
 split
 ·
  rfl
 ·
  exact Qm o T t
theorem QB {o:Oper} {rest:List Oper} {T:List Value} {v:Value} {d:Nat} (hd:o.dst=some d) (t:Nat):dem ((vg o rest T v).getD t zh)=if t=d∧d < T.length then dem v else dem (T.getD t zh):=by
 unfold vg
 rw [hd]
 split
 ·
  simp only [Zn]
  rw [wM]
  split
  ·
   exact Yt v
  ·
   rfl
 ·
  simp only [Zn]
  rw [wM,moved_length]
  split
  ·
   rfl
  ·
   exact Qm o T t
def Clear (μ:Mu) (G:zx) (bad:List Nat) (T A:List Value):Prop:=∀ t,bad.contains t=false→V0 μ G (dem (T.getD t zh)) (A.getD t zh)
theorem Clear.operands {μ:Mu} {G:zx} {bad:List Nat} {T A:List Value} (h:Clear μ G bad T A) {o:Oper} (hok:Vb o=true) (hc:yh bad o=true):∀ x ∈ o.op.operands.toList,V0 μ G (dem (zL T x)) (zL A x):=by
 intro x hx
 have h1:=List.all_eq_true.1 (show o.op.operands.toList.all yw=true from hok) x hx
 have h2:=List.all_eq_true.1 hc x hx
 cases x with
 | tmp t=>exact h t (by simpa using h2)
 | const v=>exact (VV.jX (μ:=μ) (H:=G) (ω:=W0) (ℓ:=none) h1).v0
 | global g=>cases h1
 | func f =>
  have:V0 μ G (.func (.func f) #[] #[]) (.func (.func f) #[] #[]):=.func _ rfl rfl (fun i=>by simpa using VV.zh) (fun i=>by simpa using VV.zh)
  exact this
theorem qK {T:List Value} {o:Oper} {S S':zx} {v:Value} (h:wC P fx call T o S=some (v,S')):Vb o=true:=by
 unfold wC at h
 split at h
 ·
  assumption
 ·
  cases h
theorem Vr {fx:Fx} {o:Oper} {T A:List Value} {v:Value} {S S' H:zx} {μ:Mu} (h:wC P fx call T o S=some (v,S')) (hnm:fx.nm=true) (hm:¬ qE (zL T) o) (hG:GI μ S H) (ho:∀ x ∈ o.op.operands.toList,V0 μ H (dem (zL T x)) (zL A x)) :
  ground v=true∧∃ a,jT P (lim P) A o H=some (a,H)∧a=v:=by
 have hok:=qK h
 unfold wC at h
 rw [if_pos hok] at h
 obtain ⟨dst,op,type,pos,after,guard⟩:=o
 unfold qE at hm
 cases op <;> dsimp only at h hm <;> first | (exact absurd True.intro hm) | skip
 case load t a =>
  have h:jk P fx.nm t (zL T a) S=some (v,S'):=h
  obtain ⟨q,hq⟩:∃ q,zL T a=.pointer q:=Classical.byContradiction fun hn=>hm fun q hq=>hn ⟨q,hq⟩
  obtain ⟨rfl,w,k1,k2⟩:=Zh h (ho a (by simp [Op.operands])) (.inr hG)
  rw [hnm] at h
  have hgr:ground v=true:=by
   unfold jk at h
   rw [hq] at h
   dsimp only at h
   split at h <;> first | (cases h;done) | skip
   ·
    split at h
    ·
     split at h <;> first | (cases h;done) | skip
     rename_i hg
     cases h
     exact hg
    ·
     rename_i hf;exact absurd rfl hf
   ·
    split at h
    ·
     split at h <;> first | (cases h;done) | skip
     rename_i hg
     cases h
     exact hg
    ·
     rename_i hf;exact absurd rfl hf
  refine ⟨hgr,w,?_,k2.y9 hgr⟩
  unfold jT
  rw [if_pos hok]
  exact k1
 case lookup t x k ok =>
  have h:qU P fx.nm t (zL T x) (zL T k) ok S=some (v,S'):=h
  unfold qU at h
  rw [hnm] at h
  simp at h
theorem Line.acZ (hl:Line P fx chk call ops k0 l Ts As Ss Hs μs ωs vs zf) {j k:Nat} (hjk:j≤k) (hk:k≤l.length) {q r:Nat} {b:Bool} (hmq:μs j q=some (r,b)) {o:yc} (g1:(Ss j).get q=some o) (g2:o.alive=true) (g3:q ∉ (Ss k).log.take ((Ss k).log.length - (Ss j).log.length)):(Hs k).get r=(Hs j).get r:=by
 obtain ⟨hGj,_⟩:=hl.inv j (by omega)
 obtain ⟨hGk,_⟩:=hl.inv k hk
 obtain ⟨r0,_,g4,_⟩:=hGj.obj q o g1 g2
 rw [hmq] at g4
 cases g4
 have hL:=hl.later (i:=j) (k - j) (by omega)
 rw [show j+(k - j)=k by omega] at hL
 obtain ⟨new,n1,n2⟩:=hL.still
 rw [hGk.log,hGj.log] at n1
 rw [n1] at g3
 simp only [List.length_append,Nat.add_sub_cancel,List.take_left] at g3
 exact (n2 q r hmq g3).2
theorem Vf {fx:Bool} {t:TypeId} {q o:Nat} {v:Value} {S S2 S':zx} (e:S2.get q=S.get q) (h:jk P fx t (.pointer (some ⟨q,o,none⟩)) S=some (v,S')):jk P fx t (.pointer (some ⟨q,o,none⟩)) S2=some (v,S2):=by
 unfold jk at h ⊢
 dsimp only at h ⊢
 cases hl:wK P t (.pointer (some ⟨q,o,none⟩)) S with
 | none=>rw [hl] at h;cases h
 | some p =>
  obtain ⟨a,G⟩:=p
  rw [hl] at h
  rw [Zz e hl]
  cases a <;> dsimp only at h ⊢ <;> (repeat' split at h) <;> first | (cases h;done) | (cases h;simp_all;done) | skip
  all_goals (cases h;try simp_all)
theorem Line.Vs (hl:Line P fx chk call ops k0 l Ts As Ss Hs μs ωs vs zf) {j k:Nat} (hjk:j≤k) (hk:k≤l.length) {o:Oper} (hm:¬ qE (zL (Ts k)) o) (hL:isLoad o=true) (hv:wC P fx call (Ts k) o (Ss k)=some (vs k,Ss (k+1))) (ha:jT P (lim P) (As k) o (Hs k)=some (zf k,Hs (k+1)))
  (hx0:∀ x ∈ o.op.operands.toList,V0 (μs j) (Hs j) (dem (zL (Ts k) x)) (zL (As k) x)) (s1:jY (yL (Ts k) o) (Ss j) (Ss k)=true) (s2:abv (yL (Ts k) o) (Ss j) (Ss k)=true):V0 (μs j) (Hs j) (dem (vs k)) (zf k):=by
 have hok:=qK hv
 unfold wC at hv
 rw [if_pos hok] at hv
 obtain ⟨dst,op,type,pos,after,guard⟩:=o
 unfold qE at hm
 cases op <;> first | (cases hL;done) | skip
 case load t a =>
  dsimp only at hm
  have hv:jk P fx.nm t (zL (Ts k) a) (Ss k)=some (vs k,Ss (k+1)):=hv
  obtain ⟨ad,hq⟩:∃ q,zL (Ts k) a=.pointer q:=Classical.byContradiction fun hn=>hm fun q hq=>hn ⟨q,hq⟩
  have hx:=hx0 a (by simp [Op.operands])
  have hA:jT P (lim P) (As k) ⟨dst,.load t a,type,pos,after,guard⟩ (Hs k)=wK P t (zL (As k) a) (Hs k):=by unfold jT;rw [if_pos hok];rfl
  rw [hA] at ha
  have s1:jY (zL (Ts k) a) (Ss j) (Ss k)=true:=s1
  have s2:abv (zL (Ts k) a) (Ss j) (Ss k)=true:=s2
  rw [hq] at hx hv s1 s2
  have hx:V0 (μs j) (Hs j) (.pointer ad) (zL (As k) a):=hx
  generalize zL (As k) a=pa at hx ha
  cases hx with
  | sg hs =>
   cases ad with
   | none=>simp [jk,wK] at hv
   | some ad=>simp [Go.Abs.sg] at hs
  | @ptr _ q o r b hmq =>
   simp only [jY,Bool.and_eq_true,Bool.not_eq_true',List.contains_eq_mem,decide_eq_false_iff_not] at s1
   obtain ⟨h1,h3⟩:=s1
   split at h1 <;> first | (cases h1;done) | skip
   rename_i hsa
   have g:=hl.acZ hjk hk hmq hsa rfl h3
   have e:(Ss j).get q=(Ss k).get q:=@of_decide_eq_true _ (Classical.propDecidable _) s2
   have k1:=Zz g.symm ha
   have hvj:=Vf e hv
   obtain ⟨hGj,_⟩:=hl.inv j (by omega)
   obtain ⟨_,w,k2,k3⟩:=Zh hvj (show V0 (μs j) (Hs j) (dem (.pointer (some ⟨q,o,none⟩))) _ from .ptr hmq) (.inr hGj)
   rw [k1] at k2
   cases k2
   exact k3.dem
theorem Line.clear (hdr:fx.dr=true) (hl:Line P fx chk call ops k0 l Ts As Ss Hs μs ωs vs zf) {j:Nat} (hj:j≤l.length) {cl:Nat→Bool} (hcl:∀ k o,j≤k→l[k]?=some o→isLoad o=true→cl k=true→jY (yL (Ts k) o) (Ss j) (Ss k)=true∧abv (yL (Ts k) o) (Ss j) (Ss k)=true):∀ (rest:List Oper) (bad:List Nat) (k:Nat),j≤k→l.drop k=rest→Clear (μs j) (Hs j) bad (Ts k) (As k) →
  ∀ d,d≤rest.length→Clear (μs j) (Hs j) ((abh P fx.nm cl k rest bad).getD d []) (Ts (k+d)) (As (k+d)):=by
 intro rest
 induction rest with
 | nil =>
  intro bad k hjk hr hC d hd
  have:d=0:=by simpa using hd
  subst this
  exact hC
 | cons o rest ih =>
  intro bad k hjk hr hC d hd
  have hkl:k < l.length:=by
   have:=congrArg List.length hr
   simp at this;omega
  have ho:l[k]?=some o:=by
   have:=congrArg (·[0]?) hr
   simpa [List.getElem?_drop] using this
  cases d with
  | zero=>exact hC
  | succ d =>
   simp only [abh,List.getD_cons_succ]
   rw [show k+(d+1)=k+1+d by omega]
   refine ih _ (k+1) (by omega) ?_ ?_ d (by simpa using hd)
   ·
    rw [← List.drop_drop,hr];rfl
   ·
    obtain ⟨hL,_,hor⟩:=hl.step k o ho
    obtain ⟨hG,hT⟩:=hl.inv k (by omega)
    have hlen:=hT.len
    intro t ht
    cases hd:o.dst with
    | none =>
     rw [hd] at ht
     rcases hor with ⟨_,_,_,e1,e2,_⟩ | ⟨_,_,e1,e2,_⟩
     ·
      rw [e1,QJ hd,e2,hd];exact hC t ht
     ·
      rw [e1,QJ hd,e2,hd];exact hC t ht
    | some dd =>
     rw [hd] at ht
     dsimp only at ht
     have htb:bad.contains t=false:=by
      split at ht
      ·
       simp only [List.contains_cons,Bool.or_eq_false_iff] at ht;exact ht.2
      ·
       exact ht
     rcases hor with ⟨hw,hv,ha,e1,e2,_⟩ | ⟨_,_,e1,e2,_⟩
     ·
      rw [e1,QB hd,e2,hd]
      simp only [Zn]
      rw [wM,hlen]
      by_cases hc:t=dd∧dd < (As k).length
      ·
       rw [if_pos hc,if_pos hc]
       have hcond:¬ (Zm P o || !yh bad o || (yJ o && !fx.nm && !(isLoad o && cl k)))=true:=by
        intro hh
        rw [if_pos hh] at ht
        simp [hc.1] at ht
       rw [Bool.not_eq_true,Bool.or_eq_false_iff,Bool.or_eq_false_iff] at hcond
       obtain ⟨⟨q1,q2⟩,q3⟩:=hcond
       have q2':yh bad o=true:=by simpa using q2
       have hLj:Later (μs j) (Hs j) (μs k) (Hs k):=by
        have:=hl.later (i:=j) (k - j) (by omega)
        rwa [show j+(k - j)=k by omega] at this
       by_cases hm:qE (zL (Ts k)) o
       ·
        obtain ⟨a,h1,_,_,_,h5⟩:=aeg hdr hv q1 hm (hC.operands (qK hv) q2') hLj
        rw [ha] at h5
        have e:zf k=a:=by simpa using congrArg (Option.map Prod.fst) h5
        subst e
        exact h1
       ·
        have hrm:yJ o=true:=by
         cases hrm:yJ o with
         | true=>rfl
         | false=>exact absurd (ZB hrm) hm
        by_cases hnm:fx.nm=true
        rotate_left
        ·
         rw [Bool.not_eq_true] at hnm
         rw [hrm,hnm] at q3
         have q4:isLoad o=true∧cl k=true:=by simpa using q3
         obtain ⟨s1,s2⟩:=hcl k o hjk ho q4.1 q4.2
         exact hl.Vs hjk (by omega) hm q4.1 hv ha (hC.operands (qK hv) q2') s1 s2
        obtain ⟨g1,a,g2,g3⟩:=Vr hv hnm hm hG (fun x hx=>hT.eval (List.all_eq_true.1 (show o.op.operands.toList.all yw=true from qK hv) x hx))
        rw [ha] at g2
        have e:zf k=a:=by simpa using congrArg (Option.map Prod.fst) g2
        subst e
        rw [g3,Wv g1]
        exact V0.ground g1
      ·
       rw [if_neg hc,if_neg hc]
       exact hC t htb
     ·
      rw [e1,QB hd,e2,hd]
      simp only [Zn]
      rw [wM,hlen]
      by_cases hc:t=dd∧dd < (As k).length
      ·
       rw [if_pos hc,if_pos hc,show dem zh=zh from kX]
       exact .nores
      ·
       rw [if_neg hc,if_neg hc]
       exact hC t htb
theorem abb {hp0:Bool} (hc:ZY P call) {T T' A:List Value} {S S' H:zx} {μ:Mu} {ω:Nat→Option wH} (hd:qQ P ops=true) (h:wI P ⟨hp0,!(checked P ops).isEmpty,fixed P ops⟩ (checked P ops) (again P ops) call ops 0 [] ops.toList T S=some (T',S')) (hG:GI μ S H) (hT:TI μ H ω T A) :
  After μ ω H T' S' (kN P (lim P) ops A H):=by
 obtain ⟨Ts,As,Ss,Hs,μs,ωs,vs,zf,tr,hline,rfl,rfl,rfl,rfl,rfl,rfl,rfl,rfl,e9,e10,e11,hs,e12,e13,e14⟩:=line_of hc _ _ _ _ _ _ _ _ _ _ _ h hG hT
 obtain ⟨hGn,hTn⟩:=hline.inv ops.toList.length (Nat.le_refl _)
 have hLn:=hline.later (i:=0) ops.toList.length (by omega)
 rw [Nat.zero_add] at hLn
 refine ⟨As ops.toList.length,Hs ops.toList.length,μs ops.toList.length,ωs ops.toList.length,?_,hGn,hLn,hline.kept _ (Nat.le_refl _),hTn⟩
 simp only [qQ,Zc,Bool.and_eq_true] at hd
 have hlen:ops.toList.length < 1000:=of_decide_eq_true hd.1
 refine ac6 hd.2.1 e9 fun p hp=>?_
 have hchk:(checked P ops).contains p.1=true:=by
  unfold checked
  simp only [List.contains_eq_mem,decide_eq_true_eq]
  exact List.mem_map.2 ⟨p,hp,rfl⟩
 have hdr:(Fx.mk hp0 (!(checked P ops).isEmpty) (fixed P ops)).dr=true:=by
  show (!(checked P ops).isEmpty)=true
  cases hl:checked P ops with
  | nil=>rw [hl] at hchk;cases hchk
  | cons a b=>rfl
 have hp2:=List.all_eq_true.1 hd.2.2 p hp
 have hp0:=hp
 unfold need at hp
 obtain ⟨i,hi,hp⟩:=List.mem_flatMap.1 hp
 obtain ⟨j,hj,hp⟩:=List.mem_filterMap.1 hp
 have hi:i < ops.toList.length:=List.mem_range.1 hi
 have hj:j < ops.toList.length:=List.mem_range.1 hj
 split at hp <;> first | (cases hp;done) | skip
 rename_i oi oj hoi hoj
 split at hp <;> first | (cases hp;done) | skip
 rename_i hcond
 cases hp
 simp only [Bool.and_eq_true,Bool.not_eq_true'] at hcond
 obtain ⟨⟨hni,hcj⟩,_⟩:=hcond
 dsimp only at hp2 hchk ⊢
 rw [hoi] at hp2
 dsimp only at hp2
 have hij:i≠j:=by
  intro e;subst e
  rw [hoi] at hoj;cases hoj
  rw [hni] at hcj;cases hcj
 have hGj:(tr.map (·.2.1)++[Hs ops.toList.length])[if j < i then j else j+1]?=some (Hs (if j < i then j else j+1)):=e11 _ (by split <;> omega)
 unfold Jg
 rw [hoi,e10 i hi,hGj]
 dsimp only
 obtain ⟨_,_,hor⟩:=hline.step i oi hoi
 rcases hor with ⟨hw,hv,ha,heT,heA,hq⟩ | ⟨hw,_⟩
 ·
  rw [hw]
  simp only [Bool.not_true,Bool.false_or]
  obtain ⟨hGi,hTi⟩:=hline.inv i (by omega)
  have hops:∀ x ∈ oi.op.operands.toList,V0 (μs i) (Hs i) (dem (zL (Ts i) x)) (zL (As i) x):=fun x hx=>hTi.eval (List.all_eq_true.1 (show oi.op.operands.toList.all yw=true from qK hv) x hx)
  have hq3:okq 3 (vs i)=true:=hq (by rw [Nat.zero_add];exact hchk)
  have same:∃ G',aOp P (zL (As i)) oi (Hs (if j < i then j else j+1))=some (zf i,G')∧VP 3 (zf i) (zf i)=true:=by
   by_cases hm:qE (zL (Ts i)) oi
   case neg =>
    have hrm:yJ oi=true:=by
     cases hrm:yJ oi with
     | true=>rfl
     | false=>exact absurd (ZB hrm) hm
    have hin:(i,j) ∈ again P ops:=List.mem_append_left _ (List.mem_filter.2 ⟨hp0,by dsimp only;rw [hoi];exact hrm⟩)
    have hne:(again P ops).isEmpty=false:=by
     cases hl:again P ops with
     | nil=>rw [hl] at hin;cases hin
     | cons a b=>rfl
    have hst:=List.all_eq_true.1 (e14 hne) _ hin
    rw [List.nil_append] at hst
    have hi1:(hs++[(zh,Ss ops.toList.length)])[i]?=some (yL (Ts i) oi,Ss i):=by
     rw [List.getElem?_append_left (by omega)];exact e13 i oi hoi
    have hj1:∃ p2,(hs++[(zh,Ss ops.toList.length)])[if j < i then j else j+1]?=some (p2,Ss (if j < i then j else j+1)):=by
     by_cases hjl:(if j < i then j else j+1) < ops.toList.length
     ·
      rw [List.getElem?_append_left (by omega)]
      exact ⟨_,e13 _ _ (List.getElem?_eq_getElem hjl)⟩
     ·
      have:(if j < i then j else j+1)=ops.toList.length:=by split at hjl <;> (rename_i hh;simp only [hh,if_true,if_false];omega)
      rw [this,List.getElem?_append_right (by omega),e12,Nat.sub_self]
      exact ⟨_,rfl⟩
    obtain ⟨p2,hj1⟩:=hj1
    unfold Qz at hst
    dsimp only at hst
    rw [if_pos (show i < 1000 by omega),hi1,hj1] at hst
    dsimp only at hst
    have obj:∀ q r b,μs i q=some (r,b)→(∀ Sa Sb,jY (yL (Ts i) oi) Sa Sb=true→(∃ o,Sa.get q=some o∧o.alive=true)∧q ∉ Sb.log.take (Sb.log.length - Sa.log.length))→(Hs (if j < i then j else j+1)).get r=(Hs i).get r:=by
     intro q r b hq hQ
     by_cases hji:j < i
     ·
      rw [if_pos hji] at hst ⊢
      rw [if_pos hji] at hst
      obtain ⟨⟨o1,g1,g2⟩,g3⟩:=hQ _ _ hst
      obtain ⟨hGj3,_⟩:=hline.inv j (by omega)
      obtain ⟨r0,_,g4,_⟩:=hGj3.obj q o1 g1 g2
      have hL:=hline.later (i:=j) (i - j) (by omega)
      rw [show j+(i - j)=i by omega] at hL
      obtain ⟨b',hb'⟩:=hL.mu q r0 true g4
      rw [hq] at hb'
      cases hb'
      obtain ⟨new,n1,n2⟩:=hL.still
      rw [hGj3.log,hGi.log] at n1
      rw [n1] at g3
      simp only [List.length_append,Nat.add_sub_cancel,List.take_left] at g3
      exact (n2 q r g4 g3).2.symm
     ·
      rw [if_neg hji] at hst ⊢
      rw [if_neg hji] at hst
      obtain ⟨⟨o1,g1,g2⟩,g3⟩:=hQ _ _ hst
      have hb:=hGi.at hq g1 g2
      subst hb
      have hL:=hline.later (i:=i) (j+1 - i) (by omega)
      rw [show i+(j+1 - i)=j+1 by omega] at hL
      obtain ⟨hGj3,_⟩:=hline.inv (j+1) (by omega)
      obtain ⟨new,n1,n2⟩:=hL.still
      rw [hGj3.log,hGi.log] at n1
      rw [n1] at g3
      simp only [List.length_append,Nat.add_sub_cancel,List.take_left] at g3
      exact (n2 q r hq g3).2
    clear hst hi1 hj1
    have hok:=qK hv
    have hvo:=hv
    unfold wC at hv
    rw [if_pos hok] at hv
    obtain ⟨dst,op,type,pos,after,guard⟩:=oi
    unfold qE at hm
    cases op <;> dsimp only at hv hm <;> first | (exact absurd True.intro hm) | skip
    case load t a =>
     have hv:jk P (fixed P ops) t (zL (Ts i) a) (Ss i)=some (vs i,Ss (i+1)):=hv
     obtain ⟨ad,hq⟩:∃ q,zL (Ts i) a=.pointer q:=Classical.byContradiction fun hn=>hm fun q hq=>hn ⟨q,hq⟩
     have hx:=hops a (by simp [Op.operands])
     obtain ⟨_,w,k1,k2⟩:=Zh hv hx (.inr hGi)
     have hA:jT P (lim P) (As i) ⟨dst,.load t a,type,pos,after,guard⟩ (Hs i)=wK P t (zL (As i) a) (Hs i):=by unfold jT;rw [if_pos hok];rfl
     rw [hA,k1] at ha
     have e:w=zf i:=by simpa using congrArg (Option.map Prod.fst) ha
     subst e
     rw [hq] at hx
     have hx:V0 (μs i) (Hs i) (.pointer ad) (zL (As i) a):=hx
     generalize hpa:zL (As i) a=pa at hx k1
     have hres:wK P t pa (Hs (if j < i then j else j+1))=some (zf i,Hs (if j < i then j else j+1)):=by
      cases hx with
      | sg hs =>
       cases ad with
       | none=>simp [wK] at k1
       | some ad=>simp [Go.Abs.sg] at hs
      | @ptr _ q o r b hmq =>
       refine Zz (obj q r b hmq fun Sa Sb hQ=>?_) k1
       have hQ:jY (zL (Ts i) a) Sa Sb=true:=hQ
       rw [hq] at hQ
       simp only [jY,Bool.and_eq_true,Bool.not_eq_true',List.contains_eq_mem,decide_eq_false_iff_not] at hQ
       refine ⟨?_,hQ.2⟩
       have h1:=hQ.1
       split at h1 <;> first | (cases h1;done) | skip
       rename_i hsa
       exact ⟨_,hsa,rfl⟩
     rw [← hpa] at hres
     exact ⟨_,hres,JD 3 (Je hq3) k2.dem⟩
    case lookup t x k ok =>
     have hv:qU P (fixed P ops) t (zL (Ts i) x) (zL (Ts i) k) ok (Ss i)=some (vs i,Ss (i+1)):=hv
     have hx:=hops x (by simp [Op.operands])
     obtain ⟨_,w,k1,k2⟩:=Wl hv hx (hops k (by simp [Op.operands])) (.inr hGi)
     have hA:jT P (lim P) (As i) ⟨dst,.lookup t x k ok,type,pos,after,guard⟩ (Hs i)=jP P t (zL (As i) x) (zL (As i) k) ok (Hs i):=by unfold jT;rw [if_pos hok];rfl
     rw [hA,k1] at ha
     have e:w=zf i:=by simpa using congrArg (Option.map Prod.fst) ha
     subst e
     have hres:jP P t (zL (As i) x) (zL (As i) k) ok (Hs (if j < i then j else j+1))=some (zf i,Hs (if j < i then j else j+1)):=by
      refine Y5 (fun r hr=>?_) k1
      rw [hr] at hx
      generalize hu:dem (zL (Ts i) x)=u at hx
      have hum:∃ q b,u=.map (some q)∧μs i q=some (r,b):=by
       cases hx with
       | sg hs=>simp [Go.Abs.sg] at hs
       | map hmq=>exact ⟨_,_,rfl,hmq⟩
      obtain ⟨q,b,rfl,hmq⟩:=hum
      have hxe:zL (Ts i) x=.map (some q):=by
       cases hvx:zL (Ts i) x <;> rw [hvx] at hu <;> simp [dem,qg] at hu <;> rw [hu]
      refine obj q r b hmq fun Sa Sb hQ=>?_
      have hQ:jY (zL (Ts i) x) Sa Sb=true:=hQ
      rw [hxe] at hQ
      simp only [jY,Bool.and_eq_true,Bool.not_eq_true',List.contains_eq_mem,decide_eq_false_iff_not] at hQ
      refine ⟨?_,hQ.2⟩
      have h1:=hQ.1
      split at h1 <;> first | (cases h1;done) | skip
      rename_i hsa
      exact ⟨_,hsa,rfl⟩
     exact ⟨_,hres,JD 3 (Je hq3) k2.dem⟩
   by_cases hrd:yY oi=false
   ·
    obtain ⟨a,h1,h2⟩:=adP hdr hv hni hrd hops
    have h3:=(h2 (Hs i)).2
    rw [ha] at h3
    have e:zf i=a:=by simpa using congrArg (Option.map Prod.fst) h3
    subst e
    exact ⟨_,(h2 _).1,JD 3 (Je hq3) h1⟩
   ·
    have hrd:yY oi=true:=by simpa using hrd
    by_cases hlt:i < j
    ·
     rw [if_neg (by omega)]
     have hL:=hline.later (i:=i) (j+1 - i) (by omega)
     rw [show i+(j+1 - i)=j+1 by omega] at hL
     obtain ⟨a,h1,_,h3,h4,_⟩:=aeg hdr hv hni hm hops hL
     rw [ha] at h4
     have e:zf i=a:=by simpa using congrArg (Option.map Prod.fst) h4
     subst e
     exact ⟨_,h3,JD 3 (Je hq3) h1⟩
    ·
     rw [if_pos (by omega)]
     rw [hrd] at hp2
     have hcl:yh ((abh P (fixed P ops) (fun k=>Va P ops && (JK P ops).contains (k,j)) j (ops.toList.drop j) []).getD (i - j) []) oi=true:=by
      simpa [hlt] using hp2
     obtain ⟨hGj2,hTj⟩:=hline.inv j (by omega)
     have hC0:Clear (μs j) (Hs j) [] (Ts j) (As j):=fun t _=>(hTj.slots t).v0
     have hld:∀ k o,j≤k→ops.toList[k]?=some o→isLoad o=true→(Va P ops && (JK P ops).contains (k,j))=true→jY (yL (Ts k) o) (Ss j) (Ss k)=true∧abv (yL (Ts k) o) (Ss j) (Ss k)=true:=by
      intro k o hjk hok hld hck
      rw [Bool.and_eq_true] at hck
      obtain ⟨hcm,hin⟩:=hck
      have hin:(k,j) ∈ JK P ops:=by simpa using hin
      have hkj:k≠j:=fun e=>by
       subst e
       rw [hoj] at hok
       cases hok
       obtain ⟨dst,op,type,pos,after,guard⟩:=oj
       cases op <;> first | (cases hld;done) | (cases hcj;done)
      have hjk:j < k:=by omega
      have hkn:k < ops.toList.length:=(List.getElem?_eq_some_iff.1 hok).1
      have h1:(k,j) ∈ again P ops:=List.mem_append_left _ hin
      have h2:(k+1000,j) ∈ again P ops:=List.mem_append_right _ (by
       rw [if_pos hcm]
       exact List.mem_map.2 ⟨(k,j),List.mem_filter.2 ⟨hin,decide_eq_true hjk⟩,rfl⟩)
      have hne:(again P ops).isEmpty=false:=by
       cases hl:again P ops with
       | nil=>rw [hl] at h1;cases h1
       | cons a b=>rfl
      have t1:=List.all_eq_true.1 (e14 hne) _ h1
      have t2:=List.all_eq_true.1 (e14 hne) _ h2
      rw [List.nil_append] at t1 t2
      have hk1:(hs++[(zh,Ss ops.toList.length)])[k]?=some (yL (Ts k) o,Ss k):=by
       rw [List.getElem?_append_left (by omega)];exact e13 k o hok
      have hj1:(hs++[(zh,Ss ops.toList.length)])[j]?=some (yL (Ts j) oj,Ss j):=by
       rw [List.getElem?_append_left (by omega)];exact e13 j oj hoj
      unfold Qz at t1 t2
      dsimp only at t1 t2
      rw [if_pos (show k < 1000 by omega),if_pos hjk,hk1,hj1] at t1
      rw [if_neg (show ¬ k+1000 < 1000 by omega),Nat.add_sub_cancel,hk1,hj1] at t2
      dsimp only at t1 t2
      rw [if_pos hjk] at t1
      exact ⟨t1,t2⟩
     have hC:=hline.clear hdr (j:=j) (by omega) (cl:=fun k=>Va P ops && (JK P ops).contains (k,j)) hld _ [] j (Nat.le_refl _) rfl hC0 (i - j) (by rw [List.length_drop];omega)
     rw [show j+(i - j)=i by omega] at hC
     have hL:=hline.later (i:=j) (i - j) (by omega)
     rw [show j+(i - j)=i by omega] at hL
     obtain ⟨a,h1,h2,_,_,h5⟩:=aeg hdr hv hni hm (hC.operands (qK hv) hcl) hL
     rw [ha] at h5
     have e:zf i=a:=by simpa using congrArg (Option.map Prod.fst) h5
     subst e
     exact ⟨_,h2,JD 3 (Je hq3) h1⟩
  obtain ⟨G',h1,h2⟩:=same
  unfold recheck
  rw [h1]
  exact h2
 ·
  rw [hw]
  rfl
end
end Go.Abs
namespace Go.Abs
open Go.RowKit
section
variable {P:Program} {call:FuncId→List Value→M Value}
def ade (μ:Mu) (ω:Nat→Option wH) (H:zx) (e:AEx) (T':List Value) (S':zx) (R:St):Prop :=
 ∃ A' H' μ' ω',R=some (e,A',H')∧GI μ' S' H'∧Later μ H μ' H'∧Kept ω H ω' H'∧TI μ' H' ω' T' A'
theorem ab2 {hp:Bool} (hc:ZY P call) (fuel:Nat):∀ (c:Code) (T T' A:List Value) (S S' H:zx) (μ:Mu) (ω:Nat→Option wH) (e:AEx),wF P hp call fuel c T S=some (e,T',S')→GI μ S H→TI μ H ω T A→ade μ ω H e T' S' (wE P c A H):=by
 intro c
 induction c with
 | skip =>
  intro T T' A S S' H μ ω e h hG hT
  simp only [wF,Option.some.injEq,Prod.mk.injEq] at h
  obtain ⟨rfl,rfl,rfl⟩:=h
  exact ⟨A,H,μ,ω,rfl,hG,Later.refl _ _,Kept.refl _ _,hT⟩
 | exit id =>
  intro T T' A S S' H μ ω e h hG hT
  simp only [wF,Option.some.injEq,Prod.mk.injEq] at h
  obtain ⟨rfl,rfl,rfl⟩:=h
  exact ⟨A,H,μ,ω,rfl,hG,Later.refl _ _,Kept.refl _ _,hT⟩
 | ret =>
  intro T T' A S S' H μ ω e h hG hT
  simp only [wF,Option.some.injEq,Prod.mk.injEq] at h
  obtain ⟨rfl,rfl,rfl⟩:=h
  exact ⟨A,H,μ,ω,rfl,hG,Later.refl _ _,Kept.refl _ _,hT⟩
 | region i ops d =>
  intro T T' A S S' H μ ω e h hG hT
  cases d with
  | false =>
   simp only [wF] at h
   split at h <;> first | (cases h;done) | skip
   rename_i T1 S1 ho
   cases h
   obtain ⟨A',H',μ',ω',h1,h2,h3,h4,h5⟩:=ad2 hc _ _ _ _ _ _ _ _ _ ho hG hT
   exact ⟨A',H',μ',ω',by simp only [wE,h1],h2,h3,h4,h5⟩
  | true =>
   simp only [wF] at h
   split at h <;> first | (cases h;done) | skip
   rename_i hd
   split at h <;> first | (cases h;done) | skip
   rename_i T1 S1 ho
   cases h
   obtain ⟨A',H',μ',ω',h1,h2,h3,h4,h5⟩:=abb hc hd ho hG hT
   exact ⟨A',H',μ',ω',by simp only [wE,h1],h2,h3,h4,h5⟩
 | seq x y ihx ihy =>
  intro T T' A S S' H μ ω e h hG hT
  simp only [wF] at h
  split at h
  ·
   rename_i T1 S1 hx
   obtain ⟨A1,H1,μ1,ω1,h1,h2,h3,h4,h5⟩:=ihx _ _ _ _ _ _ _ _ _ hx hG hT
   obtain ⟨A2,H2,μ2,ω2,k1,k2,k3,k4,k5⟩:=ihy _ _ _ _ _ _ _ _ _ h h2 h5
   exact ⟨A2,H2,μ2,ω2,by simp only [wE,h1];exact k1,k2,h3.trans k3,h4.trans k4,k5⟩
  ·
   rename_i hne
   obtain ⟨A1,H1,μ1,ω1,h1,h2,h3,h4,h5⟩:=ihx _ _ _ _ _ _ _ _ _ h hG hT
   refine ⟨A1,H1,μ1,ω1,?_,h2,h3,h4,h5⟩
   simp only [wE,h1]
   cases e with
   | normal=>exact absurd h (hne _ _)
   | exit id=>rfl
   | ret=>rfl
 | cond c x y ihx ihy =>
  intro T T' A S S' H μ ω e h hG hT
  simp only [wF] at h
  split at h <;> first | (cases h;done) | skip
  rename_i hok
  have hv:=hT.eval hok
  split at h
  ·
   rename_i hb
   have:zL A c=.bool true:=zW hv (by rw [hb];rfl) |>.trans hb
   obtain ⟨A1,H1,μ1,ω1,h1,h2,h3,h4,h5⟩:=ihx _ _ _ _ _ _ _ _ _ h hG hT
   exact ⟨A1,H1,μ1,ω1,by simp only [wE,hok,if_true,this];exact h1,h2,h3,h4,h5⟩
  ·
   rename_i hb
   have:zL A c=.bool false:=zW hv (by rw [hb];rfl) |>.trans hb
   obtain ⟨A1,H1,μ1,ω1,h1,h2,h3,h4,h5⟩:=ihy _ _ _ _ _ _ _ _ _ h hG hT
   exact ⟨A1,H1,μ1,ω1,by simp only [wE,hok,if_true,this];exact h1,h2,h3,h4,h5⟩
  ·
   cases h
 | block id c ih =>
  intro T T' A S S' H μ ω e h hG hT
  simp only [wF] at h
  split at h
  ·
   rename_i id' T1 S1 hx
   obtain ⟨A1,H1,μ1,ω1,h1,h2,h3,h4,h5⟩:=ih _ _ _ _ _ _ _ _ _ hx hG hT
   by_cases hid:id'=id
   ·
    rw [if_pos hid] at h
    cases h
    exact ⟨A1,H1,μ1,ω1,by simp only [wE,h1,if_pos hid],h2,h3,h4,h5⟩
   ·
    rw [if_neg hid] at h
    cases h
    exact ⟨A1,H1,μ1,ω1,by simp only [wE,h1,if_neg hid],h2,h3,h4,h5⟩
  ·
   rename_i hne
   obtain ⟨A1,H1,μ1,ω1,h1,h2,h3,h4,h5⟩:=ih _ _ _ _ _ _ _ _ _ h hG hT
   refine ⟨A1,H1,μ1,ω1,?_,h2,h3,h4,h5⟩
   simp only [wE,h1]
   cases e with
   | normal=>rfl
   | exit id'=>exact absurd h (hne _ _ _)
   | ret=>rfl
 | loop c ih =>
  have key:∀ (n:Nat) (T T' A:List Value) (S S' H:zx) (μ:Mu) (ω:Nat→Option wH) (e:AEx),yg n (wF P hp call fuel c) T S=some (e,T',S')→GI μ S H→TI μ H ω T A→ade μ ω H e T' S' (yM (wE P c) A H):=by
   intro n
   induction n with
   | zero=>intro T T' A S S' H μ ω e h;cases h
   | succ n ihn =>
    intro T T' A S S' H μ ω e h hG hT
    simp only [yg] at h
    split at h
    ·
     rename_i T1 S1 hx
     obtain ⟨A1,H1,μ1,ω1,h1,h2,h3,h4,h5⟩:=ih _ _ _ _ _ _ _ _ _ hx hG hT
     obtain ⟨A2,H2,μ2,ω2,k1,k2,k3,k4,k5⟩:=ihn _ _ _ _ _ _ _ _ _ h h2 h5
     exact ⟨A2,H2,μ2,ω2,by rw [yF h1];exact k1,k2,h3.trans k3,h4.trans k4,k5⟩
    ·
     rename_i hne
     obtain ⟨A1,H1,μ1,ω1,h1,h2,h3,h4,h5⟩:=ih _ _ _ _ _ _ _ _ _ h hG hT
     exact ⟨A1,H1,μ1,ω1,jH h1 (fun he=>by subst he;exact hne _ _ h),h2,h3,h4,h5⟩
  intro T T' A S S' H μ ω e h hG hT
  simp only [wF] at h
  obtain ⟨A1,H1,μ1,ω1,h1,h2⟩:=key fuel _ _ _ _ _ _ _ _ _ h hG hT
  exact ⟨A1,H1,μ1,ω1,by simp only [wE];exact h1,h2⟩
 | _=>intro T T' A S S' H μ ω e h;simp only [wF] at h;cases h
theorem VV.afC {μ:Mu} {H:zx} {ω ω':Nat→Option wH} {f:wH→Option wH} (hω:∀ r,ω' r=(ω r).bind f) {s s':wH} (hs:f s=some s') {v a:Value} (h:VV μ H ω (some s) v a) (hv:jB v=true):VV μ H ω' (some s') v a:=by
 cases h with
 | sg h=>exact .sg h
 | ptr h=>exact .ptr h
 | map h=>exact .map h
 | slm h=>exact .slm h
 | slE=>exact .slE
 | sl hr hp hg hl hl' hc=>exact .sl hr hp hg hl hl' (fun i hi=>(hc i hi).at0)
 | so h hr hp hg hl hl' hc=>exact .so (by rw [hω,h];exact hs) hr hp hg hl hl' (fun i hi=>(hc i hi).at0)
 | ep hr hp hg hl hc=>exact .ep hr hp hg hl (fun i hi=>(hc i hi).at0)
 | func fn hx hc h1 h2=>exact .func fn hx hc (fun i=>(h1 i).at0) (fun i=>(h2 i).at0)
 | agg hx hh=>exact .agg hx (fun i=>(hh i).at0)
 | nores=>exact .nores
 | @tuple _ x x' hx hh =>
  have h0:x.size=0:=by simpa [jB] using hv
  have e1:x=#[]:=Array.eq_empty_of_size_eq_zero h0
  have e2:x'=#[]:=Array.eq_empty_of_size_eq_zero (by rw [← hx];exact h0)
  subst e1 e2
  exact .nores
def place (rs:List ResultVar):wH→Option wH
 | .ext=>some .ext
 | .res _=>none
 | .slot i j=>match rs with
  | [.tmp t]=>if i=t then some (.res j) else none
  | _=>match j with
   | none=>(rs.findIdx? (acn i)).map fun k=>.res (some k)
   | some _=>none
theorem VI {rs:List ResultVar} {i:Nat} (h:∀ t,rs≠[.tmp t]):place rs (.slot i none)=(rs.findIdx? (acn i)).map fun k=>.res (some k):=by
 match rs,h with
 | [],_=>rfl
 | [.tmp t],h=>exact absurd rfl (h t)
 | [.cell _ _],_=>rfl
 | .tmp _::_::_,_=>rfl
 | .cell _ _::_::_,_=>rfl
theorem Ku {μ:Mu} {ω:Nat→Option wH} {S H:zx} {T A:List Value} (hG:GI μ S H) (hT:TI μ H ω T A):∀ (l:List ResultVar) (vs:List Value),zN P T S l=some vs →
  ∃ zf,qR P A H l=some zf∧vs.length=l.length∧zf.length=l.length∧∀ i:Nat,match (l[i]?:Option ResultVar) with
   | some (.tmp t)=>vs.getD i zh=T.getD t zh∧zf.getD i zh=A.getD t zh
   | _=>V0 μ H (vs.getD i zh) (zf.getD i zh):=by
 intro l
 induction l with
 | nil =>
  intro vs h
  simp only [zN,Option.some.injEq] at h
  subst h
  exact ⟨[],rfl,rfl,rfl,fun i=>by simpa using VV.zh⟩
 | cons x l ih =>
  intro vs h
  cases x with
  | tmp t =>
   simp only [zN] at h
   split at h <;> first | (cases h;done) | skip
   rename_i vs' hr
   cases h
   obtain ⟨zf,h1,h2,h3,h4⟩:=ih _ hr
   refine ⟨A.getD t zh::zf,by simp only [qR,h1],by simp [h2],by simp [h3],fun i=>?_⟩
   cases i with
   | zero=>exact ⟨rfl,rfl⟩
   | succ i=>simpa using h4 i
  | cell a t =>
   simp only [zN] at h
   split at h <;> first | (cases h;done) | skip
   rename_i v S1 vs' hl hr
   cases h
   obtain ⟨zf,h1,h2,h3,h4⟩:=ih _ hr
   obtain ⟨_,w,k1,k2⟩:=Zh hl (hT.slots a).v0 (.inr hG)
   refine ⟨w::zf,by simp only [qR,k1,h1],by simp [h2],by simp [h3],fun i=>?_⟩
   cases i with
   | zero=>exact k2
   | succ i=>simpa using h4 i
theorem ad1 {μ:Mu} {ω:Nat→Option wH} {S S' H:zx} {T A:List Value} {fn:Func} {v:Value} (hG:GI μ S H) (hT:TI μ H ω T A) (h:VQ P fn T S=some (v,S')) :
  S'=S∧∃ a,abX P fn A H=some (a,H)∧VV μ H (fun r=>(ω r).bind (place fn.results.toList)) (some (.res none)) v a:=by
 unfold VQ at h
 split at h <;> first | (cases h;done) | skip
 rename_i vs hvs
 split at h <;> first | (cases h;done) | skip
 rename_i hok
 obtain ⟨zf,h1,h2,h3,h4⟩:=Ku hG hT _ _ hvs
 generalize hrs:fn.results.toList=rs at *
 split at h
 ·
  rename_i v1
  cases h
  obtain ⟨a,rfl⟩:∃ a,zf=[a]:=by
   match zf,h3.trans h2.symm with
   | [a],_=>exact ⟨a,rfl⟩
  refine ⟨rfl,a,by simp only [abX,hrs,h1],?_⟩
  match rs,h2 with
  | [x],_ =>
   have:=h4 0
   cases x with
   | tmp t =>
    simp only [List.getElem?_cons_zero,List.getD_cons_zero] at this
    obtain ⟨rfl,rfl⟩:=this
    refine (hT.slots t).Yq (fun _=>rfl) _ (fun s hs=>?_)
    cases hs
    refine ⟨_,rfl,by simp only [place,if_true],fun k t' ht=>?_⟩
    cases ht
    exact ⟨_,rfl,by simp only [place,if_true]⟩
   | cell b t=>exact (show V0 μ H v a from this).at0
 ·
  rename_i hne
  split at h <;> first | (cases h;done) | skip
  rename_i hnt
  cases h
  refine ⟨rfl,.tuple zf.toArray,?_,.tuple (by simp [h2,h3]) fun i=>?_⟩
  ·
   simp only [abX,hrs,h1]
   match zf,vs,h3.trans h2.symm,hne with
   | [],_,_,_=>rfl
   | [a],[v],_,hne=>exact absurd rfl (hne v)
   | a::b::c,_,_,_=>rfl
  ·
   have e1:vs.toArray.getD i zh=vs.getD i zh:=by rw [← getD_toList,List.toList_toArray]
   have e2:zf.toArray.getD i zh=zf.getD i zh:=by rw [← getD_toList,List.toList_toArray]
   rw [e1,e2]
   have h5:=h4 i
   cases hx:rs[i]? with
   | none=>rw [hx] at h5;exact (show V0 μ H _ _ from h5).at0
   | some x =>
    rw [hx] at h5
    cases x with
    | cell b t=>exact (show V0 μ H _ _ from h5).at0
    | tmp t =>
     dsimp only at h5
     have hi:i < rs.length:=(List.getElem?_eq_some_iff.1 hx).1
     have hid:rs.findIdx? (acn t)=some i:=by
      have:=List.all_eq_true.1 hok i (List.mem_range.2 hi)
      rw [hx] at this
      simpa using this
     have hnt2:jB (T.getD t zh)=true:=by
      rw [← h5.1,List.getD_eq_getElem?_getD,List.getElem?_eq_getElem (by omega)]
      exact List.all_eq_true.1 hnt _ (List.getElem_mem _)
     rw [h5.1,h5.2]
     refine (hT.slots t).afC (fun _=>rfl) (s':=.res (some i)) ?_ hnt2
     have hne1:∀ t',rs≠[.tmp t']:=by
      intro t' e
      rw [e] at h2
      match vs,h2 with
      | [v],_=>exact hne v rfl
     rw [VI hne1,hid];rfl
def aaC (P:Program) (O:Ora):Prop:=∀ f q,O.fn f=some q→ZY P (fun g args=>if g=f then q args else fun _=>none)
theorem aeO {s t:wH} {i:Nat} (h:s.comp i=some t):t≠.ext:=by
 cases s with
 | ext=>cases h
 | slot a b=>cases b <;> first | (cases h;exact fun h=>by cases h) | cases h
 | res b=>cases b <;> first | (cases h;exact fun h=>by cases h) | cases h
theorem VV.yN {μ μ':Mu} {H:zx} {ω ω':Nat→Option wH} {es:List Nat} (hp:∀ r l own e,H.get r=some (.cells l own e)→e ∉ es→xR μ r→xR μ' r) (hω:∀ r s,s≠.ext→ω r=some s→ω' r=some s)
  {ℓ:Option wH} {v a:Value} (h:VV μ H ω ℓ v a):∀ d,Go.Abs.yN es d v=true→(∀ s,ℓ=some s→s≠.ext)→VV μ' H ω' ℓ v a:=by
 induction h with
 | sg h=>exact fun _ _ _=>.sg h
 | ptr h=>intro d hc;cases d <;> simp [Go.Abs.yN] at hc
 | map h=>intro d hc;cases d <;> simp [Go.Abs.yN] at hc
 | slm h=>intro d hc;cases d <;> simp [Go.Abs.yN] at hc
 | slE=>exact fun _ _ _=>.slE
 | @sl ℓ e n r o cs l own hr hpr hg hl hn hc ih =>
  intro d hcl _
  cases d with
  | zero=>cases hcl
  | succ d =>
   have hv:Go.Abs.yN es (d+1) (.iface 1 (.iface e (.iface n (.agg cs))))=(!es.contains e && cs.toList.all (Go.Abs.yN es d)):=rfl
   rw [hv,Bool.and_eq_true] at hcl
   have he:e ∉ es:=by simpa using hcl.1
   refine .sl hr (hp _ _ _ _ hg he hpr) hg hl hn (fun i hi=>ih i hi d ?_ (fun s hs=>by cases hs))
   rw [List.getD_eq_getElem?_getD,List.getElem?_eq_getElem (by omega)]
   exact List.all_eq_true.1 hcl.2 _ (List.getElem_mem _)
 | @so s e n r cs l anc hw hr hpr hg hl hn hc ih =>
  intro d hcl hs
  cases d with
  | zero=>cases hcl
  | succ d =>
   have hv:Go.Abs.yN es (d+1) (.iface 2 (.iface e (.iface n (.agg cs))))=(!es.contains e && cs.toList.all (Go.Abs.yN es d)):=rfl
   rw [hv,Bool.and_eq_true] at hcl
   have he:e ∉ es:=by simpa using hcl.1
   refine .so (hω _ _ (hs _ rfl) hw) hr (hp _ _ _ _ hg he hpr) hg hl hn (fun i hi=>ih i hi d ?_ (fun s hs=>by cases hs))
   rw [List.getD_eq_getElem?_getD,List.getElem?_eq_getElem (by omega)]
   exact List.all_eq_true.1 hcl.2 _ (List.getElem_mem _)
 | ep hr hpr hg hl hc ih =>
  intro d hcl
  cases d with
  | zero=>cases hcl
  | succ d=>simp [Go.Abs.yN,vSl] at hcl
 | func fn hx hc h1 h2=>intro d hc;cases d <;> simp [Go.Abs.yN] at hc
 | @agg ℓ x x' hx hh ih =>
  intro d hcl _
  cases d with
  | zero=>cases hcl
  | succ d =>
   have hcl:x.toList.all (Go.Abs.yN es d)=true:=hcl
   refine .agg hx (fun i=>?_)
   by_cases hi:i < x.size
   ·
    refine ih i d ?_ (fun s hs=>by cases hs)
    rw [Array.getD_eq_getD_getElem?,Array.getElem?_eq_getElem hi]
    exact List.all_eq_true.1 hcl _ (by simp)
   ·
    rw [Array.getD_eq_getD_getElem?,Array.getElem?_eq_none (Nat.le_of_not_lt hi),Array.getD_eq_getD_getElem?,Array.getElem?_eq_none (by omega)]
    exact .nores
 | nores=>exact fun _ _ _=>.nores
 | @tuple ℓ x x' hx hh ih =>
  intro d hcl hs
  cases d with
  | zero=>cases hcl
  | succ d =>
   have hcl:x.toList.all (Go.Abs.yN es d)=true:=hcl
   refine .tuple hx (fun i=>?_)
   by_cases hi:i < x.size
   ·
    refine ih i d ?_ (fun s hb=>?_)
    ·
     rw [Array.getD_eq_getD_getElem?,Array.getElem?_eq_getElem hi]
     exact List.all_eq_true.1 hcl _ (by simp)
    ·
     cases ℓ with
     | none=>cases hb
     | some s0=>exact aeO (s:=s0) hb
   ·
    rw [Array.getD_eq_getD_getElem?,Array.getElem?_eq_none (Nat.le_of_not_lt hi),Array.getD_eq_getD_getElem?,Array.getElem?_eq_none (by omega)]
    exact .nores
open Classical in
noncomputable def afX (μ:Mu) (ω:Nat→Option wH):Nat→Option wH:=fun r=>if ∃ q,μ q=some (r,true) then none else ω r
open Classical in
noncomputable def YM (μ μ1:Mu) (ω:Nat→Option wH):Nat→Option wH:=fun r=>if ∃ q,μ q=some (r,true)∧¬ μ1 q=some (r,true) then some .ext else ω r
theorem acN {call:FuncId→List Value→M Value} (hc:ZY P call) {hps:FuncId→Bool} {hp:Bool}:ZY P (qV hps hp call):=by
 cases hp with
 | false=>exact hc
 | true =>
  intro g args aargs S v S' h μ H ω hG hA hD hE
  unfold qV at h
  dsimp only at h
  split at h
  ·
   exact hc g args aargs S v S' h μ H ω hG hA hD hE
  ·
   split at h <;> first | (cases h;done) | skip
   rename_i m S1 hf
   obtain ⟨μ1,h1,h2,h3,hsz⟩:=Qx _ _ _ _ _ _ hf hG hA
   split at h <;> first | (cases h;done) | skip
   rename_i r0 hr0
   obtain ⟨v0,S2⟩:=r0
   simp only [Option.some.injEq] at h
   unfold adk at h
   dsimp only at h
   split at h
   ·
    rename_i hb
    cases h
    simp only [Bool.and_eq_true,beq_iff_eq] at hb
    obtain ⟨⟨_,hgr⟩,hlog⟩:=hb
    have hlent:∀ q r,μ q=some (r,true)→¬ μ1 q=some (r,true)→r < H.next∧xR μ1 r:=fun q r hq hn =>
     ⟨hG.lt q r _ hq,fun q' hq'=>by
      rcases h2.new q' r hq' with h5 | h5
      ·
       have:=hG.inj q q' r hq h5
       subst this
       exact hn hq'
      ·
       have:=hG.lt q r _ hq;omega,by rw [h2.hid];exact hG.vis q r hq⟩
    have hDL:Dom μ1 H (YM μ μ1 ω):=fun r s hs=>by
     unfold YM at hs
     split at hs
     ·
      rename_i hx
      obtain ⟨q,hq,hn⟩:=hx
      exact hlent q r hq hn
     ·
      exact ⟨(hD r s hs).1,h2.priv (hD r s hs).1 (hD r s hs).2⟩
    have hEL:∀ r s,YM μ μ1 ω r=some s→s=.ext:=fun r s hs=>by
     unfold YM at hs
     split at hs
     ·
      cases hs;rfl
     ·
      exact hE r s hs
    obtain ⟨a,H',μ',ω',k1,k2,k3,k4,k5,k6⟩:=hc g m aargs S1 v S2 hr0 μ1 H (YM μ μ1 ω) h1 h3 hDL hEL
    have hsame:∀ q r,μ q=some (r,true)→H'.get r=H.get r:=fun q r hq=>by
     by_cases hn:μ1 q=some (r,true)
     ·
      obtain ⟨new,e1,e2⟩:=k3.still
      have:new=[]:=by
       rw [k2.log,h1.log,hlog] at e1
       exact List.append_cancel_right (bs:=S1.log) (by rw [← e1];rfl)
      subst this
      exact (e2 q r hn (by simp)).2
     ·
      exact (k4 r (by unfold YM;rw [if_pos ⟨q,hq,hn⟩])).2
    have hL:Later μ H μ H':=⟨fun _ _ b h=>⟨b,h⟩,k3.next,fun _ _ h=>.inl h,rfl,fun r hr hh=>k3.same r hr (by rw [h2.hid];exact hh),⟨[],rfl,fun q r hq _=>⟨hq,hsame q r hq⟩⟩,
     fun r l own e hr hp hg=>k3.cells r l own e hr (h2.priv hr hp) hg⟩
    rcases Bool.or_eq_true _ _ |>.mp hgr with hgr | hgr
    ·
     refine ⟨a,H',μ,ω,k1,hG.later hL rfl hsame,hL,fun r hr=>⟨hr,(k4 r ?_).2⟩,fun r s hs=>⟨Nat.lt_of_lt_of_le (hD r s hs).1 k3.next,(hD r s hs).2⟩,?_⟩
     ·
      unfold YM
      split
      ·
       rfl
      ·
       exact hr
     ·
      rw [VV.y9 hgr k6]
      exact VV.jX hgr
    ·
     have hpr:∀ r l own e,H'.get r=some (.cells l own e)→e ∉ ae1 S args→xR μ' r→xR μ r:=fun r l own e hg he hp=>by
      refine ⟨fun q hq=>?_,by rw [← h2.hid,← k3.hid];exact hp.2⟩
      rcases hsz q r hq with hn | ⟨l1,own1,e1,he1,hg1⟩
      ·
       obtain ⟨new,e1,e2⟩:=k3.still
       have:new=[]:=by
        rw [k2.log,h1.log,hlog] at e1
        exact List.append_cancel_right (bs:=S1.log) (by rw [← e1];rfl)
       subst this
       exact hp.1 q (e2 q r hn (by simp)).1
      ·
       rw [hsame q r hq,hg1] at hg
       cases hg
       exact he he1
     have hno:∀ r s,ω r=some s→¬ ∃ q,μ q=some (r,true):=fun r s hs ⟨q,hq⟩=>(hD r s hs).2.1 q hq
     have hst:∀ r,(∃ q,μ q=some (r,true))→∀ s,ω' r=some s→s=.ext:=fun r ⟨q,hq⟩ s hs=>by
      by_cases hn:μ1 q=some (r,true)
      ·
       exfalso
       obtain ⟨new,e1,e2⟩:=k3.still
       have:new=[]:=by
        rw [k2.log,h1.log,hlog] at e1
        exact List.append_cancel_right (bs:=S1.log) (by rw [← e1];rfl)
       subst this
       exact (k5 r s hs).2.1 q (e2 q r hn (by simp)).1
      ·
       have:=(k4 r (by unfold YM;rw [if_pos ⟨q,hq,hn⟩])).1
       rw [hs] at this
       cases this
       rfl
     refine ⟨a,H',μ,afX μ ω',k1,hG.later hL rfl hsame,hL,fun r hr=>?_,fun r s hs=>?_,?_⟩
     ·
      have hnr:=hno r _ hr
      unfold afX
      rw [if_neg hnr]
      refine k4 r ?_
      unfold YM
      rw [if_neg (fun ⟨q,hq,_⟩=>hnr ⟨q,hq⟩)]
      exact hr
     ·
      unfold afX at hs
      split at hs
      ·
       cases hs
      ·
       rename_i hnr
       exact ⟨(k5 r s hs).1,fun q hq=>hnr ⟨q,hq⟩,by rw [← h2.hid,← k3.hid];exact (k5 r s hs).2.2⟩
     ·
      refine k6.yN hpr (fun r s hne hs=>?_) 16 hgr (fun s hs=>by cases hs;exact fun h=>by cases h)
      unfold afX
      rw [if_neg (fun hx=>hne (hst r hx s hs))]
      exact hs
   ·
    cases h
    obtain ⟨a,H',μ',ω',k1,k2,k3,k4,k5,k6⟩:=hc g m aargs S1 v S' hr0 μ1 H ω h1 h3 (fun r s hs=>⟨(hD r s hs).1,h2.priv (hD r s hs).1 (hD r s hs).2⟩) hE
    exact ⟨a,H',μ',ω',k1,k2,h2.trans k3,k4,k5,k6⟩
theorem VV.clean {μ μ':Mu} {H:zx} {ω:Nat→Option wH} (hp:∀ r,xR μ r→xR μ' r) {ℓ:Option wH} {v a:Value} (h:VV μ H ω ℓ v a):∀ d,zT d v=true→VV μ' H ω ℓ v a:=by
 induction h with
 | sg h=>exact fun _ _=>.sg h
 | ptr h=>intro d hc;cases d <;> simp [zT] at hc
 | map h=>intro d hc;cases d <;> simp [zT] at hc
 | slm h=>intro d hc;cases d <;> simp [zT] at hc
 | slE=>exact fun _ _=>.slE
 | sl hr hpr hg hl hn hc ih =>
  intro d hcl
  obtain ⟨d,rfl⟩:∃ k,d=k+4:=by
   match d,hcl with
   | 0,h=>cases h
   | 1,h=>simp [zT] at h
   | 2,h=>simp [zT] at h
   | 3,h=>simp [zT] at h
   | k+4,_=>exact ⟨k,rfl⟩
  simp only [zT] at hcl
  refine .sl hr (hp _ hpr) hg hl hn (fun i hi=>ih i hi d ?_)
  rw [List.getD_eq_getElem?_getD,List.getElem?_eq_getElem (by omega)]
  exact List.all_eq_true.1 hcl _ (List.getElem_mem _)
 | so hω hr hpr hg hl hn hc ih =>
  intro d hcl
  obtain ⟨d,rfl⟩:∃ k,d=k+4:=by
   match d,hcl with
   | 0,h=>cases h
   | 1,h=>simp [zT] at h
   | 2,h=>simp [zT] at h
   | 3,h=>simp [zT] at h
   | k+4,_=>exact ⟨k,rfl⟩
  simp only [zT] at hcl
  refine .so hω hr (hp _ hpr) hg hl hn (fun i hi=>ih i hi d ?_)
  rw [List.getD_eq_getElem?_getD,List.getElem?_eq_getElem (by omega)]
  exact List.all_eq_true.1 hcl _ (List.getElem_mem _)
 | ep hr hpr hg hl hc ih =>
  intro d hcl
  obtain ⟨d,rfl⟩:∃ k,d=k+2:=by
   match d,hcl with
   | 0,h=>cases h
   | 1,h=>simp [zT] at h
   | k+2,_=>exact ⟨k,rfl⟩
  simp only [zT] at hcl
  refine .ep hr (hp _ hpr) hg hl (fun i hi=>ih i hi d ?_)
  rw [List.getD_eq_getElem?_getD,List.getElem?_eq_getElem hi]
  exact List.all_eq_true.1 hcl _ (List.getElem_mem _)
 | func fn hx hc h1 h2=>intro d hc;cases d <;> simp [zT] at hc
 | @agg ℓ x x' hx hh ih =>
  intro d hcl
  obtain ⟨d,rfl⟩:∃ k,d=k+1:=by
   match d,hcl with
   | 0,h=>cases h
   | k+1,_=>exact ⟨k,rfl⟩
  simp only [zT] at hcl
  refine .agg hx (fun i=>?_)
  by_cases hi:i < x.size
  ·
   refine ih i d ?_
   rw [Array.getD_eq_getD_getElem?,Array.getElem?_eq_getElem hi]
   exact List.all_eq_true.1 hcl _ (by simp)
  ·
   rw [Array.getD_eq_getD_getElem?,Array.getElem?_eq_none (Nat.le_of_not_lt hi),Array.getD_eq_getD_getElem?,Array.getElem?_eq_none (by omega)]
   exact .nores
 | nores=>exact fun _ _=>.nores
 | @tuple ℓ x x' hx hh ih =>
  intro d hcl
  obtain ⟨d,rfl⟩:∃ k,d=k+1:=by
   match d,hcl with
   | 0,h=>cases h
   | k+1,_=>exact ⟨k,rfl⟩
  simp only [zT] at hcl
  refine .tuple hx (fun i=>?_)
  by_cases hi:i < x.size
  ·
   refine ih i d ?_
   rw [Array.getD_eq_getD_getElem?,Array.getElem?_eq_getElem hi]
   exact List.all_eq_true.1 hcl _ (by simp)
  ·
   rw [Array.getD_eq_getD_getElem?,Array.getElem?_eq_none (Nat.le_of_not_lt hi),Array.getD_eq_getD_getElem?,Array.getElem?_eq_none (by omega)]
   exact .nores
theorem VV.lower {μ μ' : Mu} {S H : zx} {ω : Nat → Option wH} (hG : GI μ S H) (hp : ∀ r, xR μ r → xR μ' r) (hq : ∀ q r, μ q = some (r, true) → xR μ' r) {ℓ : Option wH} {v a : Value} (h : VV μ H ω ℓ v a) :
    ∀ d d', zT d (jO S d' v) = true → VV μ' H ω ℓ (jO S d' v) a := by
  induction h with
  | sg h =>
    intro d d' hc
    rename_i v
    have e : jO S d' v = v := by
      cases d' with
      | zero => rfl
      | succ d' => cases v <;> first | rfl | (simp [Go.Abs.sg] at h; done) | skip
                   rename_i a n c
                   cases a <;> first | rfl | (simp [Go.Abs.sg] at h; done)
    rw [e]; exact .sg h
  | ptr h => intro d d' hc; cases d' <;> cases d <;> simp [jO, zT] at hc
  | map h => intro d d' hc; cases d' <;> cases d <;> simp [jO, zT] at hc
  | @slm ℓ r o r' b n hm =>
    intro d d' hc
    cases d' with
    | zero => cases d <;> simp [jO, zT] at hc
    | succ d' =>
      by_cases ho : o = 0
      · subst ho
        cases hg : S.get r with
        | none => rw [show jO S (d' + 1) (.slice (some ⟨r, 0, none⟩) n n) = .slice (some ⟨r, 0, none⟩) n n by simp only [jO, hg]] at hc; cases d <;> simp [zT] at hc
        | some ob =>
          cases ob with
          | map es c => rw [show jO S (d' + 1) (.slice (some ⟨r, 0, none⟩) n n) = .slice (some ⟨r, 0, none⟩) n n by simp only [jO, hg]] at hc; cases d <;> simp [zT] at hc
          | dead => rw [show jO S (d' + 1) (.slice (some ⟨r, 0, none⟩) n n) = .slice (some ⟨r, 0, none⟩) n n by simp only [jO, hg]] at hc; cases d <;> simp [zT] at hc
          | cells cs own e =>
            by_cases hle : n * e ≤ cs.length
            · have e1 : jO S (d' + 1) (.slice (some ⟨r, 0, none⟩) n n) = SL 1 e n (cs.take (n * e)) := by simp only [jO, hg, hle, and_self, if_true]
              rw [e1] at hc ⊢
              obtain ⟨r2, cs', own', _, hm', hg', hl⟩ := hG.cells hg
              rw [hm] at hm'; cases hm'
              have hlen := hl.1
              refine .sl (o := 0) (hG.lt r r' _ hm) (hq r r' hm) hg' (by omega) (by simp; omega) fun i hi => ?_
              have hv : VV μ H W0 none (cs.getD i Go.undef) (cs'.getD i Go.undef) := hl.2 i
              have e2 : (cs.take (n * e)).toArray.toList.getD i Go.undef = cs.getD i Go.undef := by
                rw [List.toList_toArray, List.getD_eq_getElem?_getD, List.getElem?_take, if_pos hi, ← List.getD_eq_getElem?_getD]
              rw [e2, Nat.zero_add]
              obtain ⟨d, rfl⟩ : ∃ k, d = k + 4 := by
                match d, hc with
                | 0, h => cases h
                | 1, h => simp [SL, zT] at h
                | 2, h => simp [SL, zT] at h
                | 3, h => simp [SL, zT] at h
                | k + 4, _ => exact ⟨k, rfl⟩
              simp only [SL, zT, List.toList_toArray] at hc
              have hci : zT d (cs.getD i Go.undef) = true := by
                have h2 : i < cs.length := by omega
                rw [List.getD_eq_getElem?_getD, List.getElem?_eq_getElem h2, Option.getD_some]
                exact List.all_eq_true.1 hc _ (by rw [List.mem_take_iff_getElem]; exact ⟨i, by omega, rfl⟩)
              exact (hv.clean hp d hci).at0
            · rw [show jO S (d' + 1) (.slice (some ⟨r, 0, none⟩) n n) = .slice (some ⟨r, 0, none⟩) n n by simp only [jO, hg, hle, and_false, if_false]] at hc; cases d <;> simp [zT] at hc
      · rw [show jO S (d' + 1) (.slice (some ⟨r, o, none⟩) n n) = .slice (some ⟨r, o, none⟩) n n by
          simp only [jO]
          split
          · rename_i h; simp only [Value.slice.injEq, Option.some.injEq, Addr.mk.injEq] at h; exact absurd h.1.2.1 ho
          · rename_i h; cases h
          · rename_i h; cases h
          · rfl] at hc
        cases d <;> simp [zT] at hc
  | slE => intro d d' _; cases d' <;> exact .slE
  | sl hr hpr hg hl hn hc ih => intro d d' hcl; cases d' <;> exact (VV.sl hr hpr hg hl hn hc).clean hp d hcl
  | so hω hr hpr hg hl hn hc ih => intro d d' hcl; cases d' <;> exact (VV.so hω hr hpr hg hl hn hc).clean hp d hcl
  | ep hr hpr hg hl hc ih => intro d d' hcl; cases d' <;> exact (VV.ep hr hpr hg hl hc).clean hp d hcl
  | func fn hx hc h1 h2 => intro d d' hcl; cases d' <;> cases d <;> simp [jO, zT] at hcl
  | @agg ℓ x x' hx hh ih =>
    intro d d' hcl
    cases d' with
    | zero => exact (VV.agg hx hh).clean hp d hcl
    | succ d' =>
      have e : jO S (d' + 1) (.agg x) = .agg (x.map (jO S d')) := rfl
      rw [e] at hcl ⊢
      cases d with
      | zero => cases hcl
      | succ d =>
        simp only [zT] at hcl
        refine .agg (by simpa using hx) fun i => ?_
        by_cases hi : i < x.size
        · have e2 : (x.map (jO S d')).getD i Go.undef = jO S d' (x.getD i Go.undef) := by simp [Array.getD_eq_getD_getElem?, Array.getElem?_eq_getElem hi]
          rw [e2]
          refine ih i d d' ?_
          refine List.all_eq_true.1 hcl _ ?_
          simp only [Array.toList_map, List.mem_map]
          exact ⟨x[i], by simp, by rw [Array.getD_eq_getD_getElem?, Array.getElem?_eq_getElem hi]; rfl⟩
        · rw [Array.getD_eq_getD_getElem?, Array.getElem?_eq_none (by simpa using Nat.le_of_not_lt hi), Array.getD_eq_getD_getElem?, Array.getElem?_eq_none (by omega)]
          exact .nores
  | nores =>
    intro d d' hcl
    cases d' with
    | zero => exact .nores
    | succ d' => rw [show jO S (d' + 1) (.tuple #[]) = .tuple #[] by simp [jO]]; exact .nores
  | @tuple ℓ x x' hx hh ih =>
    intro d d' hcl
    cases d' with
    | zero => exact (VV.tuple hx hh).clean hp d hcl
    | succ d' =>
      have e : jO S (d' + 1) (.tuple x) = .tuple (x.map (jO S d')) := rfl
      rw [e] at hcl ⊢
      cases d with
      | zero => cases hcl
      | succ d =>
        simp only [zT] at hcl
        refine .tuple (by simpa using hx) fun i => ?_
        by_cases hi : i < x.size
        · have e2 : (x.map (jO S d')).getD i Go.undef = jO S d' (x.getD i Go.undef) := by simp [Array.getD_eq_getD_getElem?, Array.getElem?_eq_getElem hi]
          rw [e2]
          refine ih i d d' ?_
          refine List.all_eq_true.1 hcl _ ?_
          simp only [Array.toList_map, List.mem_map]
          exact ⟨x[i], by simp, by rw [Array.getD_eq_getD_getElem?, Array.getElem?_eq_getElem hi]; rfl⟩
        · rw [Array.getD_eq_getD_getElem?, Array.getElem?_eq_none (by simpa using Nat.le_of_not_lt hi), Array.getD_eq_getD_getElem?, Array.getElem?_eq_none (by omega)]
          exact .nores
open Classical in
noncomputable def xk (μ:Mu):Mu:=⟨fun _=>none,fun r=>μ.hid r || decide (∃ q,μ q=some (r,true)),[]⟩
theorem JJ {μ:Mu} {r:Nat} (h:xR μ r):xR (xk μ) r:=⟨fun q hq=>(by cases hq),by
 simp only [xk,h.2,Bool.false_or,decide_eq_false_iff_not]
 rintro ⟨q,hq⟩
 exact h.1 q hq⟩
theorem aaO {μ:Mu} {r:Nat} (h:(xk μ).hid r=false):xR μ r:=by
 simp only [xk,Bool.or_eq_false_iff,decide_eq_false_iff_not] at h
 exact ⟨fun q hq=>h.2 ⟨q,hq⟩,h.1⟩
def agj (P:Program) (g:FuncId) (args:List Value) (run:M Value):Prop:=∀ aargs S v S',run S=some (v,S')→∀ μ H ω,GI μ S H→L0 μ H args aargs→Dom μ H ω→(∀ r s,ω r=some s→s=.ext) →
 ∃ a H' μ' ω',lim P g aargs H=some (a,H')∧GI μ' S' H'∧Later μ H μ' H'∧Kept ω H ω' H'∧Dom μ' H' ω'∧VV μ' H' ω' (some (.res none)) v a
theorem acg {g:FuncId} {args:List Value} {run:M Value} (hr:agj P g args run):agj P g args (aae run args):=by
 intro aargs S v S' h μ H ω hG hA hD hE
 unfold aae at h
 split at h <;> first | (cases h;done) | skip
 rename_i hca
 split at h <;> first | (cases h;done) | skip
 rename_i w S1 hrun
 split at h <;> first | (cases h;done) | skip
 rename_i hcw
 cases h
 have hG0:GI (xk μ) zx.empty H:=⟨fun q o h=>(by cases h),fun q q' r h=>(by cases h),fun q r b h=>(by cases h),fun q _=>rfl,fun q r h=>(by cases h),fun r h=>by
  simp only [xk,Bool.or_eq_true,decide_eq_true_eq] at h
  rcases h with h | ⟨q,hq⟩
  ·
   exact hG.hlt r h
  ·
   exact hG.lt q r _ hq,rfl,fun q cs anc e h=>(by cases h)⟩
 have hA0:L0 (xk μ) H args aargs:=⟨hA.1,fun i=>by
  by_cases hi:i < args.length
  ·
   refine (hA.2 i).clean (fun r h=>JJ h) 16 ?_
   rw [List.getD_eq_getElem?_getD,List.getElem?_eq_getElem hi]
   exact List.all_eq_true.1 hca _ (List.getElem_mem _)
  ·
   rw [List.getD_eq_getElem?_getD,List.getElem?_eq_none (Nat.le_of_not_lt hi),List.getD_eq_getElem?_getD,List.getElem?_eq_none (by rw [← hA.1];omega)]
   exact .nores⟩
 obtain ⟨a,H1,μ1,ω1,k1,k2,k3,k4,k5,k6⟩:=hr aargs _ _ _ hrun (xk μ) H ω hG0 hA0 (fun r s h=>⟨(hD r s h).1,JJ (hD r s h).2⟩) hE
 have hp1:∀ r,xR μ1 r→xR μ r:=fun r h=>aaO (by rw [← k3.hid];exact h.2)
 have hL:Later μ H μ H1:=⟨fun _ _ b h=>⟨b,h⟩,k3.next,fun _ _ h=>.inl h,rfl,fun r hr hh=>k3.same r hr (by simp only [xk,hh,Bool.true_or]),⟨[],rfl,fun q r hq _=>⟨hq,k3.same r (hG.lt q r _ hq) (by
  simp only [xk,Bool.or_eq_true,decide_eq_true_eq]
  exact .inr ⟨q,hq⟩)⟩⟩,fun r l own e hr hp hg=>k3.cells r l own e hr (JJ hp) hg⟩
 have hq1:∀ q r,μ1 q=some (r,true)→xR μ r:=fun q r h=>by
  rcases k3.new q r h with h5 | h5
  ·
   cases h5
  ·
   exact ⟨fun q' hq'=>by have:=hG.lt q' r _ hq';omega,by
    cases hh:μ.hid r with
    | false=>rfl
    | true=>have:=hG.hlt r hh;omega⟩
 refine ⟨a,H1,μ,ω1,k1,?_,hL,k4,fun r s h=>⟨(k5 r s h).1,hp1 r (k5 r s h).2⟩,k6.lower k2 hp1 hq1 16 16 hcw⟩
 exact hG.later hL rfl fun q r hq=>k3.same r (hG.lt q r _ hq) (by
  simp only [xk,Bool.or_eq_true,decide_eq_true_eq]
  exact .inr ⟨q,hq⟩)
theorem ace {O:Ora} (hO:aaC P O):∀ n,ZY P (qY P O n):=by
 intro n
 induction n with
 | zero=>intro g args aargs S v S' h;cases h
 | succ n ih =>
  intro g args aargs S v S' h μ H ω hG hA hD hE
  simp only [qY] at h
  cases ho:O.fn g with
  | some q =>
   rw [ho] at h
   exact hO g q ho g args aargs S v S' (by simpa using h) μ H ω hG hA hD hE
  | none =>
   rw [ho] at h
   dsimp only at h
   cases hf:P.funcs[g]? with
   | none=>rw [hf] at h;cases h
   | some fn =>
    rw [hf] at h
    dsimp only at h
    split at h <;> first | (cases h;done) | skip
    rename_i hn
    cases hb:fn.body with
    | none=>rw [hb] at h;cases h
    | some c =>
     rw [hb] at h
     dsimp only at h
     have hrun:agj P g args (abV P (O.hp g) (qV O.hp (O.hp g) (qY P O n)) n fn c args):=by
      intro aargs S v S' h μ H ω hG hA hD hE
      have hT0:TI μ H ω (args++List.replicate (fn.ntmps - args.length) zh) (aargs++List.replicate (fn.ntmps - aargs.length) zh):=by
       have hl:L0 μ H (args++List.replicate (fn.ntmps - args.length) zh) (aargs++List.replicate (fn.ntmps - aargs.length) zh):=by
        refine hA.append (VL.ofRange (by rw [hA.1]) fun i hi=>?_)
        have hi2:i < fn.ntmps - args.length:=by simpa using hi
        rw [List.getD_eq_getElem?_getD,List.getElem?_replicate,if_pos hi2,List.getD_eq_getElem?_getD,List.getElem?_replicate,if_pos (by rw [← hA.1];exact hi2)]
        exact .nores
       exact ⟨hl.1,fun i=>(hl.2 i).at0,hD,fun r j hr=>by have:=hE r _ hr;cases this⟩
      have fin:∀ (e:AEx) (T1:List Value) (S1:zx),(e=.normal∨e=.ret)→wF P (O.hp g) (qV O.hp (O.hp g) (qY P O n)) n c (args++List.replicate (fn.ntmps - args.length) zh) S=some (e,T1,S1)→VQ P fn T1 S1=some (v,S') →
        ∃ a H' μ' ω',lim P g aargs H=some (a,H')∧GI μ' S' H'∧Later μ H μ' H'∧Kept ω H ω' H'∧Dom μ' H' ω'∧VV μ' H' ω' (some (.res none)) v a:=by
       intro e T1 S1 he hcode hres
       obtain ⟨A1,H1,μ1,ω1,h1,h2,h3,h4,h5⟩:=ab2 (acN ih) n c _ _ _ _ _ _ _ _ _ hcode hG hT0
       obtain ⟨rfl,a,k1,k2⟩:=ad1 (P:=P) h2 h5 hres
       refine ⟨a,H1,μ1,fun r=>(ω1 r).bind (place fn.results.toList),ac4 hf hn hb h1 he k1,h2,h3,fun r hr=>?_,fun r s hs=>?_,k2⟩
       ·
        obtain ⟨q1,q2⟩:=h4 r hr
        exact ⟨by simp [q1,place],q2⟩
       ·
        cases hr:ω1 r with
        | none=>simp [hr] at hs
        | some s0=>exact h5.dom r s0 hr
      unfold abV at h
      split at h
      ·
       rename_i T1 S1 hx;exact fin .normal _ _ (.inl rfl) hx h
      ·
       rename_i T1 S1 hx;exact fin .ret _ _ (.inr rfl) hx h
      ·
       cases h
     split at h
     ·
      exact acg hrun aargs S v S' h μ H ω hG hA hD hE
     ·
      exact hrun aargs S v S' h μ H ω hG hA hD hE
end
end Go.Abs
namespace Go.Abs
open Go.RowKit
open Classical
noncomputable def zU (P:Program) (O:Ora) (g:FuncId) (args:List Value):M Value:=fun S =>
 if h:∃ r,∃ k0,∀ k,k0≤k→qY P O k g args S=some r then some (Classical.choose h) else none
section
variable {P:Program} {O:Ora}
theorem Y4 {g:FuncId} {args:List Value} {S:zx} {r:Value×zx} (h:zU P O g args S=some r):∃ k0,∀ k,k0≤k→qY P O k g args S=some r:=by
 unfold zU at h
 split at h
 ·
  rename_i hx
  have:=Classical.choose_spec hx
  cases h
  exact this
 ·
  cases h
theorem QV {g:FuncId} {args:List Value} {S:zx} {r:Value×zx} (h:∃ k0,∀ k,k0≤k→qY P O k g args S=some r):zU P O g args S=some r:=by
 have hx:∃ r,∃ k0,∀ k,k0≤k→qY P O k g args S=some r:=⟨r,h⟩
 unfold zU
 rw [dif_pos hx]
 obtain ⟨k0,h0⟩:=h
 obtain ⟨k1,h1⟩:=Classical.choose_spec hx
 have e0:=h0 (max k0 k1) (Nat.le_max_left _ _)
 have e1:=h1 (max k0 k1) (Nat.le_max_right _ _)
 rw [e0] at e1
 exact e1.symm
theorem aeL (hO:aaC P O):ZY P (zU P O):=by
 intro g args aargs S v S' h
 obtain ⟨k,hk⟩:=Y4 h
 exact ace hO k g args aargs S v S' (hk k (Nat.le_refl k))
def ae7 (c:FuncId→List Value→M Value) (ck:Nat→FuncId→List Value→M Value):Prop:=∀ g args S r,c g args S=some r→∃ k0,∀ k,k0≤k→ck k g args S=some r
theorem Qc:ae7 (zU P O) (fun k=>qY P O k):=fun g args S r h=>Y4 h
theorem WE {c:FuncId→List Value→M Value} {ck:Nat→FuncId→List Value→M Value} (hl:ae7 c ck) {hps:FuncId→Bool} {hp:Bool}:ae7 (qV hps hp c) (fun k=>qV hps hp (ck k)):=by
 cases hp with
 | false=>exact hl
 | true =>
  intro g args S r h
  unfold qV at h
  dsimp only at h
  split at h
  ·
   rename_i hg
   obtain ⟨k0,h0⟩:=hl _ _ _ _ h
   exact ⟨k0,fun k hk=>by unfold qV;dsimp only;rw [if_pos hg];exact h0 k hk⟩
  ·
   rename_i hg
   split at h <;> first | (cases h;done) | skip
   rename_i m S1 hf
   split at h <;> first | (cases h;done) | skip
   rename_i r0 hr0
   obtain ⟨k0,h0⟩:=hl _ _ _ _ hr0
   exact ⟨k0,fun k hk=>by unfold qV;dsimp only;rw [if_neg hg,hf];dsimp only;rw [h0 k hk];exact h⟩
section
variable {c:FuncId→List Value→M Value} {ck:Nat→FuncId→List Value→M Value}
theorem Qk (hl:ae7 c ck) {fx:Fx} {T:List Value} {o:Oper} {S:zx} {r:Value×zx} (h:wC P fx c T o S=some r):∃ k0,∀ k,k0≤k→wC P fx (ck k) T o S=some r:=by
 unfold wC at h
 split at h
 ·
  rename_i hok
  split at h
  ·
   rename_i q0 hop
   split at h
   ·
    rename_i f hf
    split at h
    ·
     rename_i g first captured hev
     obtain ⟨k0,hk⟩:=hl _ _ _ _ h
     refine ⟨k0,fun k hkk=>?_⟩
     unfold wC
     rw [if_pos hok]
     simp only [hop,hf,hev]
     exact hk k hkk
    ·
     cases h
   ·
    rename_i b hb
    refine ⟨0,fun k _=>?_⟩
    unfold wC
    rw [if_pos hok]
    simp only [hop,hb]
    exact h
   ·
    cases h
  ·
   rename_i hop
   refine ⟨0,fun k _=>?_⟩
   unfold wC
   rw [if_pos hok]
   split
   ·
    rename_i q0 hc;exact absurd hc (hop q0)
   ·
    exact h
 ·
  cases h
theorem acO (hl:ae7 c ck) {fx:Fx} {ops:Array Oper}:∀ (l:List Oper) (T:List Value) (S:zx) (r:List Value×zx),jq P fx c ops l T S=some r→∃ k0,∀ k,k0≤k→jq P fx (ck k) ops l T S=some r:=by
 intro l
 induction l with
 | nil=>intro T S r h;exact ⟨0,fun k _=>h⟩
 | cons o l ih =>
  intro T S r h
  simp only [jq] at h
  split at h
  ·
   rename_i hw
   split at h
   ·
    rename_i v S' hs
    obtain ⟨k1,h1⟩:=Qk hl hs
    obtain ⟨k2,h2⟩:=ih _ _ _ h
    refine ⟨max k1 k2,fun k hk=>?_⟩
    simp only [jq,hw,if_true,h1 k (by omega)]
    exact h2 k (by omega)
   ·
    cases h
  ·
   rename_i hw
   obtain ⟨k2,h2⟩:=ih _ _ _ h
   refine ⟨k2,fun k hk=>?_⟩
   simp only [jq,hw,if_false]
   exact h2 k hk
theorem aa6 (hl:ae7 c ck) {fx:Fx} {chk:List Nat} {nl:List (Nat×Nat)} {ops:Array Oper}:∀ (l:List Oper) (i:Nat) (hist:List (Value×zx)) (T:List Value) (S:zx) (r:List Value×zx),wI P fx chk nl c ops i hist l T S=some r→∃ k0,∀ k,k0≤k→wI P fx chk nl (ck k) ops i hist l T S=some r:=by
 intro l
 induction l with
 | nil=>intro i hist T S r h;exact ⟨0,fun k _=>h⟩
 | cons o l ih =>
  intro i hist T S r h
  simp only [wI] at h
  split at h
  ·
   rename_i hw
   split at h
   ·
    rename_i v S' hs
    split at h
    ·
     rename_i hq
     obtain ⟨k1,h1⟩:=Qk hl hs
     obtain ⟨k2,h2⟩:=ih _ _ _ _ _ h
     refine ⟨max k1 k2,fun k hk=>?_⟩
     simp only [wI,hw,if_true,h1 k (by omega),hq]
     exact h2 k (by omega)
    ·
     cases h
   ·
    cases h
  ·
   rename_i hw
   obtain ⟨k2,h2⟩:=ih _ _ _ _ _ h
   refine ⟨k2,fun k hk=>?_⟩
   simp only [wI,hw,if_false]
   exact h2 k hk
end
noncomputable def zI (P:Program) (O:Ora) (hp:Bool):Code→List Value→zx→St
 | .skip,T,H=>some (.normal,T,H)
 | .region _ ops false,T,H=>match jq P ⟨hp,false,false⟩ (qV O.hp hp (zU P O)) ops ops.toList T H with
  | some (T1,H1)=>some (.normal,T1,H1)
  | none=>none
 | .region _ ops true,T,H=>if qQ P ops then match wI P ⟨hp,!(checked P ops).isEmpty,fixed P ops⟩ (checked P ops) (again P ops) (qV O.hp hp (zU P O)) ops 0 [] ops.toList T H with
  | some (T1,H1)=>some (.normal,T1,H1)
  | none=>none
  else none
 | .seq x y,T,H=>match zI P O hp x T H with
  | some (.normal,T1,H1)=>zI P O hp y T1 H1
  | r=>r
 | .cond c x y,T,H=>if yw c then
   match zL T c with
   | .bool true=>zI P O hp x T H
   | .bool false=>zI P O hp y T H
   | _=>none
  else none
 | .block id c,T,H=>match zI P O hp c T H with
  | some (.exit id',T1,H1)=>if id'=id then some (.normal,T1,H1) else some (.exit id',T1,H1)
  | r=>r
 | .loop c,T,H=>yM (zI P O hp c) T H
 | .exit id,T,H=>some (.exit id,T,H)
 | .ret,T,H=>some (.ret,T,H)
 | _,_,_=>none
theorem J7 {hp:Bool}:∀ (c:Code) (T:List Value) (H:zx) (r),zI P O hp c T H=some r→∃ k0,∀ k fuel,k0≤k→k0≤fuel→wF P hp (qV O.hp hp (qY P O k)) fuel c T H=some r:=by
 intro c
 induction c with
 | skip=>intro T H r h;exact ⟨0,fun k fuel _ _=>h⟩
 | region i ops d =>
  intro T H r h
  cases d with
  | false =>
   simp only [zI] at h
   split at h
   ·
    rename_i T1 H1 ho
    obtain ⟨k0,h0⟩:=acO (WE Qc) _ _ _ _ ho
    exact ⟨k0,fun k fuel hk _=>by simp only [wF,h0 k hk];exact h⟩
   ·
    cases h
  | true =>
   simp only [zI] at h
   split at h
   ·
    rename_i hd
    split at h
    ·
     rename_i T1 H1 ho
     obtain ⟨k0,h0⟩:=aa6 (WE Qc) _ _ _ _ _ _ ho
     exact ⟨k0,fun k fuel hk _=>by simp only [wF,hd,if_true,h0 k hk];exact h⟩
    ·
     cases h
   ·
    cases h
 | seq x y ihx ihy =>
  intro T H r h
  simp only [zI] at h
  split at h
  ·
   rename_i T1 H1 hx
   obtain ⟨k1,h1⟩:=ihx _ _ _ hx
   obtain ⟨k2,h2⟩:=ihy _ _ _ h
   exact ⟨max k1 k2,fun k fuel hk hf=>by simp only [wF,h1 k fuel (by omega) (by omega)];exact h2 k fuel (by omega) (by omega)⟩
  ·
   rename_i hne
   obtain ⟨k1,h1⟩:=ihx _ _ _ h
   refine ⟨k1,fun k fuel hk hf=>?_⟩
   simp only [wF,h1 k fuel hk hf]
   split
   ·
    rename_i T1 H1 he;exact absurd (h.trans he) (hne T1 H1)
   ·
    rfl
 | cond c x y ihx ihy =>
  intro T H r h
  simp only [zI] at h
  split at h
  ·
   rename_i hok
   split at h
   ·
    rename_i hb
    obtain ⟨k1,h1⟩:=ihx _ _ _ h
    exact ⟨k1,fun k fuel hk hf=>by simp only [wF,hok,if_true,hb];exact h1 k fuel hk hf⟩
   ·
    rename_i hb
    obtain ⟨k1,h1⟩:=ihy _ _ _ h
    exact ⟨k1,fun k fuel hk hf=>by simp only [wF,hok,if_true,hb];exact h1 k fuel hk hf⟩
   ·
    cases h
  ·
   cases h
 | block id c ih =>
  intro T H r h
  simp only [zI] at h
  split at h
  ·
   rename_i id' T1 H1 hc
   obtain ⟨k1,h1⟩:=ih _ _ _ hc
   exact ⟨k1,fun k fuel hk hf=>by simp only [wF,h1 k fuel hk hf];exact h⟩
  ·
   rename_i hne
   obtain ⟨k1,h1⟩:=ih _ _ _ h
   refine ⟨k1,fun k fuel hk hf=>?_⟩
   simp only [wF,h1 k fuel hk hf]
   split
   ·
    rename_i id' T1 H1 he;exact absurd (h.trans he) (hne id' T1 H1)
   ·
    rfl
 | loop c ih =>
  intro T H r h
  simp only [zI] at h
  obtain ⟨n,hn⟩:=xA h
  have key:∀ (n:Nat) (T:List Value) (H:zx),yg n (zI P O hp c) T H=some r→∃ k0,∀ k fuel,k0≤k→k0≤fuel→∀ j,n≤j→yg j (wF P hp (qV O.hp hp (qY P O k)) fuel c) T H=some r:=by
   intro n
   induction n with
   | zero=>intro T H h;cases h
   | succ n ihn =>
    intro T H h
    simp only [yg] at h
    split at h
    ·
     rename_i T1 H1 hf
     obtain ⟨k1,h1⟩:=ih _ _ _ hf
     obtain ⟨k2,h2⟩:=ihn _ _ h
     refine ⟨max k1 k2,fun k fuel hk hfu j hj=>?_⟩
     obtain ⟨j,rfl⟩:∃ i,j=i+1:=⟨j - 1,by omega⟩
     simp only [yg,h1 k fuel (by omega) (by omega)]
     exact h2 k fuel (by omega) (by omega) j (by omega)
    ·
     rename_i hne
     obtain ⟨k1,h1⟩:=ih _ _ _ h
     refine ⟨k1,fun k fuel hk hfu j hj=>?_⟩
     obtain ⟨j,rfl⟩:∃ i,j=i+1:=⟨j - 1,by omega⟩
     simp only [yg,h1 k fuel hk hfu]
     split
     ·
      rename_i T1 H1 he;exact absurd (h.trans he) (hne T1 H1)
     ·
      rfl
  obtain ⟨k0,h0⟩:=key n T H hn
  exact ⟨max k0 n,fun k fuel hk hf=>by simp only [wF];exact h0 k fuel (by omega) (by omega) fuel (by omega)⟩
 | exit id=>intro T H r h;exact ⟨0,fun k fuel _ _=>h⟩
 | ret=>intro T H r h;exact ⟨0,fun k fuel _ _=>h⟩
 | _=>intro T H r h;simp only [zI] at h;cases h
theorem y7 {f:FuncId} {fn:Func} {c:Code} {args:List Value} {H H1 H':zx} {e:AEx} {T:List Value} {v:Value} (ho:O.fn f=none) (hpu:O.pu f=false) (hf:P.funcs[f]?=some fn) (hn:aey fn=true) (hb:fn.body=some c)
  (h:zI P O (O.hp f) c (args++List.replicate (fn.ntmps - args.length) zh) H=some (e,T,H1)) (he:e=.normal∨e=.ret) (hres:VQ P fn T H1=some (v,H')):zU P O f args H=some (v,H'):=by
 obtain ⟨k0,h0⟩:=J7 _ _ _ _ h
 refine QV ⟨k0+1,fun k hk=>?_⟩
 obtain ⟨k,rfl⟩:∃ i,k=i+1:=⟨k - 1,by omega⟩
 simp only [qY,ho,hf,if_pos hn,hb,hpu,Bool.false_eq_true,if_false,abV,h0 k k (by omega) (by omega)]
 rcases he with rfl | rfl <;> exact hres
theorem Vh {f:FuncId} {fn:Func} {c:Code} {args:List Value} {S H1 H':zx} {e:AEx} {T:List Value} {v:Value} (ho:O.fn f=none) (hpu:O.pu f=true) (hf:P.funcs[f]?=some fn) (hn:aey fn=true) (hb:fn.body=some c)
  (h:zI P O (O.hp f) c (args++List.replicate (fn.ntmps - args.length) zh) zx.empty=some (e,T,H1)) (he:e=.normal∨e=.ret) (hres:VQ P fn T H1=some (v,H')) (hca:args.all (zT 16)=true) (hcv:zT 16 (jO H' 16 v)=true):zU P O f args S=some (jO H' 16 v,S):=by
 obtain ⟨k0,h0⟩:=J7 _ _ _ _ h
 refine QV ⟨k0+1,fun k hk=>?_⟩
 obtain ⟨k,rfl⟩:∃ i,k=i+1:=⟨k - 1,by omega⟩
 have hr:abV P (O.hp f) (qV O.hp (O.hp f) (qY P O k)) k fn c args zx.empty=some (v,H'):=by
  simp only [abV,h0 k k (by omega) (by omega)]
  rcases he with rfl | rfl <;> exact hres
 simp only [qY,ho,hf,if_pos hn,hb,hpu,if_true,aae,if_pos hca,hr,if_pos hcv]
theorem Ql (S:zx):∀ (d d':Nat) (v:Value),zT d v=true→jO S d' v=v:=by
 intro d
 induction d with
 | zero=>intro d' v h;cases h
 | succ d ih =>
  intro d' v h
  cases d' with
  | zero=>rfl
  | succ d' =>
   cases v with
   | agg cs =>
    simp only [zT] at h
    show Value.agg (cs.map (jO S d'))=.agg cs
    congr 1
    apply Array.ext (by simp)
    intro i h1 h2
    rw [Array.getElem_map]
    exact ih d' _ (List.all_eq_true.1 h _ (by simp))
   | tuple cs =>
    simp only [zT] at h
    show Value.tuple (cs.map (jO S d'))=.tuple cs
    congr 1
    apply Array.ext (by simp)
    intro i h1 h2
    rw [Array.getElem_map]
    exact ih d' _ (List.all_eq_true.1 h _ (by simp))
   | slice a n c =>
    cases a with
    | none=>rfl
    | some a=>simp [zT] at h
   | _=>rfl
theorem yB {f:FuncId} {fn:Func} {c:Code} {args:List Value} {S H1 H':zx} {e:AEx} {T:List Value} {v:Value} (ho:O.fn f=none) (hpu:O.pu f=true) (hf:P.funcs[f]?=some fn) (hn:aey fn=true) (hb:fn.body=some c)
  (h:zI P O (O.hp f) c (args++List.replicate (fn.ntmps - args.length) zh) zx.empty=some (e,T,H1)) (he:e=.normal∨e=.ret) (hres:VQ P fn T H1=some (v,H')) (hca:args.all (zT 16)=true) (hcv:zT 16 v=true):zU P O f args S=some (v,S):=by
 have e1:=Ql H' 16 16 v hcv
 have:=Vh (S:=S) ho hpu hf hn hb h he hres hca (by rw [e1];exact hcv)
 rwa [e1] at this
def Ty.Z7:(t:Ty)→t.Val→List Value
 | .int k,n=>[.int k n]
 | .bool,b=>[.bool b]
 | .str,s=>[.string s]
 | .slc _ e,l=>match l with
  | none=>[.slice none 0 0]
  | some l=>[SL 1 e.sz l.length (l.flatMap e.Z7)]
 | .pair a b,(x,y)=>a.Z7 x++b.Z7 y
 | .unit,_=>[]
theorem Ty.QT:∀ (t:Ty) (x:t.Val),(t.Z7 x).length=t.sz:=by
 intro t
 induction t with
 | pair a b iha ihb=>rintro ⟨x,y⟩;simp [Ty.Z7,Ty.sz,iha,ihb]
 | slc bytes e ih=>intro x;cases x <;> rfl
 | _=>intro x;rfl
theorem ZJ {e:Ty} (l:List e.Val):(l.flatMap e.Z7).length=l.length * e.sz:=by
 induction l with
 | nil=>simp
 | cons x l ih=>simp [List.flatMap_cons,Ty.QT,ih,Nat.add_mul];omega
def M0:Mu:=⟨fun _=>none,fun _=>false,[]⟩
theorem GI.none {H:zx}:GI M0 zx.empty H:=⟨(fun q o h=>by cases h),(fun q q' r h=>by cases h),(fun q r b h=>by cases h),(fun q _=>rfl),(fun q r h=>by cases h),(fun r h=>by cases h),rfl,(fun q cs anc e h=>by cases h)⟩
theorem Ty.Yg:∀ (t:Ty) (x:t.Val) (H:zx),Later M0 H M0 (t.place x H).2∧L0 M0 (t.place x H).2 (t.Z7 x) (t.place x H).1:=by
 intro t
 induction t with
 | int k=>intro x H;exact ⟨Later.refl _ _,VL.cons (.sg rfl) VL.nil⟩
 | bool=>intro x H;exact ⟨Later.refl _ _,VL.cons (.sg rfl) VL.nil⟩
 | str=>intro x H;exact ⟨Later.refl _ _,VL.cons (.sg rfl) VL.nil⟩
 | unit=>intro x H;exact ⟨Later.refl _ _,VL.nil⟩
 | pair a b iha ihb =>
  rintro ⟨x,y⟩ H
  obtain ⟨h1,h2⟩:=iha x H
  obtain ⟨h3,h4⟩:=ihb y (a.place x H).2
  exact ⟨h1.trans h3,(h2.later h3).append h4⟩
 | slc bytes e ih =>
  intro x H
  match x with
  | none=>exact ⟨Later.refl _ _,VL.cons (.sg rfl) VL.nil⟩
  | some []=>exact ⟨Later.refl _ _,VL.cons (.slE (e:=e.sz)) VL.nil⟩
  | some (x::l) =>
   have key:∀ (l:List e.Val) (H:zx),Later M0 H M0 (jU e.place l H).2∧L0 M0 (jU e.place l H).2 (l.flatMap e.Z7) (jU e.place l H).1:=by
    intro l
    induction l with
    | nil=>intro H;exact ⟨Later.refl _ _,VL.nil⟩
    | cons x l ihl =>
     intro H
     obtain ⟨h1,h2⟩:=ih x H
     obtain ⟨h3,h4⟩:=ihl (e.place x H).2
     exact ⟨h1.trans h3,(h2.later h3).append h4⟩
   obtain ⟨h1,h2⟩:=key (x::l) H
   have hL:Later M0 (jU e.place (x::l) H).2 M0 ((jU e.place (x::l) H).2.push (.cells (jU e.place (x::l) H).1 .ro e.sz)):=WB (fun q r h=>by cases h) _
   refine ⟨h1.trans hL,VL.cons ?_ VL.nil⟩
   have hlen:(jU e.place (x::l) H).1.length=(l.length+1) * e.sz:=by rw [← h2.1,ZJ];rfl
   show V0 M0 ((jU e.place (x::l) H).2.push (.cells (jU e.place (x::l) H).1 .ro e.sz)) (SL 1 e.sz (l.length+1) ((x::l).flatMap e.Z7)) (.slice (some ⟨(jU e.place (x::l) H).2.next,0,none⟩) (l.length+1) (l.length+1))
   refine VV.sl (o:=0) (l:=(jU e.place (x::l) H).1) (own:=.ro) (by simp) ⟨fun q h=>(by cases h),rfl⟩ (by rw [zx.jo,if_pos rfl]) (by omega) (by rw [List.toList_toArray,ZJ];rfl) (fun i hi=>?_)
   rw [Nat.zero_add,List.toList_toArray]
   exact (h2.2 i).qO hL
def Args.Z7:(l:List (Bool×Ty))→Args l→List Value
 | [],_=>[]
 | (b,c)::l,(x,xs)=>xU b (c.Z7 x)::Args.Z7 l xs
theorem acS {H:zx} {b:Bool} {cs cs':List Value} (h:L0 M0 H cs cs'):V0 M0 H (xU b cs) (xU b cs'):=by
 unfold xU
 split
 ·
  exact JA h
 ·
  rw [xJ,xJ];exact h.2 0
theorem Args.Yg:∀ (l:List (Bool×Ty)) (x:Args l) (H:zx),Later M0 H M0 (Args.place l x H).2∧L0 M0 (Args.place l x H).2 (Args.Z7 l x) (Args.place l x H).1:=by
 intro l
 induction l with
 | nil=>intro x H;exact ⟨Later.refl _ _,VL.nil⟩
 | cons p l ih =>
  obtain ⟨b,c⟩:=p
  rintro ⟨x,xs⟩ H
  obtain ⟨h1,h2⟩:=c.Yg x H
  obtain ⟨h3,h4⟩:=ih xs (c.place x H).2
  exact ⟨h1.trans h3,VL.cons ((acS h2).qO h3) h4⟩
theorem KW (hO:aaC P O) {f:FuncId} {codes:List (Bool×Ty)} {x:Args codes} {S':zx} (h:zU P O f (Args.Z7 codes x) zx.empty=some (.bool true,S')) :
  ∃ k,(kE P k f (Args.place codes x zx.empty).1 (Args.place codes x zx.empty).2).map (·.1)=some (.bool true):=by
 obtain ⟨h1,h2⟩:=Args.Yg codes x zx.empty
 obtain ⟨a,H',μ',ω',k1,k2,k3,k4,k5,k6⟩:=aeL hO f _ _ _ _ _ h M0 _ W0 GI.none h2 (fun r s hs=>by cases hs) (fun r s hs=>by cases hs)
 have:a=.bool true:=zW (k6.v0) rfl
 subst this
 exact Vx k1
theorem acw {hps pus:FuncId→Bool}:aaC P ⟨fun _=>none,hps,pus⟩:=fun f q h=>by cases h
end
end Go.Abs
namespace Go.Abs
open Go.RowKit
section
variable {R:Type} {P:Program} {O:Ora} {fx:Fx} {hp nm:Bool} {chk:List Nat} {call:FuncId→List Value→M Value} {ops:Array Oper}
def okC (v:Value) (r:Option R):Option R:=if okq 3 v=true then r else none
@[simp] theorem Xz (b:Bool) (r:Option R):okC (.bool b) r=r:=Eq.trans rfl rfl
@[simp] theorem abG (k:IntKind) (n:Int) (r:Option R):okC (.int k n) r=r:=Eq.trans rfl rfl
@[simp] theorem WG (s:ByteArray) (r:Option R):okC (.string s) r=r:=Eq.trans rfl rfl
@[simp] theorem Qo (a:Option Addr) (n c:Nat) (r:Option R):okC (.slice a n c) r=r:=Eq.trans rfl rfl
@[simp] theorem QI (k:Nat) (v:Value) (r:Option R):okC (.iface k v) r=r:=Eq.trans rfl rfl
@[simp] theorem aeT (a:Option Addr) (r:Option R):okC (.pointer a) r=r:=Eq.trans rfl rfl
def gdC (v:Value) (b:Bool) (s:M Value) (S:zx) (K:Value→zx→Option R):Option R :=
 if (vb v == some b)=true then andThen (s S) (fun v S1=>okC v (K v S1)) else K zh S
@[simp] theorem adS (s:M Value) (H:zx) (K:Value→zx→Option R):gdC (.bool true) true s H K=andThen (s H) (fun v S1=>okC v (K v S1)):=Eq.trans rfl rfl
@[simp] theorem adq (s:M Value) (H:zx) (K:Value→zx→Option R):gdC (.bool false) false s H K=andThen (s H) (fun v S1=>okC v (K v S1)):=Eq.trans rfl rfl
@[simp] theorem adt (s:M Value) (H:zx) (K:Value→zx→Option R):gdC (.bool true) false s H K=K zh H:=Eq.trans rfl rfl
@[simp] theorem adI (s:M Value) (H:zx) (K:Value→zx→Option R):gdC (.bool false) true s H K=K zh H:=Eq.trans rfl rfl
@[simp] theorem adf (s:M Value) (b:Bool) (H:zx) (K:Value→zx→Option R):gdC zh b s H K=K zh H:=Eq.trans rfl rfl
abbrev Zr {α:Type} (a:α):Type:=Unit
def zO (s:Option (Value×zx)) (K:Value→zx→Option R) (p:Zr K):Option R:=andThen s K
def gdK (v:Value) (b:Bool) (s:M Value) (S:zx) (K:Value→zx→Option R) (p:Zr K):Option R:=gd v b s S K
def afK (v:Value) (b:Bool) (s:M Value) (S:zx) (K:Value→zx→Option R) (p:Zr K):Option R:=gdC v b s S K
def okK (v:Value) (r:Option R) (p:Zr r):Option R:=okC v r
@[simp] theorem QE (v:Value) (H:zx) (K:Value→zx→Option R) (p:Zr K):zO (some (v,H)) K p=K v H:=Eq.trans rfl rfl
@[simp] theorem adn (s:M Value) (H:zx) (K:Value→zx→Option R) (p:Zr K):gdK (.bool true) true s H K p=zO (s H) K p:=Eq.trans rfl rfl
@[simp] theorem adw (s:M Value) (H:zx) (K:Value→zx→Option R) (p:Zr K):gdK (.bool false) false s H K p=zO (s H) K p:=Eq.trans rfl rfl
@[simp] theorem ady (s:M Value) (H:zx) (K:Value→zx→Option R) (p:Zr K):gdK (.bool true) false s H K p=K zh H:=Eq.trans rfl rfl
@[simp] theorem adM (s:M Value) (H:zx) (K:Value→zx→Option R) (p:Zr K):gdK (.bool false) true s H K p=K zh H:=Eq.trans rfl rfl
@[simp] theorem ado (s:M Value) (b:Bool) (H:zx) (K:Value→zx→Option R) (p:Zr K):gdK zh b s H K p=K zh H:=Eq.trans rfl rfl
@[simp] theorem aaQ (s:M Value) (H:zx) (K:Value→zx→Option R) (p:Zr K):afK (.bool true) true s H K p=zO (s H) (fun v S1=>okK v (K v S1) ()) ():=Eq.trans rfl rfl
@[simp] theorem VY (s:M Value) (H:zx) (K:Value→zx→Option R) (p:Zr K):afK (.bool false) false s H K p=zO (s H) (fun v S1=>okK v (K v S1) ()) ():=Eq.trans rfl rfl
@[simp] theorem aaI (s:M Value) (H:zx) (K:Value→zx→Option R) (p:Zr K):afK (.bool true) false s H K p=K zh H:=Eq.trans rfl rfl
@[simp] theorem abR (s:M Value) (H:zx) (K:Value→zx→Option R) (p:Zr K):afK (.bool false) true s H K p=K zh H:=Eq.trans rfl rfl
@[simp] theorem abP (s:M Value) (b:Bool) (H:zx) (K:Value→zx→Option R) (p:Zr K):afK zh b s H K p=K zh H:=Eq.trans rfl rfl
@[simp] theorem XD (b:Bool) (r:Option R) (p:Zr r):okK (.bool b) r p=r:=Eq.trans rfl rfl
@[simp] theorem aa8 (k:IntKind) (n:Int) (r:Option R) (p:Zr r):okK (.int k n) r p=r:=Eq.trans rfl rfl
@[simp] theorem WC (s:ByteArray) (r:Option R) (p:Zr r):okK (.string s) r p=r:=Eq.trans rfl rfl
@[simp] theorem Qr (a:Option Addr) (n c:Nat) (r:Option R) (p:Zr r):okK (.slice a n c) r p=r:=Eq.trans rfl rfl
@[simp] theorem JL (a:Option Addr) (r:Option R) (p:Zr r):okK (.pointer a) r p=r:=Eq.trans rfl rfl
theorem adJ {v:Value} (h:okq 3 v=true) (r:Option R) (p:Zr r):okK v r p=r:=if_pos h
theorem aas {l rest:List Oper} {o:Oper} {T:List Value} {T1:Value→List Value} {S:zx} {v:Value} {r:Option (List Value×zx)} (hl:l=o::rest) (hg:o.guard=none) (hm:∀ v,vg o rest T v=T1 v)
  (hs:wC P fx call T o S=some (v,S)) (hK:jq P fx call ops rest (T1 v) S=r):jq P fx call ops l T S=r:=by
 subst hl
 simp only [jq,Region.wanted,hg,if_true,hs,hm]
 exact hK
theorem aee {l rest:List Oper} {o:Oper} {T:List Value} {T1:Value→List Value} {S:zx} {s:Option (Value×zx)} {K:Value→zx→Option (List Value×zx)} (hl:l=o::rest) (hg:o.guard=none) (hm:∀ v,vg o rest T v=T1 v)
  (hs:wC P fx call T o S=s) (hK:∀ v S1,jq P fx call ops rest (T1 v) S1=K v S1):jq P fx call ops l T S=zO s K ():=by
 show _=andThen s K
 subst hl hs
 simp only [jq,Region.wanted,hg,if_true,hm,hK]
 rfl
theorem aeh {l rest:List Oper} {o:Oper} {T:List Value} {T1:Value→List Value} {S:zx} {j:Nat} {b:Bool} {g:Value} {s:M Value} {K:Value→zx→Option (List Value×zx)} (hl:l=o::rest) (hg:o.guard=some (j,b)) (hm:∀ v,vg o rest T v=T1 v)
  (hy:ynd ops T j=vb g) (hs:wC P fx call T o S=s S) (hK:∀ v S1,jq P fx call ops rest (T1 v) S1=K v S1):jq P fx call ops l T S=gdK g b s S K ():=by
 show _=gd g b s S K
 subst hl
 simp only [jq,Region.wanted,hg,hy,hs,hm,hK,gd]
 rfl
theorem abZ {l rest:List Oper} {o:Oper} {T:List Value} {T1:Value→List Value} {S:zx} {k:Nat} {s:Option (Value×zx)} {K:Value→zx→Option (List Value×zx)} (hc:chk.contains k=false) {x:Nat×Nat} {nl:List (Nat×Nat)} {hist:List (Value×zx)} {pe:Value} (hpe:yL T o=pe) (hl:l=o::rest) (hg:o.guard=none) (hm:∀ v,vg o rest T v=T1 v)
  (hs:wC P fx call T o S=s) (hK:∀ v S1,wI P fx chk (x::nl) call ops (k+1) (hist++[(pe,S)]) rest (T1 v) S1=K v S1):wI P fx chk (x::nl) call ops k hist l T S=zO s K ():=by
 show _=andThen s K
 subst hl hs
 simp only [wI,kM,List.isEmpty_cons,Bool.false_eq_true,if_false,hpe,Region.wanted,hg,if_true,hm,hK,hc,Bool.not_false,Bool.true_or]
 rfl
theorem aby {l rest:List Oper} {o:Oper} {T:List Value} {T1:Value→List Value} {S:zx} {k:Nat} {s:Option (Value×zx)} {K:Value→zx→Option (List Value×zx)} (hc:chk.contains k=true) {x:Nat×Nat} {nl:List (Nat×Nat)} {hist:List (Value×zx)} {pe:Value} (hpe:yL T o=pe) (hl:l=o::rest) (hg:o.guard=none) (hm:∀ v,vg o rest T v=T1 v)
  (hs:wC P fx call T o S=s) (hK:∀ v S1,wI P fx chk (x::nl) call ops (k+1) (hist++[(pe,S)]) rest (T1 v) S1=K v S1):wI P fx chk (x::nl) call ops k hist l T S=zO s (fun v S1=>okK v (K v S1) ()) ():=by
 show _=andThen s (fun v S1=>okC v (K v S1))
 subst hl hs
 simp only [wI,kM,List.isEmpty_cons,Bool.false_eq_true,if_false,hpe,Region.wanted,hg,if_true,hm,hK,hc,Bool.not_true,Bool.false_or]
 rfl
theorem Vl {l rest:List Oper} {o:Oper} {T:List Value} {T1:Value→List Value} {S:zx} {k:Nat} {v:Value} {r:Option (List Value×zx)} (hc:chk.contains k=false) {x:Nat×Nat} {nl:List (Nat×Nat)} {hist:List (Value×zx)} {pe:Value} (hpe:yL T o=pe) (hl:l=o::rest) (hg:o.guard=none) (hm:∀ v,vg o rest T v=T1 v)
  (hs:wC P fx call T o S=some (v,S)) (hK:wI P fx chk (x::nl) call ops (k+1) (hist++[(pe,S)]) rest (T1 v) S=r):wI P fx chk (x::nl) call ops k hist l T S=r:=by
 subst hl
 simp only [wI,kM,List.isEmpty_cons,Bool.false_eq_true,if_false,hpe,Region.wanted,hg,if_true,hs,hm,hc,Bool.not_false,Bool.true_or]
 exact hK
theorem KR {l rest:List Oper} {o:Oper} {T:List Value} {T1:Value→List Value} {S:zx} {k:Nat} {v:Value} {r:Option (List Value×zx)} (hc:chk.contains k=true) {x:Nat×Nat} {nl:List (Nat×Nat)} {hist:List (Value×zx)} {pe:Value} (hpe:yL T o=pe) (hl:l=o::rest) (hg:o.guard=none) (hm:∀ v,vg o rest T v=T1 v)
  (hs:wC P fx call T o S=some (v,S)) (hK:wI P fx chk (x::nl) call ops (k+1) (hist++[(pe,S)]) rest (T1 v) S=r):wI P fx chk (x::nl) call ops k hist l T S=okK v r ():=by
 show _=okC v r
 subst hl
 simp only [wI,kM,List.isEmpty_cons,Bool.false_eq_true,if_false,hpe,Region.wanted,hg,if_true,hs,hm,hc,Bool.not_true,Bool.false_or]
 rw [← hK]
 rfl
theorem ac9 {l rest:List Oper} {o:Oper} {T:List Value} {T1:Value→List Value} {S:zx} {j k:Nat} {b:Bool} {g:Value} {s:M Value} {K:Value→zx→Option (List Value×zx)} (hc:chk.contains k=false) {x:Nat×Nat} {nl:List (Nat×Nat)} {hist:List (Value×zx)} {pe:Value} (hpe:yL T o=pe) (hl:l=o::rest) (hg:o.guard=some (j,b)) (hm:∀ v,vg o rest T v=T1 v)
  (hy:ynd ops T j=vb g) (hs:wC P fx call T o S=s S) (hK:∀ v S1,wI P fx chk (x::nl) call ops (k+1) (hist++[(pe,S)]) rest (T1 v) S1=K v S1):wI P fx chk (x::nl) call ops k hist l T S=gdK g b s S K ():=by
 show _=gd g b s S K
 subst hl
 simp only [wI,kM,List.isEmpty_cons,Bool.false_eq_true,if_false,hpe,Region.wanted,hg,hy,hs,hm,hK,gd,hc,Bool.not_false,Bool.true_or,if_true]
 rfl
def ckK (c:Bool) (r:Option R) (p:Zr r):Option R:=if c then r else none
@[simp] theorem Xn (r:Option R) (p:Zr r):ckK true r p=r:=Eq.trans rfl rfl
noncomputable def aeA (P:Program) (O:Ora) (hp:Bool) (v:Value) (x y:Code) (T:List Value) (S:zx):St:=ab6 v (zI P O hp x T S) (zI P O hp y T S)
@[simp] theorem WI (x y:Code) (T:List Value) (S:zx):aeA P O hp (.bool true) x y T S=zI P O hp x T S:=Eq.trans rfl rfl
@[simp] theorem JV (x y:Code) (T:List Value) (S:zx):aeA P O hp (.bool false) x y T S=zI P O hp y T S:=Eq.trans rfl rfl
@[simp] theorem Jr (T:List Value) (H:zx):zI P O hp .skip T H=some (.normal,T,H):=Eq.trans rfl rfl
@[simp] theorem WH (T:List Value) (H:zx):zI P O hp .ret T H=some (.ret,T,H):=Eq.trans rfl rfl
@[simp] theorem JF (i:Nat) (T:List Value) (H:zx):zI P O hp (.exit i) T H=some (.exit i,T,H):=Eq.trans rfl rfl
@[simp] theorem Zw (i:Nat) (ops:Array Oper) (T:List Value) (H:zx):zI P O false (.region i ops false) T H=QM (jq P ⟨false,false,false⟩ (zU P O) ops ops.toList T H):=Eq.trans rfl rfl
@[simp] theorem xZ (i:Nat) (ops:Array Oper) (T:List Value) (H:zx):zI P O true (.region i ops false) T H=QM (jq P ⟨true,false,false⟩ (qV O.hp true (zU P O)) ops ops.toList T H):=Eq.trans rfl rfl
theorem yX {i:Nat} {ops:Array Oper} (hd:qQ P ops=true) (hf:fixed P ops=nm) (hc:checked P ops=chk) {nl:List (Nat×Nat)} (hn:again P ops=nl) (T:List Value) (H:zx):zI P O false (.region i ops true) T H=QM (wI P ⟨false,!chk.isEmpty,nm⟩ chk nl (zU P O) ops 0 [] ops.toList T H):=by
 subst hf hc hn
 simp only [zI,hd,if_true,qV]
 rfl
@[simp] theorem Wx (x y:Code) (T:List Value) (H:zx):zI P O hp (.seq x y) T H=afa (zI P O hp x T H) (zI P O hp y):=Eq.trans rfl rfl
@[simp] theorem ZU (i:Nat) (c:Code) (T:List Value) (H:zx):zI P O hp (.block i c) T H=Y7 i (zI P O hp c T H):=Eq.trans rfl rfl
@[simp] theorem Jq (c:Code) (T:List Value) (H:zx):zI P O hp (.loop c) T H=yM (zI P O hp c) T H:=Eq.trans rfl rfl
@[simp] theorem JR (t:Tmp) (x y:Code) (T:List Value) (H:zx):zI P O hp (.cond (.tmp t) x y) T H=aeA P O hp (T.getD t zh) x y T H:=by
 simp only [zI,yw,if_true,zL]
 rfl
@[simp] theorem Qs:dem zh=zh:=kX
@[simp] theorem V6 (k:IntKind) (n:Int):dem (.int k n)=.int k n:=Eq.trans rfl rfl
@[simp] theorem KZ (b:Bool):dem (.bool b)=.bool b:=Eq.trans rfl rfl
@[simp] theorem J8 (s:ByteArray):dem (.string s)=.string s:=Eq.trans rfl rfl
@[simp] theorem VU:dem (.slice none 0 0)=.slice none 0 0:=Eq.trans rfl rfl
@[simp] theorem abU (x:Array Value):dem (.agg x)=.agg x:=Eq.trans rfl rfl
@[simp] theorem Xr (f:Fn) (x c:Array Value):dem (.func f x c)=.func f x c:=Eq.trans rfl rfl
@[simp] theorem Ji (a:Option Addr):dem (.pointer a)=.pointer a:=Eq.trans rfl rfl
@[simp] theorem agc (e n:Nat) (cs:List Value):dem (SL 1 e n cs)=SL 1 e n cs:=Eq.trans rfl rfl
@[simp] theorem af5 (e n:Nat) (cs:List Value):dem (SL 2 e n cs)=SL 1 e n cs:=Eq.trans rfl rfl
@[simp] theorem adG (k e n:Nat) (cs:List Value) (r:Option R) (p:Zr r):okK (SL k e n cs) r p=r:=Eq.trans rfl rfl
@[simp] theorem adl (cs:List Value) (r:Option R) (p:Zr r):okK (EP cs) r p=r:=Eq.trans rfl rfl
@[simp] theorem agq (k e n:Nat) (cs:List Value) (r:Option R):okC (SL k e n cs) r=r:=Eq.trans rfl rfl
@[simp] theorem adK (cs:List Value) (r:Option R):okC (EP cs) r=r:=Eq.trans rfl rfl
def sv (k e n:Nat) (cs:List Value):Value:=if k=0 then .slice none 0 0 else SL k e n cs
structure Okv (k n:Nat) (cs:List Value):Prop where
 le:k≤2
 nil:k=0→n=0∧cs=[]
theorem sv0 {e n:Nat} {cs:List Value}:sv 0 e n cs=.slice none 0 0:=rfl
theorem sv1 {e n:Nat} {cs:List Value}:sv 1 e n cs=SL 1 e n cs:=rfl
theorem sv2 {e n:Nat} {cs:List Value}:sv 2 e n cs=SL 2 e n cs:=rfl
@[simp] theorem XH (k e n:Nat) (cs:List Value):dem (sv k e n cs)=sv (if k=2 then 1 else k) e n cs:=by
 unfold sv
 by_cases h0:k=0
 ·
  subst h0;rfl
 ·
  by_cases h2:k=2
  ·
   subst h2;rfl
  ·
   rw [if_neg h0,if_neg h2,if_neg h0]
   simp only [SL,dem,qg,if_neg h2]
@[simp] theorem QF (k e n:Nat) (cs:List Value) (r:Option R):okC (sv k e n cs) r=r:=by
 unfold sv;split <;> rfl
@[simp] theorem adE (k e n:Nat) (cs:List Value) (r:Option R) (p:Zr r):okK (sv k e n cs) r p=r:=QF k e n cs r
theorem adv {k e n:Nat} {cs:List Value} (h:Okv k n cs):∃ e',vSl (sv k e n cs)=some (e',n,cs)∧(e'=e∨n=0∧cs=[]):=by
 unfold sv
 by_cases h0:k=0
 ·
  obtain ⟨rfl,rfl⟩:=h.nil h0
  rw [if_pos h0]
  exact ⟨0,rfl,.inr ⟨rfl,rfl⟩⟩
 ·
  rw [if_neg h0]
  have:k=1∨k=2:=by have:=h.le;omega
  exact ⟨e,by simp [SL,vSl,this],.inl rfl⟩
theorem aez {t te:TypeId} {k e n:Nat} {cs:List Value} {S:zx} (ht:P.underlying t=some (.slice te)) (h:Okv k n cs):JI P t (sv k e n cs) S=some (goInt n,S):=by
 by_cases h0:k=0
 ·
  obtain ⟨rfl,rfl⟩:=h.nil h0
  subst h0
  simp only [sv0,JI,QL,ht]
 ·
  obtain ⟨e',h1,_⟩:=adv (e:=e) h
  simp only [sv,if_neg h0] at h1 ⊢
  simp only [SL] at h1 ⊢
  simp only [JI,ht,h1]
theorem YC {t te:TypeId} {k e n:Nat} {cs:List Value} {S:zx} {ki:IntKind} {i:Int} (ht:P.underlying t=some (.slice te)) (he:qP P te=some e) (h:Okv k n cs) (h0:0≤i) (hi:i < n) :
  jg P t (sv k e n cs) (.int ki i) S=some (EP ((cs.drop (i.toNat * e)).take e),S):=by
 have hk:k≠0:=fun e=>by have:=(h.nil e).1;omega
 have hk2:k=1∨k=2:=by have:=h.le;omega
 have h1:vSl (SL k e n cs)=some (e,n,cs):=by simp [SL,vSl,hk2]
 simp only [sv,if_neg hk]
 simp only [SL] at h1 ⊢
 simp only [jg,ht,h1,he,if_true]
 rw [if_pos ⟨h0,hi⟩]
@[simp] theorem Qb {t:TypeId} {v:Value} {S:zx} (ht:yP P t=some false):jk P nm t (EP [v]) S=some (v,S):=by
 simp [EP,jk,ht]
theorem aa7 {t:TypeId} {n:Nat} {cs:List Value} {S:zx} (ht:yP P t=some true) (hn:qP P t=some n) (hc:cs.length=n):jk P nm t (EP cs) S=some (.agg cs.toArray,S):=by
 simp only [EP,jk,ht,hn,if_true,List.toList_toArray]
 rw [if_pos (by omega),← hc,List.take_length]
theorem abN {t te:TypeId} {k e n:Nat} {cs:List Value} {S:zx} {lo hi:Option Value} {i j:Int} (ht:P.underlying t=some (.slice te)) (he:qP P te=some e) (h:Okv k n cs) (hlo:qc 0 lo=some i) (hhi:qc n hi=some j)
  (h0:0≤i) (hij:i≤j) (hj:j≤n):kF P t (sv k e n cs) lo hi S=some (sv (if k=2 then 1 else k) e (j.toNat - i.toNat) ((cs.drop (i.toNat * e)).take ((j.toNat - i.toNat) * e)),S):=by
 by_cases hk:k=0
 ·
  obtain ⟨rfl,rfl⟩:=h.nil hk
  subst hk
  simp only [sv0,kF,ht,vSl,he,hlo,hhi,if_pos h0,if_pos hij,if_pos hj]
  rfl
 ·
  have hk2:k=1∨k=2:=by have:=h.le;omega
  have h1:vSl (SL k e n cs)=some (e,n,cs):=by simp [SL,vSl,hk2]
  have h3:(if k=2 then 1 else k)=1:=by rcases hk2 with rfl | rfl <;> rfl
  rw [h3]
  simp only [sv,if_neg hk]
  simp only [SL] at h1 ⊢
  simp only [kF,ht,h1,he,hlo,hhi,if_pos h0,if_pos hij,if_pos hj,if_true]
  rfl
theorem ab4 {t te:TypeId} {k e n:Nat} {cs:List Value} {S:zx} (ht:P.underlying t=some (.slice te)) (h:Okv k n cs):wJ P .eql t (sv k e n cs) (.slice none 0 0) S=some (.bool (decide (k=0)),S):=by
 by_cases hk:k=0
 ·
  subst hk
  simp only [sv0,wJ,kV,yH,ht,kR]
  rfl
 ·
  have hk2:k=1∨k=2:=by have:=h.le;omega
  have h1:vSl (SL k e n cs)=some (e,n,cs):=by simp [SL,vSl,hk2]
  simp only [sv,if_neg hk]
  simp only [SL] at h1 ⊢
  simp only [wJ,ht,h1]
  simp [hk]
@[simp] theorem YI (k e n:Nat) (cs:List Value):YT (sv k e n cs)=false:=by unfold sv;split <;> rfl
@[simp] theorem ZC (dr:Bool) (t:TypeId) (k e n:Nat) (cs:List Value) (lo hi:Option Value) (S:zx):qF P dr t (sv k e n cs) lo hi S=kF P t (sv k e n cs) lo hi S:=by
 unfold qF;rw [YI];rfl
@[simp] theorem xW (dr:Bool) (t:TypeId) (s:ByteArray) (lo hi:Option Value) (S:zx):qF P dr t (.string s) lo hi S=kF P t (.string s) lo hi S:=Eq.trans rfl rfl
@[simp] theorem JB (hp dr:Bool) (src dst:TypeId) (k e n:Nat) (cs:List Value) (S:zx):yQ P hp dr src dst (sv k e n cs) S=Jb P src dst (sv k e n cs) S:=by
 unfold yQ
 rw [YI]
 have:∀ s,sv k e n cs≠.string s:=by intro s;unfold sv;split <;> (intro h;cases h)
 cases hp <;> simp only [Bool.false_eq_true,if_false] <;> (split <;> first | rfl | (rename_i h;exact absurd h (this _)) | skip)
@[simp] theorem WL (hp dr:Bool) (src dst:TypeId) (k:IntKind) (n:Int) (S:zx):yQ P hp dr src dst (.int k n) S=Jb P src dst (.int k n) S:=by cases hp <;> rfl
@[simp] theorem Zb (dr:Bool) (src dst:TypeId) (s:ByteArray) (S:zx):yQ P false dr src dst (.string s) S=Jb P src dst (.string s) S:=Eq.trans rfl rfl
@[simp] theorem vw (dr:Bool) (src dst:TypeId) (s:ByteArray) (S:zx):yQ P true dr src dst (.string s) S=wo P src dst (.string s) S:=Eq.trans rfl rfl
theorem Vg {t te tx tex:TypeId} {k e n j m bytes:Nat} {cs ds:List Value} {z:Value} {S:zx} (ht:P.underlying t=some (.slice te)) (he:qP P te=some e) (hz:zeroOf P te=some z) (hzs:z.cells.size=e) (hb:bytesOf P te=some bytes) (hp:0 < e)
  (htx:P.underlying tx=some (.slice tex)) (h:Okv k n cs) (hk:k≠1) (hx:Okv j m ds) (hn:cs.length=n * e) (hm:ds.length=m * e) (h1:cs.all (·.oneCell')=true) (h2:ds.all (·.oneCell')=true) (hl:(n+m) * bytes≤140737488355328) (hmax:n+m≤4611686018427387903) :
  jI P t tx (sv k e n cs) (sv j e m ds) S=some (sv (if k=0∧m=0 then 0 else 2) e (n+m) (cs++ds),S):=by
 have hel:qj P t=some te:=by simp only [qj,ht]
 have hsrc:afF P tx e (sv j e m ds)=some (m,ds):=by
  obtain ⟨e',q1,q2⟩:=adv (e:=e) hx
  have hns:∀ s,sv j e m ds≠.string s:=by intro s;unfold sv;split <;> (intro h;cases h)
  have hcond:m=0∨e'=e:=q2.elim .inr fun h=>.inl h.1
  unfold afF
  split
  ·
   rename_i s hs;exact absurd hs (hns s)
  ·
   simp only [htx,q1,if_pos hcond,if_pos hm,h2,if_true]
 have hsrc:V3 P tx e (sv j e m ds) S=some (m,ds):=by
  unfold V3
  rw [YI]
  exact hsrc
 by_cases hk0:k=0
 ·
  obtain ⟨rfl,rfl⟩:=h.nil hk0
  subst hk0
  simp only [sv0,jI,xQ,hel,he,hz,hb,if_pos hp,if_pos hzs,hsrc]
  by_cases hm0:m=0
  ·
   subst hm0
   simp [sv0]
  ·
   rw [Nat.zero_add] at hl hmax
   rw [if_neg hm0,if_pos hl,if_pos hmax,if_neg Bool.false_ne_true,if_neg (fun h=>hm0 h.2),sv2,Nat.zero_add,List.nil_append]
 ·
  have hk2:k=2:=by have:=h.le;omega
  subst hk2
  rw [if_neg (fun h=>hk0 h.1)]
  have h1':cs.toArray.toList.all (·.oneCell')=true:=by simpa using h1
  simp only [sv2,SL,jI,xQ,hel,he,hz,hb,if_pos hp,if_pos hzs,hsrc,if_true,if_pos hl,if_pos hmax,h1']
@[simp] theorem XK (op:BinOp) (t:TypeId) (k k':IntKind) (a b:Int) (S:zx):wJ P op t (.int k a) (.int k' b) S=kV P op t (.int k a) (.int k' b) S:=Eq.trans rfl rfl
@[simp] theorem Jt (op:BinOp) (t:TypeId) (a b:ByteArray) (S:zx):wJ P op t (.string a) (.string b) S=kV P op t (.string a) (.string b) S:=Eq.trans rfl rfl
@[simp] theorem Qp (op:BinOp) (t:TypeId) (a b:Bool) (S:zx):wJ P op t (.bool a) (.bool b) S=kV P op t (.bool a) (.bool b) S:=Eq.trans rfl rfl
@[simp] theorem afZ (op:BinOp) (t:TypeId) (a b:Array Value) (S:zx):wJ P op t (.agg a) (.agg b) S=kV P op t (.agg a) (.agg b) S:=Eq.trans rfl rfl
@[simp] theorem WA (b:Bool) (x y:Value) (S:zx):qh (.bool b) x y S=some (if b then dem x else dem y,S):=Eq.trans rfl rfl
@[simp] theorem Y8 {src dst:TypeId} (k:IntKind) (n:Int) (S:zx):Jb P src dst (.int k n) S=wo P src dst (.int k n) S:=Eq.trans rfl rfl
@[simp] theorem xY (vs:List Value) (i:Nat) (S:zx):zF (.tuple vs.toArray) i S=(vs[i]?).map (·,S):=by
 simp only [zF,List.getElem?_toArray]
 cases vs[i]? <;> rfl
end
end Go.Abs
namespace Go.Abs
theorem yG {P:Program} {fn:Func} {a b:Value} {r:List Value} {T:List Value} {S:zx} (h:zN P T S fn.results.toList=some (a::b::r)) (hn:aep fn.results.toList=true) (hall:(a::b::r).all jB=true) :
  VQ P fn T S=some (.tuple (a::b::r).toArray,S):=by
 unfold VQ
 rw [h]
 dsimp only
 rw [if_pos hn,if_pos hall]
theorem qp {P:Program} {fn:Func} {a:Value} {T:List Value} {S:zx} (h:zN P T S fn.results.toList=some [a]) (hn:aep fn.results.toList=true):VQ P fn T S=some (a,S):=by
 unfold VQ
 rw [h]
 dsimp only
 rw [if_pos hn]
@[simp] theorem jv (k:IntKind) (n:Int):jB (.int k n)=true:=rfl
@[simp] theorem jm (b:Bool):jB (.bool b)=true:=rfl
@[simp] theorem KC (k e n:Nat) (cs:List Value):jB (sv k e n cs)=true:=by unfold sv;split <;> rfl
@[simp] theorem jr (x:Array Value):jB (.agg x)=true:=rfl
@[simp] theorem je (a:Option Addr) (n c:Nat):jB (.slice a n c)=true:=rfl
end Go.Abs
namespace Go.Abs
open Go.RowKit
def vs {α:Type} (f:α→List Value) (e k:Nat) (l:List α):Value:=sv k e l.length (l.flatMap f)
structure Okl {α:Type} (k:Nat) (l:List α):Prop where
 le:k≤2
 nil:k=0→l=[]
theorem Okl.own {α:Type} {l:List α}:Okl 2 l:=⟨Nat.le_refl 2,(fun h=>by cases h)⟩
theorem Okl.read {α:Type} {l:List α}:Okl 1 l:=⟨by omega,(fun h=>by cases h)⟩
theorem Okl.none {α:Type}:Okl 0 ([]:List α):=⟨by omega,fun _=>rfl⟩
theorem Okl.dem {α:Type} {k:Nat} {l:List α} (h:Okl k l):Okl (if k=2 then 1 else k) l:=⟨by have:=h.le;split <;> omega,fun hk=>h.nil (by split at hk <;> omega)⟩
def cb (b:UInt8):List Value:=[.int .u8 b.toNat]
def ci (n:Int):List Value:=[.int .i64 n]
section
variable {R α:Type} {P:Program} {f:α→List Value} {e k j:Nat} {l m:List α} {t te tx tex:TypeId} {S:zx}
theorem Okl.okv (h:Okl k l):Okv k l.length (l.flatMap f):=⟨h.le,fun h0=>by rw [h.nil h0];exact ⟨rfl,rfl⟩⟩
theorem Jh (hf:∀ x,(f x).length=e) (l:List α):(l.flatMap f).length=l.length * e:=by
 induction l with
 | nil=>simp
 | cons x l ih=>simp only [List.flatMap_cons,List.length_append,hf,ih,List.length_cons,Nat.add_mul];omega
theorem ZX (hf:∀ x,(f x).length=e) (l:List α):∀ (i:Nat),(l.flatMap f).drop (i * e)=(l.drop i).flatMap f:=by
 induction l with
 | nil=>intro i;simp
 | cons x l ih =>
  intro i
  cases i with
  | zero=>simp
  | succ i =>
   rw [List.flatMap_cons,List.drop_succ_cons,← ih i,List.drop_append,List.drop_eq_nil_of_le (by rw [hf,Nat.add_mul];omega),List.nil_append,hf]
   congr 1
   rw [Nat.add_mul];omega
theorem ZR (hf:∀ x,(f x).length=e) (l:List α):∀ (i:Nat),(l.flatMap f).take (i * e)=(l.take i).flatMap f:=by
 induction l with
 | nil=>intro i;simp
 | cons x l ih =>
  intro i
  cases i with
  | zero=>simp
  | succ i =>
   rw [List.flatMap_cons,List.take_succ_cons,List.flatMap_cons,← ih i,List.take_append,List.take_of_length_le (by rw [hf,Nat.add_mul];omega),hf]
   congr 2
   rw [Nat.add_mul];omega
@[simp] theorem aaB:dem (vs f e k l)=vs f e (if k=2 then 1 else k) l:=XH _ _ _ _
@[simp] theorem ads (r:Option R):okC (vs f e k l) r=r:=QF _ _ _ _ _
@[simp] theorem adi (r:Option R) (p:Zr r):okK (vs f e k l) r p=r:=QF _ _ _ _ _
@[simp] theorem aga:YT (vs f e k l)=false:=YI _ _ _ _
@[simp] theorem J9 (dr:Bool) (lo hi:Option Value):qF P dr t (vs f e k l) lo hi S=kF P t (vs f e k l) lo hi S:=ZC _ _ _ _ _ _ _ _ _
@[simp] theorem YU (hp dr:Bool) (src dst:TypeId):yQ P hp dr src dst (vs f e k l) S=Jb P src dst (vs f e k l) S:=JB _ _ _ _ _ _ _ _ _
@[simp] theorem jD:jB (vs f e k l)=true:=KC _ _ _ _
theorem abI (ht:P.underlying t=some (.slice te)) (h:Okl k l):JI P t (vs f e k l) S=some (goInt l.length,S):=aez ht h.okv
theorem acF (ht:P.underlying t=some (.slice te)) (h:Okl k l):wJ P .eql t (vs f e k l) (.slice none 0 0) S=some (.bool (decide (k=0)),S):=ab4 ht h.okv
theorem aeE {ki:IntKind} {i:Int} (ht:P.underlying t=some (.slice te)) (he:qP P te=some e) (hf:∀ x,(f x).length=e) (h:Okl k l) (h0:0≤i) (hi:i < l.length) :
  jg P t (vs f e k l) (.int ki i) S=some (EP (f (l[i.toNat]'(by omega))),S):=by
 unfold vs
 rw [YC ht he h.okv h0 hi,ZX hf]
 have hlt:i.toNat < l.length:=by omega
 have:=ZR hf (l.drop i.toNat) 1
 rw [Nat.one_mul] at this
 rw [this,List.drop_eq_getElem_cons hlt,List.take_succ_cons,List.take_zero,List.flatMap_cons,List.flatMap_nil,List.append_nil]
theorem acy {lo hi:Option Value} {i j:Int} (ht:P.underlying t=some (.slice te)) (he:qP P te=some e) (hf:∀ x,(f x).length=e) (h:Okl k l) (hlo:qc 0 lo=some i) (hhi:qc l.length hi=some j) (h0:0≤i) (hij:i≤j) (hj:j≤l.length) :
  kF P t (vs f e k l) lo hi S=some (vs f e (if k=2 then 1 else k) ((l.drop i.toNat).take (j.toNat - i.toNat)),S):=by
 unfold vs
 rw [abN ht he h.okv hlo hhi h0 hij hj,ZX hf,ZR hf]
 congr 3
 simp;omega
theorem JG {bytes:Nat} {z:Value} (ht:P.underlying t=some (.slice te)) (he:qP P te=some e) (hz:zeroOf P te=some z) (hzs:z.cells.size=e) (hb:bytesOf P te=some bytes) (hp:0 < e) (htx:P.underlying tx=some (.slice tex))
  (hf:∀ x,(f x).length=e) (h1:∀ x,(f x).all (·.oneCell')=true) (h:Okl k l) (hk:k≠1) (hm:Okl j m) (hl:(l.length+m.length) * bytes≤140737488355328) (hmax:l.length+m.length≤4611686018427387903) :
  jI P t tx (vs f e k l) (vs f e j m) S=some (vs f e (if k=0∧m.length=0 then 0 else 2) (l++m),S):=by
 have hone:∀ l:List α,(l.flatMap f).all (·.oneCell')=true:=by
  intro l
  rw [List.all_flatMap,List.all_eq_true]
  exact fun x _=>h1 x
 unfold vs
 rw [Vg ht he hz hzs hb hp htx h.okv hk hm.okv (Jh hf l) (Jh hf m) (hone l) (hone m) hl hmax,List.flatMap_append,List.length_append]
theorem aaY (x:UInt8):(cb x).length=1:=rfl
theorem afp (x:UInt8):(cb x).all (·.oneCell')=true:=rfl
theorem adQ (x:Int):(ci x).length=1:=rfl
theorem afk (x:Int):(ci x).all (·.oneCell')=true:=rfl
theorem jf {v:Value} {i j:Nat} {S:zx} (h:j≠i):zF (zM j v) i S=zF v i S:=by
 cases v with
 | tuple vs=>simp only [zM,zF,Array.getElem?_modify,if_neg h]
 | _=>rfl
theorem aao {v:Value} {S:zx}:zF (zM 0 v) 1 S=zF v 1 S:=jf (by decide)
theorem aa4 {v:Value} {S:zx}:zF (zM 0 v) 2 S=zF v 2 S:=jf (by decide)
theorem abt {v:Value} {S:zx}:zF (zM 1 v) 2 S=zF v 2 S:=jf (by decide)
theorem aak {v:Value} {S:zx}:zF (zM 0 v) 3 S=zF v 3 S:=jf (by decide)
theorem abC {v:Value} {S:zx}:zF (zM 1 v) 3 S=zF v 3 S:=jf (by decide)
theorem abD {v:Value} {S:zx}:zF (zM 2 v) 3 S=zF v 3 S:=jf (by decide)
theorem abr {v:Value} {S:zx}:zF (zM 0 v) 4 S=zF v 4 S:=jf (by decide)
theorem aai {v:Value} {S:zx}:zF (zM 1 v) 4 S=zF v 4 S:=jf (by decide)
theorem aaF {v:Value} {S:zx}:zF (zM 2 v) 4 S=zF v 4 S:=jf (by decide)
theorem aaJ {v:Value} {S:zx}:zF (zM 3 v) 4 S=zF v 4 S:=jf (by decide)
theorem abE {v:Value} {S:zx}:zF (zM 0 v) 5 S=zF v 5 S:=jf (by decide)
theorem abO {v:Value} {S:zx}:zF (zM 1 v) 5 S=zF v 5 S:=jf (by decide)
theorem V8 {v:Value} {S:zx}:zF (zM 2 v) 5 S=zF v 5 S:=jf (by decide)
theorem aax {v:Value} {S:zx}:zF (zM 3 v) 5 S=zF v 5 S:=jf (by decide)
theorem VZ {v:Value} {S:zx}:zF (zM 4 v) 5 S=zF v 5 S:=jf (by decide)
abbrev by_ (k:Nat) (l:List UInt8):Value:=vs cb 1 k l
abbrev iz (k:Nat) (l:List Int):Value:=vs ci 1 k l
end
end Go.Abs
namespace Go.Abs
open Go.RowKit
def CLe (c d:FuncId→List Value→M Value):Prop:=∀ g a S r,c g a S=some r→d g a S=some r
section
variable {P:Program} {O:Ora} {c d:FuncId→List Value→M Value}
theorem WR (h:CLe c d) {fx:Fx} {T:List Value} {o:Oper} {S:zx} {r:Value×zx} (hs:wC P fx c T o S=some r):wC P fx d T o S=some r:=by
 unfold wC at hs ⊢
 split at hs
 ·
  rename_i hok
  rw [if_pos hok]
  cases hop:o.op with
  | call q =>
   rw [hop] at hs
   dsimp only at hs ⊢
   cases hcal:q.callee with
   | value f =>
    rw [hcal] at hs
    dsimp only at hs ⊢
    split at hs
    ·
     rename_i g first captured hev
     exact h _ _ _ _ hs
    ·
     cases hs
   | builtin b=>rw [hcal] at hs;exact hs
   | invoke a b=>rw [hcal] at hs;cases hs
  | _=>rw [hop] at hs;exact hs
 ·
  cases hs
theorem aar (h:CLe c d) {fx:Fx} {ops:Array Oper}:∀ (l:List Oper) (T:List Value) (S:zx) (r:List Value×zx),jq P fx c ops l T S=some r→jq P fx d ops l T S=some r:=by
 intro l
 induction l with
 | nil=>intro T S r hs;exact hs
 | cons o l ih =>
  intro T S r hs
  simp only [jq] at hs ⊢
  split at hs
  ·
   rename_i hw
   rw [if_pos hw]
   split at hs
   ·
    rename_i v S' he
    rw [WR h he]
    exact ih _ _ _ hs
   ·
    cases hs
  ·
   rename_i hw
   rw [if_neg hw]
   exact ih _ _ _ hs
theorem Vt (h:CLe c d) {fx:Fx} {chk:List Nat} {nl:List (Nat×Nat)} {ops:Array Oper}:∀ (l:List Oper) (i:Nat) (hist:List (Value×zx)) (T:List Value) (S:zx) (r:List Value×zx),wI P fx chk nl c ops i hist l T S=some r→wI P fx chk nl d ops i hist l T S=some r:=by
 intro l
 induction l with
 | nil=>intro i hist T S r hs;exact hs
 | cons o l ih =>
  intro i hist T S r hs
  simp only [wI] at hs ⊢
  split at hs
  ·
   rename_i hw
   rw [if_pos hw]
   split at hs
   ·
    rename_i v S' he
    rw [WR h he]
    dsimp only
    split at hs
    ·
     rename_i hq
     rw [if_pos hq]
     exact ih _ _ _ _ _ hs
    ·
     cases hs
   ·
    cases hs
  ·
   rename_i hw
   rw [if_neg hw]
   exact ih _ _ _ _ _ hs
theorem WT (h:CLe c d) {hp:Bool} {n m:Nat} (hn:n≤m):∀ (q:Code) (T:List Value) (S:zx) (r),wF P hp c n q T S=some r→wF P hp d m q T S=some r:=by
 intro q
 induction q with
 | skip=>intro T S r hs;exact hs
 | exit id=>intro T S r hs;exact hs
 | ret=>intro T S r hs;exact hs
 | region i ops dr =>
  intro T S r hs
  cases dr with
  | false =>
   simp only [wF] at hs ⊢
   split at hs
   ·
    rename_i T1 S1 ho
    rw [aar h _ _ _ _ ho];exact hs
   ·
    cases hs
  | true =>
   simp only [wF] at hs ⊢
   split at hs
   ·
    rename_i hd
    rw [if_pos hd]
    split at hs
    ·
     rename_i T1 S1 ho
     rw [Vt h _ _ _ _ _ _ ho];exact hs
    ·
     cases hs
   ·
    cases hs
 | seq x y ihx ihy =>
  intro T S r hs
  simp only [wF] at hs ⊢
  split at hs
  ·
   rename_i T1 S1 hx
   rw [ihx _ _ _ hx]
   exact ihy _ _ _ hs
  ·
   rename_i hne
   rw [ihx _ _ _ hs]
   split
   ·
    rename_i T1 S1 he;exact absurd (hs.trans he) (hne T1 S1)
   ·
    rfl
 | cond x y z ihy ihz =>
  intro T S r hs
  simp only [wF] at hs ⊢
  split at hs
  ·
   rename_i hok
   rw [if_pos hok]
   split at hs
   ·
    rename_i hb;exact ihy _ _ _ hs
   ·
    rename_i hb;exact ihz _ _ _ hs
   ·
    cases hs
  ·
   cases hs
 | block id x ih =>
  intro T S r hs
  simp only [wF] at hs ⊢
  split at hs
  ·
   rename_i id' T1 S1 hx
   rw [ih _ _ _ hx];exact hs
  ·
   rename_i hne
   rw [ih _ _ _ hs]
   split
   ·
    rename_i id' T1 S1 he;exact absurd (hs.trans he) (hne id' T1 S1)
   ·
    rfl
 | loop x ih =>
  intro T S r hs
  simp only [wF] at hs ⊢
  have key:∀ (n:Nat) (T:List Value) (S:zx),∀ k,yg k (wF P hp c n x) T S=some r→(∀ T S r,wF P hp c n x T S=some r→wF P hp d m x T S=some r)→yg k (wF P hp d m x) T S=some r:=by
   intro n T S k hk hx
   induction k generalizing T S with
   | zero=>cases hk
   | succ k ihk =>
    simp only [yg] at hk ⊢
    split at hk
    ·
     rename_i T1 S1 h1
     rw [hx _ _ _ h1]
     exact ihk _ _ hk
    ·
     rename_i hne
     rw [hx _ _ _ hk]
     split
     ·
      rename_i T1 S1 he;exact absurd (hk.trans he) (hne T1 S1)
     ·
      rfl
  exact YG hn (key n T S n hs ih)
 | _=>intro T S r hs;simp only [wF] at hs;cases hs
theorem Vz {hps:FuncId→Bool} {hp:Bool} (h:CLe c d):CLe (qV hps hp c) (qV hps hp d):=by
 cases hp with
 | false=>exact h
 | true =>
  intro g a S r hs
  unfold qV at hs ⊢
  dsimp only at hs ⊢
  split at hs
  ·
   rename_i hg;rw [if_pos hg];exact h _ _ _ _ hs
  ·
   rename_i hg
   rw [if_neg hg]
   split at hs <;> first | (cases hs;done) | skip
   rename_i m S1 hf
   split at hs <;> first | (cases hs;done) | skip
   rename_i r0 hr0
   (try rw [hf])
   (try dsimp only)
   rw [h _ _ _ _ hr0]
   exact hs
theorem Qu (h:CLe c d) {hp:Bool} {n m:Nat} (hn:n≤m) {fn:Func} {q:Code} {a:List Value} {S:zx} {r:Value×zx} (hs:abV P hp c n fn q a S=some r):abV P hp d m fn q a S=some r:=by
 unfold abV at hs ⊢
 split at hs
 ·
  rename_i T1 S1 hx
  rw [WT h hn _ _ _ _ hx];exact hs
 ·
  rename_i T1 S1 hx
  rw [WT h hn _ _ _ _ hx];exact hs
 ·
  cases hs
theorem acM:∀ (n m:Nat),n≤m→CLe (qY P O n) (qY P O m):=by
 intro n
 induction n with
 | zero=>intro m _ g a S r h;cases h
 | succ n ih =>
  intro m hm g a S r h
  obtain ⟨m,rfl⟩:∃ k,m=k+1:=⟨m - 1,by omega⟩
  simp only [qY] at h ⊢
  cases ho:O.fn g with
  | some q=>rw [ho] at h;exact h
  | none =>
   rw [ho] at h
   dsimp only at h ⊢
   cases hf:P.funcs[g]? with
   | none=>rw [hf] at h;cases h
   | some fn =>
    rw [hf] at h
    dsimp only at h ⊢
    split at h
    case isFalse=>cases h
    case isTrue =>
     rename_i hn
     rw [if_pos hn]
     cases hb:fn.body with
     | none=>rw [hb] at h;cases h
     | some q =>
      rw [hb] at h
      dsimp only at h ⊢
      have hc:=Vz (hps:=O.hp) (hp:=O.hp g) (ih m (by omega))
      split at h
      ·
       rename_i hpu
       rw [if_pos hpu]
       unfold aae at h ⊢
       split at h <;> first | (cases h;done) | skip
       rename_i hca
       rw [if_pos hca]
       split at h <;> first | (cases h;done) | skip
       rename_i v1 S1 hr
       rw [Qu hc (by omega) hr]
       exact h
      ·
       rename_i hpu
       rw [if_neg hpu]
       exact Qu hc (by omega) h
theorem acV {n:Nat} {g:FuncId} {args:List Value} {S:zx} {r:Value×zx} (h:qY P O n g args S=some r):zU P O g args S=some r :=
 QV ⟨n,fun k hk=>acM n k hk _ _ _ _ h⟩
end
end Go.Abs
namespace Go.Abs
open Go.RowKit
theorem aa0 {n:Int} (h:(Lit.int .i64 n).wf=true):-9223372036854775808≤n∧n < 9223372036854775808:=by
 simp [Lit.wf,IntKind.min,IntKind.max,IntKind.signed,IntKind.bits] at h
 omega
end Go.Abs
namespace Go.Abs
open Go.RowKit
section
variable {P:Program} {μ μ1:Mu} {S S1 H H1:zx} {ω ω1:Nat→Option wH}
def VO (n:Nat) (lg:List Nat) (μ:Mu):Mu:=⟨fun q=>if q < n then μ q else none,μ.hid,lg⟩
theorem kG {n q:Nat} {lg:List Nat} {μ:Mu} {x:Nat×Bool} (h:VO n lg μ q=some x):μ q=some x∧q < n:=by
 simp only [VO] at h
 split at h
 ·
  exact ⟨h,by assumption⟩
 ·
  cases h
theorem Zg {n q:Nat} {lg:List Nat} {μ:Mu} (h:q < n):VO n lg μ q=μ q:=if_pos h
theorem xR.cut {n r:Nat} {lg:List Nat} {μ:Mu} (h:xR μ r):xR (VO n lg μ) r:=⟨fun q hq=>h.1 q (kG hq).1,h.2⟩
theorem VV.cut {n:Nat} {lg:List Nat} (hf:∀ q,n≤q→μ q=none) {ℓ:Option wH} {v a:Value} (h:VV μ1 H1 ω1 ℓ v a):∀ {H0:zx} {ω0:Nat→Option wH} {ℓ0:Option wH} {a0:Value},VV μ H0 ω0 ℓ0 v a0→VV (VO n lg μ1) H1 ω1 ℓ v a:=by
 have lt:∀ {q:Nat} {x:Nat×Bool},μ q=some x→q < n:=fun {q x} h=>Nat.lt_of_not_le fun hn=>by rw [hf q hn] at h;cases h
 induction h with
 | sg h=>intro _ _ _ _ _;exact .sg h
 | ptr h =>
  intro _ _ _ _ h0
  cases h0 with
  | sg hs=>simp [Go.Abs.sg] at hs
  | ptr k=>exact .ptr (by rw [Zg (lt k)];exact h)
 | map h =>
  intro _ _ _ _ h0
  cases h0 with
  | sg hs=>simp [Go.Abs.sg] at hs
  | map k=>exact .map (by rw [Zg (lt k)];exact h)
 | slm h =>
  intro _ _ _ _ h0
  cases h0 with
  | sg hs=>simp [Go.Abs.sg] at hs
  | slm k=>exact .slm (by rw [Zg (lt k)];exact h)
 | slE=>intro _ _ _ _ _;exact .slE
 | sl hr hp hg hl hn hc ih =>
  intro _ _ _ _ h0
  cases h0 with
  | sg hs=>simp [Go.Abs.sg] at hs
  | slE=>exact .sl hr hp.cut hg hl hn (fun i hi=>by simp at hi)
  | sl _ _ _ _ _ k=>exact .sl hr hp.cut hg hl hn (fun i hi=>ih i hi (k i hi))
 | so hω hr hp hg hl hn hc ih =>
  intro _ _ _ _ h0
  cases h0 with
  | sg hs=>simp [Go.Abs.sg] at hs
  | so _ _ _ _ _ _ k=>exact .so hω hr hp.cut hg hl hn (fun i hi=>ih i hi (k i hi))
 | ep hr hp hg hl hc ih =>
  intro _ _ _ _ h0
  cases h0 with
  | sg hs=>simp [Go.Abs.sg] at hs
  | ep _ _ _ _ k=>exact .ep hr hp.cut hg hl (fun i hi=>ih i hi (k i hi))
 | func fn hx hc h1 h2 ih1 ih2 =>
  intro _ _ _ _ h0
  cases h0 with
  | sg hs=>simp [Go.Abs.sg] at hs
  | func _ _ _ k1 k2=>exact .func fn hx hc (fun i=>ih1 i (k1 i)) (fun i=>ih2 i (k2 i))
 | agg hx hh ih =>
  intro _ _ _ _ h0
  cases h0 with
  | sg hs=>simp [Go.Abs.sg] at hs
  | agg _ k=>exact .agg hx (fun i=>ih i (k i))
 | nores=>intro _ _ _ _ _;exact .nores
 | tuple hx hh ih =>
  intro _ _ _ _ h0
  cases h0 with
  | sg hs=>simp [Go.Abs.sg] at hs
  | nores=>exact .tuple hx (fun i=>ih i (a0:=Go.undef) (show VV μ H1 ω1 none ((#[]:Array Value).getD i Go.undef) Go.undef from by simpa using VV.zh))
  | tuple _ k=>exact .tuple hx (fun i=>ih i (k i))
structure Ext (S S1:zx):Prop where
 next:S.next≤S1.next
 get:∀ k,k < S.next→S1.get k=S.get k
 log:∃ new,S1.log=new++S.log∧∀ k ∈ new,S.next≤k
theorem Ext.refl (S:zx):Ext S S:=⟨Nat.le_refl _,fun _ _=>rfl,[],rfl,fun k h=>by cases h⟩
theorem Ext.trans {S2:zx} (h:Ext S S1) (k:Ext S1 S2):Ext S S2:=⟨Nat.le_trans h.1 k.1,fun q hq=>(k.2 q (Nat.lt_of_lt_of_le hq h.1)).trans (h.2 q hq),by
 obtain ⟨n1,e1,f1⟩:=h.log
 obtain ⟨n2,e2,f2⟩:=k.log
 refine ⟨n2++n1,by rw [e2,e1,List.append_assoc],fun q hq=>?_⟩
 rcases List.mem_append.1 hq with hq | hq
 ·
  exact Nat.le_trans h.1 (f2 q hq)
 ·
  exact f1 q hq⟩
theorem Ext.push (S:zx) (o:yc):Ext S (S.push o):=⟨by simp,fun k hk=>by rw [zx.jo,if_neg (by omega)],[],rfl,fun k h=>by cases h⟩
theorem Ext.set {S S1:zx} (h:Ext S S1) {r:Nat} (hr:S.next≤r) (o:yc):Ext S (S1.set r o):=⟨by simpa using h.1,fun k hk=>by rw [zx.jF,if_neg (by omega)];exact h.2 k hk,by
 obtain ⟨n1,e1,f1⟩:=h.log
 refine ⟨r::n1,by rw [zx.Ya,e1];rfl,fun q hq=>?_⟩
 rcases List.mem_cons.1 hq with rfl | hq
 ·
  exact hr
 ·
  exact f1 q hq⟩
theorem GI.cut (hG:GI μ S H) (hG1:GI μ1 S1 H1) (hE:Ext S S1):GI (VO S.next S.log μ1) S H1:=by
 have lt:∀ {q o},S.get q=some o→o.alive=true→q < S.next:=fun {q o} h ha=>by
  obtain ⟨r,o',h1,_⟩:=hG.obj q o h ha
  exact Nat.lt_of_not_le fun hn=>by rw [hG.fresh q hn] at h1;cases h1
 refine ⟨fun q o ho ha=>?_,fun q q' r h1 h2=>hG1.inj q q' r (kG h1).1 (kG h2).1,fun q r b h=>hG1.lt q r b (kG h).1,fun q h=>if_neg (by omega),fun q r h=>hG1.vis q r (kG h).1,hG1.hlt,rfl,hG.anc⟩
 have hq:=lt ho ha
 obtain ⟨r1,o1,h1,h2,h3⟩:=hG1.obj q o (by rw [hE.2 q hq];exact ho) ha
 obtain ⟨r0,o0,k1,k2,k3⟩:=hG.obj q o ho ha
 refine ⟨r1,o1,by rw [Zg hq];exact h1,h2,?_⟩
 cases o with
 | cells cs own esz =>
  cases o1 with
  | cells cs1 own1 esz1 =>
   cases o0 with
   | cells cs0 own0 esz0 =>
    obtain ⟨e1,w1,l1⟩:=h3
    obtain ⟨e0,w0,l0⟩:=k3
    refine ⟨e1,?_,l1.1,fun i=>(l1.2 i).cut hG.fresh (l0.2 i)⟩
    cases own with
    | ro=>cases own1 with
     | ro=>exact True.intro
     | own a=>exact w1.elim
    | own a=>cases own1 with
     | ro=>exact w1.elim
     | own a1=>cases own0 with
      | ro=>exact w0.elim
      | own a0 =>
       refine JX.mono w1 fun b hb r hr=>?_
       obtain ⟨r2,h2⟩:=JX.left w0 b hb
       rw [Zg (Nat.lt_of_not_le fun hn=>by rw [hG.fresh b hn] at h2;cases h2)]
       exact hr
   | map es c=>exact k3.elim
   | dead=>exact k3.elim
  | map es c=>exact h3.elim
  | dead=>exact h3.elim
 | map es c =>
  cases o1 with
  | map es1 c1 =>
   cases o0 with
   | map es0 c0 =>
    obtain ⟨e1,w1,l1⟩:=h3
    obtain ⟨e0,w0,l0⟩:=k3
    refine ⟨e1,w1,fun i e he=>?_⟩
    obtain ⟨e',p1,p2,p3,p4⟩:=l1 i e he
    obtain ⟨e'',q1,q2,q3,q4⟩:=l0 i e he
    exact ⟨e',p1,p2,p3,p4.cut hG.fresh q4⟩
   | cells cs own e=>exact k3.elim
   | dead=>exact k3.elim
  | cells cs own e=>exact h3.elim
  | dead=>exact h3.elim
 | dead=>cases ha
inductive Lower (S:zx) (v1:Value) (S1:zx):Value→Prop
 | same (h:ground v1=true):Lower S v1 S1 v1
 | own {r n e:Nat} {cs:List Value} (hv:v1=.slice (some ⟨r,0,none⟩) n n) (hr:S.next≤r) (hg:S1.get r=some (.cells cs (.own []) e)) (hn:cs.length=n * e) (hs:cs.all sg=true):Lower S v1 S1 (SL 2 e n cs)
end
end Go.Abs
namespace Go.Abs
open Go.RowKit
section
variable {P:Program} {S:zx} {t te tx tex:TypeId} {q o n c e i r:Nat} {cs:List Value} {own:Own} {anc:List Nat} {v x:Value} {hp:Bool}
theorem Xf (h:S.get q=some (.cells cs own e)) (ha:yP P t=some false) (hv:cs[o]?=some v) (hn:∀ l,v≠.agg l):jk P false t (.pointer (some ⟨q,o,none⟩)) S=some (dem v,S):=by
 unfold jk
 simp only [Bool.false_eq_true,if_false]
 have:wK P t (.pointer (some ⟨q,o,none⟩)) S=some (v,S):=by simp only [wK,h,ha,hv]
 rw [this]
 split
 ·
  rename_i l S2 he;cases he;exact absurd rfl (hn _)
 ·
  rename_i v2 S2 _ he;cases he;rfl
 ·
  rename_i he;cases he
theorem ql {k:IntKind} {m:Int} (h:S.get q=some (.cells cs own e)) (ha:yP P t=some false) (hv:cs[o]?=some (.int k m)):jk P false t (.pointer (some ⟨q,o,none⟩)) S=some (.int k m,S) :=
 Xf h ha hv (fun l h=>by cases h)
theorem Xu (h:S.get q=some (.cells cs own e)) (ha:yP P t=some true) (hs:qP P t=some n) (hle:o+n≤cs.length):jk P false t (.pointer (some ⟨q,o,none⟩)) S=some (.agg (((cs.drop o).take n).toArray.map qg),S):=by
 unfold jk
 simp only [Bool.false_eq_true,if_false]
 have:wK P t (.pointer (some ⟨q,o,none⟩)) S=some (.agg ((cs.drop o).take n).toArray,S):=by simp only [wK,h,ha,hs,if_pos hle]
 rw [this]
theorem YW (h:S.get q=some (.cells cs (.own anc) e)) (hs:qP P t=some n) (hx:x.cells.size=n) (h1:x.cells.toList.all (·.oneCell')=true) (hle:o+n≤cs.length) :
  wX P t (.pointer (some ⟨q,o,none⟩)) x S=some (zh,(S.kills anc).set q (.cells (splice cs o x.cells.toList) (.own []) e)):=by
 simp only [wX,vC,h,hs,if_pos hx,if_pos h1,if_pos hle]
end
theorem xG {α:Type} {f:α→List Value} {e k d:Nat} {l:List α} (hk:k≤2) (h:∀ x ∈ l,(f x).all (zT d)=true):zT (d+4) (vs f e k l)=true:=by
 unfold vs sv
 split
 ·
  rfl
 ·
  show ((l.flatMap f).toArray.toList.all (zT d))=true
  rw [List.toList_toArray,List.all_flatMap,List.all_eq_true]
  exact h
theorem qM {k d:Nat} {l:List UInt8} (hk:k≤2):zT (d+5) (by_ k l)=true:=xG hk (fun _ _=>rfl)
theorem abw {l:List Value} {d:Nat} (h:l.all (zT d)=true):zT (d+1) (.agg l.toArray)=true:=by
 show l.toArray.toList.all (zT d)=true
 simpa using h
theorem yR {l:List Value} {d:Nat} (h:l.all (zT d)=true):zT (d+1) (.tuple l.toArray)=true:=by
 show l.toArray.toList.all (zT d)=true
 simpa using h
theorem all1 {p:Value→Bool} {a:Value} (h:p a=true):[a].all p=true:=by simp [h]
theorem all2 {p:Value→Bool} {a b:Value} (h:p a=true) (k:p b=true):[a,b].all p=true:=by simp [h,k]
theorem agz {p:Value→Bool} {a b c:Value} (h:p a=true) (k:p b=true) (j:p c=true):[a,b,c].all p=true:=by simp [h,k,j]
theorem acB {k e n:Nat} {cs:List Value}:(sv k e n cs).cells=#[sv k e n cs]:=by unfold sv;split <;> rfl
theorem ac3 {α:Type} {f:α→List Value} {e k:Nat} {l:List α}:(vs f e k l).cells=#[vs f e k l]:=acB
theorem aeS {k e n:Nat} {cs:List Value}:qg (sv k e n cs)=sv (if k=2 then 1 else k) e n cs:=by rw [← XH];unfold sv;split <;> rfl
theorem aek {α:Type} {f:α→List Value} {e k:Nat} {l:List α}:qg (vs f e k l)=vs f e (if k=2 then 1 else k) l:=aeS
theorem xE {k:IntKind} {n:Int}:qg (.int k n)=.int k n:=rfl
theorem Zl {x:Array Value}:(Value.agg x).cells=x:=rfl
theorem qZ {k:IntKind} {n:Int}:(Value.int k n).cells=#[.int k n]:=rfl
@[simp] theorem Qv (a:Option Addr) (n c:Nat):dem (.slice a n c)=.slice a n c:=Eq.trans rfl rfl
@[simp] theorem abp (a:Option Nat):dem (.map a)=.map a:=Eq.trans rfl rfl
theorem wrap_i64 {n:Int} (h0:-9223372036854775808≤n) (h:n < 9223372036854775808):IntKind.i64.wrap n=n:=by
 simp [IntKind.wrap,IntKind.bits,IntKind.signed]
 split <;> omega
theorem VW {l pre suf:List Int} {n:Int} (hl:l=pre++n::suf) (h:Int.toNat (pre.length:Int) < l.length):l[Int.toNat (pre.length:Int)]=n:=by
 subst hl;simp
theorem adp {α:Type} {l pre suf:List α} {n:α} (hl:l=pre++n::suf) (h:Int.toNat (pre.length:Int) < l.length):l[Int.toNat (pre.length:Int)]=n:=by
 subst hl;simp
theorem adg (k:Nat):(if (if k=2 then 1 else k)=2 then 1 else if k=2 then 1 else k)=if k=2 then 1 else k:=by split <;> simp_all
theorem YO (k:Nat):(if k=2 then 1 else k)≠2:=by split <;> omega
theorem ZM (Sa Sb:zx):jY zh Sa Sb=true:=rfl
theorem Qa (cs:List Value) (Sa Sb:zx):jY (EP cs) Sa Sb=true:=rfl
theorem vN {q o e:Nat} {cs:List Value} {own:Own} {S:zx} (h:S.get q=some (.cells cs own e)):jY (.pointer (some ⟨q,o,none⟩)) S S=true:=by
 simp only [jY,h,Nat.sub_self,List.take_zero,List.contains_nil,Bool.not_false,Bool.and_self]
theorem WS {q o e:Nat} {cs:List Value} {own:Own} {S S1:zx} (h:S.get q=some (.cells cs own e)) (hq:q < S.next) (hE:Ext S S1):jY (.pointer (some ⟨q,o,none⟩)) S S1=true:=by
 obtain ⟨new,h1,h2⟩:=hE.log
 simp only [jY,h,h1,List.length_append,Nat.add_sub_cancel,List.take_left,Bool.true_and,Bool.not_eq_true',List.contains_eq_mem,decide_eq_false_iff_not]
 intro hm
 have:=h2 q hm
 omega
end Go.Abs
namespace Go.Abs
open Go.RowKit
section
variable {P:Program} {fx:Fx} {chk:List Nat} {call:FuncId→List Value→M Value} {ops:Array Oper}
theorem sP (f:Func) (i n:Nat) {l:List Oper} {T:List Value} {T1:Value→List Value} {S:zx} {v:Value} {r:Option (List Value×zx)} (hK:jq P fx call ops ((reg f i).toList.drop (n+1)) (T1 v) S=r) (hl:l=(opAt f i n)::((reg f i).toList.drop (n+1)):=by kernel_rfl) (hg:(opAt f i n).guard=none:=by kernel_rfl) (hm:∀ v,vg (opAt f i n) ((reg f i).toList.drop (n+1)) T v=T1 v:=by exact fun _=>rfl) (hs:wC P fx call T (opAt f i n) S=some (v,S):=by kernel_rfl):jq P fx call ops l T S=r :=
 aas hl hg hm hs hK
theorem sD (f:Func) (i n:Nat) {l:List Oper} {T:List Value} {T1:Value→List Value} {S:zx} {s:Option (Value×zx)} {K:Value→zx→Option (List Value×zx)} (hK:∀ v S1,jq P fx call ops ((reg f i).toList.drop (n+1)) (T1 v) S1=K v S1) (hl:l=(opAt f i n)::((reg f i).toList.drop (n+1)):=by kernel_rfl) (hg:(opAt f i n).guard=none:=by kernel_rfl) (hm:∀ v,vg (opAt f i n) ((reg f i).toList.drop (n+1)) T v=T1 v:=by exact fun _=>rfl) (hs:wC P fx call T (opAt f i n) S=s:=by kernel_rfl):jq P fx call ops l T S=zO s K () :=
 aee hl hg hm hs hK
theorem sG (f:Func) (i n:Nat) {l:List Oper} {T:List Value} {T1:Value→List Value} {S:zx} {j:Nat} {b:Bool} {g:Value} {s:M Value} {K:Value→zx→Option (List Value×zx)} (hK:∀ v S1,jq P fx call ops ((reg f i).toList.drop (n+1)) (T1 v) S1=K v S1) (hl:l=(opAt f i n)::((reg f i).toList.drop (n+1)):=by kernel_rfl) (hg:(opAt f i n).guard=some (j,b):=by kernel_rfl) (hm:∀ v,vg (opAt f i n) ((reg f i).toList.drop (n+1)) T v=T1 v:=by exact fun _=>rfl) (hy:ynd ops T j=vb g:=by kernel_rfl) (hs:wC P fx call T (opAt f i n) S=s S:=by kernel_rfl):jq P fx call ops l T S=gdK g b s S K () :=
 aeh hl hg hm hy hs hK
theorem uD (f:Func) (i n:Nat) {l:List Oper} {T:List Value} {T1:Value→List Value} {S:zx} {k:Nat} {s:Option (Value×zx)} {K:Value→zx→Option (List Value×zx)} {x:Nat×Nat} {nl:List (Nat×Nat)} {hist:List (Value×zx)} {pe:Value} (hK:∀ v S1,wI P fx chk (x::nl) call ops (k+1) (hist++[(pe,S)]) ((reg f i).toList.drop (n+1)) (T1 v) S1=K v S1) (hc:chk.contains k=false:=by kernel_rfl) (hpe:yL T (opAt f i n)=pe:=by kernel_rfl) (hl:l=(opAt f i n)::((reg f i).toList.drop (n+1)):=by kernel_rfl) (hg:(opAt f i n).guard=none:=by kernel_rfl) (hm:∀ v,vg (opAt f i n) ((reg f i).toList.drop (n+1)) T v=T1 v:=by exact fun _=>rfl) (hs:wC P fx call T (opAt f i n) S=s:=by kernel_rfl):wI P fx chk (x::nl) call ops k hist l T S=zO s K () :=
 abZ hc hpe hl hg hm hs hK
theorem uDC (f:Func) (i n:Nat) {l:List Oper} {T:List Value} {T1:Value→List Value} {S:zx} {k:Nat} {s:Option (Value×zx)} {K:Value→zx→Option (List Value×zx)} {x:Nat×Nat} {nl:List (Nat×Nat)} {hist:List (Value×zx)} {pe:Value} (hK:∀ v S1,wI P fx chk (x::nl) call ops (k+1) (hist++[(pe,S)]) ((reg f i).toList.drop (n+1)) (T1 v) S1=K v S1) (hc:chk.contains k=true:=by kernel_rfl) (hpe:yL T (opAt f i n)=pe:=by kernel_rfl) (hl:l=(opAt f i n)::((reg f i).toList.drop (n+1)):=by kernel_rfl) (hg:(opAt f i n).guard=none:=by kernel_rfl) (hm:∀ v,vg (opAt f i n) ((reg f i).toList.drop (n+1)) T v=T1 v:=by exact fun _=>rfl) (hs:wC P fx call T (opAt f i n) S=s:=by kernel_rfl):wI P fx chk (x::nl) call ops k hist l T S=zO s (fun v S1=>okK v (K v S1) ()) () :=
 aby hc hpe hl hg hm hs hK
theorem uP (f:Func) (i n:Nat) {l:List Oper} {T:List Value} {T1:Value→List Value} {S:zx} {k:Nat} {v:Value} {r:Option (List Value×zx)} {x:Nat×Nat} {nl:List (Nat×Nat)} {hist:List (Value×zx)} {pe:Value} (hK:wI P fx chk (x::nl) call ops (k+1) (hist++[(pe,S)]) ((reg f i).toList.drop (n+1)) (T1 v) S=r) (hc:chk.contains k=false:=by kernel_rfl) (hpe:yL T (opAt f i n)=pe:=by kernel_rfl) (hl:l=(opAt f i n)::((reg f i).toList.drop (n+1)):=by kernel_rfl) (hg:(opAt f i n).guard=none:=by kernel_rfl) (hm:∀ v,vg (opAt f i n) ((reg f i).toList.drop (n+1)) T v=T1 v:=by exact fun _=>rfl) (hs:wC P fx call T (opAt f i n) S=some (v,S):=by kernel_rfl):wI P fx chk (x::nl) call ops k hist l T S=r :=
 Vl hc hpe hl hg hm hs hK
theorem uPC (f:Func) (i n:Nat) {l:List Oper} {T:List Value} {T1:Value→List Value} {S:zx} {k:Nat} {v:Value} {r:Option (List Value×zx)} {x:Nat×Nat} {nl:List (Nat×Nat)} {hist:List (Value×zx)} {pe:Value} (hK:wI P fx chk (x::nl) call ops (k+1) (hist++[(pe,S)]) ((reg f i).toList.drop (n+1)) (T1 v) S=r) (hc:chk.contains k=true:=by kernel_rfl) (hpe:yL T (opAt f i n)=pe:=by kernel_rfl) (hl:l=(opAt f i n)::((reg f i).toList.drop (n+1)):=by kernel_rfl) (hg:(opAt f i n).guard=none:=by kernel_rfl) (hm:∀ v,vg (opAt f i n) ((reg f i).toList.drop (n+1)) T v=T1 v:=by exact fun _=>rfl) (hs:wC P fx call T (opAt f i n) S=some (v,S):=by kernel_rfl):wI P fx chk (x::nl) call ops k hist l T S=okK v r () :=
 KR hc hpe hl hg hm hs hK
theorem uG (f:Func) (i n:Nat) {l:List Oper} {T:List Value} {T1:Value→List Value} {S:zx} {j k:Nat} {b:Bool} {g:Value} {s:M Value} {K:Value→zx→Option (List Value×zx)} {x:Nat×Nat} {nl:List (Nat×Nat)} {hist:List (Value×zx)} {pe:Value} (hK:∀ v S1,wI P fx chk (x::nl) call ops (k+1) (hist++[(pe,S)]) ((reg f i).toList.drop (n+1)) (T1 v) S1=K v S1) (hc:chk.contains k=false:=by kernel_rfl) (hpe:yL T (opAt f i n)=pe:=by kernel_rfl) (hl:l=(opAt f i n)::((reg f i).toList.drop (n+1)):=by kernel_rfl) (hg:(opAt f i n).guard=some (j,b):=by kernel_rfl) (hm:∀ v,vg (opAt f i n) ((reg f i).toList.drop (n+1)) T v=T1 v:=by exact fun _=>rfl) (hy:ynd ops T j=vb g:=by kernel_rfl) (hs:wC P fx call T (opAt f i n) S=s S:=by kernel_rfl):wI P fx chk (x::nl) call ops k hist l T S=gdK g b s S K () :=
 ac9 hc hpe hl hg hm hy hs hK
end
end Go.Abs
namespace Go.Proofs.Ytgggklfbhmlapaa
open Go.Abs
def O:Ora:=⟨fun _=>none,fun f=>([]:List Nat).contains f,fun f=>([11,14,15,16,17,18,19,20,21,22,23,24,27,30,34,38,39,42,45,47]:List Nat).contains f⟩
theorem afQ:aaC zi O:=acw
end Go.Proofs.Ytgggklfbhmlapaa
namespace Go.Proofs.Ytgggklfbhmlapaa
open Go.Abs
noncomputable def zu.code:Code:=(.seq (.region 0 (reg Try.f8 0) false) (.seq (.seq (.region 1 (reg Try.f8 1) false) (.cond (.tmp 15) (.seq (.region 2 (reg Try.f8 2) false) Code.ret) Code.skip)) (.seq (.region 3 (reg Try.f8 3) false) (.seq (.seq (.region 4 (reg Try.f8 4) false) (.cond (.tmp 22) (.seq (.region 5 (reg Try.f8 5) false) Code.ret) Code.skip)) (.seq (.region 6 (reg Try.f8 6) false) (.seq (.seq (.region 7 (reg Try.f8 7) false) (.cond (.tmp 41) (.seq (.region 8 (reg Try.f8 8) false) Code.ret) Code.skip)) (.seq (.seq (.region 9 (reg Try.f8 9) false) (.cond (.tmp 49) (.seq (.region 10 (reg Try.f8 10) false) (.seq (.region 11 (reg Try.f8 11) false) (.cond (.tmp 60) (.seq (.region 12 (reg Try.f8 12) false) Code.ret) Code.skip))) Code.skip)) (.seq (.region 13 (reg Try.f8 13) true) (.seq (.region 14 (reg Try.f8 14) true) Code.ret)))))))))
theorem zu.body:Try.f8.body=some zu.code:=by kernel_rfl
variable (x0 x1 x2 x3 x4 x5 x6 x7 x8 x9 b f c d g i k l m n o p q r s t u w x y z A B C D E F G H I J K L M N P Q R U V W X Y Z a0 a1 a2 a3 a4 a5 a6 a7 a8 a9 b0 b1 b2 b3 b4 b5 b6 b7 b8 b9 c0 c1 c2 c3:Value) (S:zx)
theorem zu.r0 :jq zi ⟨false,false,false⟩ (zU zi O) (reg Try.f8 0) (reg Try.f8 0).toList ([x0,x1,x2,x3,x4,x5,x6,x7,x8,x9,b,f,c,d,g,i,k,l,m,n,o,p,q,r,s,t,u,w,x,y,z,A,B,C,D,E,F,G,H,I,J,K,L,M,N,P,Q,R,U,V,W,X,Y,Z,a0,a1,a2,a3,a4,a5,a6,a7,a8,a9,b0,b1,b2,b3,b4,b5,b6,b7,b8,b9,c0,c1,c2,c3]) S =
  (zO (Qg (dem x0) S) (fun v0 S1=>some ([x0,x1,x2,v0,x4,x5,Value.bool false,x7,x8,x9,b,f,c,d,g,i,k,l,m,n,o,p,q,r,s,t,u,w,x,y,z,A,B,C,D,E,F,G,H,I,J,K,L,M,N,P,Q,R,U,V,W,X,Y,Z,a0,a1,a2,a3,a4,a5,a6,a7,a8,a9,b0,b1,b2,b3,b4,b5,b6,b7,b8,b9,c0,c1,c2,c3],S1)) ()):=by
 kernel_rfl
theorem zu.r1 :jq zi ⟨false,false,false⟩ (zU zi O) (reg Try.f8 1) (reg Try.f8 1).toList ([x0,x1,x2,x3,x4,x5,x6,x7,x8,x9,b,f,c,d,g,i,k,l,m,n,o,p,q,r,s,t,u,w,x,y,z,A,B,C,D,E,F,G,H,I,J,K,L,M,N,P,Q,R,U,V,W,X,Y,Z,a0,a1,a2,a3,a4,a5,a6,a7,a8,a9,b0,b1,b2,b3,b4,b5,b6,b7,b8,b9,c0,c1,c2,c3]) S =
  (zO ((zU zi O) 11 [] S) (fun v0 S1=>zO (aUn zi UnOp.not v0 S1) (fun v1 S2=>some ([x0,x1,x2,x3,x4,x5,x6,x7,x8,x9,b,f,c,d,v0,v1,k,l,m,n,o,p,q,r,s,t,u,w,x,y,z,A,B,C,D,E,F,G,H,I,J,K,L,M,N,P,Q,R,U,V,W,X,Y,Z,a0,a1,a2,a3,a4,a5,a6,a7,a8,a9,b0,b1,b2,b3,b4,b5,b6,b7,b8,b9,c0,c1,c2,c3],S2)) ()) ()):=by
 kernel_rfl
theorem zu.r2 :jq zi ⟨false,false,false⟩ (zU zi O) (reg Try.f8 2) (reg Try.f8 2).toList ([x0,x1,x2,x3,x4,x5,x6,x7,x8,x9,b,f,c,d,g,i,k,l,m,n,o,p,q,r,s,t,u,w,x,y,z,A,B,C,D,E,F,G,H,I,J,K,L,M,N,P,Q,R,U,V,W,X,Y,Z,a0,a1,a2,a3,a4,a5,a6,a7,a8,a9,b0,b1,b2,b3,b4,b5,b6,b7,b8,b9,c0,c1,c2,c3]) S =
  ( some ([x0,x1,x2,x3,x4,x5,Value.bool false,x7,x8,x9,b,f,c,d,g,i,k,l,m,n,o,p,q,r,s,t,u,w,x,y,z,A,B,C,D,E,F,G,H,I,J,K,L,M,N,P,Q,R,U,V,W,X,Y,Z,a0,a1,a2,a3,a4,a5,a6,a7,a8,a9,b0,b1,b2,b3,b4,b5,b6,b7,b8,b9,c0,c1,c2,c3],S)):=by
 kernel_rfl
theorem zu.r3 :jq zi ⟨false,false,false⟩ (zU zi O) (reg Try.f8 3) (reg Try.f8 3).toList ([x0,x1,x2,x3,x4,x5,x6,x7,x8,x9,b,f,c,d,g,i,k,l,m,n,o,p,q,r,s,t,u,w,x,y,z,A,B,C,D,E,F,G,H,I,J,K,L,M,N,P,Q,R,U,V,W,X,Y,Z,a0,a1,a2,a3,a4,a5,a6,a7,a8,a9,b0,b1,b2,b3,b4,b5,b6,b7,b8,b9,c0,c1,c2,c3]) S =
  (zO (jk zi false 29 x3 S) (fun v0 S1=>zO ((zU zi O) 16 [(dem v0)] S1) (fun v1 S2=>zO (zF v1 0 S2) (fun v3 S3=>zO (zF (zM 0 v1) 1 S3) (fun v4 S4=>some ([x0,x1,x2,x3,x4,x5,x6,v3,v4,x9,b,f,c,d,g,i,zM 1 (zM 0 v1),v0,dem v1,dem v3,dem v4,p,q,r,s,t,u,w,x,y,z,A,B,C,D,E,F,G,H,I,J,K,L,M,N,P,Q,R,U,V,W,X,Y,Z,a0,a1,a2,a3,a4,a5,a6,a7,a8,a9,b0,b1,b2,b3,b4,b5,b6,b7,b8,b9,c0,c1,c2,c3],S4)) ()) ()) ()) ()):=by
 kernel_rfl
theorem zu.r4 :jq zi ⟨false,false,false⟩ (zU zi O) (reg Try.f8 4) (reg Try.f8 4).toList ([x0,x1,x2,x3,x4,x5,x6,x7,x8,x9,b,f,c,d,g,i,k,l,m,n,o,p,q,r,s,t,u,w,x,y,z,A,B,C,D,E,F,G,H,I,J,K,L,M,N,P,Q,R,U,V,W,X,Y,Z,a0,a1,a2,a3,a4,a5,a6,a7,a8,a9,b0,b1,b2,b3,b4,b5,b6,b7,b8,b9,c0,c1,c2,c3]) S =
  (zO (wJ zi BinOp.neq 34 (dem x8) (.int .i64 0) S) (fun v1 S1=>some ([x0,x1,x2,x3,x4,x5,x6,x7,x8,x9,b,f,c,d,g,i,k,l,m,n,o,dem x8,v1,r,s,t,u,w,x,y,z,A,B,C,D,E,F,G,H,I,J,K,L,M,N,P,Q,R,U,V,W,X,Y,Z,a0,a1,a2,a3,a4,a5,a6,a7,a8,a9,b0,b1,b2,b3,b4,b5,b6,b7,b8,b9,c0,c1,c2,c3],S1)) ()):=by
 kernel_rfl
theorem zu.r5 :jq zi ⟨false,false,false⟩ (zU zi O) (reg Try.f8 5) (reg Try.f8 5).toList ([x0,x1,x2,x3,x4,x5,x6,x7,x8,x9,b,f,c,d,g,i,k,l,m,n,o,p,q,r,s,t,u,w,x,y,z,A,B,C,D,E,F,G,H,I,J,K,L,M,N,P,Q,R,U,V,W,X,Y,Z,a0,a1,a2,a3,a4,a5,a6,a7,a8,a9,b0,b1,b2,b3,b4,b5,b6,b7,b8,b9,c0,c1,c2,c3]) S =
  (zO (JI zi 33 (dem x7) S) (fun v1 S1=>zO (wJ zi BinOp.eql 3 v1 (.int .i64 0) S1) (fun v2 S2=>gdK (dem v2) true (jk zi false 29 x3) S2 (fun v4 S3=>gdK (dem v2) true ((zU zi O) 15 [(dem v4)]) S3 (fun v5 S4=>gdK (dem v2) true (wJ zi BinOp.eql 3 v5 (.int .i64 0)) S4 (fun v6 S5=>zO (qh (dem v2) v6 (Value.bool false) S5) (fun v7 S6=>some ([x0,x1,x2,x3,x4,x5,v7,x7,x8,x9,b,f,c,d,g,i,k,l,m,n,o,p,q,dem x7,v1,v2,dem v2,v4,v5,v6,dem v7,A,B,C,D,E,F,G,H,I,J,K,L,M,N,P,Q,R,U,V,W,X,Y,Z,a0,a1,a2,a3,a4,a5,a6,a7,a8,a9,b0,b1,b2,b3,b4,b5,b6,b7,b8,b9,c0,c1,c2,c3],S6)) ()) ()) ()) ()) ()) ()):=by
 refine sP Try.f8 5 0 (v:=x7) ?_
 refine sD Try.f8 5 1 (fun v1 S1=>?_)
 refine sD Try.f8 5 2 (fun v2 S2=>?_)
 refine sP Try.f8 5 3 (v:=v2) ?_
 refine sG Try.f8 5 4 (j:=3) (fun v4 S3=>?_)
 refine sG Try.f8 5 5 (j:=3) (fun v5 S4=>?_)
 refine sG Try.f8 5 6 (j:=3) (fun v6 S5=>?_)
 refine sD Try.f8 5 7 (fun v7 S6=>?_)
 refine sP Try.f8 5 8 (v:=v7) ?_
 kernel_rfl
theorem zu.r6 :jq zi ⟨false,false,false⟩ (zU zi O) (reg Try.f8 6) (reg Try.f8 6).toList ([x0,x1,x2,x3,x4,x5,x6,x7,x8,x9,b,f,c,d,g,i,k,l,m,n,o,p,q,r,s,t,u,w,x,y,z,A,B,C,D,E,F,G,H,I,J,K,L,M,N,P,Q,R,U,V,W,X,Y,Z,a0,a1,a2,a3,a4,a5,a6,a7,a8,a9,b0,b1,b2,b3,b4,b5,b6,b7,b8,b9,c0,c1,c2,c3]) S =
  (zO (jl zi 33 0 [] S) (fun v0 S1=>zO (jI zi 33 33 v0 (dem x7) S1) (fun v2 S2=>zO (jl zi 33 1 [(0,(Value.int IntKind.u8 1))] S2) (fun v3 S3=>zO (jI zi 33 33 v2 v3 S3) (fun v4 S4=>zO ((zU zi O) 22 [(dem v4)] S4) (fun v5 S5=>zO (zF v5 0 S5) (fun v7 S6=>zO (zF (zM 0 v5) 1 S6) (fun v8 S7=>zO (yE zi 29 S7) (fun v9 S8=>zO (wX zi 29 v9 (dem v7) S8) (fun c4 S9=>some ([x0,x1,x2,x3,x4,x5,x6,x7,x8,v9,v8,f,c,d,g,i,k,l,m,n,o,p,q,r,s,t,u,w,x,y,z,zM 1 (zM 0 v5),dem v0,dem x7,dem v2,v3,v4,dem v5,v7,dem v8,J,K,L,M,N,P,Q,R,U,V,W,X,Y,Z,a0,a1,a2,a3,a4,a5,a6,a7,a8,a9,b0,b1,b2,b3,b4,b5,b6,b7,b8,b9,c0,c1,c2,c3],S9)) ()) ()) ()) ()) ()) ()) ()) ()) ()):=by
 kernel_rfl
theorem zu.r7 :jq zi ⟨false,false,false⟩ (zU zi O) (reg Try.f8 7) (reg Try.f8 7).toList ([x0,x1,x2,x3,x4,x5,x6,x7,x8,x9,b,f,c,d,g,i,k,l,m,n,o,p,q,r,s,t,u,w,x,y,z,A,B,C,D,E,F,G,H,I,J,K,L,M,N,P,Q,R,U,V,W,X,Y,Z,a0,a1,a2,a3,a4,a5,a6,a7,a8,a9,b0,b1,b2,b3,b4,b5,b6,b7,b8,b9,c0,c1,c2,c3]) S =
  (zO (wJ zi BinOp.neq 34 (dem b) (.int .i64 71) S) (fun v1 S1=>some ([x0,x1,x2,x3,x4,x5,x6,x7,x8,x9,b,f,c,d,g,i,k,l,m,n,o,p,q,r,s,t,u,w,x,y,z,A,B,C,D,E,F,G,H,I,dem b,v1,L,M,N,P,Q,R,U,V,W,X,Y,Z,a0,a1,a2,a3,a4,a5,a6,a7,a8,a9,b0,b1,b2,b3,b4,b5,b6,b7,b8,b9,c0,c1,c2,c3],S1)) ()):=by
 kernel_rfl
theorem zu.r8 :jq zi ⟨false,false,false⟩ (zU zi O) (reg Try.f8 8) (reg Try.f8 8).toList ([x0,x1,x2,x3,x4,x5,x6,x7,x8,x9,b,f,c,d,g,i,k,l,m,n,o,p,q,r,s,t,u,w,x,y,z,A,B,C,D,E,F,G,H,I,J,K,L,M,N,P,Q,R,U,V,W,X,Y,Z,a0,a1,a2,a3,a4,a5,a6,a7,a8,a9,b0,b1,b2,b3,b4,b5,b6,b7,b8,b9,c0,c1,c2,c3]) S =
  ( some ([x0,x1,x2,x3,x4,x5,Value.bool false,x7,x8,x9,b,f,c,d,g,i,k,l,m,n,o,p,q,r,s,t,u,w,x,y,z,A,B,C,D,E,F,G,H,I,J,K,L,M,N,P,Q,R,U,V,W,X,Y,Z,a0,a1,a2,a3,a4,a5,a6,a7,a8,a9,b0,b1,b2,b3,b4,b5,b6,b7,b8,b9,c0,c1,c2,c3],S)):=by
 kernel_rfl
theorem zu.r9 :jq zi ⟨false,false,false⟩ (zU zi O) (reg Try.f8 9) (reg Try.f8 9).toList ([x0,x1,x2,x3,x4,x5,x6,x7,x8,x9,b,f,c,d,g,i,k,l,m,n,o,p,q,r,s,t,u,w,x,y,z,A,B,C,D,E,F,G,H,I,J,K,L,M,N,P,Q,R,U,V,W,X,Y,Z,a0,a1,a2,a3,a4,a5,a6,a7,a8,a9,b0,b1,b2,b3,b4,b5,b6,b7,b8,b9,c0,c1,c2,c3]) S =
  (zO (wJ zi BinOp.geq 3 (dem x1) (.int .i64 0) S) (fun v1 S1=>gdK (dem v1) true (ret x1) S1 (fun v3 S2=>gdK (dem v1) true (ret x7) S2 (fun v4 S3=>gdK (dem v1) true (JI zi 33 (dem v4)) S3 (fun v5 S4=>gdK (dem v1) true (wJ zi BinOp.lss 3 (dem v3) v5) S4 (fun v6 S5=>zO (qh (dem v1) v6 (Value.bool false) S5) (fun v7 S6=>some ([x0,x1,x2,x3,x4,x5,x6,x7,x8,x9,b,f,c,d,g,i,k,l,m,n,o,p,q,r,s,t,u,w,x,y,z,A,B,C,D,E,F,G,H,I,J,K,dem x1,v1,dem v1,dem v3,dem v4,v5,v6,v7,W,X,Y,Z,a0,a1,a2,a3,a4,a5,a6,a7,a8,a9,b0,b1,b2,b3,b4,b5,b6,b7,b8,b9,c0,c1,c2,c3],S6)) ()) ()) ()) ()) ()) ()):=by
 refine sP Try.f8 9 0 (v:=x1) ?_
 refine sD Try.f8 9 1 (fun v1 S1=>?_)
 refine sP Try.f8 9 2 (v:=v1) ?_
 refine sG Try.f8 9 3 (j:=2) (fun v3 S2=>?_)
 refine sG Try.f8 9 4 (j:=2) (fun v4 S3=>?_)
 refine sG Try.f8 9 5 (j:=2) (fun v5 S4=>?_)
 refine sG Try.f8 9 6 (j:=2) (fun v6 S5=>?_)
 refine sD Try.f8 9 7 (fun v7 S6=>?_)
 kernel_rfl
theorem zu.r10 :jq zi ⟨false,false,false⟩ (zU zi O) (reg Try.f8 10) (reg Try.f8 10).toList ([x0,x1,x2,x3,x4,x5,x6,x7,x8,x9,b,f,c,d,g,i,k,l,m,n,o,p,q,r,s,t,u,w,x,y,z,A,B,C,D,E,F,G,H,I,J,K,L,M,N,P,Q,R,U,V,W,X,Y,Z,a0,a1,a2,a3,a4,a5,a6,a7,a8,a9,b0,b1,b2,b3,b4,b5,b6,b7,b8,b9,c0,c1,c2,c3]) S =
  (zO (jl zi 33 0 [] S) (fun v0 S1=>zO (qF zi false 33 (dem x7) none (some (dem x1)) S1) (fun v3 S2=>zO (jI zi 33 33 v0 v3 S2) (fun v4 S3=>zO ((zU zi O) 22 [(dem v4)] S3) (fun v5 S4=>zO (zF v5 0 S4) (fun v7 S5=>zO (zF (zM 0 v5) 1 S5) (fun v8 S6=>zO (yE zi 29 S6) (fun v9 S7=>zO (wX zi 29 v9 (dem v7) S7) (fun c4 S8=>some ([x0,x1,x2,x3,x4,x5,x6,x7,x8,x9,b,v9,v8,d,g,i,k,l,m,n,o,p,q,r,s,t,u,w,x,y,z,A,B,C,D,E,F,G,H,I,J,K,L,M,N,P,Q,R,U,V,zM 1 (zM 0 v5),dem v0,dem x7,dem x1,v3,v4,dem v5,v7,dem v8,a5,a6,a7,a8,a9,b0,b1,b2,b3,b4,b5,b6,b7,b8,b9,c0,c1,c2,c3],S8)) ()) ()) ()) ()) ()) ()) ()) ()):=by
 kernel_rfl
theorem zu.r11 :jq zi ⟨false,false,false⟩ (zU zi O) (reg Try.f8 11) (reg Try.f8 11).toList ([x0,x1,x2,x3,x4,x5,x6,x7,x8,x9,b,f,c,d,g,i,k,l,m,n,o,p,q,r,s,t,u,w,x,y,z,A,B,C,D,E,F,G,H,I,J,K,L,M,N,P,Q,R,U,V,W,X,Y,Z,a0,a1,a2,a3,a4,a5,a6,a7,a8,a9,b0,b1,b2,b3,b4,b5,b6,b7,b8,b9,c0,c1,c2,c3]) S =
  (zO (wJ zi BinOp.neq 34 (dem c) (.int .i64 71) S) (fun v1 S1=>some ([x0,x1,x2,x3,x4,x5,x6,x7,x8,x9,b,f,c,d,g,i,k,l,m,n,o,p,q,r,s,t,u,w,x,y,z,A,B,C,D,E,F,G,H,I,J,K,L,M,N,P,Q,R,U,V,W,X,Y,Z,a0,a1,a2,a3,a4,dem c,v1,a7,a8,a9,b0,b1,b2,b3,b4,b5,b6,b7,b8,b9,c0,c1,c2,c3],S1)) ()):=by
 kernel_rfl
theorem zu.r12 :jq zi ⟨false,false,false⟩ (zU zi O) (reg Try.f8 12) (reg Try.f8 12).toList ([x0,x1,x2,x3,x4,x5,x6,x7,x8,x9,b,f,c,d,g,i,k,l,m,n,o,p,q,r,s,t,u,w,x,y,z,A,B,C,D,E,F,G,H,I,J,K,L,M,N,P,Q,R,U,V,W,X,Y,Z,a0,a1,a2,a3,a4,a5,a6,a7,a8,a9,b0,b1,b2,b3,b4,b5,b6,b7,b8,b9,c0,c1,c2,c3]) S =
  ( some ([x0,x1,x2,x3,x4,x5,Value.bool false,x7,x8,x9,b,f,c,d,g,i,k,l,m,n,o,p,q,r,s,t,u,w,x,y,z,A,B,C,D,E,F,G,H,I,J,K,L,M,N,P,Q,R,U,V,W,X,Y,Z,a0,a1,a2,a3,a4,a5,a6,a7,a8,a9,b0,b1,b2,b3,b4,b5,b6,b7,b8,b9,c0,c1,c2,c3],S)):=by
 kernel_rfl
theorem zu.d13:qQ zi (reg Try.f8 13)=true:=by kernel_rfl
theorem zu.agC:fixed zi (reg Try.f8 13)=false:=by kernel_rfl
theorem zu.k13:checked zi (reg Try.f8 13)=[0,0,1,1,2,2,3,5]:=by kernel_rfl
theorem zu.g13:again zi (reg Try.f8 13)=[(2,4),(2,6),(3,6)]:=by kernel_rfl
theorem zu.r13 :zI zi O false (.region 13 (reg Try.f8 13) true) ([x0,x1,x2,x3,x4,x5,x6,x7,x8,x9,b,f,c,d,g,i,k,l,m,n,o,p,q,r,s,t,u,w,x,y,z,A,B,C,D,E,F,G,H,I,J,K,L,M,N,P,Q,R,U,V,W,X,Y,Z,a0,a1,a2,a3,a4,a5,a6,a7,a8,a9,b0,b1,b2,b3,b4,b5,b6,b7,b8,b9,c0,c1,c2,c3]) S =
  QM (okK x2 ( zO (zS zi 29 x3 1 S) (fun v1 S1=>okK v1 ( zO (jk zi false 3 v1 S1) (fun v2 S2=>okK v2 ( zO (jk zi false 29 x3 S2) (fun v3 S3=>okK v3 ( zO ((zU zi O) 15 [(dem v3)] S3) (fun v4 S4=>zO (wQ zi 29 [(0,(dem (dem x2))),(1,(dem v2)),(3,(dem v4))] S4) (fun v5 S5=>okK v5 ( zO (yE zi 29 S5) (fun v6 S6=>zO (wX zi 29 v6 (dem v5) S6) (fun v7 S7=>ckK (jY v1 S1 S4 && (jY v1 S1 S6 && (jY x3 S2 S6 && (true)))) (some ([x0,x1,x2,x3,x4,x5,x6,x7,x8,x9,b,f,c,v6,g,i,k,l,m,n,o,p,q,r,s,t,u,w,x,y,z,A,B,C,D,E,F,G,H,I,J,K,L,M,N,P,Q,R,U,V,W,X,Y,Z,a0,a1,a2,a3,a4,a5,a6,dem x2,v1,v2,v3,v4,v5,b3,b4,b5,b6,b7,b8,b9,c0,c1,c2,c3],S7)) ()) ()) ()) ()) ()) ()) ()) ()) ()) ()) ()) ()) ()):=by
 rw [yX zu.d13 zu.agC zu.k13 zu.g13]
 refine congrArg QM ?_
 refine uPC Try.f8 13 0 (v:=x2) (pe:=zh) ?_
 refine uDC Try.f8 13 1 (pe:=zh) (fun v1 S1=>?_)
 refine uDC Try.f8 13 2 (pe:=v1) (fun v2 S2=>?_)
 refine uDC Try.f8 13 3 (pe:=x3) (fun v3 S3=>?_)
 refine uD Try.f8 13 4 (pe:=zh) (fun v4 S4=>?_)
 refine uDC Try.f8 13 5 (pe:=zh) (fun v5 S5=>?_)
 refine uD Try.f8 13 6 (pe:=zh) (fun v6 S6=>?_)
 refine uD Try.f8 13 7 (pe:=zh) (fun v7 S7=>?_)
 kernel_rfl
theorem zu.d14:qQ zi (reg Try.f8 14)=true:=by kernel_rfl
theorem zu.agB:fixed zi (reg Try.f8 14)=false:=by kernel_rfl
theorem zu.k14:checked zi (reg Try.f8 14)=[2,3,4,5]:=by kernel_rfl
theorem zu.g14:again zi (reg Try.f8 14)=[(4,1)]:=by kernel_rfl
theorem zu.r14 :zI zi O false (.region 14 (reg Try.f8 14) true) ([x0,x1,x2,x3,x4,x5,x6,x7,x8,x9,b,f,c,d,g,i,k,l,m,n,o,p,q,r,s,t,u,w,x,y,z,A,B,C,D,E,F,G,H,I,J,K,L,M,N,P,Q,R,U,V,W,X,Y,Z,a0,a1,a2,a3,a4,a5,a6,a7,a8,a9,b0,b1,b2,b3,b4,b5,b6,b7,b8,b9,c0,c1,c2,c3]) S =
  QM (zO (jk zi false 29 d S) (fun v0 S1=>zO ((zU zi O) 14 [(dem v0)] S1) (fun v1 S2=>okK x2 ( zO (zS zi 29 x3 0 S2) (fun v3 S3=>okK v3 ( zO (jk zi false 3 v3 S3) (fun v4 S4=>okK v4 ( zO (wJ zi BinOp.gtr 3 (dem x2) v4 S4) (fun v5 S5=>okK v5 ( gdK (dem v5) true (ret x2) S5 (fun v7 S6=>gdK (dem v5) true (wJ zi BinOp.leq 3 (dem v7) (.int .i64 4095)) S6 (fun v8 S7=>zO (qh (dem v5) v8 (Value.bool false) S7) (fun v9 S8=>zO (wJ zi BinOp.eql 4 v1 v9 S8) (fun c4 S9=>ckK (jY v3 S1 S3 && (true)) (some ([x0,x1,x2,x3,x4,x5,c4,x7,x8,x9,b,f,c,d,g,i,k,l,m,n,o,p,q,r,s,t,u,w,x,y,z,A,B,C,D,E,F,G,H,I,J,K,L,M,N,P,Q,R,U,V,W,X,Y,Z,a0,a1,a2,a3,a4,a5,a6,a7,a8,a9,b0,b1,b2,v0,v1,dem x2,v3,v4,v5,dem v5,dem v7,v8,v9,dem c4],S9)) ()) ()) ()) ()) ()) ()) ()) ()) ()) ()) ()) ()) ()) ()):=by
 rw [yX zu.d14 zu.agB zu.k14 zu.g14]
 refine congrArg QM ?_
 refine uD Try.f8 14 0 (pe:=d) (fun v0 S1=>?_)
 refine uD Try.f8 14 1 (pe:=zh) (fun v1 S2=>?_)
 refine uPC Try.f8 14 2 (v:=x2) (pe:=zh) ?_
 refine uDC Try.f8 14 3 (pe:=zh) (fun v3 S3=>?_)
 refine uDC Try.f8 14 4 (pe:=v3) (fun v4 S4=>?_)
 refine uDC Try.f8 14 5 (pe:=zh) (fun v5 S5=>?_)
 refine uP Try.f8 14 6 (v:=v5) (pe:=zh) ?_
 refine uG Try.f8 14 7 (j:=6) (pe:=zh) (fun v7 S6=>?_)
 refine uG Try.f8 14 8 (j:=6) (pe:=zh) (fun v8 S7=>?_)
 refine uD Try.f8 14 9 (pe:=zh) (fun v9 S8=>?_)
 refine uD Try.f8 14 10 (pe:=zh) (fun c4 S9=>?_)
 refine uP Try.f8 14 11 (v:=c4) (pe:=zh) ?_
 kernel_rfl
theorem zu.rs:type_of% (agH @zu.r0 (agH @zu.r1 (agH @zu.r2 (agH @zu.r3 (agH @zu.r4 (agH @zu.r5 (agH @zu.r6 (agH @zu.r7 (agH @zu.r8 (agH @zu.r9 (agH @zu.r10 (agH @zu.r11 (agH @zu.r12 (agH @zu.r13 (@zu.r14))))))))))))))):=agH @zu.r0 (agH @zu.r1 (agH @zu.r2 (agH @zu.r3 (agH @zu.r4 (agH @zu.r5 (agH @zu.r6 (agH @zu.r7 (agH @zu.r8 (agH @zu.r9 (agH @zu.r10 (agH @zu.r11 (agH @zu.r12 (agH @zu.r13 (@zu.r14))))))))))))))
theorem zu.runs {x0 x1 x2:Value} {S S1:zx} {e:AEx} {T:List Value} (h:zI zi O false zu.code ([x0,x1,x2,zh,zh,zh,zh,zh,zh,zh,zh,zh,zh,zh,zh,zh,zh,zh,zh,zh,zh,zh,zh,zh,zh,zh,zh,zh,zh,zh,zh,zh,zh,zh,zh,zh,zh,zh,zh,zh,zh,zh,zh,zh,zh,zh,zh,zh,zh,zh,zh,zh,zh,zh,zh,zh,zh,zh,zh,zh,zh,zh,zh,zh,zh,zh,zh,zh,zh,zh,zh,zh,zh,zh,zh,zh,zh,zh]) S=some (e,T,S1)) (he:e=.normal∨e=.ret):zU zi O 8 [x0,x1,x2] S=some (T.getD 6 zh,S1) :=
 y7 rfl rfl Try.func8 (by decide) zu.body (by exact h) he (qp (a:=T.getD 6 zh) ((show zN zi T S1 Try.f8.results.toList=zN zi T S1 [(ResultVar.tmp 6)] from by kernel_rfl).trans (by simp only [zN])) (by kernel_rfl))
end Go.Proofs.Ytgggklfbhmlapaa
namespace Go.Proofs.Ytgggklfbhmlapaa
open Go.Abs
abbrev zH.id:FuncId:=22
noncomputable def zH.code:Code:=(.seq (.region 0 (reg Try.f22 0) false) (.seq (.region 1 (reg Try.f22 1) false) (.seq (.seq (.region 2 (reg Try.f22 2) false) (.cond (.tmp 16) (.seq (.region 3 (reg Try.f22 3) false) Code.ret) Code.skip)) (.seq (.region 4 (reg Try.f22 4) false) (.seq (.region 5 (reg Try.f22 5) true) (.seq (.seq (.region 6 (reg Try.f22 6) false) (.cond (.tmp 43) (.seq (.region 7 (reg Try.f22 7) false) Code.ret) Code.skip)) (.seq (.region 8 (reg Try.f22 8) false) Code.ret)))))))
theorem zH.body:Try.f22.body=some zH.code:=by kernel_rfl
variable (U x1 X x3 a Y V W Z x9 c d f g i k l m n o p q r s t u w x y z A B C D E F G H I J K L M N P Q:Value) (S:zx)
theorem zH.r0 :jq zi ⟨false,false,false⟩ (zU zi O) (reg Try.f22 0) (reg Try.f22 0).toList ([U,x1,X,x3,a,Y,V,W,Z,x9,c,d,f,g,i,k,l,m,n,o,p,q,r,s,t,u,w,x,y,z,A,B,C,D,E,F,G,H,I,J,K,L,M,N,P,Q]) S =
  (zO (yE zi 29 S) (fun v0 R=>some ([U,x1,v0,.int .i64 0,a,Y,V,W,Z,x9,c,d,f,g,i,k,l,m,n,o,p,q,r,s,t,u,w,x,y,z,A,B,C,D,E,F,G,H,I,J,K,L,M,N,P,Q],R)) ()):=by
 kernel_rfl
theorem zH.r1 :jq zi ⟨false,false,false⟩ (zU zi O) (reg Try.f22 1) (reg Try.f22 1).toList ([U,x1,X,x3,a,Y,V,W,Z,x9,c,d,f,g,i,k,l,m,n,o,p,q,r,s,t,u,w,x,y,z,A,B,C,D,E,F,G,H,I,J,K,L,M,N,P,Q]) S =
  (zO ((zU zi O) 33 [(dem (dem U)),(.int .i64 4)] S) (fun b R=>zO (zF b 0 R) (fun v3 S2=>zO (zF (zM 0 b) 1 S2) (fun v4 S3=>zO (zF (zM 1 (zM 0 b)) 2 S3) (fun v5 S4=>some ([U,x1,X,x3,v3,v4,v5,W,Z,zM 2 (zM 1 (zM 0 b)),dem U,dem b,dem v3,dem v4,dem v5,k,l,m,n,o,p,q,r,s,t,u,w,x,y,z,A,B,C,D,E,F,G,H,I,J,K,L,M,N,P,Q],S4)) ()) ()) ()) ()):=by
 kernel_rfl
theorem zH.r2 :jq zi ⟨false,false,false⟩ (zU zi O) (reg Try.f22 2) (reg Try.f22 2).toList ([U,x1,X,x3,a,Y,V,W,Z,x9,c,d,f,g,i,k,l,m,n,o,p,q,r,s,t,u,w,x,y,z,A,B,C,D,E,F,G,H,I,J,K,L,M,N,P,Q]) S =
  (zO (wJ zi BinOp.neq 34 (dem V) (.int .i64 0) S) (fun b R=>some ([U,x1,X,x3,a,Y,V,W,Z,x9,c,d,f,g,i,dem V,b,m,n,o,p,q,r,s,t,u,w,x,y,z,A,B,C,D,E,F,G,H,I,J,K,L,M,N,P,Q],R)) ()):=by
 kernel_rfl
theorem zH.r3 :jq zi ⟨false,false,false⟩ (zU zi O) (reg Try.f22 3) (reg Try.f22 3).toList ([U,x1,X,x3,a,Y,V,W,Z,x9,c,d,f,g,i,k,l,m,n,o,p,q,r,s,t,u,w,x,y,z,A,B,C,D,E,F,G,H,I,J,K,L,M,N,P,Q]) S =
  (zO (wQ zi 29 [] S) (fun v0 R=>zO (wX zi 29 X (dem v0) R) (fun b S2=>some ([U,x1,X,.int .i64 71,a,Y,V,W,Z,x9,c,d,f,g,i,k,l,v0,n,o,p,q,r,s,t,u,w,x,y,z,A,B,C,D,E,F,G,H,I,J,K,L,M,N,P,Q],S2)) ()) ()):=by
 kernel_rfl
theorem zH.r4 :jq zi ⟨false,false,false⟩ (zU zi O) (reg Try.f22 4) (reg Try.f22 4).toList ([U,x1,X,x3,a,Y,V,W,Z,x9,c,d,f,g,i,k,l,m,n,o,p,q,r,s,t,u,w,x,y,z,A,B,C,D,E,F,G,H,I,J,K,L,M,N,P,Q]) S =
  (zO ((zU zi O) 34 [(dem (dem Y))] S) (fun b R=>zO (zF b 0 R) (fun v3 S2=>zO (zF (zM 0 b) 1 S2) (fun v4 S3=>some ([U,x1,X,x3,a,Y,v4,v3,Z,x9,c,d,f,g,i,k,l,m,zM 1 (zM 0 b),dem Y,dem b,dem v3,dem v4,s,t,u,w,x,y,z,A,B,C,D,E,F,G,H,I,J,K,L,M,N,P,Q],S3)) ()) ()) ()):=by
 kernel_rfl
theorem zH.d5:qQ zi (reg Try.f22 5)=true:=by kernel_rfl
theorem zH.ff5:fixed zi (reg Try.f22 5)=false:=by kernel_rfl
theorem zH.k5:checked zi (reg Try.f22 5)=[0,1,2,3,4,5,6,7,8,9,10,11,12,13]:=by kernel_rfl
theorem zH.g5:again zi (reg Try.f22 5)=[(2,14),(5,14),(8,14),(11,14)]:=by kernel_rfl
theorem zH.r5 :zI zi O false (.region 5 (reg Try.f22 5) true) ([U,x1,X,x3,a,Y,V,W,Z,x9,c,d,f,g,i,k,l,m,n,o,p,q,r,s,t,u,w,x,y,z,A,B,C,D,E,F,G,H,I,J,K,L,M,N,P,Q]) S =
  QM (okK a ( zO (jg zi 53 (dem a) (.int .i64 0) S) (fun b R=>okK b ( zO (jk zi false 3 b R) (fun v2 S2=>okK v2 ( okK a ( zO (jg zi 53 (dem a) (.int .i64 1) S2) (fun v4 S3=>okK v4 ( zO (jk zi false 3 v4 S3) (fun v5 S4=>okK v5 ( okK a ( zO (jg zi 53 (dem a) (.int .i64 2) S4) (fun v7 S5=>okK v7 ( zO (jk zi false 3 v7 S5) (fun v8 S6=>okK v8 ( okK a ( zO (jg zi 53 (dem a) (.int .i64 3) S6) (fun a0 S7=>okK a0 ( zO (jk zi false 3 a0 S7) (fun a2 S8=>okK a2 ( okK W ( zO (wQ zi 29 [(0,(dem v2)),(1,(dem v5)),(2,(dem v8)),(3,(dem a2)),(4,(dem (dem W)))] S8) (fun a3 S9=>okK a3 ( zO (yE zi 29 S9) (fun a4 a1=>zO (wX zi 29 a4 (dem a3) a1) (fun a6 a5=>ckK (jY b R a1 && (jY v4 S3 a1 && (jY v7 S5 a1 && (jY a0 S7 a1 && (true))))) (some ([U,x1,X,x3,a,Y,V,W,a4,x9,c,d,f,g,i,k,l,m,n,o,p,q,r,dem a,b,v2,dem a,v4,v5,dem a,v7,v8,dem a,a0,a2,dem W,a3,H,I,J,K,L,M,N,P,Q],a5)) ()) ()) ()) ()) ()) ()) ()) ()) ()) ()) ()) ()) ()) ()) ()) ()) ()) ()) ()) ()) ()) ()) ()) ()) ()) ()):=by
 rw [yX zH.d5 zH.ff5 zH.k5 zH.g5]
 refine congrArg QM ?_
 refine uPC Try.f22 5 0 (v:=a) (pe:=zh) ?_
 refine uDC Try.f22 5 1 (pe:=zh) (fun b R=>?_)
 refine uDC Try.f22 5 2 (pe:=b) (fun v2 S2=>?_)
 refine uPC Try.f22 5 3 (v:=a) (pe:=zh) ?_
 refine uDC Try.f22 5 4 (pe:=zh) (fun v4 S3=>?_)
 refine uDC Try.f22 5 5 (pe:=v4) (fun v5 S4=>?_)
 refine uPC Try.f22 5 6 (v:=a) (pe:=zh) ?_
 refine uDC Try.f22 5 7 (pe:=zh) (fun v7 S5=>?_)
 refine uDC Try.f22 5 8 (pe:=v7) (fun v8 S6=>?_)
 refine uPC Try.f22 5 9 (v:=a) (pe:=zh) ?_
 refine uDC Try.f22 5 10 (pe:=zh) (fun a0 S7=>?_)
 refine uDC Try.f22 5 11 (pe:=a0) (fun a2 S8=>?_)
 refine uPC Try.f22 5 12 (v:=W) (pe:=zh) ?_
 refine uDC Try.f22 5 13 (pe:=zh) (fun a3 S9=>?_)
 refine uD Try.f22 5 14 (pe:=zh) (fun a4 a1=>?_)
 refine uD Try.f22 5 15 (pe:=zh) (fun a6 a5=>?_)
 kernel_rfl
theorem zH.r6 :jq zi ⟨false,false,false⟩ (zU zi O) (reg Try.f22 6) (reg Try.f22 6).toList ([U,x1,X,x3,a,Y,V,W,Z,x9,c,d,f,g,i,k,l,m,n,o,p,q,r,s,t,u,w,x,y,z,A,B,C,D,E,F,G,H,I,J,K,L,M,N,P,Q]) S =
  (zO (wJ zi BinOp.neq 34 (dem V) (.int .i64 0) S) (fun b R=>gdK (dem b) false (jk zi false 29 Z) R (fun v3 S2=>gdK (dem b) false ((zU zi O) 14 [(dem v3)]) S2 (fun v4 S3=>gdK (dem b) false (aUn zi UnOp.not v4) S3 (fun v5 S4=>zO (qh (dem b) (Value.bool true) v5 S4) (fun v6 S5=>some ([U,x1,X,x3,a,Y,V,W,Z,x9,c,d,f,g,i,k,l,m,n,o,p,q,r,s,t,u,w,x,y,z,A,B,C,D,E,F,G,dem V,b,dem b,v3,v4,v5,v6,P,Q],S5)) ()) ()) ()) ()) ()):=by
 refine sP Try.f22 6 0 (v:=V) ?_
 refine sD Try.f22 6 1 (fun b R=>?_)
 refine sP Try.f22 6 2 (v:=b) ?_
 refine sG Try.f22 6 3 (j:=2) (fun v3 S2=>?_)
 refine sG Try.f22 6 4 (j:=2) (fun v4 S3=>?_)
 refine sG Try.f22 6 5 (j:=2) (fun v5 S4=>?_)
 refine sD Try.f22 6 6 (fun v6 S5=>?_)
 kernel_rfl
theorem zH.r7 :jq zi ⟨false,false,false⟩ (zU zi O) (reg Try.f22 7) (reg Try.f22 7).toList ([U,x1,X,x3,a,Y,V,W,Z,x9,c,d,f,g,i,k,l,m,n,o,p,q,r,s,t,u,w,x,y,z,A,B,C,D,E,F,G,H,I,J,K,L,M,N,P,Q]) S =
  (zO (wQ zi 29 [] S) (fun v0 R=>zO (wX zi 29 X (dem v0) R) (fun b S2=>some ([U,x1,X,.int .i64 71,a,Y,V,W,Z,x9,c,d,f,g,i,k,l,m,n,o,p,q,r,s,t,u,w,x,y,z,A,B,C,D,E,F,G,H,I,J,K,L,M,N,v0,Q],S2)) ()) ()):=by
 kernel_rfl
theorem zH.r8 :jq zi ⟨false,false,false⟩ (zU zi O) (reg Try.f22 8) (reg Try.f22 8).toList ([U,x1,X,x3,a,Y,V,W,Z,x9,c,d,f,g,i,k,l,m,n,o,p,q,r,s,t,u,w,x,y,z,A,B,C,D,E,F,G,H,I,J,K,L,M,N,P,Q]) S =
  (zO (jk zi false 29 Z S) (fun v0 R=>zO (wX zi 29 X (dem v0) R) (fun b S2=>some ([U,x1,X,.int .i64 0,a,Y,V,W,Z,x9,c,d,f,g,i,k,l,m,n,o,p,q,r,s,t,u,w,x,y,z,A,B,C,D,E,F,G,H,I,J,K,L,M,N,P,v0],S2)) ()) ()):=by
 kernel_rfl
theorem zH.rs:type_of% (agH @zH.r0 (agH @zH.r1 (agH @zH.r2 (agH @zH.r3 (agH @zH.r4 (agH @zH.r5 (agH @zH.r6 (agH @zH.r7 (@zH.r8))))))))):=agH @zH.r0 (agH @zH.r1 (agH @zH.r2 (agH @zH.r3 (agH @zH.r4 (agH @zH.r5 (agH @zH.r6 (agH @zH.r7 (@zH.r8))))))))
theorem zH.runs {U:Value} {S R:zx} {e:AEx} {T:List Value} (h:zI zi O false zH.code ([U,zh,zh,zh,zh,zh,zh,zh,zh,zh,zh,zh,zh,zh,zh,zh,zh,zh,zh,zh,zh,zh,zh,zh,zh,zh,zh,zh,zh,zh,zh,zh,zh,zh,zh,zh,zh,zh,zh,zh,zh,zh,zh,zh,zh,zh]) zx.empty=some (e,T,R)) (he:e=.normal∨e=.ret) {w0:Value} (c0:jk zi false 29 (T.getD 2 zh) R=some (w0,R)) (h0:jB (w0)=true) (h1:jB (T.getD 3 zh)=true) (hca:[U].all (zT 16)=true) (hcv:zT 16 (Value.tuple #[w0,T.getD 3 zh])=true):zU zi O 22 [U] S=some (Value.tuple #[w0,T.getD 3 zh],S) :=
 yB rfl rfl Try.func22 (by decide) zH.body (by exact h) he ((yG ((show zN zi T R Try.f22.results.toList=zN zi T R [(ResultVar.cell 2 29),(ResultVar.tmp 3)] from by kernel_rfl).trans (by simp only [zN,c0])) (by kernel_rfl) (by simp only [List.all_cons,List.all_nil,h0,h1,Bool.and_true])).trans rfl) hca hcv
end Go.Proofs.Ytgggklfbhmlapaa
namespace Go.Proofs.Ytgggklfbhmlapaa
open Go.Abs
abbrev zQ.id:FuncId:=16
noncomputable def zQ.code:Code:=(.seq (.region 0 (reg Try.f16 0) false) (.seq (.seq (.region 1 (reg Try.f16 1) false) (.cond (.tmp 10) (.seq (.region 2 (reg Try.f16 2) false) Code.ret) Code.skip)) (.seq (.region 3 (reg Try.f16 3) false) (.seq (.region 4 (reg Try.f16 4) false) (.seq (.region 5 (reg Try.f16 5) false) Code.ret)))))
theorem zQ.body:Try.f16.body=some zQ.code:=by kernel_rfl
variable (a b K L B F C G H I c d f g i j k l m n o p q r s t u v w x y z A:Value) (S:zx)
theorem zQ.r0 :jq zi ⟨false,false,false⟩ (zU zi O) (reg Try.f16 0) (reg Try.f16 0).toList ([a,b,K,L,B,F,C,G,H,I,c,d,f,g,i,j,k,l,m,n,o,p,q,r,s,t,u,v,w,x,y,z,A]) S =
  (zO (Qg (dem a) S) (fun J D=>some ([a,J,Value.slice none 0 0,.int .i64 0,B,F,C,G,H,I,c,d,f,g,i,j,k,l,m,n,o,p,q,r,s,t,u,v,w,x,y,z,A],D)) ()):=by
 kernel_rfl
theorem zQ.r1 :jq zi ⟨false,false,false⟩ (zU zi O) (reg Try.f16 1) (reg Try.f16 1).toList ([a,b,K,L,B,F,C,G,H,I,c,d,f,g,i,j,k,l,m,n,o,p,q,r,s,t,u,v,w,x,y,z,A]) S =
  (zO (jk zi false 29 b S) (fun J D=>zO ((zU zi O) 14 [(dem J)] D) (fun M N=>zO (aUn zi UnOp.not M N) (fun E P=>some ([a,b,K,L,B,F,C,G,J,M,E,d,f,g,i,j,k,l,m,n,o,p,q,r,s,t,u,v,w,x,y,z,A],P)) ()) ()) ()):=by
 kernel_rfl
theorem zQ.r2 :jq zi ⟨false,false,false⟩ (zU zi O) (reg Try.f16 2) (reg Try.f16 2).toList ([a,b,K,L,B,F,C,G,H,I,c,d,f,g,i,j,k,l,m,n,o,p,q,r,s,t,u,v,w,x,y,z,A]) S =
  ( some ([a,b,Value.slice none 0 0,.int .i64 71,B,F,C,G,H,I,c,d,f,g,i,j,k,l,m,n,o,p,q,r,s,t,u,v,w,x,y,z,A],S)):=by
 kernel_rfl
theorem zQ.r3 :jq zi ⟨false,false,false⟩ (zU zi O) (reg Try.f16 3) (reg Try.f16 3).toList ([a,b,K,L,B,F,C,G,H,I,c,d,f,g,i,j,k,l,m,n,o,p,q,r,s,t,u,v,w,x,y,z,A]) S =
  (zO (zS zi 29 b 0 S) (fun J D=>zO (jk zi false 3 J D) (fun M N=>zO (zS zi 29 b 1 N) (fun E P=>zO (jk zi false 3 E P) (fun Z X=>zO (zS zi 29 b 2 X) (fun Q Y=>zO (jk zi false 3 Q Y) (fun R S6=>zO (zS zi 29 b 3 S6) (fun v6 S7=>zO (jk zi false 3 v6 S7) (fun v7 S8=>zO (jl zi 53 4 [(0,M),(1,Z),(2,R),(3,v7)] S8) (fun v8 S9=>zO ((zU zi O) 28 [(dem v8)] S9) (fun U a0=>zO (zF U 0 a0) (fun V a1=>zO (zF (zM 0 U) 1 a1) (fun W a2=>some ([a,b,K,L,V,W,C,G,H,I,c,zM 1 (zM 0 U),J,M,E,Z,Q,R,v6,v7,v8,dem U,dem V,dem W,s,t,u,v,w,x,y,z,A],a2)) ()) ()) ()) ()) ()) ()) ()) ()) ()) ()) ()) ()):=by
 kernel_rfl
theorem zQ.r4 :jq zi ⟨false,false,false⟩ (zU zi O) (reg Try.f16 4) (reg Try.f16 4).toList ([a,b,K,L,B,F,C,G,H,I,c,d,f,g,i,j,k,l,m,n,o,p,q,r,s,t,u,v,w,x,y,z,A]) S =
  (zO (zS zi 29 b 4 S) (fun J D=>zO (jk zi false 27 J D) (fun M N=>zO ((zU zi O) 27 [(dem M)] N) (fun E P=>zO (zF E 0 P) (fun Q X=>zO (zF (zM 0 E) 1 X) (fun R Y=>some ([a,b,K,L,B,F,Q,R,H,I,c,d,f,g,i,j,k,l,m,n,o,p,q,r,zM 1 (zM 0 E),J,M,dem E,dem Q,dem R,y,z,A],Y)) ()) ()) ()) ()) ()):=by
 kernel_rfl
theorem zQ.r5 :jq zi ⟨false,false,false⟩ (zU zi O) (reg Try.f16 5) (reg Try.f16 5).toList ([a,b,K,L,B,F,C,G,H,I,c,d,f,g,i,j,k,l,m,n,o,p,q,r,s,t,u,v,w,x,y,z,A]) S =
  (zO (jI zi 33 33 B (dem C) S) (fun E D=>some ([a,b,E,.int .i64 0,dem B,F,C,G,H,I,c,d,f,g,i,j,k,l,m,n,o,p,q,r,s,t,u,v,w,x,dem B,dem C,dem E],D)) ()):=by
 kernel_rfl
theorem zQ.rs:type_of% (agH @zQ.r0 (agH @zQ.r1 (agH @zQ.r2 (agH @zQ.r3 (agH @zQ.r4 (@zQ.r5)))))):=agH @zQ.r0 (agH @zQ.r1 (agH @zQ.r2 (agH @zQ.r3 (agH @zQ.r4 (@zQ.r5)))))
theorem zQ.runs {a:Value} {S D:zx} {e:AEx} {T:List Value} (h:zI zi O false zQ.code ([a,zh,zh,zh,zh,zh,zh,zh,zh,zh,zh,zh,zh,zh,zh,zh,zh,zh,zh,zh,zh,zh,zh,zh,zh,zh,zh,zh,zh,zh,zh,zh,zh]) zx.empty=some (e,T,D)) (he:e=.normal∨e=.ret)  (h0:jB (T.getD 2 zh)=true) (h1:jB (T.getD 3 zh)=true) (hca:[a].all (zT 16)=true) (hcv:zT 16 (Value.tuple #[T.getD 2 zh,T.getD 3 zh])=true):zU zi O 16 [a] S=some (Value.tuple #[T.getD 2 zh,T.getD 3 zh],S) :=
 yB rfl rfl Try.func16 (by decide) zQ.body (by exact h) he ((yG ((show zN zi T D Try.f16.results.toList=zN zi T D [(ResultVar.tmp 2),(ResultVar.tmp 3)] from by kernel_rfl).trans (by simp only [zN])) (by kernel_rfl) (by simp only [List.all_cons,List.all_nil,h0,h1,Bool.and_true])).trans rfl) hca hcv
end Go.Proofs.Ytgggklfbhmlapaa
namespace Go.Proofs.Ytgggklfbhmlapaa
open Go.Abs
abbrev zC.id:FuncId:=14
noncomputable def zC.code:Code:=(.seq (.region 0 (reg Try.f14 0) false) (.seq (.seq (.region 1 (reg Try.f14 1) false) (.cond (.tmp 20) (.seq (.region 2 (reg Try.f14 2) false) Code.ret) Code.skip)) (.seq (.seq (.region 3 (reg Try.f14 3) false) (.cond (.tmp 37) (.seq (.region 4 (reg Try.f14 4) false) Code.ret) Code.skip)) (.seq (.region 5 (reg Try.f14 5) false) (.seq (.region 6 (reg Try.f14 6) false) Code.ret)))))
theorem zC.body:Try.f14.body=some zC.code:=by kernel_rfl
variable (U b x2 X V Y Z x7 x8 x9 c d f g i k l m n o p q r s t u w x y z A B C D E F G H I J K L M N P Q:Value) (S:zx)
theorem zC.r0 :jq zi ⟨false,false,false⟩ (zU zi O) (reg Try.f14 0) (reg Try.f14 0).toList ([U,b,x2,X,V,Y,Z,x7,x8,x9,c,d,f,g,i,k,l,m,n,o,p,q,r,s,t,u,w,x,y,z,A,B,C,D,E,F,G,H,I,J,K,L,M,N,P,Q]) S =
  (zO (Qg (dem U) S) (fun v0 W=>some ([U,v0,Value.bool false,X,V,Y,Z,x7,x8,x9,c,d,f,g,i,k,l,m,n,o,p,q,r,s,t,u,w,x,y,z,A,B,C,D,E,F,G,H,I,J,K,L,M,N,P,Q],W)) ()):=by
 kernel_rfl
theorem zC.r1 :jq zi ⟨false,false,false⟩ (zU zi O) (reg Try.f14 1) (reg Try.f14 1).toList ([U,b,x2,X,V,Y,Z,x7,x8,x9,c,d,f,g,i,k,l,m,n,o,p,q,r,s,t,u,w,x,y,z,A,B,C,D,E,F,G,H,I,J,K,L,M,N,P,Q]) S =
  (zO (zS zi 29 b 0 S) (fun v0 W=>zO (jk zi false 3 v0 W) (fun v1 S2=>zO ((zU zi O) 26 [(dem v1),(.int .i64 1),(.int .i64 4095)] S2) (fun R S3=>zO (aUn zi UnOp.not R S3) (fun v3 S4=>gdK (dem v3) false (zS zi 29 b 1) S4 (fun v5 S5=>gdK (dem v3) false (jk zi false 3 v5) S5 (fun v6 S6=>gdK (dem v3) false ((zU zi O) 26 [(dem v6),(.int .i64 0),(.int .i64 6)]) S6 (fun v7 S7=>gdK (dem v3) false (aUn zi UnOp.not v7) S7 (fun v8 S8=>zO (qh (dem v3) (Value.bool true) v8 S8) (fun v9 S9=>gdK (dem v9) false (zS zi 29 b 2) S9 (fun a0 a5=>gdK (dem v9) false (jk zi false 3 a0) a5 (fun a1 a6=>gdK (dem v9) false ((zU zi O) 26 [(dem a1),(.int .i64 0),(.int .i64 255)]) a6 (fun a2 a7=>gdK (dem v9) false (aUn zi UnOp.not a2) a7 (fun a3 a8=>zO (qh (dem v9) (Value.bool true) a3 a8) (fun a4 a9=>some ([U,b,x2,X,V,v0,v1,R,v3,dem v3,v5,v6,v7,v8,v9,dem v9,a0,a1,a2,a3,a4,q,r,s,t,u,w,x,y,z,A,B,C,D,E,F,G,H,I,J,K,L,M,N,P,Q],a9)) ()) ()) ()) ()) ()) ()) ()) ()) ()) ()) ()) ()) ()) ()):=by
 refine sD Try.f14 1 0 (fun v0 W=>?_)
 refine sD Try.f14 1 1 (fun v1 S2=>?_)
 refine sD Try.f14 1 2 (fun R S3=>?_)
 refine sD Try.f14 1 3 (fun v3 S4=>?_)
 refine sP Try.f14 1 4 (v:=v3) ?_
 refine sG Try.f14 1 5 (j:=4) (fun v5 S5=>?_)
 refine sG Try.f14 1 6 (j:=4) (fun v6 S6=>?_)
 refine sG Try.f14 1 7 (j:=4) (fun v7 S7=>?_)
 refine sG Try.f14 1 8 (j:=4) (fun v8 S8=>?_)
 refine sD Try.f14 1 9 (fun v9 S9=>?_)
 refine sP Try.f14 1 10 (v:=v9) ?_
 refine sG Try.f14 1 11 (j:=10) (fun a0 a5=>?_)
 refine sG Try.f14 1 12 (j:=10) (fun a1 a6=>?_)
 refine sG Try.f14 1 13 (j:=10) (fun a2 a7=>?_)
 refine sG Try.f14 1 14 (j:=10) (fun a3 a8=>?_)
 refine sD Try.f14 1 15 (fun a4 a9=>?_)
 kernel_rfl
theorem zC.r2 :jq zi ⟨false,false,false⟩ (zU zi O) (reg Try.f14 2) (reg Try.f14 2).toList ([U,b,x2,X,V,Y,Z,x7,x8,x9,c,d,f,g,i,k,l,m,n,o,p,q,r,s,t,u,w,x,y,z,A,B,C,D,E,F,G,H,I,J,K,L,M,N,P,Q]) S =
  ( some ([U,b,Value.bool false,X,V,Y,Z,x7,x8,x9,c,d,f,g,i,k,l,m,n,o,p,q,r,s,t,u,w,x,y,z,A,B,C,D,E,F,G,H,I,J,K,L,M,N,P,Q],S)):=by
 kernel_rfl
theorem zC.r3 :jq zi ⟨false,false,false⟩ (zU zi O) (reg Try.f14 3) (reg Try.f14 3).toList ([U,b,x2,X,V,Y,Z,x7,x8,x9,c,d,f,g,i,k,l,m,n,o,p,q,r,s,t,u,w,x,y,z,A,B,C,D,E,F,G,H,I,J,K,L,M,N,P,Q]) S =
  (zO (zS zi 29 b 3 S) (fun v0 W=>zO (jk zi false 3 v0 W) (fun v1 S2=>zO (wJ zi BinOp.neq 3 v1 (.int .i64 0) S2) (fun R S3=>gdK (dem R) true (zS zi 29 b 3) S3 (fun v4 S4=>gdK (dem R) true (jk zi false 3 v4) S4 (fun v5 S5=>gdK (dem R) true ((zU zi O) 25 [(dem v5)]) S5 (fun v6 S6=>gdK (dem R) true (aUn zi UnOp.not v6) S6 (fun v7 S7=>gdK (dem R) true (ret v7) S7 (fun v8 S8=>gdK (dem v8) false (zS zi 29 b 3) S8 (fun v9 S9=>gdK (dem v8) false (jk zi false 3 v9) S9 (fun b0 a5=>gdK (dem v8) false (wJ zi BinOp.quo 3 b0 (.int .i64 65536)) a5 (fun a0 a6=>gdK (dem v8) false (zS zi 29 b 0) a6 (fun a1 a7=>gdK (dem v8) false (jk zi false 3 a1) a7 (fun a2 a8=>gdK (dem v8) false (wJ zi BinOp.geq 3 a0 a2) a8 (fun a3 a9=>gdK (dem R) true (qh (dem v8) (Value.bool true) a3) a9 (fun a4 b1=>zO (qh (dem R) a4 (Value.bool false) b1) (fun b2 b3=>some ([U,b,x2,X,V,Y,Z,x7,x8,x9,c,d,f,g,i,k,l,m,n,o,p,v0,v1,R,dem R,v4,v5,v6,v7,dem v8,v9,b0,a0,a1,a2,a3,a4,b2,I,J,K,L,M,N,P,Q],b3)) ()) ()) ()) ()) ()) ()) ()) ()) ()) ()) ()) ()) ()) ()) ()) ()):=by
 refine sD Try.f14 3 0 (fun v0 W=>?_)
 refine sD Try.f14 3 1 (fun v1 S2=>?_)
 refine sD Try.f14 3 2 (fun R S3=>?_)
 refine sP Try.f14 3 3 (v:=R) ?_
 refine sG Try.f14 3 4 (j:=3) (fun v4 S4=>?_)
 refine sG Try.f14 3 5 (j:=3) (fun v5 S5=>?_)
 refine sG Try.f14 3 6 (j:=3) (fun v6 S6=>?_)
 refine sG Try.f14 3 7 (j:=3) (fun v7 S7=>?_)
 refine sG Try.f14 3 8 (j:=3) (fun v8 S8=>?_)
 refine sG Try.f14 3 9 (j:=8) (fun v9 S9=>?_)
 refine sG Try.f14 3 10 (j:=8) (fun b0 a5=>?_)
 refine sG Try.f14 3 11 (j:=8) (fun a0 a6=>?_)
 refine sG Try.f14 3 12 (j:=8) (fun a1 a7=>?_)
 refine sG Try.f14 3 13 (j:=8) (fun a2 a8=>?_)
 refine sG Try.f14 3 14 (j:=8) (fun a3 a9=>?_)
 refine sG Try.f14 3 15 (j:=3) (fun a4 b1=>?_)
 refine sD Try.f14 3 16 (fun b2 b3=>?_)
 kernel_rfl
theorem zC.r4 :jq zi ⟨false,false,false⟩ (zU zi O) (reg Try.f14 4) (reg Try.f14 4).toList ([U,b,x2,X,V,Y,Z,x7,x8,x9,c,d,f,g,i,k,l,m,n,o,p,q,r,s,t,u,w,x,y,z,A,B,C,D,E,F,G,H,I,J,K,L,M,N,P,Q]) S =
  ( some ([U,b,Value.bool false,X,V,Y,Z,x7,x8,x9,c,d,f,g,i,k,l,m,n,o,p,q,r,s,t,u,w,x,y,z,A,B,C,D,E,F,G,H,I,J,K,L,M,N,P,Q],S)):=by
 kernel_rfl
theorem zC.r5 :jq zi ⟨false,false,false⟩ (zU zi O) (reg Try.f14 5) (reg Try.f14 5).toList ([U,b,x2,X,V,Y,Z,x7,x8,x9,c,d,f,g,i,k,l,m,n,o,p,q,r,s,t,u,w,x,y,z,A,B,C,D,E,F,G,H,I,J,K,L,M,N,P,Q]) S =
  (zO (zS zi 29 b 4 S) (fun v0 W=>zO (jk zi false 27 v0 W) (fun v1 S2=>zO ((zU zi O) 27 [(dem v1)] S2) (fun R S3=>zO (zF R 0 S3) (fun v4 S4=>zO (zF (zM 0 R) 1 S4) (fun v5 S5=>some ([U,b,x2,v4,v5,Y,Z,x7,x8,x9,c,d,f,g,i,k,l,m,n,o,p,q,r,s,t,u,w,x,y,z,A,B,C,D,E,F,G,H,zM 1 (zM 0 R),v0,v1,dem R,dem v4,dem v5,P,Q],S5)) ()) ()) ()) ()) ()):=by
 kernel_rfl
theorem zC.r6 :jq zi ⟨false,false,false⟩ (zU zi O) (reg Try.f14 6) (reg Try.f14 6).toList ([U,b,x2,X,V,Y,Z,x7,x8,x9,c,d,f,g,i,k,l,m,n,o,p,q,r,s,t,u,w,x,y,z,A,B,C,D,E,F,G,H,I,J,K,L,M,N,P,Q]) S =
  (zO (wJ zi BinOp.eql 34 (dem V) (.int .i64 0) S) (fun v1 W=>some ([U,b,v1,X,V,Y,Z,x7,x8,x9,c,d,f,g,i,k,l,m,n,o,p,q,r,s,t,u,w,x,y,z,A,B,C,D,E,F,G,H,I,J,K,L,M,N,dem V,dem v1],W)) ()):=by
 kernel_rfl
theorem zC.rs:type_of% (agH @zC.r0 (agH @zC.r1 (agH @zC.r2 (agH @zC.r3 (agH @zC.r4 (agH @zC.r5 (@zC.r6))))))):=agH @zC.r0 (agH @zC.r1 (agH @zC.r2 (agH @zC.r3 (agH @zC.r4 (agH @zC.r5 (@zC.r6))))))
theorem zC.runs {U:Value} {S W:zx} {e:AEx} {T:List Value} (h:zI zi O false zC.code ([U,zh,zh,zh,zh,zh,zh,zh,zh,zh,zh,zh,zh,zh,zh,zh,zh,zh,zh,zh,zh,zh,zh,zh,zh,zh,zh,zh,zh,zh,zh,zh,zh,zh,zh,zh,zh,zh,zh,zh,zh,zh,zh,zh,zh,zh]) zx.empty=some (e,T,W)) (he:e=.normal∨e=.ret) (hca:[U].all (zT 16)=true) (hcv:zT 16 (T.getD 2 zh)=true):zU zi O 14 [U] S=some (T.getD 2 zh,S) :=
 yB rfl rfl Try.func14 (by decide) zC.body (by exact h) he (qp (a:=T.getD 2 zh) ((show zN zi T W Try.f14.results.toList=zN zi T W [(ResultVar.tmp 2)] from by kernel_rfl).trans (by simp only [zN])) (by kernel_rfl)) hca hcv
end Go.Proofs.Ytgggklfbhmlapaa
namespace Go.Proofs.Ytgggklfbhmlapaa
open Go.Abs
abbrev zY.id:FuncId:=15
noncomputable def zY.code:Code:=(.seq (.region 0 (reg Try.f15 0) false) (.seq (.seq (.region 1 (reg Try.f15 1) false) (.cond (.tmp 5) (.seq (.region 2 (reg Try.f15 2) false) Code.ret) Code.skip)) (.seq (.region 3 (reg Try.f15 3) false) Code.ret)))
theorem zY.body:Try.f15.body=some zY.code:=by kernel_rfl
variable (b c u m n o p q r s d f g i j k:Value) (S:zx)
theorem zY.r0 :jq zi ⟨false,false,false⟩ (zU zi O) (reg Try.f15 0) (reg Try.f15 0).toList ([b,c,u,m,n,o,p,q,r,s,d,f,g,i,j,k]) S =
  (zO (Qg (dem b) S) (fun t l=>some ([b,t,.int .i64 0,m,n,o,p,q,r,s,d,f,g,i,j,k],l)) ()):=by
 kernel_rfl
theorem zY.r1 :jq zi ⟨false,false,false⟩ (zU zi O) (reg Try.f15 1) (reg Try.f15 1).toList ([b,c,u,m,n,o,p,q,r,s,d,f,g,i,j,k]) S =
  (zO (jk zi false 29 c S) (fun t l=>zO ((zU zi O) 14 [(dem t)] l) (fun v x=>zO (aUn zi UnOp.not v x) (fun w y=>some ([b,c,u,t,v,w,p,q,r,s,d,f,g,i,j,k],y)) ()) ()) ()):=by
 kernel_rfl
theorem zY.r2 :jq zi ⟨false,false,false⟩ (zU zi O) (reg Try.f15 2) (reg Try.f15 2).toList ([b,c,u,m,n,o,p,q,r,s,d,f,g,i,j,k]) S =
  ( some ([b,c,.int .i64 0,m,n,o,p,q,r,s,d,f,g,i,j,k],S)):=by
 kernel_rfl
theorem zY.r3 :jq zi ⟨false,false,false⟩ (zU zi O) (reg Try.f15 3) (reg Try.f15 3).toList ([b,c,u,m,n,o,p,q,r,s,d,f,g,i,j,k]) S =
  (zO (zS zi 29 c 0 S) (fun t l=>zO (jk zi false 3 t l) (fun v x=>zO (wJ zi BinOp.mul 3 v (.int .i64 65536) x) (fun w y=>zO (zS zi 29 c 1 y) (fun z H=>zO (jk zi false 3 z H) (fun A I=>zO (wJ zi BinOp.mul 3 A (.int .i64 256) I) (fun B J=>zO (wJ zi BinOp.add 3 w B J) (fun C K=>zO (zS zi 29 c 2 K) (fun D L=>zO (jk zi false 3 D L) (fun E M=>zO (wJ zi BinOp.add 3 C E M) (fun F G=>some ([b,c,F,m,n,o,t,v,w,z,A,B,C,D,E,dem F],G)) ()) ()) ()) ()) ()) ()) ()) ()) ()) ()):=by
 kernel_rfl
theorem zY.rs:type_of% (agH @zY.r0 (agH @zY.r1 (agH @zY.r2 (@zY.r3)))):=agH @zY.r0 (agH @zY.r1 (agH @zY.r2 (@zY.r3)))
theorem zY.runs {b:Value} {S l:zx} {e:AEx} {T:List Value} (h:zI zi O false zY.code ([b,zh,zh,zh,zh,zh,zh,zh,zh,zh,zh,zh,zh,zh,zh,zh]) zx.empty=some (e,T,l)) (he:e=.normal∨e=.ret) (hca:[b].all (zT 16)=true) (hcv:zT 16 (T.getD 2 zh)=true):zU zi O 15 [b] S=some (T.getD 2 zh,S) :=
 yB rfl rfl Try.func15 (by decide) zY.body (by exact h) he (qp (a:=T.getD 2 zh) ((show zN zi T l Try.f15.results.toList=zN zi T l [(ResultVar.tmp 2)] from by kernel_rfl).trans (by simp only [zN])) (by kernel_rfl)) hca hcv
end Go.Proofs.Ytgggklfbhmlapaa
namespace Go.Proofs.Ytgggklfbhmlapaa
open Go.Abs
abbrev zJ.id:FuncId:=26
noncomputable def zJ.code:Code:=(.seq (.region 0 (reg Try.f26 0) false) (.seq (.region 1 (reg Try.f26 1) false) Code.ret))
theorem zJ.body:Try.f26.body=some zJ.code:=by kernel_rfl
variable (b c d o p q z s t u i k l m n:Value) (S:zx)
theorem zJ.r0 :jq zi ⟨false,false,false⟩ (zU zi O) (reg Try.f26 0) (reg Try.f26 0).toList ([b,c,d,o,p,q,z,s,t,u,i,k,l,m,n]) S =
  ( some ([b,c,d,o,p,q,Value.bool false,s,t,u,i,k,l,m,n],S)):=by
 kernel_rfl
theorem zJ.r1 :jq zi ⟨false,false,false⟩ (zU zi O) (reg Try.f26 1) (reg Try.f26 1).toList ([b,c,d,o,p,q,z,s,t,u,i,k,l,m,n]) S =
  (zO (wJ zi BinOp.geq 3 (dem b) (dem c) S) (fun f g=>gdK (dem f) true (ret b) g (fun w A=>gdK (dem f) true (ret d) A (fun x B=>gdK (dem f) true (wJ zi BinOp.leq 3 (dem w) (dem x)) B (fun y C=>zO (qh (dem f) y (Value.bool false) C) (fun r D=>some ([b,c,d,o,p,q,r,dem b,dem c,f,dem f,dem w,dem x,y,dem r],D)) ()) ()) ()) ()) ()):=by
 refine sP Try.f26 1 0 (v:=b) ?_
 refine sP Try.f26 1 1 (v:=c) ?_
 refine sD Try.f26 1 2 (fun f g=>?_)
 refine sP Try.f26 1 3 (v:=f) ?_
 refine sG Try.f26 1 4 (j:=3) (fun w A=>?_)
 refine sG Try.f26 1 5 (j:=3) (fun x B=>?_)
 refine sG Try.f26 1 6 (j:=3) (fun y C=>?_)
 refine sD Try.f26 1 7 (fun r D=>?_)
 refine sP Try.f26 1 8 (v:=r) ?_
 kernel_rfl
theorem zJ.rs:type_of% (agH @zJ.r0 (@zJ.r1)):=agH @zJ.r0 (@zJ.r1)
theorem zJ.runs {b c d:Value} {S g:zx} {e:AEx} {T:List Value} (h:zI zi O false zJ.code ([b,c,d,zh,zh,zh,zh,zh,zh,zh,zh,zh,zh,zh,zh]) S=some (e,T,g)) (he:e=.normal∨e=.ret):zU zi O 26 [b,c,d] S=some (T.getD 6 zh,g) :=
 y7 rfl rfl Try.func26 (by decide) zJ.body (by exact h) he (qp (a:=T.getD 6 zh) ((show zN zi T g Try.f26.results.toList=zN zi T g [(ResultVar.tmp 6)] from by kernel_rfl).trans (by simp only [zN])) (by kernel_rfl))
end Go.Proofs.Ytgggklfbhmlapaa
namespace Go.Proofs.Ytgggklfbhmlapaa
open Go.Abs
abbrev zV.id:FuncId:=25
noncomputable def zV.code:Code:=(.seq (.region 0 (reg Try.f25 0) false) (.seq (.region 1 (reg Try.f25 1) false) Code.ret))
theorem zV.body:Try.f25.body=some zV.code:=by kernel_rfl
variable (b g w k l m n o p q f:Value) (S:zx)
theorem zV.r0 :jq zi ⟨false,false,false⟩ (zU zi O) (reg Try.f25 0) (reg Try.f25 0).toList ([b,g,w,k,l,m,n,o,p,q,f]) S =
  ( some ([b,g,Value.bool false,k,l,m,n,o,p,q,f],S)):=by
 kernel_rfl
theorem zV.r1 :jq zi ⟨false,false,false⟩ (zU zi O) (reg Try.f25 1) (reg Try.f25 1).toList ([b,g,w,k,l,m,n,o,p,q,f]) S =
  (zO ((zU zi O) 26 [(dem (dem b)),(.int .i64 65536),(.int .i64 268435455)] S) (fun c d=>gdK (dem c) true (ret b) d (fun r x=>gdK (dem c) true (wJ zi BinOp.rem 3 (dem r) (.int .i64 65536)) x (fun s y=>gdK (dem c) true (wJ zi BinOp.quo 3 s (.int .i64 256)) y (fun t z=>gdK (dem c) true (wJ zi BinOp.lss 3 t (.int .i64 7)) z (fun u A=>zO (qh (dem c) u (Value.bool false) A) (fun i B=>some ([b,g,i,dem b,c,dem c,dem r,s,t,u,dem i],B)) ()) ()) ()) ()) ()) ()):=by
 refine sP Try.f25 1 0 (v:=b) ?_
 refine sD Try.f25 1 1 (fun c d=>?_)
 refine sP Try.f25 1 2 (v:=c) ?_
 refine sG Try.f25 1 3 (j:=2) (fun r x=>?_)
 refine sG Try.f25 1 4 (j:=2) (fun s y=>?_)
 refine sG Try.f25 1 5 (j:=2) (fun t z=>?_)
 refine sG Try.f25 1 6 (j:=2) (fun u A=>?_)
 refine sD Try.f25 1 7 (fun i B=>?_)
 refine sP Try.f25 1 8 (v:=i) ?_
 kernel_rfl
theorem zV.rs:type_of% (agH @zV.r0 (@zV.r1)):=agH @zV.r0 (@zV.r1)
theorem zV.runs {b:Value} {S d:zx} {e:AEx} {T:List Value} (h:zI zi O false zV.code ([b,zh,zh,zh,zh,zh,zh,zh,zh,zh,zh]) S=some (e,T,d)) (he:e=.normal∨e=.ret):zU zi O 25 [b] S=some (T.getD 2 zh,d) :=
 y7 rfl rfl Try.func25 (by decide) zV.body (by exact h) he (qp (a:=T.getD 2 zh) ((show zN zi T d Try.f25.results.toList=zN zi T d [(ResultVar.tmp 2)] from by kernel_rfl).trans (by simp only [zN])) (by kernel_rfl))
end Go.Proofs.Ytgggklfbhmlapaa
namespace Go.Proofs.Ytgggklfbhmlapaa
open Go.Abs
theorem ac0:zi.underlying 3=some (TypeDesc.int IntKind.i64):=by kernel_rfl
theorem afh:qP zi 3=some 1:=by kernel_rfl
theorem agi:bytesOf zi 3=some 8:=by kernel_rfl
theorem agf:zeroOf zi 3=(some (Value.int IntKind.i64 0)):=by kernel_rfl
theorem J3:yP zi 3=some false:=by kernel_rfl
theorem afi:zeroOf zi 4=(some (Value.bool false)):=by kernel_rfl
theorem abd:zi.underlying 5=some (TypeDesc.int IntKind.u8):=by kernel_rfl
theorem KT:qP zi 5=some 1:=by kernel_rfl
theorem aeI:bytesOf zi 5=some 1:=by kernel_rfl
theorem aen:zeroOf zi 5=(some (Value.int IntKind.u8 0)):=by kernel_rfl
theorem aev:yP zi 5=some false:=by kernel_rfl
theorem xP:zi.underlying 27=some (TypeDesc.slice 47):=by kernel_rfl
theorem Vk:yP zi 27=some false:=by kernel_rfl
theorem vH:qP zi 29=some 5:=by kernel_rfl
theorem KO:yP zi 29=some true:=by kernel_rfl
theorem qW:zi.underlying 33=some (TypeDesc.slice 5):=by kernel_rfl
theorem xB:qP zi 47=some 2:=by kernel_rfl
theorem acf:bytesOf zi 47=some 16:=by kernel_rfl
theorem ac7:zeroOf zi 47=(some (Value.agg #[(Value.int IntKind.i64 0),(Value.int IntKind.i64 0)])):=by kernel_rfl
theorem KY:yP zi 47=some true:=by kernel_rfl
theorem Ym:zi.underlying 53=some (TypeDesc.slice 3):=by kernel_rfl
theorem Z8:zi.underlying 68=some (TypeDesc.int IntKind.u64):=by kernel_rfl
theorem ZT:zi.underlying 77=some (TypeDesc.map 3 4):=by kernel_rfl
theorem jh (q o:Nat) (S:zx):zS zi 29 (.pointer (some ⟨q,o,none⟩)) 0 S=some (.pointer (some ⟨q,o+0,none⟩),S):=by kernel_rfl
theorem ji (q o:Nat) (S:zx):zS zi 29 (.pointer (some ⟨q,o,none⟩)) 1 S=some (.pointer (some ⟨q,o+1,none⟩),S):=by kernel_rfl
theorem jG (q o:Nat) (S:zx):zS zi 29 (.pointer (some ⟨q,o,none⟩)) 2 S=some (.pointer (some ⟨q,o+2,none⟩),S):=by kernel_rfl
theorem jK (q o:Nat) (S:zx):zS zi 29 (.pointer (some ⟨q,o,none⟩)) 3 S=some (.pointer (some ⟨q,o+3,none⟩),S):=by kernel_rfl
theorem jJ (q o:Nat) (S:zx):zS zi 29 (.pointer (some ⟨q,o,none⟩)) 4 S=some (.pointer (some ⟨q,o+4,none⟩),S):=by kernel_rfl
theorem kH (q o:Nat) (S:zx):zS zi 47 (.pointer (some ⟨q,o,none⟩)) 0 S=some (.pointer (some ⟨q,o+0,none⟩),S):=by kernel_rfl
theorem Jy (q o:Nat) (S:zx):zS zi 47 (.pointer (some ⟨q,o,none⟩)) 1 S=some (.pointer (some ⟨q,o+1,none⟩),S):=by kernel_rfl
theorem QG {q:Nat} {x0 x1 x2 x3 x4:Value} {own:Own} {e:Nat} {S:zx} (h:S.get q=some (.cells [x0,x1,x2,x3,x4] own e)):jk zi false 29 (.pointer (some ⟨q,0,none⟩)) S=some (.agg [qg x0,qg x1,qg x2,qg x3,qg x4].toArray,S):=(Xu (o:=0) h KO vH (by simp)).trans (by simp)
theorem vT {fx:Bool} {x0 x1:Value} {S:zx}:jk zi fx 47 (EP [x0,x1]) S=some (.agg [x0,x1].toArray,S):=aa7 KY xB rfl
theorem Qq {q:Nat} {x0 x1:Value} {own:Own} {e:Nat} {S:zx} (h:S.get q=some (.cells [x0,x1] own e)):jk zi false 47 (.pointer (some ⟨q,0,none⟩)) S=some (.agg [qg x0,qg x1].toArray,S):=(Xu (o:=0) h KY xB (by simp)).trans (by simp)
theorem Qh  (S:zx):wQ zi 29 [] S=some (.agg [(Value.int IntKind.i64 0),(Value.int IntKind.i64 0),(Value.int IntKind.i64 0),(Value.int IntKind.i64 0),(Value.slice none 0 0)].toArray,S):=by
 kernel_rfl
theorem kT {y0 y1 y2 y3 y4:Value} (h0:y0.cells=#[y0]) (h1:y1.cells=#[y1]) (h2:y2.cells=#[y2]) (h3:y3.cells=#[y3]) (h4:y4.cells=#[y4]) (S:zx):wQ zi 29 [(0,y0),(1,y1),(2,y2),(3,y3),(4,y4)] S=some (.agg [y0,y1,y2,y3,y4].toArray,S):=by
 rw [show wQ zi 29 [(0,y0),(1,y1),(2,y2),(3,y3),(4,y4)] S=(match kU ([(0,1),(1,1),(2,1),(3,1),(4,1)][·]?) [(Value.int IntKind.i64 0),(Value.int IntKind.i64 0),(Value.int IntKind.i64 0),(Value.int IntKind.i64 0),(Value.slice none 0 0)] [(0,y0),(1,y1),(2,y2),(3,y3),(4,y4)] with | some l=>some (.agg l.toArray,S) | none=>none) from by kernel_rfl]
 simp [kU,splice,Zl,h0,h1,h2,h3,h4]
theorem aaU  (S:zx):wQ zi 47 [] S=some (.agg [(Value.int IntKind.i64 0),(Value.int IntKind.i64 0)].toArray,S):=by
 kernel_rfl
theorem Ye {y0 y1:Value} (h0:y0.cells=#[y0]) (h1:y1.cells=#[y1]) (S:zx):wQ zi 47 [(0,y0),(1,y1)] S=some (.agg [y0,y1].toArray,S):=by
 rw [show wQ zi 47 [(0,y0),(1,y1)] S=(match kU ([(0,1),(1,1)][·]?) [(Value.int IntKind.i64 0),(Value.int IntKind.i64 0)] [(0,y0),(1,y1)] with | some l=>some (.agg l.toArray,S) | none=>none) from by kernel_rfl]
 simp [kU,splice,Zl,h0,h1]
@[simp] theorem YF (k:IntKind) (n:Int) (H:zx):wo zi 3 68 (.int k n) H=some (.int IntKind.u64 (IntKind.wrap IntKind.u64 n),H):=vU ac0 Z8 k n
@[simp] theorem Jv (k:IntKind) (n:Int) (H:zx):wo zi 5 68 (.int k n) H=some (.int IntKind.u64 (IntKind.wrap IntKind.u64 n),H):=vU abd Z8 k n
@[simp] theorem Yw (k:IntKind) (n:Int) (H:zx):wo zi 68 3 (.int k n) H=some (.int IntKind.i64 (IntKind.wrap IntKind.i64 n),H):=vU Z8 ac0 k n
@[simp] theorem xg (k:IntKind) (n:Int) (H:zx):wo zi 68 5 (.int k n) H=some (.int IntKind.u8 (IntKind.wrap IntKind.u8 n),H):=vU Z8 abd k n
theorem ZP (S:zx):jl zi 33 0 [] S=some (sv 2 1 0 [],S):=by kernel_rfl
theorem ZW (x0:Int) (S:zx):jl zi 33 1 [(0,.int IntKind.u8 x0)] S=some (sv 2 1 1 [.int IntKind.u8 x0],S):=by kernel_rfl
theorem Ws (x0:Int) (S:zx):jl zi 53 1 [(0,.int IntKind.i64 x0)] S=some (sv 2 1 1 [.int IntKind.i64 x0],S):=by kernel_rfl
theorem Vu (x0 x1:Int) (S:zx):jl zi 53 2 [(0,.int IntKind.i64 x0),(1,.int IntKind.i64 x1)] S=some (sv 2 1 2 [.int IntKind.i64 x0,.int IntKind.i64 x1],S):=by kernel_rfl
theorem Wn {k:Nat} {l:List UInt8} {S:zx} (h:Okl k l):JI zi 33 (by_ k l) S=some (goInt l.length,S):=abI qW h
theorem agb {k:Nat} {l:List UInt8} {S:zx} {ki:IntKind} {i:Int} (h:Okl k l) (h0:0≤i) (hi:i < l.length):jg zi 33 (by_ k l) (.int ki i) S=some (EP [.int .u8 (l[i.toNat]'(by omega)).toNat],S):=aeE qW KT aaY h h0 hi
theorem adY {fx:Bool} {v:Value} {S:zx}:jk zi fx 5 (EP [v]) S=some (v,S):=Qb aev
theorem XO {k:Nat} {l:List UInt8} {S:zx} {lo hi:Option Value} {i j:Int} (h:Okl k l) (hlo:qc 0 lo=some i) (hhi:qc l.length hi=some j) (h0:0≤i) (hij:i≤j) (hj:j≤l.length):kF zi 33 (by_ k l) lo hi S=some (by_ (if k=2 then 1 else k) ((l.drop i.toNat).take (j.toNat - i.toNat)),S):=acy qW KT aaY h hlo hhi h0 hij hj
theorem qy {k:Nat} {l:List UInt8} {S:zx} {j:Nat} {m:List UInt8} (h:Okl k l) (hk:k≠1) (hm:Okl j m) (hl:l.length+m.length≤140737488355328):jI zi 33 33 (by_ k l) (by_ j m) S=some (by_ (if k=0∧m.length=0 then 0 else 2) (l++m),S):=JG qW KT aen rfl aeI (by omega) qW aaY afp h hk hm (by omega) (by omega)
theorem aag {k:Nat} {l:List UInt8} {S:zx} (h:Okl k l) (hl:l.length≤140737488355328):jI zi 33 33 (by_ 2 []) (by_ k l) S=some (by_ 2 l,S):=by
 rw [qy Okl.own (by decide) h (by simpa using hl)];rfl
theorem acd {k:Nat} {l:List UInt8} {S:zx} (h:Okl k l):wJ zi .eql 33 (by_ k l) (.slice none 0 0) S=some (.bool (decide (k=0)),S):=acF qW h
theorem adA {k:Nat} {l:List Int} {S:zx} (h:Okl k l):JI zi 53 (iz k l) S=some (goInt l.length,S):=abI Ym h
theorem abQ {k:Nat} {l:List Int} {S:zx} {ki:IntKind} {i:Int} (h:Okl k l) (h0:0≤i) (hi:i < l.length):jg zi 53 (iz k l) (.int ki i) S=some (EP [.int .i64 (l[i.toNat]'(by omega))],S):=aeE Ym afh adQ h h0 hi
theorem kK {fx:Bool} {v:Value} {S:zx}:jk zi fx 3 (EP [v]) S=some (v,S):=Qb J3
theorem V9 {k:Nat} {l:List Int} {S:zx} {j:Nat} {m:List Int} (h:Okl k l) (hk:k≠1) (hm:Okl j m) (hl:l.length+m.length≤17592186044416):jI zi 53 53 (iz k l) (iz j m) S=some (iz (if k=0∧m.length=0 then 0 else 2) (l++m),S):=JG Ym afh agf rfl agi (by omega) Ym adQ afk h hk hm (by omega) (by omega)
theorem wk:type_of% (agH @Wx (agH @Zw (agH @ZU (agH @Jr (agH @WH (agH @JF (agH @JR (agH @Jq (agH @ZK (agH @Qe (agH @Jw (agH @Y6 (agH @XQ (agH @Zx (agH @WJ (agH @Jd (agH @WI (agH @JV (agH @QE (agH @adn (agH @adw (agH @ady (agH @adM (agH @ado (agH @aaQ (agH @VY (agH @aaI (agH @abR (agH @abP (agH @Xn (agH @ZM (agH @Qa (agH @Bool.and_true (agH @Bool.true_and (agH @Bool.and_self (agH @XD (agH @aa8 (agH @WC (agH @Qr (agH @JL (agH @adG (agH @adl (agH @adE (agH @adi (agH @afv (agH @afb (agH @afR (agH @ae8 (agH @afS (agH @adS (agH @adq (agH @adt (agH @adI (agH @adf (agH @aa9 (agH @WA (agH @Bool.false_eq_true (agH @Xz (agH @abG (agH @WG (agH @Qo (agH @QI (agH @ads (agH @QF (agH @adK (agH @Qs (agH @V6 (agH @KZ (agH @J8 (agH @VU (agH @abU (agH @Xr (agH @Ji (agH @Qv (agH @abp (agH @aaB (agH @XH (agH @Yt (agH @XK (agH @Jt (agH @Qp (agH @Y8 (agH @WL (agH @Zb (agH @vw (agH @JB (agH @YU (agH @ZC (agH @J9 (agH @xW (agH @xZ (agH @xY (agH @XL (agH @Xi (agH @Xe (agH @Xt (agH @Xd (agH @Xg (agH @Xk (agH @Xo (agH @Xy (agH @aaz (agH @Bool.not_true (agH @Bool.not_false (agH @Bool.true_eq_false (agH @decide_true (agH @decide_false (agH @aao (agH @aa4 (agH @abt (agH @aak (agH @abC (agH @abD (agH @abr (agH @aai (agH @aaF (agH @aaJ (agH @abE (agH @abO (agH @V8 (agH @aax (@VZ)))))))))))))))))))))))))))))))))))))))))))))))))))))))))))))))))))))))))))))))))))))))))))))))))))))))))))))))))))))))))):=agH @Wx (agH @Zw (agH @ZU (agH @Jr (agH @WH (agH @JF (agH @JR (agH @Jq (agH @ZK (agH @Qe (agH @Jw (agH @Y6 (agH @XQ (agH @Zx (agH @WJ (agH @Jd (agH @WI (agH @JV (agH @QE (agH @adn (agH @adw (agH @ady (agH @adM (agH @ado (agH @aaQ (agH @VY (agH @aaI (agH @abR (agH @abP (agH @Xn (agH @ZM (agH @Qa (agH @Bool.and_true (agH @Bool.true_and (agH @Bool.and_self (agH @XD (agH @aa8 (agH @WC (agH @Qr (agH @JL (agH @adG (agH @adl (agH @adE (agH @adi (agH @afv (agH @afb (agH @afR (agH @ae8 (agH @afS (agH @adS (agH @adq (agH @adt (agH @adI (agH @adf (agH @aa9 (agH @WA (agH @Bool.false_eq_true (agH @Xz (agH @abG (agH @WG (agH @Qo (agH @QI (agH @ads (agH @QF (agH @adK (agH @Qs (agH @V6 (agH @KZ (agH @J8 (agH @VU (agH @abU (agH @Xr (agH @Ji (agH @Qv (agH @abp (agH @aaB (agH @XH (agH @Yt (agH @XK (agH @Jt (agH @Qp (agH @Y8 (agH @WL (agH @Zb (agH @vw (agH @JB (agH @YU (agH @ZC (agH @J9 (agH @xW (agH @xZ (agH @xY (agH @XL (agH @Xi (agH @Xe (agH @Xt (agH @Xd (agH @Xg (agH @Xk (agH @Xo (agH @Xy (agH @aaz (agH @Bool.not_true (agH @Bool.not_false (agH @Bool.true_eq_false (agH @decide_true (agH @decide_false (agH @aao (agH @aa4 (agH @abt (agH @aak (agH @abC (agH @abD (agH @abr (agH @aai (agH @aaF (agH @aaJ (agH @abE (agH @abO (agH @V8 (agH @aax (@VZ)))))))))))))))))))))))))))))))))))))))))))))))))))))))))))))))))))))))))))))))))))))))))))))))))))))))))))))))))))))))))
theorem zSs:type_of% (agH wk (agH (@List.getD_cons_succ Value) (agH (@List.getD_cons_zero Value) (agH @if_true.{1} (agH @if_false.{1} (agH (@List.getElem?_cons_succ Value) (agH (@List.getElem?_cons_zero Value) (agH @Option.map_some.{0,0} @eq_self.{1})))))))):=agH wk (agH (@List.getD_cons_succ Value) (agH (@List.getD_cons_zero Value) (agH @if_true.{1} (agH @if_false.{1} (agH (@List.getElem?_cons_succ Value) (agH (@List.getElem?_cons_zero Value) (agH @Option.map_some.{0,0} @eq_self.{1})))))))
end Go.Proofs.Ytgggklfbhmlapaa
namespace Go.Proofs.Ytgggklfbhmlapaa
open Go.Abs
theorem afO (x:Int):sv 2 1 1 [.int .i64 x]=iz 2 [x]:=rfl
theorem aex {k:Nat} {l:List Int} {x:Int} {S:zx} (h:Okl k l) (hk:k≠1) (hl:l.length≤17592186044000):jI zi 53 53 (iz k l) (iz 2 [x]) S=some (iz 2 (l++[x]),S):=by
 rw [V9 h hk Okl.own (by simp;omega),if_neg (fun h=>by have:=h.2;simp at this)]
end Go.Proofs.Ytgggklfbhmlapaa
namespace Go.Abs
open Go.RowKit
theorem afV {b:Nat} {e:Ty} {α:Type} (f:α→List Value) (Q:α→Prop) (h:∀ x,e.Good x→∃ y,e.Z7 x=f y∧Q y) (hf:∀ y,(f y).length=e.sz) (x:(Ty.slc b e).Val) (hg:(Ty.slc b e).Good x) :
  ∃ k l,Okl k l∧k≠2∧(Ty.slc b e).Z7 x=[vs f e.sz k l]∧l.length * b≤140737488351232∧∀ y ∈ l,Q y:=by
 match x,hg with
 | none,_=>exact ⟨0,[],Okl.none,by decide,rfl,by simp,fun y hy=>by cases hy⟩
 | some xs,hg =>
  obtain ⟨h1,h2,h3⟩:=hg
  have key:∀ xs:List e.Val,(∀ n ∈ xs,e.Good n)→∃ l:List α,xs.flatMap e.Z7=l.flatMap f∧l.length=xs.length∧∀ y ∈ l,Q y:=by
   intro xs
   induction xs with
   | nil=>intro _;exact ⟨[],rfl,rfl,fun y hy=>by cases hy⟩
   | cons n xs ih =>
    intro hn
    obtain ⟨y,hy,hq⟩:=h n (hn n (by simp))
    obtain ⟨l,k1,k2,k3⟩:=ih (fun m hm=>hn m (by simp [hm]))
    refine ⟨y::l,by rw [List.flatMap_cons,List.flatMap_cons,hy,k1],by simp [k2],fun z hz=>?_⟩
    rcases List.mem_cons.1 hz with rfl | hz
    ·
     exact hq
    ·
     exact k3 z hz
  obtain ⟨l,k1,k2,k3⟩:=key xs h3
  refine ⟨1,l,Okl.read,by decide,?_,by rw [k2];exact h1,k3⟩
  show [SL 1 e.sz (List.length xs) (List.flatMap e.Z7 xs)]=[_]
  unfold vs
  rw [sv1,k1,k2]
theorem X5 {cs xs:List Value} (h:cs.length=xs.length):splice cs 0 xs=xs:=by
 unfold splice
 rw [List.take_zero,List.nil_append,Nat.zero_add,← h,List.drop_length,List.append_nil]
theorem afs {k e n:Nat} {cs:List Value}:(sv k e n cs).oneCell'=true:=by unfold sv;split <;> rfl
theorem afA {α:Type} {f:α→List Value} {e k:Nat} {l:List α}:(vs f e k l).oneCell'=true:=afs
theorem aef {k:IntKind} {n:Int}:(Value.int k n).oneCell'=true:=rfl
theorem Y9 {P:Program} {t:TypeId} {z xs:List Value} {x:Value} (S:zx) (hx:x.cells.toList=xs) (hs:qP P t=some z.length) (hl:xs.length=z.length) (h1:xs.all (·.oneCell')=true) :
  ∃ S2,wX P t (.pointer (some ⟨S.next,0,none⟩)) x (S.push (.cells z (.own []) 0))=some (zh,S2)∧S2.get S.next=some (.cells xs (.own []) 0)∧Ext S S2∧S.next < S2.next:=by
 have hg:(S.push (.cells z (.own []) 0)).get S.next=some (.cells z (.own []) 0):=by rw [zx.jo,if_pos rfl]
 refine ⟨_,YW hg hs (by rw [← Array.length_toList,hx,hl]) (by rw [hx];exact h1) (by simp),?_,(Ext.push S _).set (Nat.le_refl _) _,by simp [zx.kills]⟩
 rw [zx.jF,if_pos rfl,hx,X5 hl.symm]
theorem Qy {P:Program} {t:TypeId} {q o n:Nat} {cs:List Value} {e:Nat} {x:Value} {S S0:zx} (hg:S.get q=some (.cells cs (.own []) e)) (hs:qP P t=some n) (hn:x.cells.size=n) (h1:x.cells.toList.all (·.oneCell')=true) (hle:o+n≤cs.length) (hE:Ext S0 S) (hq:S0.next≤q) :
  ∃ S2,wX P t (.pointer (some ⟨q,o,none⟩)) x S=some (zh,S2)∧S2.get q=some (.cells (splice cs o x.cells.toList) (.own []) e)∧Ext S0 S2∧S2.next=S.next∧∀ k,k≠q→S2.get k=S.get k:=by
 exact ⟨_,YW hg hs hn h1 hle,by rw [zx.jF,if_pos rfl],hE.set hq _,by simp [zx.kills],fun k hk=>by rw [zx.jF,if_neg hk];rfl⟩
theorem aft (x:Value) (S:zx):∃ S2,Qg x S=some (.pointer (some ⟨S.next,0,none⟩),S2)∧S2.get S.next=some (.cells x.cells.toList (.own []) 0)∧Ext S S2∧S.next < S2.next :=
 ⟨_,rfl,by rw [zx.jo,if_pos rfl],Ext.push _ _,by simp⟩
end Go.Abs
namespace Go.Proofs.Ytgggklfbhmlapaa
open Go.Abs
def btw (n a b:Int):Bool:=decide (a≤n) && decide (n≤b)
theorem aaD {n a b:Int}:btw n a b=true ↔ a≤n∧n≤b:=by simp [btw]
def ZQ (n:Int):Bool:=btw n 65536 268435455 && decide (n % 65536 / 256 < 7)
theorem JO {n:Int}:ZQ n=true ↔ 65536≤n∧n≤268435455∧n % 65536 / 256 < 7:=by simp [ZQ,btw,and_assoc]
theorem acs {n m:Int} (h:0≤n):n.tmod m=n % m:=Int.tmod_eq_emod_of_nonneg h
theorem Xm {n m:Int} (h:0≤n):n.tdiv m=n / m:=Int.tdiv_eq_ediv_of_nonneg h
theorem Xc:(65536:Int)≠0:=by decide
theorem agA:(256:Int)≠0:=by decide
theorem zJ.v (n a b:Int) (S:zx):zU zi O zJ.id [.int .i64 n,.int .i64 a,.int .i64 b] S=some (.bool (btw n a b),S):=by
 obtain ⟨T,hTe⟩:∃ T,T=(.int .i64 n::.int .i64 a::.int .i64 b::zh::zh::zh::zh::zh::zh::zh::zh::zh::zh::zh::zh::[]):=⟨_,rfl⟩
 have hr:zI zi O false zJ.code T S=zI zi O false zJ.code T S:=rfl
 unfold btw
 by_cases h1:a≤n
 ·
  conv at hr =>
   rhs
   rw [hTe]
   simp only [zJ.code,zJ.rs,zSs,reduceIte,zk,zn,zo,zq,decide_eq_true h1]
  rw [decide_eq_true h1,Bool.true_and]
  rw [hTe] at hr
  exact zJ.runs hr (.inr rfl)
 ·
  conv at hr =>
   rhs
   rw [hTe]
   simp only [zJ.code,zJ.rs,zSs,reduceIte,zk,zn,zo,zq,decide_eq_false h1]
  rw [decide_eq_false h1,Bool.false_and]
  rw [hTe] at hr
  exact zJ.runs hr (.inr rfl)
theorem zV.v (n:Int) (S:zx):zU zi O zV.id [.int .i64 n] S=some (.bool (ZQ n),S):=by
 obtain ⟨T,hTe⟩:∃ T,T=(.int .i64 n::zh::zh::zh::zh::zh::zh::zh::zh::zh::zh::[]):=⟨_,rfl⟩
 have hr:zI zi O false zV.code T S=zI zi O false zV.code T S:=rfl
 unfold ZQ
 cases h1:btw n 65536 268435455
 ·
  conv at hr =>
   rhs
   rw [hTe]
   simp only [zV.code,zV.rs,zSs,reduceIte,zk,zn,zo,zq,zJ.v,h1]
  rw [hTe] at hr
  exact zV.runs hr (.inr rfl)
 ·
  have hb:=aaD.mp h1
  have q1:IntKind.i64.wrap ((n.tmod 65536).tdiv 256)=n % 65536 / 256:=by
   rw [acs (by omega),Xm (by omega),wrap_i64 (by omega) (by omega)]
  conv at hr =>
   rhs
   rw [hTe]
   simp only [zV.code,zV.rs,zSs,reduceIte,zk,zn,zo,zq,zJ.v,h1,ac2 _ _ _ Xc,Ja _ _ _ agA,q1]
  rw [hTe] at hr
  rw [Bool.true_and]
  exact zV.runs hr (.inr rfl)
end Go.Proofs.Ytgggklfbhmlapaa
namespace Go.Proofs.Ytgggklfbhmlapaa
open Go.Abs
abbrev zA.id:FuncId:=34
noncomputable def zA.jE:Code:=(.seq (.region 6 (reg Try.f34 6) false) (.seq (.cond (.tmp 35) Code.skip (.exit 0)) (.seq (.block 1 (.seq (.region 7 (reg Try.f34 7) false) (.seq (.seq (.region 8 (reg Try.f34 8) false) (.cond (.tmp 43) (.seq (.region 9 (reg Try.f34 9) false) Code.ret) Code.skip)) (.seq (.region 10 (reg Try.f34 10) false) (.region 11 (reg Try.f34 11) false))))) (.region 12 (reg Try.f34 12) false))))
noncomputable def zA.code:Code:=(.seq (.region 0 (reg Try.f34 0) false) (.seq (.region 1 (reg Try.f34 1) false) (.seq (.seq (.region 2 (reg Try.f34 2) false) (.cond (.tmp 30) (.seq (.region 3 (reg Try.f34 3) false) Code.ret) Code.skip)) (.seq (.region 4 (reg Try.f34 4) false) (.seq (.seq (.region 5 (reg Try.f34 5) false) (.block 0 (.loop zA.jE))) (.seq (.seq (.region 13 (reg Try.f34 13) false) (.cond (.tmp 57) (.seq (.region 14 (reg Try.f34 14) false) Code.ret) Code.skip)) (.seq (.region 15 (reg Try.f34 15) false) Code.ret)))))))
theorem zA.body:Try.f34.body=some zA.code:=by kernel_rfl
theorem zA.eta {T:List Value} (h:T.length=59):T=[T.getD 0 zh,T.getD 1 zh,T.getD 2 zh,T.getD 3 zh,T.getD 4 zh,T.getD 5 zh,T.getD 6 zh,T.getD 7 zh,T.getD 8 zh,T.getD 9 zh,T.getD 10 zh,T.getD 11 zh,T.getD 12 zh,T.getD 13 zh,T.getD 14 zh,T.getD 15 zh,T.getD 16 zh,T.getD 17 zh,T.getD 18 zh,T.getD 19 zh,T.getD 20 zh,T.getD 21 zh,T.getD 22 zh,T.getD 23 zh,T.getD 24 zh,T.getD 25 zh,T.getD 26 zh,T.getD 27 zh,T.getD 28 zh,T.getD 29 zh,T.getD 30 zh,T.getD 31 zh,T.getD 32 zh,T.getD 33 zh,T.getD 34 zh,T.getD 35 zh,T.getD 36 zh,T.getD 37 zh,T.getD 38 zh,T.getD 39 zh,T.getD 40 zh,T.getD 41 zh,T.getD 42 zh,T.getD 43 zh,T.getD 44 zh,T.getD 45 zh,T.getD 46 zh,T.getD 47 zh,T.getD 48 zh,T.getD 49 zh,T.getD 50 zh,T.getD 51 zh,T.getD 52 zh,T.getD 53 zh,T.getD 54 zh,T.getD 55 zh,T.getD 56 zh,T.getD 57 zh,T.getD 58 zh]:=(qG T 59 h).trans (by kernel_rfl)
variable (x0 x1 x2 x3 x4 x5 x6 x7 x8 x9 a d f g i k l m n o p q r s t u w x y z A B C b c D E F G H I J K L M N P Q R U V W X Y Z a0 a1 a2 a3:Value) (S:zx)
theorem zA.r0 :jq zi ⟨false,false,false⟩ (zU zi O) (reg Try.f34 0) (reg Try.f34 0).toList ([x0,x1,x2,x3,x4,x5,x6,x7,x8,x9,a,d,f,g,i,k,l,m,n,o,p,q,r,s,t,u,w,x,y,z,A,B,C,b,c,D,E,F,G,H,I,J,K,L,M,N,P,Q,R,U,V,W,X,Y,Z,a0,a1,a2,a3]) S =
  ( some ([x0,x1,Value.slice none 0 0,.int .i64 0,x4,x5,x6,x7,x8,x9,a,d,f,g,i,k,l,m,n,o,p,q,r,s,t,u,w,x,y,z,A,B,C,b,c,D,E,F,G,H,I,J,K,L,M,N,P,Q,R,U,V,W,X,Y,Z,a0,a1,a2,a3],S)):=by
 kernel_rfl
theorem zA.r1 :jq zi ⟨false,false,false⟩ (zU zi O) (reg Try.f34 1) (reg Try.f34 1).toList ([x0,x1,x2,x3,x4,x5,x6,x7,x8,x9,a,d,f,g,i,k,l,m,n,o,p,q,r,s,t,u,w,x,y,z,A,B,C,b,c,D,E,F,G,H,I,J,K,L,M,N,P,Q,R,U,V,W,X,Y,Z,a0,a1,a2,a3]) S =
  (zO ((zU zi O) 33 [(dem (dem x0)),(.int .i64 1)] S) (fun v1 S1=>zO (zF v1 0 S1) (fun v3 S2=>zO (zF (zM 0 v1) 1 S2) (fun v4 S3=>zO (zF (zM 1 (zM 0 v1)) 2 S3) (fun v5 S4=>some ([x0,x1,x2,x3,v3,v4,v5,x7,x8,x9,a,zM 2 (zM 1 (zM 0 v1)),dem x0,dem v1,dem v3,dem v4,dem v5,m,n,o,p,q,r,s,t,u,w,x,y,z,A,B,C,b,c,D,E,F,G,H,I,J,K,L,M,N,P,Q,R,U,V,W,X,Y,Z,a0,a1,a2,a3],S4)) ()) ()) ()) ()):=by
 kernel_rfl
theorem zA.r2 :jq zi ⟨false,false,false⟩ (zU zi O) (reg Try.f34 2) (reg Try.f34 2).toList ([x0,x1,x2,x3,x4,x5,x6,x7,x8,x9,a,d,f,g,i,k,l,m,n,o,p,q,r,s,t,u,w,x,y,z,A,B,C,b,c,D,E,F,G,H,I,J,K,L,M,N,P,Q,R,U,V,W,X,Y,Z,a0,a1,a2,a3]) S =
  (zO (wJ zi BinOp.neq 34 (dem x6) (.int .i64 0) S) (fun v1 S1=>gdK (dem v1) false (ret x4) S1 (fun v3 S2=>gdK (dem v1) false (jg zi 53 (dem v3) (.int .i64 0)) S2 (fun v4 S3=>gdK (dem v1) false (jk zi false 3 v4) S3 (fun v5 S4=>gdK (dem v1) false (wJ zi BinOp.lss 3 v5 (.int .i64 0)) S4 (fun v6 S5=>zO (qh (dem v1) (Value.bool true) v6 S5) (fun v7 S6=>gdK (dem v7) false (ret x4) S6 (fun v9 S7=>gdK (dem v7) false (jg zi 53 (dem v9) (.int .i64 0)) S7 (fun a4 S8=>gdK (dem v7) false (jk zi false 3 a4) S8 (fun a5 S9=>gdK (dem v7) false (wJ zi BinOp.gtr 3 a5 (.int .i64 3)) S9 (fun a6 a7=>zO (qh (dem v7) (Value.bool true) a6 a7) (fun a8 a9=>some ([x0,x1,x2,x3,x4,x5,x6,x7,x8,x9,a,d,f,g,i,k,l,dem x6,v1,dem v1,dem v3,v4,v5,v6,v7,dem v7,dem v9,a4,a5,a6,a8,B,C,b,c,D,E,F,G,H,I,J,K,L,M,N,P,Q,R,U,V,W,X,Y,Z,a0,a1,a2,a3],a9)) ()) ()) ()) ()) ()) ()) ()) ()) ()) ()) ()):=by
 refine sP Try.f34 2 0 (v:=x6) ?_
 refine sD Try.f34 2 1 (fun v1 S1=>?_)
 refine sP Try.f34 2 2 (v:=v1) ?_
 refine sG Try.f34 2 3 (j:=2) (fun v3 S2=>?_)
 refine sG Try.f34 2 4 (j:=2) (fun v4 S3=>?_)
 refine sG Try.f34 2 5 (j:=2) (fun v5 S4=>?_)
 refine sG Try.f34 2 6 (j:=2) (fun v6 S5=>?_)
 refine sD Try.f34 2 7 (fun v7 S6=>?_)
 refine sP Try.f34 2 8 (v:=v7) ?_
 refine sG Try.f34 2 9 (j:=8) (fun v9 S7=>?_)
 refine sG Try.f34 2 10 (j:=8) (fun a4 S8=>?_)
 refine sG Try.f34 2 11 (j:=8) (fun a5 S9=>?_)
 refine sG Try.f34 2 12 (j:=8) (fun a6 a7=>?_)
 refine sD Try.f34 2 13 (fun a8 a9=>?_)
 kernel_rfl
theorem zA.r3 :jq zi ⟨false,false,false⟩ (zU zi O) (reg Try.f34 3) (reg Try.f34 3).toList ([x0,x1,x2,x3,x4,x5,x6,x7,x8,x9,a,d,f,g,i,k,l,m,n,o,p,q,r,s,t,u,w,x,y,z,A,B,C,b,c,D,E,F,G,H,I,J,K,L,M,N,P,Q,R,U,V,W,X,Y,Z,a0,a1,a2,a3]) S =
  ( some ([x0,x1,Value.slice none 0 0,.int .i64 61,x4,x5,x6,x7,x8,x9,a,d,f,g,i,k,l,m,n,o,p,q,r,s,t,u,w,x,y,z,A,B,C,b,c,D,E,F,G,H,I,J,K,L,M,N,P,Q,R,U,V,W,X,Y,Z,a0,a1,a2,a3],S)):=by
 kernel_rfl
theorem zA.r4 :jq zi ⟨false,false,false⟩ (zU zi O) (reg Try.f34 4) (reg Try.f34 4).toList ([x0,x1,x2,x3,x4,x5,x6,x7,x8,x9,a,d,f,g,i,k,l,m,n,o,p,q,r,s,t,u,w,x,y,z,A,B,C,b,c,D,E,F,G,H,I,J,K,L,M,N,P,Q,R,U,V,W,X,Y,Z,a0,a1,a2,a3]) S =
  ( some ([x0,x1,x2,x3,x4,x5,x6,Value.slice none 0 0,x8,x9,a,d,f,g,i,k,l,m,n,o,p,q,r,s,t,u,w,x,y,z,A,B,C,b,c,D,E,F,G,H,I,J,K,L,M,N,P,Q,R,U,V,W,X,Y,Z,a0,a1,a2,a3],S)):=by
 kernel_rfl
theorem zA.r5 :jq zi ⟨false,false,false⟩ (zU zi O) (reg Try.f34 5) (reg Try.f34 5).toList ([x0,x1,x2,x3,x4,x5,x6,x7,x8,x9,a,d,f,g,i,k,l,m,n,o,p,q,r,s,t,u,w,x,y,z,A,B,C,b,c,D,E,F,G,H,I,J,K,L,M,N,P,Q,R,U,V,W,X,Y,Z,a0,a1,a2,a3]) S =
  (zO (jg zi 53 (dem x4) (.int .i64 0) S) (fun v1 S1=>zO (jk zi false 3 v1 S1) (fun v2 S2=>some ([x0,x1,x2,x3,x4,x5,x6,x7,x8,x9,a,d,f,g,i,k,l,m,n,o,p,q,r,s,t,u,w,x,y,z,A,dem x4,v1,v2,.int .i64 0,D,E,F,G,H,I,J,K,L,M,N,P,Q,R,U,V,W,X,Y,Z,a0,a1,a2,a3],S2)) ()) ()):=by
 kernel_rfl
theorem zA.r6 :jq zi ⟨false,false,false⟩ (zU zi O) (reg Try.f34 6) (reg Try.f34 6).toList ([x0,x1,x2,x3,x4,x5,x6,x7,x8,x9,a,d,f,g,i,k,l,m,n,o,p,q,r,s,t,u,w,x,y,z,A,B,C,b,c,D,E,F,G,H,I,J,K,L,M,N,P,Q,R,U,V,W,X,Y,Z,a0,a1,a2,a3]) S =
  (zO (wJ zi BinOp.lss 3 c b S) (fun v0 S1=>some ([x0,x1,x2,x3,x4,x5,x6,x7,x8,x9,a,d,f,g,i,k,l,m,n,o,p,q,r,s,t,u,w,x,y,z,A,B,C,b,c,v0,E,F,G,H,I,J,K,L,M,N,P,Q,R,U,V,W,X,Y,Z,a0,a1,a2,a3],S1)) ()):=by
 kernel_rfl
theorem zA.r7 :jq zi ⟨false,false,false⟩ (zU zi O) (reg Try.f34 7) (reg Try.f34 7).toList ([x0,x1,x2,x3,x4,x5,x6,x7,x8,x9,a,d,f,g,i,k,l,m,n,o,p,q,r,s,t,u,w,x,y,z,A,B,C,b,c,D,E,F,G,H,I,J,K,L,M,N,P,Q,R,U,V,W,X,Y,Z,a0,a1,a2,a3]) S =
  (zO ((zU zi O) 45 [(dem (dem x5))] S) (fun v1 S1=>zO (zF v1 0 S1) (fun v3 S2=>zO (zF (zM 0 v1) 1 S2) (fun v4 S3=>zO (zF (zM 1 (zM 0 v1)) 2 S3) (fun v5 S4=>zO (yE zi 47 S4) (fun v6 S5=>zO (wX zi 47 v6 (dem v3) S5) (fun v7 S6=>some ([x0,x1,x2,x3,x4,x5,x6,x7,v6,v4,v5,d,f,g,i,k,l,m,n,o,p,q,r,s,t,u,w,x,y,z,A,B,C,b,c,D,zM 2 (zM 1 (zM 0 v1)),dem x5,dem v1,v3,dem v4,dem v5,K,L,M,N,P,Q,R,U,V,W,X,Y,Z,a0,a1,a2,a3],S6)) ()) ()) ()) ()) ()) ()):=by
 kernel_rfl
theorem zA.r8 :jq zi ⟨false,false,false⟩ (zU zi O) (reg Try.f34 8) (reg Try.f34 8).toList ([x0,x1,x2,x3,x4,x5,x6,x7,x8,x9,a,d,f,g,i,k,l,m,n,o,p,q,r,s,t,u,w,x,y,z,A,B,C,b,c,D,E,F,G,H,I,J,K,L,M,N,P,Q,R,U,V,W,X,Y,Z,a0,a1,a2,a3]) S =
  (zO (aUn zi UnOp.not (dem a) S) (fun v1 S1=>some ([x0,x1,x2,x3,x4,x5,x6,x7,x8,x9,a,d,f,g,i,k,l,m,n,o,p,q,r,s,t,u,w,x,y,z,A,B,C,b,c,D,E,F,G,H,I,J,dem a,v1,M,N,P,Q,R,U,V,W,X,Y,Z,a0,a1,a2,a3],S1)) ()):=by
 kernel_rfl
theorem zA.r9 :jq zi ⟨false,false,false⟩ (zU zi O) (reg Try.f34 9) (reg Try.f34 9).toList ([x0,x1,x2,x3,x4,x5,x6,x7,x8,x9,a,d,f,g,i,k,l,m,n,o,p,q,r,s,t,u,w,x,y,z,A,B,C,b,c,D,E,F,G,H,I,J,K,L,M,N,P,Q,R,U,V,W,X,Y,Z,a0,a1,a2,a3]) S =
  ( some ([x0,x1,Value.slice none 0 0,.int .i64 61,x4,x5,x6,x7,x8,x9,a,d,f,g,i,k,l,m,n,o,p,q,r,s,t,u,w,x,y,z,A,B,C,b,c,D,E,F,G,H,I,J,K,L,M,N,P,Q,R,U,V,W,X,Y,Z,a0,a1,a2,a3],S)):=by
 kernel_rfl
theorem zA.r10 :jq zi ⟨false,false,false⟩ (zU zi O) (reg Try.f34 10) (reg Try.f34 10).toList ([x0,x1,x2,x3,x4,x5,x6,x7,x8,x9,a,d,f,g,i,k,l,m,n,o,p,q,r,s,t,u,w,x,y,z,A,B,C,b,c,D,E,F,G,H,I,J,K,L,M,N,P,Q,R,U,V,W,X,Y,Z,a0,a1,a2,a3]) S =
  (zO (jk zi false 47 x8 S) (fun v1 S1=>zO (jl zi 27 1 [(0,v1)] S1) (fun v2 S2=>zO (jI zi 27 27 x7 v2 S2) (fun v3 S3=>some ([x0,x1,x2,x3,x4,x5,x6,v3,x8,x9,a,d,f,g,i,k,l,m,n,o,p,q,r,s,t,u,w,x,y,z,A,B,C,b,c,D,E,F,G,H,I,J,K,L,dem x7,v1,v2,dem v3,R,U,V,W,X,Y,Z,a0,a1,a2,a3],S3)) ()) ()) ()):=by
 kernel_rfl
theorem zA.r11 :jq zi ⟨false,false,false⟩ (zU zi O) (reg Try.f34 11) (reg Try.f34 11).toList ([x0,x1,x2,x3,x4,x5,x6,x7,x8,x9,a,d,f,g,i,k,l,m,n,o,p,q,r,s,t,u,w,x,y,z,A,B,C,b,c,D,E,F,G,H,I,J,K,L,M,N,P,Q,R,U,V,W,X,Y,Z,a0,a1,a2,a3]) S =
  ( some ([x0,x1,x2,x3,x4,x9,x6,x7,x8,dem x9,a,d,f,g,i,k,l,m,n,o,p,q,r,s,t,u,w,x,y,z,A,B,C,b,c,D,E,F,G,H,I,J,K,L,M,N,P,Q,dem x9,U,V,W,X,Y,Z,a0,a1,a2,a3],S)):=by
 kernel_rfl
theorem zA.r12 :jq zi ⟨false,false,false⟩ (zU zi O) (reg Try.f34 12) (reg Try.f34 12).toList ([x0,x1,x2,x3,x4,x5,x6,x7,x8,x9,a,d,f,g,i,k,l,m,n,o,p,q,r,s,t,u,w,x,y,z,A,B,C,b,c,D,E,F,G,H,I,J,K,L,M,N,P,Q,R,U,V,W,X,Y,Z,a0,a1,a2,a3]) S =
  (zO (wJ zi BinOp.add 3 c (.int .i64 1) S) (fun v0 S1=>some ([x0,x1,x2,x3,x4,x5,x6,x7,x8,x9,a,d,f,g,i,k,l,m,n,o,p,q,r,s,t,u,w,x,y,z,A,B,C,b,dem v0,D,E,F,G,H,I,J,K,L,M,N,P,Q,R,v0,V,W,X,Y,Z,a0,a1,a2,a3],S1)) ()):=by
 kernel_rfl
theorem zA.r13 :jq zi ⟨false,false,false⟩ (zU zi O) (reg Try.f34 13) (reg Try.f34 13).toList ([x0,x1,x2,x3,x4,x5,x6,x7,x8,x9,a,d,f,g,i,k,l,m,n,o,p,q,r,s,t,u,w,x,y,z,A,B,C,b,c,D,E,F,G,H,I,J,K,L,M,N,P,Q,R,U,V,W,X,Y,Z,a0,a1,a2,a3]) S =
  (zO (JI zi 33 (dem x5) S) (fun v1 S1=>zO (wJ zi BinOp.gtr 3 v1 (.int .i64 0) S1) (fun v2 S2=>gdK (dem v2) false (ret x7) S2 (fun v4 S3=>gdK (dem v2) false ((zU zi O) 38 [(dem (dem v4))]) S3 (fun v5 S4=>gdK (dem v2) false (aUn zi UnOp.not v5) S4 (fun v6 S5=>zO (qh (dem v2) (Value.bool true) v6 S5) (fun v7 S6=>some ([x0,x1,x2,x3,x4,x5,x6,x7,x8,x9,a,d,f,g,i,k,l,m,n,o,p,q,r,s,t,u,w,x,y,z,A,B,C,b,c,D,E,F,G,H,I,J,K,L,M,N,P,Q,R,U,dem x5,v1,v2,dem v2,dem v4,v5,v6,v7,a3],S6)) ()) ()) ()) ()) ()) ()):=by
 refine sP Try.f34 13 0 (v:=x5) ?_
 refine sD Try.f34 13 1 (fun v1 S1=>?_)
 refine sD Try.f34 13 2 (fun v2 S2=>?_)
 refine sP Try.f34 13 3 (v:=v2) ?_
 refine sG Try.f34 13 4 (j:=3) (fun v4 S3=>?_)
 refine sG Try.f34 13 5 (j:=3) (fun v5 S4=>?_)
 refine sG Try.f34 13 6 (j:=3) (fun v6 S5=>?_)
 refine sD Try.f34 13 7 (fun v7 S6=>?_)
 kernel_rfl
theorem zA.r14 :jq zi ⟨false,false,false⟩ (zU zi O) (reg Try.f34 14) (reg Try.f34 14).toList ([x0,x1,x2,x3,x4,x5,x6,x7,x8,x9,a,d,f,g,i,k,l,m,n,o,p,q,r,s,t,u,w,x,y,z,A,B,C,b,c,D,E,F,G,H,I,J,K,L,M,N,P,Q,R,U,V,W,X,Y,Z,a0,a1,a2,a3]) S =
  ( some ([x0,x1,Value.slice none 0 0,.int .i64 61,x4,x5,x6,x7,x8,x9,a,d,f,g,i,k,l,m,n,o,p,q,r,s,t,u,w,x,y,z,A,B,C,b,c,D,E,F,G,H,I,J,K,L,M,N,P,Q,R,U,V,W,X,Y,Z,a0,a1,a2,a3],S)):=by
 kernel_rfl
theorem zA.r15 :jq zi ⟨false,false,false⟩ (zU zi O) (reg Try.f34 15) (reg Try.f34 15).toList ([x0,x1,x2,x3,x4,x5,x6,x7,x8,x9,a,d,f,g,i,k,l,m,n,o,p,q,r,s,t,u,w,x,y,z,A,B,C,b,c,D,E,F,G,H,I,J,K,L,M,N,P,Q,R,U,V,W,X,Y,Z,a0,a1,a2,a3]) S =
  ( some ([x0,x1,x7,.int .i64 0,x4,x5,x6,dem x7,x8,x9,a,d,f,g,i,k,l,m,n,o,p,q,r,s,t,u,w,x,y,z,A,B,C,b,c,D,E,F,G,H,I,J,K,L,M,N,P,Q,R,U,V,W,X,Y,Z,a0,a1,a2,dem x7],S)):=by
 kernel_rfl
theorem zA.rs:type_of% (agH @zA.r0 (agH @zA.r1 (agH @zA.r2 (agH @zA.r3 (agH @zA.r4 (agH @zA.r5 (agH @zA.r6 (agH @zA.r7 (agH @zA.r8 (agH @zA.r9 (agH @zA.r10 (agH @zA.r11 (agH @zA.r12 (agH @zA.r13 (agH @zA.r14 (@zA.r15)))))))))))))))):=agH @zA.r0 (agH @zA.r1 (agH @zA.r2 (agH @zA.r3 (agH @zA.r4 (agH @zA.r5 (agH @zA.r6 (agH @zA.r7 (agH @zA.r8 (agH @zA.r9 (agH @zA.r10 (agH @zA.r11 (agH @zA.r12 (agH @zA.r13 (agH @zA.r14 (@zA.r15)))))))))))))))
theorem zA.runs {x0:Value} {S S1:zx} {e:AEx} {T:List Value} (h:zI zi O false zA.code ([x0,zh,zh,zh,zh,zh,zh,zh,zh,zh,zh,zh,zh,zh,zh,zh,zh,zh,zh,zh,zh,zh,zh,zh,zh,zh,zh,zh,zh,zh,zh,zh,zh,zh,zh,zh,zh,zh,zh,zh,zh,zh,zh,zh,zh,zh,zh,zh,zh,zh,zh,zh,zh,zh,zh,zh,zh,zh,zh]) zx.empty=some (e,T,S1)) (he:e=.normal∨e=.ret)  (h0:jB (T.getD 2 zh)=true) (h1:jB (T.getD 3 zh)=true) (hca:[x0].all (zT 16)=true) (hcv:zT 16 (Value.tuple #[T.getD 2 zh,T.getD 3 zh])=true):zU zi O 34 [x0] S=some (Value.tuple #[T.getD 2 zh,T.getD 3 zh],S) :=
 yB rfl rfl Try.func34 (by decide) zA.body (by exact h) he ((yG ((show zN zi T S1 Try.f34.results.toList=zN zi T S1 [(ResultVar.tmp 2),(ResultVar.tmp 3)] from by kernel_rfl).trans (by simp only [zN])) (by kernel_rfl) (by simp only [List.all_cons,List.all_nil,h0,h1,Bool.and_true])).trans rfl) hca hcv
end Go.Proofs.Ytgggklfbhmlapaa
namespace Go.Proofs.Ytgggklfbhmlapaa
open Go.Abs
abbrev zG.id:FuncId:=38
noncomputable def zG.jE:Code:=(.seq (.region 3 (reg Try.f38 3) false) (.seq (.cond (.tmp 10) Code.skip (.exit 0)) (.seq (.block 1 (.seq (.region 4 (reg Try.f38 4) false) (.seq (.seq (.region 5 (reg Try.f38 5) false) (.cond (.tmp 16) (.seq (.region 6 (reg Try.f38 6) false) Code.ret) Code.skip)) (.region 7 (reg Try.f38 7) false)))) (.region 8 (reg Try.f38 8) false))))
noncomputable def zG.code:Code:=(.seq (.region 0 (reg Try.f38 0) false) (.seq (.region 1 (reg Try.f38 1) false) (.seq (.seq (.region 2 (reg Try.f38 2) false) (.block 0 (.loop zG.jE))) (.seq (.region 9 (reg Try.f38 9) false) Code.ret))))
theorem zG.body:Try.f38.body=some zG.code:=by kernel_rfl
theorem zG.eta {T:List Value} (h:T.length=24):T=[T.getD 0 zh,T.getD 1 zh,T.getD 2 zh,T.getD 3 zh,T.getD 4 zh,T.getD 5 zh,T.getD 6 zh,T.getD 7 zh,T.getD 8 zh,T.getD 9 zh,T.getD 10 zh,T.getD 11 zh,T.getD 12 zh,T.getD 13 zh,T.getD 14 zh,T.getD 15 zh,T.getD 16 zh,T.getD 17 zh,T.getD 18 zh,T.getD 19 zh,T.getD 20 zh,T.getD 21 zh,T.getD 22 zh,T.getD 23 zh]:=(qG T 24 h).trans (by kernel_rfl)
variable (r v B s w t z x y u b c d f g i j k l m n o p q:Value) (S:zx)
theorem zG.r0 :jq zi ⟨false,false,false⟩ (zU zi O) (reg Try.f38 0) (reg Try.f38 0).toList ([r,v,B,s,w,t,z,x,y,u,b,c,d,f,g,i,j,k,l,m,n,o,p,q]) S =
  ( some ([r,v,Value.bool false,s,w,t,z,x,y,u,b,c,d,f,g,i,j,k,l,m,n,o,p,q],S)):=by
 kernel_rfl
theorem zG.r1 :jq zi ⟨false,false,false⟩ (zU zi O) (reg Try.f38 1) (reg Try.f38 1).toList ([r,v,B,s,w,t,z,x,y,u,b,c,d,f,g,i,j,k,l,m,n,o,p,q]) S =
  (zO (qm zi 77 none S) (fun E A=>some ([r,v,B,E,w,t,dem E,x,y,u,b,c,d,f,g,i,j,k,l,m,n,o,p,q],A)) ()):=by
 kernel_rfl
theorem zG.r2 :jq zi ⟨false,false,false⟩ (zU zi O) (reg Try.f38 2) (reg Try.f38 2).toList ([r,v,B,s,w,t,z,x,y,u,b,c,d,f,g,i,j,k,l,m,n,o,p,q]) S =
  (zO (JI zi 27 (dem r) S) (fun C A=>some ([r,v,B,s,w,t,z,dem r,C,.int .i64 0,b,c,d,f,g,i,j,k,l,m,n,o,p,q],A)) ()):=by
 kernel_rfl
theorem zG.r3 :jq zi ⟨false,false,false⟩ (zU zi O) (reg Try.f38 3) (reg Try.f38 3).toList ([r,v,B,s,w,t,z,x,y,u,b,c,d,f,g,i,j,k,l,m,n,o,p,q]) S =
  (zO (wJ zi BinOp.lss 3 u y S) (fun E A=>some ([r,v,B,s,w,t,z,x,y,u,E,c,d,f,g,i,j,k,l,m,n,o,p,q],A)) ()):=by
 kernel_rfl
theorem zG.r4 :jq zi ⟨false,false,false⟩ (zU zi O) (reg Try.f38 4) (reg Try.f38 4).toList ([r,v,B,s,w,t,z,x,y,u,b,c,d,f,g,i,j,k,l,m,n,o,p,q]) S =
  (zO (jg zi 27 x u S) (fun E A=>zO (jk zi false 47 E A) (fun C F=>zO (yE zi 47 F) (fun D G=>zO (wX zi 47 D (dem C) G) (fun H I=>some ([r,v,B,s,w,D,z,x,y,u,b,E,C,f,g,i,j,k,l,m,n,o,p,q],I)) ()) ()) ()) ()):=by
 kernel_rfl
theorem zG.r5 :jq zi ⟨false,false,false⟩ (zU zi O) (reg Try.f38 5) (reg Try.f38 5).toList ([r,v,B,s,w,t,z,x,y,u,b,c,d,f,g,i,j,k,l,m,n,o,p,q]) S =
  (zO (zS zi 47 t 0 S) (fun C A=>zO (jk zi false 3 C A) (fun D F=>zO (qU zi false 77 (dem s) D false F) (fun H G=>some ([r,v,B,s,w,t,z,x,y,u,b,c,d,dem s,C,D,H,k,l,m,n,o,p,q],G)) ()) ()) ()):=by
 kernel_rfl
theorem zG.r6 :jq zi ⟨false,false,false⟩ (zU zi O) (reg Try.f38 6) (reg Try.f38 6).toList ([r,v,B,s,w,t,z,x,y,u,b,c,d,f,g,i,j,k,l,m,n,o,p,q]) S =
  ( some ([r,v,Value.bool false,s,w,t,z,x,y,u,b,c,d,f,g,i,j,k,l,m,n,o,p,q],S)):=by
 kernel_rfl
theorem zG.r7 :jq zi ⟨false,false,false⟩ (zU zi O) (reg Try.f38 7) (reg Try.f38 7).toList ([r,v,B,s,w,t,z,x,y,u,b,c,d,f,g,i,j,k,l,m,n,o,p,q]) S =
  (zO (zS zi 47 t 0 S) (fun C A=>zO (jk zi false 3 C A) (fun D F=>zO (jS zi 77 (dem s) D (Value.bool true) F) (fun H G=>some ([r,v,B,s,w,t,z,x,y,u,b,c,d,f,g,i,j,dem s,C,D,n,o,p,q],G)) ()) ()) ()):=by
 kernel_rfl
theorem zG.r8 :jq zi ⟨false,false,false⟩ (zU zi O) (reg Try.f38 8) (reg Try.f38 8).toList ([r,v,B,s,w,t,z,x,y,u,b,c,d,f,g,i,j,k,l,m,n,o,p,q]) S =
  (zO (wJ zi BinOp.add 3 u (.int .i64 1) S) (fun E A=>some ([r,v,B,s,w,t,z,x,y,dem E,b,c,d,f,g,i,j,k,l,m,E,o,p,q],A)) ()):=by
 kernel_rfl
theorem zG.r9 :jq zi ⟨false,false,false⟩ (zU zi O) (reg Try.f38 9) (reg Try.f38 9).toList ([r,v,B,s,w,t,z,x,y,u,b,c,d,f,g,i,j,k,l,m,n,o,p,q]) S =
  (zO (JI zi 27 (dem r) S) (fun C A=>zO (wJ zi BinOp.leq 3 C (.int .i64 3) A) (fun D F=>some ([r,v,D,s,w,t,z,x,y,u,b,c,d,f,g,i,j,k,l,m,n,dem r,C,dem D],F)) ()) ()):=by
 kernel_rfl
theorem zG.rs:type_of% (agH @zG.r0 (agH @zG.r1 (agH @zG.r2 (agH @zG.r3 (agH @zG.r4 (agH @zG.r5 (agH @zG.r6 (agH @zG.r7 (agH @zG.r8 (@zG.r9)))))))))):=agH @zG.r0 (agH @zG.r1 (agH @zG.r2 (agH @zG.r3 (agH @zG.r4 (agH @zG.r5 (agH @zG.r6 (agH @zG.r7 (agH @zG.r8 (@zG.r9)))))))))
theorem zG.runs {r:Value} {S A:zx} {e:AEx} {T:List Value} (h:zI zi O false zG.code ([r,zh,zh,zh,zh,zh,zh,zh,zh,zh,zh,zh,zh,zh,zh,zh,zh,zh,zh,zh,zh,zh,zh,zh]) zx.empty=some (e,T,A)) (he:e=.normal∨e=.ret) (hca:[r].all (zT 16)=true) (hcv:zT 16 (T.getD 2 zh)=true):zU zi O 38 [r] S=some (T.getD 2 zh,S) :=
 yB rfl rfl Try.func38 (by decide) zG.body (by exact h) he (qp (a:=T.getD 2 zh) ((show zN zi T A Try.f38.results.toList=zN zi T A [(ResultVar.tmp 2)] from by kernel_rfl).trans (by simp only [zN])) (by kernel_rfl)) hca hcv
end Go.Proofs.Ytgggklfbhmlapaa
namespace Go.Proofs.Ytgggklfbhmlapaa
open Go.Abs
abbrev zK.id:FuncId:=27
noncomputable def zK.jE:Code:=(.seq (.region 5 (reg Try.f27 5) false) (.seq (.cond (.tmp 23) Code.skip (.exit 0)) (.seq (.block 1 (.seq (.region 6 (reg Try.f27 6) false) (.seq (.region 7 (reg Try.f27 7) false) (.seq (.seq (.region 8 (reg Try.f27 8) false) (.cond (.tmp 32) (.seq (.region 9 (reg Try.f27 9) false) Code.ret) Code.skip)) (.region 10 (reg Try.f27 10) false))))) (.region 11 (reg Try.f27 11) false))))
noncomputable def zK.code:Code:=(.seq (.region 0 (reg Try.f27 0) false) (.seq (.seq (.region 1 (reg Try.f27 1) false) (.cond (.tmp 12) (.seq (.region 2 (reg Try.f27 2) false) Code.ret) Code.skip)) (.seq (.region 3 (reg Try.f27 3) false) (.seq (.seq (.region 4 (reg Try.f27 4) false) (.block 0 (.loop zK.jE))) (.seq (.region 12 (reg Try.f27 12) false) Code.ret)))))
theorem zK.body:Try.f27.body=some zK.code:=by kernel_rfl
theorem zK.eta {T:List Value} (h:T.length=39):T=[T.getD 0 zh,T.getD 1 zh,T.getD 2 zh,T.getD 3 zh,T.getD 4 zh,T.getD 5 zh,T.getD 6 zh,T.getD 7 zh,T.getD 8 zh,T.getD 9 zh,T.getD 10 zh,T.getD 11 zh,T.getD 12 zh,T.getD 13 zh,T.getD 14 zh,T.getD 15 zh,T.getD 16 zh,T.getD 17 zh,T.getD 18 zh,T.getD 19 zh,T.getD 20 zh,T.getD 21 zh,T.getD 22 zh,T.getD 23 zh,T.getD 24 zh,T.getD 25 zh,T.getD 26 zh,T.getD 27 zh,T.getD 28 zh,T.getD 29 zh,T.getD 30 zh,T.getD 31 zh,T.getD 32 zh,T.getD 33 zh,T.getD 34 zh,T.getD 35 zh,T.getD 36 zh,T.getD 37 zh,T.getD 38 zh]:=(qG T 39 h).trans (by kernel_rfl)
variable (F J N P H M K L I G d f g i j k l m n o b c a p q r s t u v w x y z A B C D E:Value) (S:zx)
theorem zK.r0 :jq zi ⟨false,false,false⟩ (zU zi O) (reg Try.f27 0) (reg Try.f27 0).toList ([F,J,N,P,H,M,K,L,I,G,d,f,g,i,j,k,l,m,n,o,b,c,a,p,q,r,s,t,u,v,w,x,y,z,A,B,C,D,E]) S =
  ( some ([F,J,Value.slice none 0 0,.int .i64 0,H,M,K,L,I,G,d,f,g,i,j,k,l,m,n,o,b,c,a,p,q,r,s,t,u,v,w,x,y,z,A,B,C,D,E],S)):=by
 kernel_rfl
theorem zK.r1 :jq zi ⟨false,false,false⟩ (zU zi O) (reg Try.f27 1) (reg Try.f27 1).toList ([F,J,N,P,H,M,K,L,I,G,d,f,g,i,j,k,l,m,n,o,b,c,a,p,q,r,s,t,u,v,w,x,y,z,A,B,C,D,E]) S =
  (zO ((zU zi O) 38 [(dem (dem F))] S) (fun R Q=>zO (aUn zi UnOp.not R Q) (fun U X=>some ([F,J,N,P,H,M,K,L,I,G,dem F,R,U,i,j,k,l,m,n,o,b,c,a,p,q,r,s,t,u,v,w,x,y,z,A,B,C,D,E],X)) ()) ()):=by
 kernel_rfl
theorem zK.r2 :jq zi ⟨false,false,false⟩ (zU zi O) (reg Try.f27 2) (reg Try.f27 2).toList ([F,J,N,P,H,M,K,L,I,G,d,f,g,i,j,k,l,m,n,o,b,c,a,p,q,r,s,t,u,v,w,x,y,z,A,B,C,D,E]) S =
  ( some ([F,J,Value.slice none 0 0,.int .i64 61,H,M,K,L,I,G,d,f,g,i,j,k,l,m,n,o,b,c,a,p,q,r,s,t,u,v,w,x,y,z,A,B,C,D,E],S)):=by
 kernel_rfl
theorem zK.r3 :jq zi ⟨false,false,false⟩ (zU zi O) (reg Try.f27 3) (reg Try.f27 3).toList ([F,J,N,P,H,M,K,L,I,G,d,f,g,i,j,k,l,m,n,o,b,c,a,p,q,r,s,t,u,v,w,x,y,z,A,B,C,D,E]) S =
  (zO (JI zi 27 (dem F) S) (fun R Q=>zO (jl zi 53 1 [(0,R)] Q) (fun U X=>zO ((zU zi O) 28 [(dem U)] X) (fun W Y=>zO (zF W 0 Y) (fun v5 Z=>zO (zF (zM 0 W) 1 Z) (fun v6 S5=>some ([F,J,N,P,v5,v6,K,L,I,G,d,f,g,zM 1 (zM 0 W),dem F,R,U,dem W,dem v5,dem v6,b,c,a,p,q,r,s,t,u,v,w,x,y,z,A,B,C,D,E],S5)) ()) ()) ()) ()) ()):=by
 kernel_rfl
theorem zK.r4 :jq zi ⟨false,false,false⟩ (zU zi O) (reg Try.f27 4) (reg Try.f27 4).toList ([F,J,N,P,H,M,K,L,I,G,d,f,g,i,j,k,l,m,n,o,b,c,a,p,q,r,s,t,u,v,w,x,y,z,A,B,C,D,E]) S =
  (zO (JI zi 27 (dem F) S) (fun R Q=>some ([F,J,N,P,H,M,K,L,I,G,d,f,g,i,j,k,l,m,n,o,dem F,R,.int .i64 0,p,q,r,s,t,u,v,w,x,y,z,A,B,C,D,E],Q)) ()):=by
 kernel_rfl
theorem zK.r5 :jq zi ⟨false,false,false⟩ (zU zi O) (reg Try.f27 5) (reg Try.f27 5).toList ([F,J,N,P,H,M,K,L,I,G,d,f,g,i,j,k,l,m,n,o,b,c,a,p,q,r,s,t,u,v,w,x,y,z,A,B,C,D,E]) S =
  (zO (wJ zi BinOp.lss 3 a c S) (fun V Q=>some ([F,J,N,P,H,M,K,L,I,G,d,f,g,i,j,k,l,m,n,o,b,c,a,V,q,r,s,t,u,v,w,x,y,z,A,B,C,D,E],Q)) ()):=by
 kernel_rfl
theorem zK.r6 :jq zi ⟨false,false,false⟩ (zU zi O) (reg Try.f27 6) (reg Try.f27 6).toList ([F,J,N,P,H,M,K,L,I,G,d,f,g,i,j,k,l,m,n,o,b,c,a,p,q,r,s,t,u,v,w,x,y,z,A,B,C,D,E]) S =
  (zO (jg zi 27 b a S) (fun V Q=>zO (jk zi false 47 V Q) (fun R X=>zO (yE zi 47 X) (fun U Y=>zO (wX zi 47 U (dem R) Y) (fun W Z=>some ([F,J,N,P,H,M,K,U,I,G,d,f,g,i,j,k,l,m,n,o,b,c,a,p,V,R,s,t,u,v,w,x,y,z,A,B,C,D,E],Z)) ()) ()) ()) ()):=by
 kernel_rfl
theorem zK.r7 :jq zi ⟨false,false,false⟩ (zU zi O) (reg Try.f27 7) (reg Try.f27 7).toList ([F,J,N,P,H,M,K,L,I,G,d,f,g,i,j,k,l,m,n,o,b,c,a,p,q,r,s,t,u,v,w,x,y,z,A,B,C,D,E]) S =
  (zO (jk zi false 47 L S) (fun V Q=>zO ((zU zi O) 39 [(dem V)] Q) (fun R X=>zO (zF R 0 X) (fun W Y=>zO (zF (zM 0 R) 1 Y) (fun v4 Z=>some ([F,J,N,P,H,M,K,L,W,v4,d,f,g,i,j,k,l,m,n,o,b,c,a,p,q,r,zM 1 (zM 0 R),V,dem R,dem W,dem v4,x,y,z,A,B,C,D,E],Z)) ()) ()) ()) ()):=by
 kernel_rfl
theorem zK.r8 :jq zi ⟨false,false,false⟩ (zU zi O) (reg Try.f27 8) (reg Try.f27 8).toList ([F,J,N,P,H,M,K,L,I,G,d,f,g,i,j,k,l,m,n,o,b,c,a,p,q,r,s,t,u,v,w,x,y,z,A,B,C,D,E]) S =
  (zO (wJ zi BinOp.neq 34 (dem G) (.int .i64 0) S) (fun R Q=>some ([F,J,N,P,H,M,K,L,I,G,d,f,g,i,j,k,l,m,n,o,b,c,a,p,q,r,s,t,u,v,w,dem G,R,z,A,B,C,D,E],Q)) ()):=by
 kernel_rfl
theorem zK.r9 :jq zi ⟨false,false,false⟩ (zU zi O) (reg Try.f27 9) (reg Try.f27 9).toList ([F,J,N,P,H,M,K,L,I,G,d,f,g,i,j,k,l,m,n,o,b,c,a,p,q,r,s,t,u,v,w,x,y,z,A,B,C,D,E]) S =
  ( some ([F,J,Value.slice none 0 0,G,H,M,K,L,I,dem G,d,f,g,i,j,k,l,m,n,o,b,c,a,p,q,r,s,t,u,v,w,x,y,dem G,A,B,C,D,E],S)):=by
 kernel_rfl
theorem zK.r10 :jq zi ⟨false,false,false⟩ (zU zi O) (reg Try.f27 10) (reg Try.f27 10).toList ([F,J,N,P,H,M,K,L,I,G,d,f,g,i,j,k,l,m,n,o,b,c,a,p,q,r,s,t,u,v,w,x,y,z,A,B,C,D,E]) S =
  (zO (jI zi 33 33 H (dem I) S) (fun U Q=>some ([F,J,N,P,U,M,K,L,I,G,d,f,g,i,j,k,l,m,n,o,b,c,a,p,q,r,s,t,u,v,w,x,y,z,dem H,dem I,dem U,D,E],Q)) ()):=by
 kernel_rfl
theorem zK.r11 :jq zi ⟨false,false,false⟩ (zU zi O) (reg Try.f27 11) (reg Try.f27 11).toList ([F,J,N,P,H,M,K,L,I,G,d,f,g,i,j,k,l,m,n,o,b,c,a,p,q,r,s,t,u,v,w,x,y,z,A,B,C,D,E]) S =
  (zO (wJ zi BinOp.add 3 a (.int .i64 1) S) (fun V Q=>some ([F,J,N,P,H,M,K,L,I,G,d,f,g,i,j,k,l,m,n,o,b,c,dem V,p,q,r,s,t,u,v,w,x,y,z,A,B,C,V,E],Q)) ()):=by
 kernel_rfl
theorem zK.r12 :jq zi ⟨false,false,false⟩ (zU zi O) (reg Try.f27 12) (reg Try.f27 12).toList ([F,J,N,P,H,M,K,L,I,G,d,f,g,i,j,k,l,m,n,o,b,c,a,p,q,r,s,t,u,v,w,x,y,z,A,B,C,D,E]) S =
  ( some ([F,J,H,.int .i64 0,dem H,M,K,L,I,G,d,f,g,i,j,k,l,m,n,o,b,c,a,p,q,r,s,t,u,v,w,x,y,z,A,B,C,D,dem H],S)):=by
 kernel_rfl
theorem zK.rs:type_of% (agH @zK.r0 (agH @zK.r1 (agH @zK.r2 (agH @zK.r3 (agH @zK.r4 (agH @zK.r5 (agH @zK.r6 (agH @zK.r7 (agH @zK.r8 (agH @zK.r9 (agH @zK.r10 (agH @zK.r11 (@zK.r12))))))))))))):=agH @zK.r0 (agH @zK.r1 (agH @zK.r2 (agH @zK.r3 (agH @zK.r4 (agH @zK.r5 (agH @zK.r6 (agH @zK.r7 (agH @zK.r8 (agH @zK.r9 (agH @zK.r10 (agH @zK.r11 (@zK.r12))))))))))))
theorem zK.runs {F:Value} {S Q:zx} {e:AEx} {T:List Value} (h:zI zi O false zK.code ([F,zh,zh,zh,zh,zh,zh,zh,zh,zh,zh,zh,zh,zh,zh,zh,zh,zh,zh,zh,zh,zh,zh,zh,zh,zh,zh,zh,zh,zh,zh,zh,zh,zh,zh,zh,zh,zh,zh]) zx.empty=some (e,T,Q)) (he:e=.normal∨e=.ret)  (h0:jB (T.getD 2 zh)=true) (h1:jB (T.getD 3 zh)=true) (hca:[F].all (zT 16)=true) (hcv:zT 16 (Value.tuple #[T.getD 2 zh,T.getD 3 zh])=true):zU zi O 27 [F] S=some (Value.tuple #[T.getD 2 zh,T.getD 3 zh],S) :=
 yB rfl rfl Try.func27 (by decide) zK.body (by exact h) he ((yG ((show zN zi T Q Try.f27.results.toList=zN zi T Q [(ResultVar.tmp 2),(ResultVar.tmp 3)] from by kernel_rfl).trans (by simp only [zN])) (by kernel_rfl) (by simp only [List.all_cons,List.all_nil,h0,h1,Bool.and_true])).trans rfl) hca hcv
end Go.Proofs.Ytgggklfbhmlapaa
namespace Go.Proofs.Ytgggklfbhmlapaa
open Go.Abs
abbrev jy.id:FuncId:=39
noncomputable def jy.code:Code:=(.seq (.region 0 (reg Try.f39 0) false) (.seq (.seq (.region 1 (reg Try.f39 1) false) (.cond (.tmp 8) (.seq (.region 2 (reg Try.f39 2) false) Code.ret) Code.skip)) (.seq (.region 3 (reg Try.f39 3) false) (.seq (.region 4 (reg Try.f39 4) false) Code.ret))))
theorem jy.body:Try.f39.body=some jy.code:=by kernel_rfl
variable (a m u v n o p q r s b c d f g i j k l:Value) (S:zx)
theorem jy.r0 :jq zi ⟨false,false,false⟩ (zU zi O) (reg Try.f39 0) (reg Try.f39 0).toList ([a,m,u,v,n,o,p,q,r,s,b,c,d,f,g,i,j,k,l]) S =
  (zO (Qg (dem a) S) (fun w t=>some ([a,w,Value.slice none 0 0,.int .i64 0,n,o,p,q,r,s,b,c,d,f,g,i,j,k,l],t)) ()):=by
 kernel_rfl
theorem jy.r1 :jq zi ⟨false,false,false⟩ (zU zi O) (reg Try.f39 1) (reg Try.f39 1).toList ([a,m,u,v,n,o,p,q,r,s,b,c,d,f,g,i,j,k,l]) S =
  (zO (jk zi false 47 m S) (fun w t=>zO ((zU zi O) 47 [(dem w)] t) (fun x A=>zO (aUn zi UnOp.not x A) (fun y B=>some ([a,m,u,v,n,o,w,x,y,s,b,c,d,f,g,i,j,k,l],B)) ()) ()) ()):=by
 kernel_rfl
theorem jy.r2 :jq zi ⟨false,false,false⟩ (zU zi O) (reg Try.f39 2) (reg Try.f39 2).toList ([a,m,u,v,n,o,p,q,r,s,b,c,d,f,g,i,j,k,l]) S =
  ( some ([a,m,Value.slice none 0 0,.int .i64 61,n,o,p,q,r,s,b,c,d,f,g,i,j,k,l],S)):=by
 kernel_rfl
theorem jy.r3 :jq zi ⟨false,false,false⟩ (zU zi O) (reg Try.f39 3) (reg Try.f39 3).toList ([a,m,u,v,n,o,p,q,r,s,b,c,d,f,g,i,j,k,l]) S =
  (zO (zS zi 47 m 0 S) (fun w t=>zO (jk zi false 3 w t) (fun x A=>zO (zS zi 47 m 1 A) (fun y B=>zO (jk zi false 3 y B) (fun C G=>zO (jl zi 53 2 [(0,x),(1,C)] G) (fun D H=>zO ((zU zi O) 28 [(dem D)] H) (fun z I=>zO (zF z 0 I) (fun E J=>zO (zF (zM 0 z) 1 J) (fun F K=>some ([a,m,u,v,E,F,p,q,r,zM 1 (zM 0 z),w,x,y,C,D,dem z,dem E,dem F,l],K)) ()) ()) ()) ()) ()) ()) ()) ()):=by
 kernel_rfl
theorem jy.r4 :jq zi ⟨false,false,false⟩ (zU zi O) (reg Try.f39 4) (reg Try.f39 4).toList ([a,m,u,v,n,o,p,q,r,s,b,c,d,f,g,i,j,k,l]) S =
  ( some ([a,m,n,.int .i64 0,dem n,o,p,q,r,s,b,c,d,f,g,i,j,k,dem n],S)):=by
 kernel_rfl
theorem jy.rs:type_of% (agH @jy.r0 (agH @jy.r1 (agH @jy.r2 (agH @jy.r3 (@jy.r4))))):=agH @jy.r0 (agH @jy.r1 (agH @jy.r2 (agH @jy.r3 (@jy.r4))))
theorem jy.runs {a:Value} {S t:zx} {e:AEx} {T:List Value} (h:zI zi O false jy.code ([a,zh,zh,zh,zh,zh,zh,zh,zh,zh,zh,zh,zh,zh,zh,zh,zh,zh,zh]) zx.empty=some (e,T,t)) (he:e=.normal∨e=.ret)  (h0:jB (T.getD 2 zh)=true) (h1:jB (T.getD 3 zh)=true) (hca:[a].all (zT 16)=true) (hcv:zT 16 (Value.tuple #[T.getD 2 zh,T.getD 3 zh])=true):zU zi O 39 [a] S=some (Value.tuple #[T.getD 2 zh,T.getD 3 zh],S) :=
 yB rfl rfl Try.func39 (by decide) jy.body (by exact h) he ((yG ((show zN zi T t Try.f39.results.toList=zN zi T t [(ResultVar.tmp 2),(ResultVar.tmp 3)] from by kernel_rfl).trans (by simp only [zN])) (by kernel_rfl) (by simp only [List.all_cons,List.all_nil,h0,h1,Bool.and_true])).trans rfl) hca hcv
end Go.Proofs.Ytgggklfbhmlapaa
namespace Go.Proofs.Ytgggklfbhmlapaa
open Go.Abs
abbrev zZ.id:FuncId:=45
noncomputable def zZ.code:Code:=(.seq (.region 0 (reg Try.f45 0) false) (.seq (.region 1 (reg Try.f45 1) false) (.seq (.seq (.region 2 (reg Try.f45 2) false) (.cond (.tmp 16) (.seq (.region 3 (reg Try.f45 3) false) Code.ret) Code.skip)) (.seq (.region 4 (reg Try.f45 4) true) (.seq (.region 5 (reg Try.f45 5) true) Code.ret)))))
theorem zZ.body:Try.f45.body=some zZ.code:=by kernel_rfl
variable (c E C H I b z D A F d f g i j k l m n o p q r s t u w x y:Value) (S:zx)
theorem zZ.r0 :jq zi ⟨false,false,false⟩ (zU zi O) (reg Try.f45 0) (reg Try.f45 0).toList ([c,E,C,H,I,b,z,D,A,F,d,f,g,i,j,k,l,m,n,o,p,q,r,s,t,u,w,x,y]) S =
  (zO (yE zi 47 S) (fun J a=>some ([c,E,J,Value.slice none 0 0,Value.bool false,b,z,D,A,F,d,f,g,i,j,k,l,m,n,o,p,q,r,s,t,u,w,x,y],a)) ()):=by
 kernel_rfl
theorem zZ.r1 :jq zi ⟨false,false,false⟩ (zU zi O) (reg Try.f45 1) (reg Try.f45 1).toList ([c,E,C,H,I,b,z,D,A,F,d,f,g,i,j,k,l,m,n,o,p,q,r,s,t,u,w,x,y]) S =
  (zO ((zU zi O) 33 [(dem (dem c)),(.int .i64 2)] S) (fun B a=>zO (zF B 0 a) (fun N K=>zO (zF (zM 0 B) 1 K) (fun G L=>zO (zF (zM 1 (zM 0 B)) 2 L) (fun P Q=>some ([c,E,C,H,I,N,G,P,A,zM 2 (zM 1 (zM 0 B)),dem c,dem B,dem N,dem G,dem P,k,l,m,n,o,p,q,r,s,t,u,w,x,y],Q)) ()) ()) ()) ()):=by
 kernel_rfl
theorem zZ.r2 :jq zi ⟨false,false,false⟩ (zU zi O) (reg Try.f45 2) (reg Try.f45 2).toList ([c,E,C,H,I,b,z,D,A,F,d,f,g,i,j,k,l,m,n,o,p,q,r,s,t,u,w,x,y]) S =
  (zO (wJ zi BinOp.neq 34 (dem D) (.int .i64 0) S) (fun B a=>some ([c,E,C,H,I,b,z,D,A,F,d,f,g,i,j,dem D,B,m,n,o,p,q,r,s,t,u,w,x,y],a)) ()):=by
 kernel_rfl
theorem zZ.r3 :jq zi ⟨false,false,false⟩ (zU zi O) (reg Try.f45 3) (reg Try.f45 3).toList ([c,E,C,H,I,b,z,D,A,F,d,f,g,i,j,k,l,m,n,o,p,q,r,s,t,u,w,x,y]) S =
  (zO (wQ zi 47 [] S) (fun J a=>zO (wX zi 47 C (dem J) a) (fun B K=>some ([c,E,C,Value.slice none 0 0,Value.bool false,b,z,D,A,F,d,f,g,i,j,k,l,J,n,o,p,q,r,s,t,u,w,x,y],K)) ()) ()):=by
 kernel_rfl
theorem zZ.d4:qQ zi (reg Try.f45 4)=true:=by kernel_rfl
theorem zZ.ff4:fixed zi (reg Try.f45 4)=false:=by kernel_rfl
theorem zZ.k4:checked zi (reg Try.f45 4)=[0,1,2,3,4,5,6]:=by kernel_rfl
theorem zZ.g4:again zi (reg Try.f45 4)=[(2,7),(5,7)]:=by kernel_rfl
theorem zZ.r4 :zI zi O false (.region 4 (reg Try.f45 4) true) ([c,E,C,H,I,b,z,D,A,F,d,f,g,i,j,k,l,m,n,o,p,q,r,s,t,u,w,x,y]) S =
  QM (okK b ( zO (jg zi 53 (dem b) (.int .i64 0) S) (fun B a=>okK B ( zO (jk zi false 3 B a) (fun M K=>okK M ( okK b ( zO (jg zi 53 (dem b) (.int .i64 1) K) (fun G L=>okK G ( zO (jk zi false 3 G L) (fun P Q=>okK P ( zO (wQ zi 47 [(0,(dem M)),(1,(dem P))] Q) (fun R W=>okK R ( zO (yE zi 47 W) (fun V U=>zO (wX zi 47 V (dem R) U) (fun Y X=>ckK (jY B a U && (jY G L U && (true))) (some ([c,E,C,H,I,b,z,D,V,F,d,f,g,i,j,k,l,m,dem b,B,M,dem b,G,P,R,u,w,x,y],X)) ()) ()) ()) ()) ()) ()) ()) ()) ()) ()) ()) ()) ()) ()) ()):=by
 rw [yX zZ.d4 zZ.ff4 zZ.k4 zZ.g4]
 refine congrArg QM ?_
 refine uPC Try.f45 4 0 (v:=b) (pe:=zh) ?_
 refine uDC Try.f45 4 1 (pe:=zh) (fun B a=>?_)
 refine uDC Try.f45 4 2 (pe:=B) (fun M K=>?_)
 refine uPC Try.f45 4 3 (v:=b) (pe:=zh) ?_
 refine uDC Try.f45 4 4 (pe:=zh) (fun G L=>?_)
 refine uDC Try.f45 4 5 (pe:=G) (fun P Q=>?_)
 refine uDC Try.f45 4 6 (pe:=zh) (fun R W=>?_)
 refine uD Try.f45 4 7 (pe:=zh) (fun V U=>?_)
 refine uD Try.f45 4 8 (pe:=zh) (fun Y X=>?_)
 kernel_rfl
theorem zZ.d5:qQ zi (reg Try.f45 5)=true:=by kernel_rfl
theorem zZ.ff5:fixed zi (reg Try.f45 5)=false:=by kernel_rfl
theorem zZ.k5:checked zi (reg Try.f45 5)=[0,1,1]:=by kernel_rfl
theorem zZ.g5:again zi (reg Try.f45 5)=[(0,3)]:=by kernel_rfl
theorem zZ.r5 :zI zi O false (.region 5 (reg Try.f45 5) true) ([c,E,C,H,I,b,z,D,A,F,d,f,g,i,j,k,l,m,n,o,p,q,r,s,t,u,w,x,y]) S =
  QM (zO (jk zi false 47 A S) (fun J a=>okK J ( okK z ( zO (jk zi false 47 A a) (fun M K=>zO ((zU zi O) 47 [(dem M)] K) (fun N L=>zO (wX zi 47 C (dem J) L) (fun G Q=>ckK (jY A S L && (true)) (some ([c,E,C,z,N,b,dem z,D,A,F,d,f,g,i,j,k,l,m,n,o,p,q,r,s,t,J,dem z,M,dem N],Q)) ()) ()) ()) ()) ()) ()) ()):=by
 rw [yX zZ.d5 zZ.ff5 zZ.k5 zZ.g5]
 refine congrArg QM ?_
 refine uDC Try.f45 5 0 (pe:=A) (fun J a=>?_)
 refine uPC Try.f45 5 1 (v:=z) (pe:=zh) ?_
 refine uD Try.f45 5 2 (pe:=A) (fun M K=>?_)
 refine uD Try.f45 5 3 (pe:=zh) (fun N L=>?_)
 refine uD Try.f45 5 4 (pe:=zh) (fun G Q=>?_)
 refine uP Try.f45 5 5 (v:=z) (pe:=zh) ?_
 refine uP Try.f45 5 6 (v:=N) (pe:=zh) ?_
 kernel_rfl
theorem zZ.rs:type_of% (agH @zZ.r0 (agH @zZ.r1 (agH @zZ.r2 (agH @zZ.r3 (agH @zZ.r4 (@zZ.r5)))))):=agH @zZ.r0 (agH @zZ.r1 (agH @zZ.r2 (agH @zZ.r3 (agH @zZ.r4 (@zZ.r5)))))
theorem zZ.runs {c:Value} {S a:zx} {e:AEx} {T:List Value} (h:zI zi O false zZ.code ([c,zh,zh,zh,zh,zh,zh,zh,zh,zh,zh,zh,zh,zh,zh,zh,zh,zh,zh,zh,zh,zh,zh,zh,zh,zh,zh,zh,zh]) zx.empty=some (e,T,a)) (he:e=.normal∨e=.ret) {w0:Value} (c0:jk zi false 47 (T.getD 2 zh) a=some (w0,a)) (h0:jB (w0)=true) (h1:jB (T.getD 3 zh)=true) (h2:jB (T.getD 4 zh)=true) (hca:[c].all (zT 16)=true) (hcv:zT 16 (Value.tuple #[w0,T.getD 3 zh,T.getD 4 zh])=true):zU zi O 45 [c] S=some (Value.tuple #[w0,T.getD 3 zh,T.getD 4 zh],S) :=
 yB rfl rfl Try.func45 (by decide) zZ.body (by exact h) he ((yG ((show zN zi T a Try.f45.results.toList=zN zi T a [(ResultVar.cell 2 47),(ResultVar.tmp 3),(ResultVar.tmp 4)] from by kernel_rfl).trans (by simp only [zN,c0])) (by kernel_rfl) (by simp only [List.all_cons,List.all_nil,h0,h1,h2,Bool.and_true])).trans rfl) hca hcv
end Go.Proofs.Ytgggklfbhmlapaa
