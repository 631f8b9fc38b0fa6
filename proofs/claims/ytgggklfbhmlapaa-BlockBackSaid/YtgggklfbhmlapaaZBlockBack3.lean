/-
The law BlockBack returns true for every input, and leaves it as it was; no condition. Part 3 of 4 of the texts (put together by a program: own names are short, what isn't needed is left out).
-/
import Derived.Test.YtgggklfbhmlapaaZBlockBack2
import Derived.KernelRfl
import Derived.Test.YtgggklfbhmlapaaChecked
set_option linter.unusedVariables false
set_option linter.unusedSimpArgs false
set_option maxRecDepth 100000
open Go renaming undef → zh
open Go.Proofs.Try renaming prog → zi
open Nat renaming reduceEqDiff → zk
open Int renaming reduceEq → zn
open Int renaming reduceLT → zo
open Int renaming reduceLE → zq
namespace Go.Abs
open Go.RowKit
def Ji (P:Program) (call:FuncId→List Value→M Value):Prop:=∀ g args aargs S v S',call g args S=some (v,S')→∀ μ H ω,GI μ S H→L0 μ H args aargs→Dom μ H ω→(∀ r s,ω r=some s→s=.ext) →
 ∃ a H' μ' ω',lim P g aargs H=some (a,H')∧GI μ' S' H'∧Later μ H μ' H'∧Kept ω H ω' H'∧Dom μ' H' ω'∧VV μ' H' ω' (some (.res none)) v a
section
variable {P:Program} {call:FuncId→List Value→M Value} {μ:Mu} {ω:Nat→Option wP} {S S' H:zx} {T A:List Value}
theorem acT (hc:Ji P call) {g:FuncId} {args aargs:List Value} {v:Value} (hG:GI μ S H) (hT:TI μ H ω T A) (h:call g args S=some (v,S')) (ha:L0 μ H args aargs):Out μ ω H A T S' v (lim P g aargs H):=by
 obtain ⟨a,H',μ',ω',h1,h2,h3,h4,h5,h6⟩:=hc g args aargs S v S' h μ H (fun r=>(ω r).map fun _=>.ext) hG ha (fun r s hs=>by
  cases hr:ω r with
  | none=>simp [hr] at hs
  | some s0=>exact hT.dom r s0 hr) (fun r s hs=>by
  cases hr:ω r with
  | none=>simp [hr] at hs
  | some s0=>simp [hr] at hs;exact hs.symm)
 have kept:∀ r s,ω r=some s→ω' r=some .ext∧H'.get r=H.get r:=fun r s hs=>h4 r (by dsimp only;rw [hs];rfl)
 refine ⟨a,H',μ',fun r=>match ω' r with | some .ext=>ω r | some (.slot _ _)=>none | x=>x,h1,h2,h3,fun r hr=>?_,fun r s hs=>?_,hT.len,fun i=>?_,?_⟩
 ·
  obtain ⟨k1,k2⟩:=kept r _ hr
  exact ⟨by (try dsimp only);rw [k1];exact hr,k2⟩
 ·
  dsimp only at hs
  cases hr:ω' r with
  | none=>rw [hr] at hs;cases hs
  | some s0 =>
   have:=h5 r s0 hr
   exact this
 ·
  refine (hT.slots i).later h3 (K:=fun _=>True) (fun _ _ _ _ _=>trivial) (fun r s _ hr=>?_) (fun _ _=>trivial)
  obtain ⟨k1,k2⟩:=kept r s hr
  exact ⟨by (try dsimp only);rw [k1];exact hr,k2⟩
 ·
  refine h6.later (Later.refl _ _) (K:=fun s=>∃ j,s=.res j) (fun s i t ⟨j,hj⟩ ht=>by subst hj;cases j <;> cases ht;exact ⟨_,rfl⟩) (fun r s ⟨j,hj⟩ hr=>?_) (fun s hs=>by cases hs;exact ⟨_,rfl⟩)
  subst hj
  exact ⟨by (try dsimp only);rw [hr],rfl⟩
def Zw (t:Nat):wP→Option wP
 | .slot i j=>if i=t then some (.res j) else some (.slot i j)
 | s=>some s
def Jr (t k:Nat):wP→Option wP
 | .slot i (some j)=>if i=t∧j=k then some (.res none) else some (.slot i (some j))
 | s=>some s
theorem XV {x:Operand} (hG:GI μ S H) (hT:TI μ H ω T A) (hx:yL x=true):Out μ ω H A (wo T x) S (zQ T x) (some (zQ A x,H)):=by
 cases x with
 | const v=>exact Out.same hG hT (VV.wC hx)
 | global g=>cases hx
 | func f=>exact Out.same hG hT (hT.eval (x:=.func f) rfl)
 | tmp t =>
  refine ⟨_,H,μ,fun r=>(ω r).bind (Zw t),rfl,hG,Later.refl μ H,fun r hr=>⟨by dsimp only;rw [hr];rfl,rfl⟩,fun r s hs=>?_,by simp [wo,yI,hT.len],fun i=>?_,?_⟩
  ·
   dsimp only at hs
   cases hr:ω r with
   | none=>rw [hr] at hs;cases hs
   | some s0=>exact hT.dom r s0 hr
  ·
   dsimp only [wo,yI]
   rw [wU]
   by_cases hi:i=t
   ·
    subst hi
    by_cases hlt:i < T.length
    ·
     rw [if_pos ⟨rfl,hlt⟩]
     exact (hT.slots i).v0.at0
    ·
     rw [if_neg (fun h=>hlt h.2)]
     rw [List.getD_eq_getElem?_getD,List.getElem?_eq_none (Nat.le_of_not_lt hlt),List.getD_eq_getElem?_getD,List.getElem?_eq_none (by rw [← hT.len];omega)]
     exact .nores
   ·
    rw [if_neg (fun h=>hi h.1)]
    refine (hT.slots i).Qa (fun _=>rfl) _ (fun s hs=>?_)
    cases hs
    refine ⟨_,rfl,by simp only [Zw];rw [if_neg hi],fun k t' ht=>?_⟩
    cases ht
    exact ⟨_,rfl,by simp only [Zw];rw [if_neg hi]⟩
  ·
   refine (hT.slots t).Qa (fun _=>rfl) _ (fun s hs=>?_)
   cases hs
   refine ⟨_,rfl,by simp only [Zw,if_true],fun k t' ht=>?_⟩
   cases ht
   exact ⟨_,rfl,by simp only [Zw,if_true]⟩
theorem getD_modify (vs:Array Value) (i k:Nat) (f:Value→Value) (hf:f zh=zh):(vs.modify i f).getD k zh=if k=i then f (vs.getD k zh) else vs.getD k zh:=by
 rw [Array.getD_eq_getD_getElem?,Array.getD_eq_getD_getElem?,Array.getElem?_modify]
 by_cases h:i=k
 ·
  subst h
  rw [if_pos rfl,if_pos rfl]
  cases vs[i]? with
  | none=>exact hf.symm
  | some v=>rfl
 ·
  rw [if_neg h,if_neg (fun e=>h e.symm)]
theorem VV.part {ω':Nat→Option wP} {ℓ ℓ':Option wP} {v a:Value} (h:VV μ H ω ℓ v a) (hℓ:∀ s,ℓ=some s→∀ k,s.comp k=none):VV μ H ω' ℓ' (Go.Abs.qF v) a:=by
 by_cases ht:∃ x,v=.tuple x
 ·
  obtain ⟨x,rfl⟩:=ht
  show VV μ H ω' ℓ' (.tuple x) a
  cases h with
  | sg hs=>simp [Go.Abs.sg] at hs
  | nores=>exact .nores
  | tuple hx hh =>
   refine .tuple hx fun i=>?_
   have:=hh i
   cases ℓ with
   | none=>exact this.at0
   | some s =>
    have e:(some s).bind (·.comp i)=none:=hℓ s rfl i
    rw [e] at this
    exact this.at0
 ·
  have e:Go.Abs.dem v=Go.Abs.qF v:=by
   cases v <;> first | rfl | exact absurd ⟨_,rfl⟩ ht
  rw [← e]
  exact h.v0.at0
def ZN (T:List Value) (i:Nat):Operand→List Value
 | .tmp t=>T.set t (zL i (T.getD t zh))
 | _=>T
theorem Xw {x:Operand} {i:Nat} {v:Value} (hG:GI μ S H) (hT:TI μ H ω T A) (hx:yL x=true) (h:zG (zQ T x) i S=some (v,S')) :
  Out μ ω H A (ZN T i x) S' v (zG (zQ A x) i H):=by
 cases x with
 | const w =>
  exfalso
  unfold zG at h
  split at h
  ·
   rename_i vs he
   simp only [zQ] at he
   subst he
   simp [yL,ground,Go.Abs.sg] at hx
  ·
   cases h
 | global g=>cases hx
 | func f=>simp [zQ,zG] at h
 | tmp t =>
  simp only [zQ,ZN] at h ⊢
  unfold zG at h
  split at h
  ·
   rename_i vs hvs
   split at h <;> first | (cases h;done) | skip
   rename_i w hw
   cases h
   have hs:=hT.slots t
   rw [hvs] at hs
   have hil:i < vs.size:=(Array.getElem?_eq_some_iff.1 hw).1
   have hlt:t < T.length:=by
    rcases Nat.lt_or_ge t T.length with h | h
    ·
     exact h
    ·
     rw [List.getD_eq_getElem?_getD,List.getElem?_eq_none h] at hvs
     cases hvs
     simp at hil
   generalize hA:A.getD t zh=at' at hs
   cases hs with
   | sg hs=>simp [Go.Abs.sg] at hs
   | nores=>simp at hil
   | @tuple _ _ y hxs hxx =>
    have hiy:i < y.size:=by rw [← hxs];exact hil
    have hrun:zG (.tuple y) i H=some (y[i],H):=by simp only [zG,Array.getElem?_eq_getElem hiy]
    rw [hrun]
    have hcomp:=hxx i
    rw [Array.getD_eq_getD_getElem?,hw,Array.getD_eq_getD_getElem?,Array.getElem?_eq_getElem hiy] at hcomp
    simp only [Option.getD_some] at hcomp
    refine ⟨_,H,μ,fun r=>(ω r).bind (Jr t i),rfl,hG,Later.refl μ H,fun r hr=>⟨by dsimp only;rw [hr];rfl,rfl⟩,fun r s hs=>?_,by simp [hT.len],fun k=>?_,?_⟩
    ·
     dsimp only at hs
     cases hr:ω r with
     | none=>rw [hr] at hs;cases hs
     | some s0=>exact hT.dom r s0 hr
    ·
     rw [wU]
     by_cases hk:k=t
     ·
      subst hk
      rw [if_pos ⟨rfl,hlt⟩,hA,hvs]
      simp only [zL]
      refine .tuple (by simpa using hxs) fun j=>?_
      rw [getD_modify _ _ _ _ rfl]
      by_cases hj:j=i
      ·
       subst hj
       rw [if_pos rfl]
       exact (hxx j).part (fun s hs k=>by cases hs;rfl)
      ·
       rw [if_neg hj]
       refine (hxx j).Qa (fun _=>rfl) _ (fun s hs=>?_)
       cases hs
       refine ⟨_,rfl,by simp only [Jr];rw [if_neg (fun e=>hj e.2)],fun a b hb=>by cases hb⟩
     ·
      rw [if_neg (fun e=>hk e.1)]
      refine (hT.slots k).Qa (fun _=>rfl) _ (fun s hs=>?_)
      cases hs
      refine ⟨_,rfl,rfl,fun a b hb=>?_⟩
      cases hb
      exact ⟨_,rfl,by simp only [Jr];rw [if_neg (fun e=>hk e.1)]⟩
    ·
     refine hcomp.Qa (fun _=>rfl) _ (fun s hs=>?_)
     cases hs
     exact ⟨_,rfl,by simp [Jr],fun a b hb=>by cases hb⟩
  ·
   cases h
theorem afg (hT:TI μ H ω T A):∀ (xs:List Operand),xs.all yL=true→L0 μ H (xs.map fun x=>dem (zQ T x)) (xs.map (zQ A)):=by
 intro xs h
 exact LV.map fun x hx=>hT.eval (List.all_eq_true.1 h x hx)
theorem Wu {xs:List Operand} (hT:TI μ H ω T A) (h:xs.all yL=true) (hg:(xs.map (zQ T)).all ground=true):xs.map (zQ A)=xs.map (zQ T):=by
 apply List.map_congr_left
 intro x hx
 exact je (hT.eval (List.all_eq_true.1 h x hx)) (List.all_eq_true.1 hg _ (List.mem_map.2 ⟨x,hx,rfl⟩))
theorem adW {o:Oper} (h:hands o=false) (hc:∀ c,o.op≠.call c):moved o T=T:=by
 unfold moved
 unfold hands at h
 split <;> first | rfl | (rename_i he;exact absurd he (hc _)) | (rename_i he;rw [he] at h;cases h)
theorem adS {fx:Fx} (hc:Ji P call) {o:Oper} {v:Value} (hG:GI μ S H) (hT:TI μ H ω T A) (h:wB P fx call T o S=some (v,S')):Out μ ω H A (moved o T) S' v (wG P (lim P) A o H):=by
 unfold wB at h
 split at h <;> first | (cases h;done) | skip
 rename_i hok
 unfold wG
 rw [if_pos hok]
 have hargs:o.op.operands.toList.all yL=true:=hok
 have hev:∀ x ∈ o.op.operands.toList,V0 μ H (dem (zQ T x)) (zQ A x):=fun x hx=>hT.eval (List.all_eq_true.1 hargs x hx)
 have hoka:∀ x ∈ o.op.operands.toList,yL x=true:=fun x hx=>List.all_eq_true.1 hargs x hx
 obtain ⟨dst,op,type,pos,after,guard⟩:=o
 by_cases hcall:∃ c,op=.call c
 ·
  obtain ⟨c,rfl⟩:=hcall
  dsimp only at h hev hoka hargs ⊢
  have hcargs:c.args.toList.all yL=true:=by
   rw [List.all_eq_true]
   intro x hx
   refine hoka x ?_
   simp only [Op.operands,Call.operands]
   cases c.callee <;> simp <;> first | exact .inr (by simpa using hx) | exact (by simpa using hx)
  cases hcal:c.callee with
  | value f =>
   rw [hcal] at h
   dsimp only at h ⊢
   have hf:=hev f (by simp [Op.operands,Call.operands,hcal])
   split at h <;> first | (cases h;done) | skip
   rename_i g first captured hfe
   rw [hfe] at hf
   have hf:V0 μ H (.func (.func g) first captured) (zQ A f):=hf
   generalize hfa:zQ A f=fa at hf
   cases hf with
   | sg hs=>simp [Go.Abs.sg] at hs
   | func _ hx hcs h1 h2 =>
    rename_i x' c'
    dsimp only
    have l1:L0 μ H first.toList x'.toList:=⟨by simpa using hx,fun i=>by rw [getD_toList,getD_toList];exact h1 i⟩
    have l2:L0 μ H captured.toList c'.toList:=⟨by simpa using hcs,fun i=>by rw [getD_toList,getD_toList];exact h2 i⟩
    have hm:moved ⟨dst,.call c,type,pos,after,guard⟩ T=T:=by simp only [moved,hcal]
    rw [hm]
    exact acT hc hG hT h ((l1.append (afg hT _ hcargs)).append l2)
  | invoke r m=>rw [hcal] at h;cases h
  | builtin b =>
   rw [hcal] at h
   dsimp only at h ⊢
   unfold Y3 at h
   unfold qy
   cases b <;> dsimp only at h ⊢ <;> first | (cases h;done) | skip
   case len =>
    split at h <;> first | (cases h;done) | skip
    rename_i t x0 ht ha
    obtain ⟨x,hx,rfl⟩:∃ x,c.args.toList=[x]∧zQ T x=x0:=by
     match hl:c.args.toList with
     | []=>rw [hl] at ha;cases ha
     | [y]=>rw [hl] at ha;simp at ha;exact ⟨y,rfl,ha⟩
     | y::z::w=>rw [hl] at ha;simp at ha
    have hm:moved ⟨dst,.call c,type,pos,after,guard⟩ T=T:=by simp only [moved,hcal]
    rw [hm,ht,hx]
    rw [hx] at hcargs
    obtain ⟨rfl,a,h1,h2⟩:=ab4 h (hT.eval (List.all_eq_true.1 hcargs x (by simp)))
    simp only [List.map_cons,List.map_nil]
    rw [h1]
    exact Out.same hG hT h2
   case append =>
    split at h <;> first | (cases h;done) | skip
    rename_i t tx s0 x0 ht ha
    obtain ⟨so,x,hx,rfl,rfl⟩:∃ so x,c.args.toList=[so,x]∧zQ T so=s0∧zQ T x=x0:=by
     match hl:c.args.toList with
     | []=>rw [hl] at ha;cases ha
     | [y]=>rw [hl] at ha;simp at ha
     | [y,z]=>rw [hl] at ha;simp at ha;exact ⟨y,z,rfl,ha.1,ha.2⟩
     | y::z::w::u=>rw [hl] at ha;simp at ha
    rw [hx] at hcargs
    have hso:=List.all_eq_true.1 hcargs so (by simp)
    have hm:moved ⟨dst,.call c,type,pos,after,guard⟩ T=wo T so:=by
     simp only [moved,hcal,hx]
     cases so <;> rfl
    rw [hm,ht,hx]
    exact V5 hG hT hso h (hT.eval (List.all_eq_true.1 hcargs x (by simp)))
   case copy =>
    split at h <;> first | (cases h;done) | skip
    rename_i t tx s0 x0 ht ha
    obtain ⟨so,x,hx,rfl,rfl⟩:∃ so x,c.args.toList=[so,x]∧zQ T so=s0∧zQ T x=x0:=by
     match hl:c.args.toList with
     | []=>rw [hl] at ha;cases ha
     | [y]=>rw [hl] at ha;simp at ha
     | [y,z]=>rw [hl] at ha;simp at ha;exact ⟨y,z,rfl,ha.1,ha.2⟩
     | y::z::w::u=>rw [hl] at ha;simp at ha
    rw [hx] at hcargs
    have hm:moved ⟨dst,.call c,type,pos,after,guard⟩ T=T:=by simp only [moved,hcal]
    rw [hm,ht,hx]
    exact ac2 hG hT h (hT.eval (List.all_eq_true.1 hcargs so (by simp))) (hT.eval (List.all_eq_true.1 hcargs x (by simp)))
   case clear =>
    split at h <;> first | (cases h;done) | skip
    rename_i t x0 ht ha
    obtain ⟨x,hx,rfl⟩:∃ x,c.args.toList=[x]∧zQ T x=x0:=by
     match hl:c.args.toList with
     | []=>rw [hl] at ha;cases ha
     | [y]=>rw [hl] at ha;simp at ha;exact ⟨y,rfl,ha⟩
     | y::z::w=>rw [hl] at ha;simp at ha
    have hm:moved ⟨dst,.call c,type,pos,after,guard⟩ T=T:=by simp only [moved,hcal]
    rw [hm,ht,hx]
    rw [hx] at hcargs
    exact aaH hG hT h (hT.eval (List.all_eq_true.1 hcargs x (by simp)))
   case min =>
    obtain ⟨rfl,hg,hga,hh⟩:=jV (H:=H) h
    have hm:moved ⟨dst,.call c,type,pos,after,guard⟩ T=T:=by simp only [moved,hcal]
    rw [hm,Wu hT hcargs hga,hh]
    exact Out.same hG hT (V0.ground hg)
   case max =>
    obtain ⟨rfl,hg,hga,hh⟩:=jV (H:=H) h
    have hm:moved ⟨dst,.call c,type,pos,after,guard⟩ T=T:=by simp only [moved,hcal]
    rw [hm,Wu hT hcargs hga,hh]
    exact Out.same hG hT (V0.ground hg)
 ·
  have hnc:∀ c,op≠.call c:=fun c hc=>hcall ⟨c,hc⟩
  have hV:vOp P fx (zQ T) ⟨dst,op,type,pos,after,guard⟩ S=some (v,S'):=by
   cases op <;> first | exact h | exact absurd rfl (hnc _)
  suffices hs:Out μ ω H A (moved ⟨dst,op,type,pos,after,guard⟩ T) S' v (aOp P (zQ A) ⟨dst,op,type,pos,after,guard⟩ H) by
   cases op <;> first | exact hs | exact absurd rfl (hnc _)
  by_cases hh:hands ⟨dst,op,type,pos,after,guard⟩=true
  ·
   cases op <;> first | (cases hh;done) | skip
   case move x =>
    cases hV
    have:=XV hG hT (hoka x (by simp [Op.operands]))
    have hm:moved ⟨dst,.move x,type,pos,after,guard⟩ T=wo T x:=by cases x <;> rfl
    rw [hm];exact this
   case assign x =>
    cases hV
    have:=XV hG hT (hoka x (by simp [Op.operands]))
    have hm:moved ⟨dst,.assign x,type,pos,after,guard⟩ T=wo T x:=by cases x <;> rfl
    rw [hm];exact this
   case extract x i =>
    have:=Xw hG hT (hoka x (by simp [Op.operands])) hV
    have hm:moved ⟨dst,.extract x i,type,pos,after,guard⟩ T=(ZN T i x):=by cases x <;> rfl
    rw [hm];exact this
  ·
   have hh:hands ⟨dst,op,type,pos,after,guard⟩=false:=by simpa using hh
   rw [adW hh hnc]
   by_cases hch:xO P ⟨dst,op,type,pos,after,guard⟩=false
   ·
    obtain ⟨rfl,a,h1,h2,h3⟩:=Qm hV hch hev (.inr hG) (.inr hG)
    rw [h1]
    exact Out.same hG hT (h3 hh)
   ·
    unfold vOp at hV
    unfold aOp
    cases op <;> dsimp only at hV hev ⊢ <;> first | (cases hV;done) | (exact absurd rfl hch) | (cases hh;done) | skip
    case alloc e=>exact aaM hG hT hV
    case box x _=>exact afe hG hT hV (hev x (by simp [Op.operands]))
    case buildSlice t len parts _ =>
     have hps:=QZ (μ:=μ) (H:=H) (parts:=parts.toList) (ρ:=zQ T) (ρA:=zQ A) fun p hp=>hev p.2 (by simp [Op.operands];exact ⟨p.1,by simpa using hp⟩)
     split at hV
     ·
      exact Qz hG hT hV hps
     ·
      exact WB hG hT hV hps
    case makeMap t r _=>exact Xr hG hT hV (fun h=>by cases r <;> simp at h ⊢)
    case mapUpdate t x k w _=>exact YU hG hT hV (hev x (by simp [Op.operands])) (hev k (by simp [Op.operands])) (hev w (by simp [Op.operands]))
    case store a x _=>exact abT hG hT hV (hev a (by simp [Op.operands])) (hev x (by simp [Op.operands]))
    case makeSlice l c _ =>
     split at hV
     ·
      exact KH hG hT hV (hev l (by simp [Op.operands])) (hev c (by simp [Op.operands]))
     ·
      exact Yy hG hT hV (hev l (by simp [Op.operands])) (hev c (by simp [Op.operands]))
    case convert dst' x _ =>
     have hd:∃ e,P.underlying dst'=some (.slice e):=by
      unfold xO at hch
      dsimp only at hch
      split at hch
      ·
       exact ⟨_,by assumption⟩
      ·
       exact absurd rfl hch
     obtain ⟨e,hd⟩:=hd
     cases x with
     | tmp t=>exact JY hG hT hV (hT.slots t) hd
     | const w=>exact JY hG hT hV (VV.wC (ℓ:=none) (hoka (.const w) (by simp [Op.operands]))) hd
     | global g=>have:=hoka (.global g) (by simp [Op.operands]);cases this
     | func f=>exact JY hG hT hV (ℓ:=none) ((hT.eval (x:=.func f) rfl).at0) hd
theorem ab1 {ops:Array Oper} (hT:TI μ H ω T A) (j:Nat):ynd ops T j=ynd ops A j:=by
 unfold ynd
 cases hd:(ops[j]?).bind (·.dst) with
 | none=>rfl
 | some d =>
  simp only [Option.bind_some]
  have:=hT.slots d
  have e:=hT.len
  by_cases hlt:d < T.length
  ·
   have hlt':d < A.length:=by rw [← e];exact hlt
   simp only [List.getD_eq_getElem?_getD,List.getElem?_eq_getElem hlt,List.getElem?_eq_getElem hlt',Option.getD_some] at this
   rw [List.getElem?_eq_getElem hlt,List.getElem?_eq_getElem hlt']
   generalize T[d]=u at *
   generalize A[d]=u' at *
   cases this <;> rfl
  ·
   have hlt':A.length≤d:=by rw [← e];exact Nat.le_of_not_lt hlt
   rw [List.getElem?_eq_none (Nat.le_of_not_lt hlt),List.getElem?_eq_none hlt']
theorem TI.moved (hT:TI μ H ω T A) (o:Oper):TI μ H ω (moved o T) A:=by
 have slot:∀ t,TI μ H ω (yI T t) A:=by
  intro t
  refine ⟨by simp [yI,hT.len],fun i=>?_,hT.dom,hT.nores⟩
  rw [yI,wU]
  split
  ·
   rename_i h;rw [h.1];exact (hT.slots t).dem
  ·
   exact hT.slots i
 unfold Go.Abs.moved
 split
 ·
  exact slot _
 ·
  exact slot _
 ·
  rename_i t i _
  refine ⟨by simp [hT.len],fun k=>?_,hT.dom,hT.nores⟩
  rw [wU]
  split
  ·
   rename_i h
   rw [h.1]
   have:=hT.slots t
   generalize T.getD t zh=w at this
   cases w with
   | tuple vs =>
    simp only [zL]
    generalize A.getD t zh=a at this
    cases this with
    | sg hs=>simp [Go.Abs.sg] at hs
    | nores=>rw [show (#[]:Array Value).modify i Go.Abs.qF=#[] by simp];exact .nores
    | @tuple _ _ y hxs hxx =>
     refine .tuple (by simpa using hxs) fun j=>?_
     rw [getD_modify _ _ _ _ rfl]
     by_cases hj:j=i
     ·
      subst hj
      rw [if_pos rfl]
      exact (hxx j).part (fun s hs k=>by cases hs;rfl)
     ·
      rw [if_neg hj];exact hxx j
   | _=>exact this
  ·
   exact hT.slots k
 ·
  split
  ·
   exact slot _
  ·
   exact hT
 ·
  exact hT
def After (μ:Mu) (ω:Nat→Option wP) (H:zx) (T':List Value) (S':zx) (R:Option (List Value×zx)):Prop :=
 ∃ A' H' μ' ω',R=some (A',H')∧GI μ' S' H'∧Later μ H μ' H'∧Kept ω H ω' H'∧TI μ' H' ω' T' A'
theorem Va {fx:Fx} (hc:Ji P call) {o:Oper} {rest:List Oper} {v:Value} (hG:GI μ S H) (hT:TI μ H ω T A) (h:wB P fx call T o S=some (v,S')) :
  ∃ a H' μ' ω',wG P (lim P) A o H=some (a,H')∧GI μ' S' H'∧Later μ H μ' H'∧Kept ω H ω' H'∧TI μ' H' ω' (xH o rest T v) (Zp A o.dst a):=by
 unfold xH
 split
 ·
  rename_i hl
  have hm:∃ x,o.op=.move x:=by
   unfold ahi at hl
   split at hl
   ·
    rename_i x _ he _;exact ⟨x,he⟩
   ·
    cases hl
  obtain ⟨x,hx⟩:=hm
  unfold wB at h
  split at h <;> first | (cases h;done) | skip
  rename_i hok
  have hox:yL x=true:=List.all_eq_true.1 (show o.op.operands.toList.all yL=true from hok) x (by rw [hx];simp [Op.operands])
  rw [hx] at h
  dsimp only at h
  unfold vOp at h
  rw [hx] at h
  cases h
  have ha:wG P (lim P) A o H=some (zQ A x,H):=by
   unfold wG
   rw [if_pos hok,hx]
   dsimp only
   unfold aOp
   rw [hx]
   rfl
  rw [ha]
  exact (Out.same hG hT (hT.eval hox)).put o.dst
 ·
  exact (adS hc hG hT h).put o.dst
theorem Jd {o:Oper} {rest:List Oper} (hG:GI μ S H) (hT:TI μ H ω T A):∃ μ' ω',GI μ' S H∧Later μ H μ' H∧Kept ω H ω' H∧TI μ' H ω' (xH o rest T zh) (Zp A o.dst zh):=by
 unfold xH
 split
 ·
  rw [show dem zh=zh from vg]
  obtain ⟨a,H1,μ1,ω1,h1,h2,h3,h4,h5⟩:=(Out.same hG hT (VV.zh)).put o.dst
  cases h1
  exact ⟨μ1,ω1,h2,h3,h4,h5⟩
 ·
  obtain ⟨a,H1,μ1,ω1,h1,h2,h3,h4,h5⟩:=(Out.same hG (hT.moved o) (VV.zh)).put o.dst
  cases h1
  exact ⟨μ1,ω1,h2,h3,h4,h5⟩
theorem afr {fx:Fx} (hc:Ji P call) {ops:Array Oper}:∀ (l:List Oper) (T T' A:List Value) (S S' H:zx) (μ:Mu) (ω:Nat→Option wP),jl P fx call ops l T S=some (T',S')→GI μ S H→TI μ H ω T A→After μ ω H T' S' (KC P (lim P) ops l A H):=by
 intro l
 induction l with
 | nil =>
  intro T T' A S S' H μ ω h hG hT
  simp only [jl,Option.some.injEq,Prod.mk.injEq] at h
  obtain ⟨rfl,rfl⟩:=h
  exact ⟨A,H,μ,ω,rfl,hG,Later.refl _ _,Kept.refl _ _,hT⟩
 | cons o l ih =>
  intro T T' A S S' H μ ω h hG hT
  have hy:(ynd ops T)=ynd ops A:=funext fun j=>ab1 hT j
  simp only [jl] at h
  simp only [KC,← hy]
  split at h
  ·
   rename_i hw
   split at h
   ·
    rename_i v S1 hs
    obtain ⟨a,H1,μ1,ω1,h1,h2,h3,h4,h5⟩:=Va (rest:=l) hc hG hT hs
    obtain ⟨A2,H2,μ2,ω2,k1,k2,k3,k4,k5⟩:=ih _ _ _ _ _ _ _ _ h h2 h5
    refine ⟨A2,H2,μ2,ω2,?_,k2,h3.trans k3,h4.trans k4,k5⟩
    rw [if_pos hw,h1]
    exact k1
   ·
    cases h
  ·
   rename_i hw
   obtain ⟨μ1,ω1,h2,h3,h4,h5⟩:=Jd (o:=o) (rest:=l) hG hT
   obtain ⟨A2,H2,μ2,ω2,k1,k2,k3,k4,k5⟩:=ih _ _ _ _ _ _ _ _ h h2 h5
   refine ⟨A2,H2,μ2,ω2,?_,k2,h3.trans k3,h4.trans k4,k5⟩
   rw [if_neg hw]
   exact k1
end
end Go.Abs
namespace Go.Abs
open Go.RowKit
section
variable {P:Program} {call:FuncId→List Value→M Value} {μ μ2:Mu} {S S' G H H2:zx} {T A:List Value}
theorem xQ.two {s:M Value} (hs:xQ s) {a:Value} {G':zx} (h:s G=some (a,G')):∀ H,s H=some (a,H):=by
 obtain ⟨o,ho⟩:=hs
 rw [ho] at h
 cases o with
 | none=>cases h
 | some w =>
  simp only [Option.map_some,Option.some.injEq,Prod.mk.injEq] at h
  intro H
  rw [ho,h.1];rfl
theorem KF {t:TypeId} {ps:List (Nat×Value)}:xQ (wX P t ps):=by
 refine ⟨(wX P t ps zx.empty).map (·.1),fun H=>?_⟩
 unfold wX
 split
 ·
  split
  ·
   split
   ·
    split
    ·
     split <;> rfl
    ·
     rfl
   ·
    split
    ·
     split <;> rfl
    ·
     rfl
   ·
    rfl
  ·
   rfl
 ·
  rfl
theorem WA {x:Value}:xQ (qA x):=by
 refine ⟨(qA x zx.empty).map (·.1),fun H=>?_⟩
 unfold qA
 split <;> rfl
theorem KN {t:TypeId} {x i:Value}:xQ (kF P t x i):=by
 unfold kF
 refine ⟨(kF P t x i zx.empty).map (·.1),fun H=>?_⟩
 unfold kF
 dsimp only
 split
 ·
  split
  ·
   split
   ·
    split <;> rfl
   ·
    rfl
  ·
   rfl
 ·
  obtain ⟨o,ho⟩:=wO (P:=P) _ _
  rw [ho,ho]
  cases o <;> rfl
 ·
  rfl
theorem abR {t:TypeId} {x:Value} (hx:∀ m,x≠.map m):xQ (Qx P t x):=by
 refine ⟨(Qx P t x zx.empty).map (·.1),fun H=>?_⟩
 unfold Qx
 split <;> first | rfl | exact absurd rfl (hx _)
theorem JO {d:Nat} {v:Value} (h:okq d v=true):okq d (dem v)=true:=by
 cases v with
 | iface k v=>cases d <;> rfl
 | tuple vs=>cases d <;> cases h
 | _=>exact h
theorem Wn:∀ (d:Nat) {v a:Value},okq d v=true→V0 μ H v a→aaw d a a=true:=by
 intro d
 induction d with
 | zero =>
  intro v a h hv
  cases hv <;> first | (cases h;done) | (simp [aaw];done) | skip
  rename_i hs
  cases v <;> first | (simp [aaw];done) | (simp [Go.Abs.sg] at hs;done) | skip
 | succ d ih =>
  intro v a h hv
  cases hv <;> first | (cases h;done) | (simp [aaw];done) | skip
  ·
   rename_i hs
   cases v <;> first | (simp [aaw];done) | (simp [Go.Abs.sg] at hs;done) | skip
  ·
   rename_i x x' hx hh
   unfold aaw
   simp only [decide_true,Bool.true_and]
   rw [List.all_eq_true]
   intro p hp
   obtain ⟨i,hi,he⟩:=List.mem_iff_getElem.1 hp
   simp only [List.length_zip,Nat.min_self] at hi
   rw [List.getElem_zip] at he
   subst he
   have hi':i < x'.size:=by simpa using hi
   have hi2:i < x.size:=by rw [hx];exact hi'
   have h2:=hh i
   rw [Array.getD_eq_getD_getElem?,Array.getElem?_eq_getElem hi2,Array.getD_eq_getD_getElem?,Array.getElem?_eq_getElem hi'] at h2
   have h3:okq d x[i]=true:=List.all_eq_true.1 (show x.toList.all (okq d)=true from h) _ (by simp)
   have:=ih h3 h2
   simpa using this
theorem X4 (x:Value):ZH (dem x)=ZH x:=by cases x <;> rfl
theorem aeA {fx:Fx} {o:Oper} {v:Value} (hdr:fx.dr=true) (h:wB P fx call T o S=some (v,S')) (hn:xO P o=false) (hr:qE o=false) (ho:∀ x ∈ o.op.operands.toList,V0 μ G (dem (zQ T x)) (zQ A x)) :
  ∃ a,V0 μ G (dem v) a∧∀ H,aOp P (zQ A) o H=some (a,H)∧wG P (lim P) A o H=some (a,H):=by
 have hrm:yY o=false:=by
  unfold qE at hr
  unfold yY
  split <;> simp_all
 unfold wB at h
 split at h <;> first | (cases h;done) | skip
 rename_i hok
 obtain ⟨dst,op,type,pos,after,guard⟩:=o
 by_cases hcall:∃ c,op=.call c
 ·
  obtain ⟨c,rfl⟩:=hcall
  dsimp only at h ho
  unfold xO at hn
  dsimp only at hn
  have hcargs:∀ x ∈ c.args.toList,V0 μ G (dem (zQ T x)) (zQ A x):=by
   intro x hx
   refine ho x ?_
   simp only [Op.operands,Call.operands]
   cases c.callee <;> simp <;> first | exact .inr (by simpa using hx) | exact (by simpa using hx)
  have step:∀ {b:Builtin} (a:Value),c.callee=.builtin b→(∀ H,qy P b c.argTypes type (c.args.toList.map (zQ A)) H=some (a,H))→∀ H,aOp P (zQ A) ⟨dst,.call c,type,pos,after,guard⟩ H=some (a,H)∧wG P (lim P) A ⟨dst,.call c,type,pos,after,guard⟩ H=some (a,H):=by
   intro b a hb hall H
   constructor
   ·
    unfold aOp;dsimp only;rw [hb];exact hall H
   ·
    unfold wG;rw [if_pos hok];dsimp only;rw [hb];exact hall H
  cases hcal:c.callee with
  | value f=>rw [hcal] at hn;cases hn
  | invoke r m=>rw [hcal] at hn;cases hn
  | builtin b =>
   rw [hcal] at h
   dsimp only at h
   unfold Y3 at h
   rw [hcal] at hn
   have gargs:(c.args.toList.map (zQ T)).all ground=true→c.args.toList.map (zQ A)=c.args.toList.map (zQ T):=by
    intro hg
    apply List.map_congr_left
    intro x hx
    exact je (hcargs x hx) (List.all_eq_true.1 hg _ (List.mem_map.2 ⟨x,hx,rfl⟩))
   cases b <;> dsimp only at h hn <;> first | (cases h;done) | (cases hn;done) | skip
   case len =>
    split at h <;> first | (cases h;done) | skip
    rename_i t x0 ht ha
    obtain ⟨x,hx,rfl⟩:∃ x,c.args.toList=[x]∧zQ T x=x0:=by
     match hl:c.args.toList with
     | []=>rw [hl] at ha;cases ha
     | [y]=>rw [hl] at ha;simp at ha;exact ⟨y,rfl,ha⟩
     | y::z::w=>rw [hl] at ha;simp at ha
    have hxv:=hcargs x (by rw [hx];simp)
    obtain ⟨rfl,a,h1,h2⟩:=ab4 h hxv
    have hmap:∀ m,zQ A x≠.map m:=by
     intro m hm
     rw [hm] at hxv
     generalize hu:dem (zQ T x)=u at hxv
     have hum:∃ m',u=.map m':=by cases hxv <;> exact ⟨_,rfl⟩
     obtain ⟨m',rfl⟩:=hum
     have:zQ T x=.map m':=by
      cases hv:zQ T x <;> rw [hv] at hu <;> simp [dem,qF] at hu <;> rw [hu]
     rw [this] at h
     simp [Jc] at h
    refine ⟨a,h2.dem,step a hcal fun H=>?_⟩
    unfold qy
    dsimp only
    rw [ht,hx]
    exact (abR hmap).two h1 H
   case min =>
    obtain ⟨rfl,hg,hga,hh⟩:=jV (H:=G) h
    refine ⟨v,(V0.ground hg).dem,step v hcal fun H=>?_⟩
    unfold qy
    dsimp only
    rw [gargs hga]
    exact (wO _ _).two hh H
   case max =>
    obtain ⟨rfl,hg,hga,hh⟩:=jV (H:=G) h
    refine ⟨v,(V0.ground hg).dem,step v hcal fun H=>?_⟩
    unfold qy
    dsimp only
    rw [gargs hga]
    exact (wO _ _).two hh H
 ·
  have hnc:∀ c,op≠.call c:=fun c hc=>hcall ⟨c,hc⟩
  have hV:vOp P fx (zQ T) ⟨dst,op,type,pos,after,guard⟩ S=some (v,S'):=by
   cases op <;> first | exact h | exact absurd rfl (hnc _)
  obtain ⟨rfl,a,h1,h2,h3⟩:=Qm (ρA:=zQ A) hV hn ho (.inl (ZV hrm)) (.inl hdr)
  have hA:∀ H,wG P (lim P) A ⟨dst,op,type,pos,after,guard⟩ H=aOp P (zQ A) ⟨dst,op,type,pos,after,guard⟩ H:=by
   intro H
   unfold wG
   rw [if_pos hok]
   cases op <;> first | rfl | exact absurd rfl (hnc _)
  refine ⟨a,h2,fun H=>?_⟩
  rw [hA]
  have key:aOp P (zQ A) ⟨dst,op,type,pos,after,guard⟩ H=some (a,H):=by
   have hf:xQ (aOp P (zQ A) ⟨dst,op,type,pos,after,guard⟩):=by
    unfold xO at hn
    unfold qE at hr
    unfold aOp
    unfold vOp at hV
    cases op <;> dsimp only at hn hr hV ⊢ <;> first | (cases hn;done) | (cases hr;done) | (cases hV;done) | skip
    ·
     exact JB _
    ·
     exact JB _
    ·
     exact VF _ _ _
    ·
     exact KF
    ·
     exact WA
    ·
     exact QC _ _ _ _
    ·
     exact adp _ _
    ·
     exact JB _
    ·
     exact Wp _ _ _
    ·
     exact Xc _ _ _
    ·
     exact J4 _ _ _
    ·
     exact KN
    ·
     exact YW _ _
   exact hf.two h1 H
  exact ⟨key,key⟩
theorem aaU {t:TypeId} {r o e:Nat} {l:List Value} {own own':Own} {a:Value} (hg:G.get r=some (.cells l own e)) (hg':H2.get r=some (.cells l own' e)) (h:yh P t (.pointer (some ⟨r,o,none⟩)) G=some (a,G)) :
  yh P t (.pointer (some ⟨r,o,none⟩)) H2=some (a,H2):=by
 simp only [yh,hg] at h
 simp only [yh,hg']
 (repeat' split at h) <;> first | (cases h;done) | skip
 all_goals simp_all
theorem VV.backed {v:Value} {r o n c:Nat} (h:V0 μ G v (.slice (some ⟨r,o,none⟩) n c)) (hv:ZH v=false):∃ l own e,r < G.next∧Zj μ r∧G.get r=some (.cells l own e):=by
 cases h with
 | sg hs=>simp [Go.Abs.sg] at hs
 | slm hm=>simp [ZH] at hv
 | sl hr hp hg _ _ _=>exact ⟨_,_,_,hr,hp,hg⟩
theorem VX {x:Value} {n:Nat} {cs:List Value} (hx:∀ r o n c,x=.slice (some ⟨r,o,none⟩) n c→∃ l own own' e,G.get r=some (.cells l own e)∧H2.get r=some (.cells l own' e)) (h:yw x n G=some cs):yw x n H2=some cs:=by
 unfold yw at h ⊢
 split at h
 ·
  rename_i r o k c
  obtain ⟨l,own,own',e,hg,hg'⟩:=hx _ _ _ _ rfl
  rw [hg] at h
  rw [hg']
  exact h
 ·
  exact h
 ·
  exact h
 ·
  cases h
theorem aaS {src dst:TypeId} {x a:Value} (hd:∀ e,P.underlying dst≠some (.slice e)) (hx:∀ r o n c,x=.slice (some ⟨r,o,none⟩) n c→∃ l own own' e,G.get r=some (.cells l own e)∧H2.get r=some (.cells l own' e)) (h:wF P src dst x G=some (a,G)) :
  wF P src dst x H2=some (a,H2):=by
 unfold wF at h ⊢
 split at h
 ·
  rename_i b n c
  (try dsimp only)
  split at h
  ·
   rename_i e hs hdd
   split at h <;> first | (cases h;done) | skip
   rename_i he
   split at h <;> first | (cases h;done) | skip
   rename_i cs hcs
   rw [VX hx hcs]
   (try dsimp only)
   split at h <;> first | (cases h;done) | skip
   rename_i bs hbs
   (try rw [hbs])
   cases h
   rfl
  ·
   rename_i e0 e hs hdd
   exact absurd hdd (hd e)
  ·
   cases h
 ·
  rename_i s
  (try dsimp only)
  split at h
  ·
   rename_i d e hs hdd
   exact absurd hdd (hd e)
  ·
   exact (wO _ _).two h H2
 ·
  exact (wO _ _).two h H2
theorem aas {t:TypeId} {x a:Value} {lo hi:Option Value} (hx:∀ r o n c,x=.slice (some ⟨r,o,none⟩) n c→∃ l own own' e,G.get r=some (.cells l own e)∧H2.get r=some (.cells l own' e)) (h:qj P t x lo hi G=some (a,G)) :
  qj P t x lo hi H2=some (a,H2):=by
 unfold qj at h ⊢
 split at h
 ·
  rename_i s hu
  exact (wO _ _).two h H2
 ·
  rename_i e b n c hu
  (try dsimp only)
  split at h <;> first | (cases h;done) | skip
  rename_i size l hh hs hl hhi
  (try simp only [hs,hl,hhi])
  split at h <;> first | (cases h;done) | skip
  rename_i c0
  split at h <;> first | (cases h;done) | skip
  rename_i c1
  split at h <;> first | (cases h;done) | skip
  rename_i c2
  rw [if_pos c0,if_pos c1,if_pos c2]
  split at h
  ·
   split at h <;> first | (cases h;done) | skip
   rename_i hn
   cases h
   rw [if_pos hn]
  ·
   rename_i r o
   obtain ⟨l2,own,own',e2,hg,hg'⟩:=hx _ _ _ _ rfl
   rw [hg] at h
   rw [hg']
   dsimp only at h ⊢
   split at h <;> first | (cases h;done) | skip
   rename_i he
   rw [if_pos he]
   cases h
   rfl
  ·
   split at h <;> first | (cases h;done) | skip
   rename_i hn
   cases h
   rw [if_pos hn]
  ·
   cases h
 ·
  cases h
theorem VP {t:TypeId} {r o:Nat} {a:Value} {G':zx} (hg:H2.get r=G.get r) (h:yh P t (.pointer (some ⟨r,o,none⟩)) G=some (a,G')):yh P t (.pointer (some ⟨r,o,none⟩)) H2=some (a,H2):=by
 simp only [yh] at h ⊢
 rw [hg]
 (repeat' split at h) <;> first | (cases h;done) | skip
 all_goals simp_all
theorem Qq {t:TypeId} {x k:Value} {ok:Bool} {a:Value} {G':zx} (hg:∀ r,x=.map (some r)→H2.get r=G.get r) (h:jW P t x k ok G=some (a,G')):jW P t x k ok H2=some (a,H2):=by
 have e:∀ H:zx,jW P t x k ok H=(jW P t x k ok H).map (fun r=>(r.1,H)):=by
  intro H
  unfold jW
  (try dsimp only)
  (repeat' split) <;> rfl
 have e2:(jW P t x k ok H2).map (·.1)=(jW P t x k ok G).map (·.1):=by
  cases x with
  | map b =>
   cases b with
   | none=>unfold jW;dsimp only;(repeat' split) <;> rfl
   | some r =>
    unfold jW
    dsimp only
    rw [hg r rfl]
    (repeat' split) <;> rfl
  | _=>unfold jW;(try dsimp only) <;> (try ((repeat' split) <;> rfl))
 rw [h] at e2
 rw [e H2]
 cases hh:jW P t x k ok H2 with
 | none=>rw [hh] at e2;cases e2
 | some w =>
  rw [hh] at e2
  simp only [Option.map_some,Option.some.injEq] at e2 ⊢
  rw [e2]
theorem afw {fx:Fx} {o:Oper} {v:Value} (hdr:fx.dr=true) (h:wB P fx call T o S=some (v,S')) (hn:xO P o=false) (hm:xE (zQ T) o) (ho:∀ x ∈ o.op.operands.toList,V0 μ G (dem (zQ T x)) (zQ A x)) (hL:Later μ G μ2 H2) :
  ∃ a,V0 μ G (dem v) a∧aOp P (zQ A) o G=some (a,G)∧aOp P (zQ A) o H2=some (a,H2)∧wG P (lim P) A o G=some (a,G)∧wG P (lim P) A o H2=some (a,H2):=by
 by_cases hr:qE o=false
 ·
  obtain ⟨a,h1,h2⟩:=aeA hdr h hn hr ho
  exact ⟨a,h1,(h2 G).1,(h2 H2).1,(h2 G).2,(h2 H2).2⟩
 ·
  unfold wB at h
  split at h <;> first | (cases h;done) | skip
  rename_i hok
  obtain ⟨dst,op,type,pos,after,guard⟩:=o
  unfold qE at hr
  cases op <;> dsimp only at h hr <;> first | (exact absurd rfl hr) | skip
  case load t addr =>
   obtain ⟨rfl,a,h1,h2,h3⟩:=Qm (ρA:=zQ A) h hn ho (.inl hm) (.inl hdr)
   have hA:∀ H,wG P (lim P) A ⟨dst,.load t addr,type,pos,after,guard⟩ H=aOp P (zQ A) ⟨dst,.load t addr,type,pos,after,guard⟩ H:=fun H=>by unfold wG;rw [if_pos hok]
   have key:aOp P (zQ A) ⟨dst,.load t addr,type,pos,after,guard⟩ H2=some (a,H2):=by
    have hx:=ho addr (by simp [Op.operands])
    have h:zZ P fx.nm t (zQ T addr) S'=some (v,S'):=h
    unfold aOp at h1 ⊢
    dsimp only at h1 ⊢
    unfold zZ at h
    split at h
    ·
     rename_i k cs he
     split at h <;> first | (cases h;done) | skip
     rename_i hk
     subst hk
     rw [he] at hx
     have hx:V0 μ G (.iface 3 (.agg cs)) (zQ A addr):=hx
     generalize hq:zQ A addr=q at hx h1 ⊢
     cases hx with
     | sg hs=>simp [Go.Abs.sg] at hs
     | ep hr hp hg hl hc =>
      obtain ⟨own',hg'⟩:=hL.cells _ _ _ _ hr hp hg
      exact aaU hg hg' h1
    ·
     rename_i ad he
     exact absurd he (hm ad)
    ·
     cases h
   exact ⟨a,h2,h1,key,by rw [hA];exact h1,by rw [hA];exact key⟩
  case convert src d x =>
   obtain ⟨rfl,a,h1,h2,h3⟩:=Qm (ρA:=zQ A) h hn ho (.inl hm) (.inl hdr)
   have hA:∀ H,wG P (lim P) A ⟨dst,.convert src d x,type,pos,after,guard⟩ H=aOp P (zQ A) ⟨dst,.convert src d x,type,pos,after,guard⟩ H:=fun H=>by unfold wG;rw [if_pos hok]
   have key:aOp P (zQ A) ⟨dst,.convert src d x,type,pos,after,guard⟩ H2=some (a,H2):=by
    have hx:=ho x (by simp [Op.operands])
    unfold aOp at h1 ⊢
    dsimp only at h1 ⊢
    refine aaS (fun e he=>?_) (fun r o n c hq=>?_) h1
    ·
     unfold xO at hn
     dsimp only at hn
     rw [he] at hn;cases hn
    ·
     rw [hq] at hx
     have hh:ZH (dem (zQ T x))=false:=by
      rw [X4]
      have h:yT P fx.hp fx.dr src d (zQ T x) S'=some (v,S'):=h
      unfold yT at h
      split at h
      ·
       first | (cases h;done) | (rw [hdr] at h;simp at h)
      ·
       rename_i hh;simpa using hh
     obtain ⟨l,own,e,hr,hp,hg⟩:=hx.backed hh
     obtain ⟨own',hg'⟩:=hL.cells _ _ _ _ hr hp hg
     exact ⟨l,own,own',e,hg,hg'⟩
   exact ⟨a,h2,h1,key,by rw [hA];exact h1,by rw [hA];exact key⟩
  case slice t x lo hi mx =>
   obtain ⟨rfl,a,h1,h2,h3⟩:=Qm (ρA:=zQ A) h hn ho (.inl hm) (.inl hdr)
   have hA:∀ H,wG P (lim P) A ⟨dst,.slice t x lo hi mx,type,pos,after,guard⟩ H=aOp P (zQ A) ⟨dst,.slice t x lo hi mx,type,pos,after,guard⟩ H:=fun H=>by unfold wG;rw [if_pos hok]
   have key:aOp P (zQ A) ⟨dst,.slice t x lo hi mx,type,pos,after,guard⟩ H2=some (a,H2):=by
    have hx:=ho x (by simp [Op.operands])
    unfold aOp at h1 ⊢
    cases mx with
    | some m=>cases h1
    | none =>
     dsimp only at h1 ⊢
     refine aas (fun r o n c hq=>?_) h1
     rw [hq] at hx
     have hh:ZH (dem (zQ T x))=false:=by
      rw [X4]
      have h:kL P fx.dr t (zQ T x) (lo.map (zQ T)) (hi.map (zQ T)) S'=some (v,S'):=h
      unfold kL at h
      split at h
      ·
       first | (cases h;done) | (rw [hdr] at h;simp at h)
      ·
       rename_i hh;simpa using hh
     obtain ⟨l,own,e,hr,hp,hg⟩:=hx.backed hh
     obtain ⟨own',hg'⟩:=hL.cells _ _ _ _ hr hp hg
     exact ⟨l,own,own',e,hg,hg'⟩
   exact ⟨a,h2,h1,key,by rw [hA];exact h1,by rw [hA];exact key⟩
  case lookup t x k ok =>
   exact hm.elim
end
end Go.Abs
namespace Go.Abs
open Go.RowKit
structure Line (P : Program) (fx : Fx) (chk : List Nat) (call : FuncId → List Value → M Value) (ops : Array Oper) (k0 : Nat) (l : List Oper) (Ts As : Nat → List Value) (Ss Hs : Nat → zx) (μs : Nat → Mu) (ωs : Nat → Nat → Option wP) (vs zf : Nat → Value) : Prop where
  inv : ∀ k, k ≤ l.length → GI (μs k) (Ss k) (Hs k) ∧ TI (μs k) (Hs k) (ωs k) (Ts k) (As k)
  step : ∀ k o, l[k]? = some o → Later (μs k) (Hs k) (μs (k + 1)) (Hs (k + 1)) ∧ Kept (ωs k) (Hs k) (ωs (k + 1)) (Hs (k + 1)) ∧
    ((Region.wanted o (ynd ops (As k)) = true ∧ wB P fx call (Ts k) o (Ss k) = some (vs k, Ss (k + 1)) ∧ wG P (lim P) (As k) o (Hs k) = some (zf k, Hs (k + 1)) ∧
        Ts (k + 1) = xH o (l.drop (k + 1)) (Ts k) (vs k) ∧ As (k + 1) = Zp (As k) o.dst (zf k) ∧ (chk.contains (k0 + k) = true → okq 3 (vs k) = true)) ∨
     (Region.wanted o (ynd ops (As k)) = false ∧ zf k = zh ∧ Ts (k + 1) = xH o (l.drop (k + 1)) (Ts k) zh ∧ As (k + 1) = Zp (As k) o.dst zh ∧ Hs (k + 1) = Hs k))
section
variable {P:Program} {call:FuncId→List Value→M Value}
theorem line_of {fx : Fx} {chk : List Nat} {nl : List (Nat × Nat)} (hc : Ji P call) {ops : Array Oper} : ∀ (l : List Oper) (k0 : Nat) (hist : List (Value × zx)) (T T' A : List Value) (S S' H : zx) (μ : Mu) (ω : Nat → Option wP), jQ P fx chk nl call ops k0 hist l T S = some (T', S') → GI μ S H → TI μ H ω T A →
    ∃ Ts As Ss Hs μs ωs vs zf tr, Line P fx chk call ops k0 l Ts As Ss Hs μs ωs vs zf ∧ Ts 0 = T ∧ As 0 = A ∧ Ss 0 = S ∧ Hs 0 = H ∧ μs 0 = μ ∧ ωs 0 = ω ∧ Ts l.length = T' ∧ Ss l.length = S' ∧
      yH P (lim P) ops l A H = some (tr, As l.length, Hs l.length) ∧ (∀ k, k < l.length → tr[k]? = some (As k, Hs k, zf k)) ∧ (∀ k, k ≤ l.length → (tr.map (·.2.1) ++ [Hs l.length])[k]? = some (Hs k)) ∧
      ∃ hs : List (Value × zx), hs.length = l.length ∧ (∀ k o, l[k]? = some o → hs[k]? = some (ku (Ts k) o, Ss k)) ∧ (nl.isEmpty = false → nl.all (X0 (hist ++ hs ++ [(zh, S')])) = true) := by
  intro l
  induction l with
  | nil =>
    intro k0 hist T T' A S S' H μ ω h hG hT
    simp only [jQ] at h
    split at h <;> first | (cases h; done) | skip
    rename_i hst
    cases h
    refine ⟨fun _ => T, fun _ => A, fun _ => S, fun _ => H, fun _ => μ, fun _ => ω, fun _ => zh, fun _ => zh, [], ⟨fun k _ => ⟨hG, hT⟩, fun k o ho => by simp at ho⟩, rfl, rfl, rfl, rfl, rfl, rfl, rfl, rfl, rfl, fun k hk => by simp at hk, fun k hk => ?_, [], rfl, fun k o ho => by simp at ho, fun he => ?_⟩
    · have : k = 0 := by simpa using hk
      subst this
      rfl
    · simpa [qU, he] using hst
  | cons o l ih =>
    intro k0 hist T T' A S S' H μ ω h hG hT
    have hy : (ynd ops T) = ynd ops A := funext fun j => ab1 hT j
    simp only [jQ] at h
    have glue : ∀ (T1 A1 : List Value) (S1 H1 : zx) (μ1 : Mu) (ω1 : Nat → Option wP) (v a : Value), jQ P fx chk nl call ops (k0 + 1) (qU nl hist (ku T o) S) l T1 S1 = some (T', S') → GI μ1 S1 H1 → TI μ1 H1 ω1 T1 A1 → Later μ H μ1 H1 → Kept ω H ω1 H1 →
        ((Region.wanted o (ynd ops A) = true ∧ wB P fx call T o S = some (v, S1) ∧ wG P (lim P) A o H = some (a, H1) ∧ T1 = xH o l T v ∧ A1 = Zp A o.dst a ∧ (chk.contains k0 = true → okq 3 v = true)) ∨
         (Region.wanted o (ynd ops A) = false ∧ a = zh ∧ T1 = xH o l T zh ∧ A1 = Zp A o.dst zh ∧ H1 = H)) →
        (∀ tr A2 H2, yH P (lim P) ops l A1 H1 = some (tr, A2, H2) → yH P (lim P) ops (o :: l) A H = some ((A, H, a) :: tr, A2, H2)) →
        ∃ Ts As Ss Hs μs ωs vs zf tr, Line P fx chk call ops k0 (o :: l) Ts As Ss Hs μs ωs vs zf ∧ Ts 0 = T ∧ As 0 = A ∧ Ss 0 = S ∧ Hs 0 = H ∧ μs 0 = μ ∧ ωs 0 = ω ∧ Ts (o :: l).length = T' ∧ Ss (o :: l).length = S' ∧
          yH P (lim P) ops (o :: l) A H = some (tr, As (o :: l).length, Hs (o :: l).length) ∧ (∀ k, k < (o :: l).length → tr[k]? = some (As k, Hs k, zf k)) ∧ (∀ k, k ≤ (o :: l).length → (tr.map (·.2.1) ++ [Hs (o :: l).length])[k]? = some (Hs k)) ∧
          ∃ hs : List (Value × zx), hs.length = (o :: l).length ∧ (∀ k o', (o :: l)[k]? = some o' → hs[k]? = some (ku (Ts k) o', Ss k)) ∧ (nl.isEmpty = false → nl.all (X0 (hist ++ hs ++ [(zh, S')])) = true) := by
      intro T1 A1 S1 H1 μ1 ω1 v a hrest hG1 hT1 hL hK hstep htr
      obtain ⟨Ts, As, Ss, Hs, μs, ωs, vs, zf, tr, hline, e1, e2, e3, e4, e5, e6, e7, e8, e9, e10, e11, hs, e12, e13, e14⟩ := ih _ _ _ _ _ _ _ _ _ _ hrest hG1 hT1
      refine ⟨fun k => match k with | 0 => T | k + 1 => Ts k, fun k => match k with | 0 => A | k + 1 => As k, fun k => match k with | 0 => S | k + 1 => Ss k, fun k => match k with | 0 => H | k + 1 => Hs k,
        fun k => match k with | 0 => μ | k + 1 => μs k, fun k => match k with | 0 => ω | k + 1 => ωs k, fun k => match k with | 0 => v | k + 1 => vs k, fun k => match k with | 0 => a | k + 1 => zf k, (A, H, a) :: tr,
        ⟨fun k hk => ?_, fun k o' ho => ?_⟩, rfl, rfl, rfl, rfl, rfl, rfl, e7, e8, htr _ _ _ e9, fun k hk => ?_, fun k hk => ?_, (ku T o, S) :: hs, by simp [e12], fun k o' ho => ?_, fun he => ?_⟩
      · cases k with
        | zero => exact ⟨hG, hT⟩
        | succ k => exact hline.inv k (by simpa using hk)
      · cases k with
        | zero =>
          simp only [List.getElem?_cons_zero, Option.some.injEq] at ho
          subst ho
          dsimp only
          rw [e1, e2, e3, e4, e5, e6]
          exact ⟨hL, hK, hstep⟩
        | succ k =>
          have := hline.step k o' (by simpa using ho)
          rw [show k0 + 1 + k = k0 + (k + 1) by omega] at this
          exact this
      · cases k with
        | zero => rfl
        | succ k => simpa using e10 k (by simpa using hk)
      · cases k with
        | zero => rfl
        | succ k => simpa using e11 k (by simpa using hk)
      · cases k with
        | zero =>
          simp only [List.getElem?_cons_zero, Option.some.injEq] at ho
          subst ho
          rfl
        | succ k => simpa using e13 k o' (by simpa using ho)
      · have := e14 he
        rw [show qU nl hist (ku T o) S = hist ++ [(ku T o, S)] by simp [qU, he]] at this
        simpa using this
    split at h
    · rename_i hw
      split at h
      · rename_i v S1 hs
        split at h <;> first | (cases h; done) | skip
        rename_i hchk
        obtain ⟨a, H1, μ1, ω1, h1, h2, h3, h4, h5⟩ := Va (rest := l) hc hG hT hs
        have hw' : Region.wanted o (ynd ops A) = true := by rw [← hy]; exact hw
        refine glue _ _ _ H1 μ1 ω1 v a h h2 h5 h3 h4 (.inl ⟨hw', hs, h1, rfl, rfl, fun hk => ?_⟩) (fun tr A2 H2 ht => ?_)
        · rw [hk] at hchk; simpa using hchk
        · simp only [yH, hw', if_true, h1, ht]
      · cases h
    · rename_i hw
      obtain ⟨μ1, ω1, h2, h3, h4, h5⟩ := Jd (o := o) (rest := l) hG hT
      have hw' : Region.wanted o (ynd ops A) = false := by rw [← hy]; simpa using hw
      refine glue _ _ _ H μ1 ω1 zh zh h h2 h5 h3 h4 (.inr ⟨hw', rfl, rfl, rfl, rfl⟩) (fun tr A2 H2 ht => ?_)
      simp only [yH, hw', ht]
      rfl
variable {fx:Fx} {chk:List Nat} {ops:Array Oper} {k0:Nat} {l:List Oper} {Ts As:Nat→List Value} {Ss Hs:Nat→zx} {μs:Nat→Mu} {ωs:Nat→Nat→Option wP} {vs zf:Nat→Value}
theorem Line.later (hl:Line P fx chk call ops k0 l Ts As Ss Hs μs ωs vs zf) {i:Nat}:∀ (d:Nat),i+d≤l.length→Later (μs i) (Hs i) (μs (i+d)) (Hs (i+d)):=by
 intro d
 induction d with
 | zero=>intro _;exact Later.refl _ _
 | succ d ih =>
  intro hd
  have ho:l[i+d]?=some l[i+d]:=List.getElem?_eq_getElem (by omega)
  exact (ih (by omega)).trans (hl.step (i+d) _ ho).1
theorem Line.kept (hl:Line P fx chk call ops k0 l Ts As Ss Hs μs ωs vs zf):∀ (d:Nat),d≤l.length→Kept (ωs 0) (Hs 0) (ωs d) (Hs d):=by
 intro d
 induction d with
 | zero=>intro _;exact Kept.refl _ _
 | succ d ih =>
  intro hd
  have ho:l[d]?=some l[d]:=List.getElem?_eq_getElem (by omega)
  exact (ih (by omega)).trans (hl.step d _ ho).2.1
theorem KQ (i:Nat) (w:Value):dem (zL i w)=dem w:=by
 cases w with
 | tuple vs =>
  simp only [zL,dem]
  congr 1
  apply Array.ext (by simp)
  intro k h1 h2
  rw [Array.getElem_map,Array.getElem_map,Array.getElem_modify]
  split
  ·
   have:∀ v,qF (qF v)=qF v:=by
    intro v
    cases v with
    | iface k v =>
     simp only [qF]
     by_cases h:k=2
     ·
      rw [if_pos h,if_neg (by decide)]
     ·
      rw [if_neg h,if_neg h]
    | _=>rfl
   exact this _
  ·
   rfl
 | _=>rfl
theorem Kq (o:Oper) (T:List Value) (t:Nat):dem ((moved o T).getD t zh)=dem (T.getD t zh):=by
 have slot:∀ t',dem ((yI T t').getD t zh)=dem (T.getD t zh):=by
  intro t'
  rw [yI,wU]
  split
  ·
   rename_i h;rw [h.1,Qb]
  ·
   rfl
 unfold moved
 split
 ·
  exact slot _
 ·
  exact slot _
 ·
  rw [wU]
  split
  ·
   rename_i h;rw [h.1,KQ]
  ·
   rfl
 ·
  split
  ·
   exact slot _
  ·
   rfl
 ·
  rfl
theorem moved_length (o:Oper) (T:List Value):(moved o T).length=T.length:=by
 unfold moved
 split <;> first | simp [yI] | rfl | skip
 split <;> first | simp [yI] | rfl
theorem QV {o:Oper} {rest:List Oper} {T:List Value} {v:Value} (hd:o.dst=none) (t:Nat):dem ((xH o rest T v).getD t zh)=dem (T.getD t zh):=by
 unfold xH
 rw [hd]
 split
 ·
  rfl
 ·
  exact Kq o T t
theorem QX {o:Oper} {rest:List Oper} {T:List Value} {v:Value} {d:Nat} (hd:o.dst=some d) (t:Nat):dem ((xH o rest T v).getD t zh)=if t=d∧d < T.length then dem v else dem (T.getD t zh):=by
 unfold xH
 rw [hd]
 split
 ·
  simp only [Zp]
  rw [wU]
  split
  ·
   exact Qb v
  ·
   rfl
 ·
  simp only [Zp]
  rw [wU,moved_length]
  split
  ·
   rfl
  ·
   exact Kq o T t
def Clear (μ:Mu) (G:zx) (bad:List Nat) (T A:List Value):Prop:=∀ t,bad.contains t=false→V0 μ G (dem (T.getD t zh)) (A.getD t zh)
theorem Clear.operands {μ:Mu} {G:zx} {bad:List Nat} {T A:List Value} (h:Clear μ G bad T A) {o:Oper} (hok:ade o=true) (hc:yE bad o=true):∀ x ∈ o.op.operands.toList,V0 μ G (dem (zQ T x)) (zQ A x):=by
 intro x hx
 have h1:=List.all_eq_true.1 (show o.op.operands.toList.all yL=true from hok) x hx
 have h2:=List.all_eq_true.1 hc x hx
 cases x with
 | tmp t=>exact h t (by simpa using h2)
 | const v=>exact (VV.wC (μ:=μ) (H:=G) (ω:=W0) (ℓ:=none) h1).v0
 | global g=>cases h1
 | func f =>
  have:V0 μ G (.func (.func f) #[] #[]) (.func (.func f) #[] #[]):=.func _ rfl rfl (fun i=>by simpa using VV.zh) (fun i=>by simpa using VV.zh)
  exact this
theorem vN {T:List Value} {o:Oper} {S S':zx} {v:Value} (h:wB P fx call T o S=some (v,S')):ade o=true:=by
 unfold wB at h
 split at h
 ·
  assumption
 ·
  cases h
theorem aai {fx:Fx} {o:Oper} {T A:List Value} {v:Value} {S S' H:zx} {μ:Mu} (h:wB P fx call T o S=some (v,S')) (hnm:fx.nm=true) (hm:¬ xE (zQ T) o) (hG:GI μ S H) (ho:∀ x ∈ o.op.operands.toList,V0 μ H (dem (zQ T x)) (zQ A x)) :
  ground v=true∧∃ a,wG P (lim P) A o H=some (a,H)∧a=v:=by
 have hok:=vN h
 unfold wB at h
 rw [if_pos hok] at h
 obtain ⟨dst,op,type,pos,after,guard⟩:=o
 unfold xE at hm
 cases op <;> dsimp only at h hm <;> first | (exact absurd True.intro hm) | skip
 case load t a =>
  have h:zZ P fx.nm t (zQ T a) S=some (v,S'):=h
  obtain ⟨q,hq⟩:∃ q,zQ T a=.pointer q:=Classical.byContradiction fun hn=>hm fun q hq=>hn ⟨q,hq⟩
  obtain ⟨rfl,w,k1,k2⟩:=Js h (ho a (by simp [Op.operands])) (.inr hG)
  rw [hnm] at h
  have hgr:ground v=true:=by
   unfold zZ at h
   rw [hq] at h
   dsimp only at h
   split at h <;> first | (cases h;done) | skip
   ·
    split at h
    ·
     split at h <;> first | (cases h;done) | skip
     rename_i hg
     cases h
     exact hg
    ·
     rename_i hf;exact absurd rfl hf
   ·
    split at h
    ·
     split at h <;> first | (cases h;done) | skip
     rename_i hg
     cases h
     exact hg
    ·
     rename_i hf;exact absurd rfl hf
  refine ⟨hgr,w,?_,k2.qC hgr⟩
  unfold wG
  rw [if_pos hok]
  exact k1
 case lookup t x k ok =>
  have h:kQ P fx.nm t (zQ T x) (zQ T k) ok S=some (v,S'):=h
  unfold kQ at h
  rw [hnm] at h
  simp at h
theorem Line.clear (hdr:fx.dr=true) (hl:Line P fx chk call ops k0 l Ts As Ss Hs μs ωs vs zf) {j:Nat} (hj:j≤l.length):∀ (rest:List Oper) (bad:List Nat) (k:Nat),j≤k→l.drop k=rest→Clear (μs j) (Hs j) bad (Ts k) (As k) →
  ∀ d,d≤rest.length→Clear (μs j) (Hs j) ((abY P fx.nm rest bad).getD d []) (Ts (k+d)) (As (k+d)):=by
 intro rest
 induction rest with
 | nil =>
  intro bad k hjk hr hC d hd
  have:d=0:=by simpa using hd
  subst this
  exact hC
 | cons o rest ih =>
  intro bad k hjk hr hC d hd
  have hkl:k < l.length:=by
   have:=congrArg List.length hr
   simp at this;omega
  have ho:l[k]?=some o:=by
   have:=congrArg (·[0]?) hr
   simpa [List.getElem?_drop] using this
  cases d with
  | zero=>exact hC
  | succ d =>
   simp only [abY,List.getD_cons_succ]
   rw [show k+(d+1)=k+1+d by omega]
   refine ih _ (k+1) (by omega) ?_ ?_ d (by simpa using hd)
   ·
    rw [← List.drop_drop,hr];rfl
   ·
    obtain ⟨hL,_,hor⟩:=hl.step k o ho
    obtain ⟨hG,hT⟩:=hl.inv k (by omega)
    have hlen:=hT.len
    intro t ht
    cases hd:o.dst with
    | none =>
     rw [hd] at ht
     rcases hor with ⟨_,_,_,e1,e2,_⟩ | ⟨_,_,e1,e2,_⟩
     ·
      rw [e1,QV hd,e2,hd];exact hC t ht
     ·
      rw [e1,QV hd,e2,hd];exact hC t ht
    | some dd =>
     rw [hd] at ht
     dsimp only at ht
     have htb:bad.contains t=false:=by
      split at ht
      ·
       simp only [List.contains_cons,Bool.or_eq_false_iff] at ht;exact ht.2
      ·
       exact ht
     rcases hor with ⟨hw,hv,ha,e1,e2,_⟩ | ⟨_,_,e1,e2,_⟩
     ·
      rw [e1,QX hd,e2,hd]
      simp only [Zp]
      rw [wU,hlen]
      by_cases hc:t=dd∧dd < (As k).length
      ·
       rw [if_pos hc,if_pos hc]
       have hcond:¬ (xO P o || !yE bad o || (yY o && !fx.nm))=true:=by
        intro hh
        rw [if_pos hh] at ht
        simp [hc.1] at ht
       simp only [Bool.or_eq_true,not_or,Bool.not_eq_true,Bool.not_eq_eq_eq_not,Bool.not_true,Bool.and_eq_true,not_and] at hcond
       obtain ⟨⟨q1,q2⟩,q3⟩:=hcond
       have q2':yE bad o=true:=by simpa using q2
       have hLj:Later (μs j) (Hs j) (μs k) (Hs k):=by
        have:=hl.later (i:=j) (k - j) (by omega)
        rwa [show j+(k - j)=k by omega] at this
       by_cases hm:xE (zQ (Ts k)) o
       ·
        obtain ⟨a,h1,_,_,_,h5⟩:=afw hdr hv q1 hm (hC.operands (vN hv) q2') hLj
        rw [ha] at h5
        have e:zf k=a:=by simpa using congrArg (Option.map Prod.fst) h5
        subst e
        exact h1
       ·
        have hrm:yY o=true:=by
         cases hrm:yY o with
         | true=>rfl
         | false=>exact absurd (ZV hrm) hm
        have hnm:fx.nm=true:=by have:=q3 hrm;simpa using this
        obtain ⟨g1,a,g2,g3⟩:=aai hv hnm hm hG (fun x hx=>hT.eval (List.all_eq_true.1 (show o.op.operands.toList.all yL=true from vN hv) x hx))
        rw [ha] at g2
        have e:zf k=a:=by simpa using congrArg (Option.map Prod.fst) g2
        subst e
        rw [g3,WW g1]
        exact V0.ground g1
      ·
       rw [if_neg hc,if_neg hc]
       exact hC t htb
     ·
      rw [e1,QX hd,e2,hd]
      simp only [Zp]
      rw [wU,hlen]
      by_cases hc:t=dd∧dd < (As k).length
      ·
       rw [if_pos hc,if_pos hc,show dem zh=zh from vg]
       exact .nores
      ·
       rw [if_neg hc,if_neg hc]
       exact hC t htb
theorem abK {hp0:Bool} (hc:Ji P call) {T T' A:List Value} {S S' H:zx} {μ:Mu} {ω:Nat→Option wP} (hd:qY P ops=true) (h:jQ P ⟨hp0,!(checked P ops).isEmpty,fixed P ops⟩ (checked P ops) (again P ops) call ops 0 [] ops.toList T S=some (T',S')) (hG:GI μ S H) (hT:TI μ H ω T A) :
  After μ ω H T' S' (xJ P (lim P) ops A H):=by
 obtain ⟨Ts,As,Ss,Hs,μs,ωs,vs,zf,tr,hline,rfl,rfl,rfl,rfl,rfl,rfl,rfl,rfl,e9,e10,e11,hs,e12,e13,e14⟩:=line_of hc _ _ _ _ _ _ _ _ _ _ _ h hG hT
 obtain ⟨hGn,hTn⟩:=hline.inv ops.toList.length (Nat.le_refl _)
 have hLn:=hline.later (i:=0) ops.toList.length (by omega)
 rw [Nat.zero_add] at hLn
 refine ⟨As ops.toList.length,Hs ops.toList.length,μs ops.toList.length,ωs ops.toList.length,?_,hGn,hLn,hline.kept _ (Nat.le_refl _),hTn⟩
 simp only [qY,YM,Bool.and_eq_true] at hd
 refine ac6 hd.1 e9 fun p hp=>?_
 have hchk:(checked P ops).contains p.1=true:=by
  unfold checked
  simp only [List.contains_eq_mem,decide_eq_true_eq]
  exact List.mem_map.2 ⟨p,hp,rfl⟩
 have hdr:(Fx.mk hp0 (!(checked P ops).isEmpty) (fixed P ops)).dr=true:=by
  show (!(checked P ops).isEmpty)=true
  cases hl:checked P ops with
  | nil=>rw [hl] at hchk;cases hchk
  | cons a b=>rfl
 have hp2:=List.all_eq_true.1 hd.2 p hp
 have hp0:=hp
 unfold need at hp
 obtain ⟨i,hi,hp⟩:=List.mem_flatMap.1 hp
 obtain ⟨j,hj,hp⟩:=List.mem_filterMap.1 hp
 have hi:i < ops.toList.length:=List.mem_range.1 hi
 have hj:j < ops.toList.length:=List.mem_range.1 hj
 split at hp <;> first | (cases hp;done) | skip
 rename_i oi oj hoi hoj
 split at hp <;> first | (cases hp;done) | skip
 rename_i hcond
 cases hp
 simp only [Bool.and_eq_true,Bool.not_eq_true'] at hcond
 obtain ⟨⟨hni,hcj⟩,_⟩:=hcond
 dsimp only at hp2 hchk ⊢
 rw [hoi] at hp2
 dsimp only at hp2
 have hij:i≠j:=by
  intro e;subst e
  rw [hoi] at hoj;cases hoj
  rw [hni] at hcj;cases hcj
 have hGj:(tr.map (·.2.1)++[Hs ops.toList.length])[if j < i then j else j+1]?=some (Hs (if j < i then j else j+1)):=e11 _ (by split <;> omega)
 unfold Wi
 rw [hoi,e10 i hi,hGj]
 dsimp only
 obtain ⟨_,_,hor⟩:=hline.step i oi hoi
 rcases hor with ⟨hw,hv,ha,heT,heA,hq⟩ | ⟨hw,_⟩
 ·
  rw [hw]
  simp only [Bool.not_true,Bool.false_or]
  obtain ⟨hGi,hTi⟩:=hline.inv i (by omega)
  have hops:∀ x ∈ oi.op.operands.toList,V0 (μs i) (Hs i) (dem (zQ (Ts i) x)) (zQ (As i) x):=fun x hx=>hTi.eval (List.all_eq_true.1 (show oi.op.operands.toList.all yL=true from vN hv) x hx)
  have hq3:okq 3 (vs i)=true:=hq (by rw [Nat.zero_add];exact hchk)
  have same:∃ G',aOp P (zQ (As i)) oi (Hs (if j < i then j else j+1))=some (zf i,G')∧aaw 3 (zf i) (zf i)=true:=by
   by_cases hm:xE (zQ (Ts i)) oi
   case neg =>
    have hrm:yY oi=true:=by
     cases hrm:yY oi with
     | true=>rfl
     | false=>exact absurd (ZV hrm) hm
    have hin:(i,j) ∈ again P ops:=List.mem_filter.2 ⟨hp0,by dsimp only;rw [hoi];exact hrm⟩
    have hne:(again P ops).isEmpty=false:=by
     cases hl:again P ops with
     | nil=>rw [hl] at hin;cases hin
     | cons a b=>rfl
    have hst:=List.all_eq_true.1 (e14 hne) _ hin
    rw [List.nil_append] at hst
    have hi1:(hs++[(zh,Ss ops.toList.length)])[i]?=some (ku (Ts i) oi,Ss i):=by
     rw [List.getElem?_append_left (by omega)];exact e13 i oi hoi
    have hj1:∃ p2,(hs++[(zh,Ss ops.toList.length)])[if j < i then j else j+1]?=some (p2,Ss (if j < i then j else j+1)):=by
     by_cases hjl:(if j < i then j else j+1) < ops.toList.length
     ·
      rw [List.getElem?_append_left (by omega)]
      exact ⟨_,e13 _ _ (List.getElem?_eq_getElem hjl)⟩
     ·
      have:(if j < i then j else j+1)=ops.toList.length:=by split at hjl <;> (rename_i hh;simp only [hh,if_true,if_false];omega)
      rw [this,List.getElem?_append_right (by omega),e12,Nat.sub_self]
      exact ⟨_,rfl⟩
    obtain ⟨p2,hj1⟩:=hj1
    unfold X0 at hst
    dsimp only at hst
    rw [hi1,hj1] at hst
    dsimp only at hst
    have obj:∀ q r b,μs i q=some (r,b)→(∀ Sa Sb,yM (ku (Ts i) oi) Sa Sb=true→(∃ o,Sa.get q=some o∧o.alive=true)∧q ∉ Sb.log.take (Sb.log.length - Sa.log.length))→(Hs (if j < i then j else j+1)).get r=(Hs i).get r:=by
     intro q r b hq hQ
     by_cases hji:j < i
     ·
      rw [if_pos hji] at hst ⊢
      rw [if_pos hji] at hst
      obtain ⟨⟨o1,g1,g2⟩,g3⟩:=hQ _ _ hst
      obtain ⟨hGj3,_⟩:=hline.inv j (by omega)
      obtain ⟨r0,_,g4,_⟩:=hGj3.obj q o1 g1 g2
      have hL:=hline.later (i:=j) (i - j) (by omega)
      rw [show j+(i - j)=i by omega] at hL
      obtain ⟨b',hb'⟩:=hL.mu q r0 true g4
      rw [hq] at hb'
      cases hb'
      obtain ⟨new,n1,n2⟩:=hL.still
      rw [hGj3.log,hGi.log] at n1
      rw [n1] at g3
      simp only [List.length_append,Nat.add_sub_cancel,List.take_left] at g3
      exact (n2 q r g4 g3).2.symm
     ·
      rw [if_neg hji] at hst ⊢
      rw [if_neg hji] at hst
      obtain ⟨⟨o1,g1,g2⟩,g3⟩:=hQ _ _ hst
      have hb:=hGi.at hq g1 g2
      subst hb
      have hL:=hline.later (i:=i) (j+1 - i) (by omega)
      rw [show i+(j+1 - i)=j+1 by omega] at hL
      obtain ⟨hGj3,_⟩:=hline.inv (j+1) (by omega)
      obtain ⟨new,n1,n2⟩:=hL.still
      rw [hGj3.log,hGi.log] at n1
      rw [n1] at g3
      simp only [List.length_append,Nat.add_sub_cancel,List.take_left] at g3
      exact (n2 q r hq g3).2
    clear hst hi1 hj1
    have hok:=vN hv
    have hvo:=hv
    unfold wB at hv
    rw [if_pos hok] at hv
    obtain ⟨dst,op,type,pos,after,guard⟩:=oi
    unfold xE at hm
    cases op <;> dsimp only at hv hm <;> first | (exact absurd True.intro hm) | skip
    case load t a =>
     have hv:zZ P (fixed P ops) t (zQ (Ts i) a) (Ss i)=some (vs i,Ss (i+1)):=hv
     obtain ⟨ad,hq⟩:∃ q,zQ (Ts i) a=.pointer q:=Classical.byContradiction fun hn=>hm fun q hq=>hn ⟨q,hq⟩
     have hx:=hops a (by simp [Op.operands])
     obtain ⟨_,w,k1,k2⟩:=Js hv hx (.inr hGi)
     have hA:wG P (lim P) (As i) ⟨dst,.load t a,type,pos,after,guard⟩ (Hs i)=yh P t (zQ (As i) a) (Hs i):=by unfold wG;rw [if_pos hok];rfl
     rw [hA,k1] at ha
     have e:w=zf i:=by simpa using congrArg (Option.map Prod.fst) ha
     subst e
     rw [hq] at hx
     have hx:V0 (μs i) (Hs i) (.pointer ad) (zQ (As i) a):=hx
     generalize hpa:zQ (As i) a=pa at hx k1
     have hres:yh P t pa (Hs (if j < i then j else j+1))=some (zf i,Hs (if j < i then j else j+1)):=by
      cases hx with
      | sg hs =>
       cases ad with
       | none=>simp [yh] at k1
       | some ad=>simp [Go.Abs.sg] at hs
      | @ptr _ q o r b hmq =>
       refine VP (obj q r b hmq fun Sa Sb hQ=>?_) k1
       have hQ:yM (zQ (Ts i) a) Sa Sb=true:=hQ
       rw [hq] at hQ
       simp only [yM,Bool.and_eq_true,Bool.not_eq_true',List.contains_eq_mem,decide_eq_false_iff_not] at hQ
       refine ⟨?_,hQ.2⟩
       have h1:=hQ.1
       split at h1 <;> first | (cases h1;done) | skip
       rename_i hsa
       exact ⟨_,hsa,rfl⟩
     rw [← hpa] at hres
     exact ⟨_,hres,Wn 3 (JO hq3) k2.dem⟩
    case lookup t x k ok =>
     have hv:kQ P (fixed P ops) t (zQ (Ts i) x) (zQ (Ts i) k) ok (Ss i)=some (vs i,Ss (i+1)):=hv
     have hx:=hops x (by simp [Op.operands])
     obtain ⟨_,w,k1,k2⟩:=WI hv hx (hops k (by simp [Op.operands])) (.inr hGi)
     have hA:wG P (lim P) (As i) ⟨dst,.lookup t x k ok,type,pos,after,guard⟩ (Hs i)=jW P t (zQ (As i) x) (zQ (As i) k) ok (Hs i):=by unfold wG;rw [if_pos hok];rfl
     rw [hA,k1] at ha
     have e:w=zf i:=by simpa using congrArg (Option.map Prod.fst) ha
     subst e
     have hres:jW P t (zQ (As i) x) (zQ (As i) k) ok (Hs (if j < i then j else j+1))=some (zf i,Hs (if j < i then j else j+1)):=by
      refine Qq (fun r hr=>?_) k1
      rw [hr] at hx
      generalize hu:dem (zQ (Ts i) x)=u at hx
      have hum:∃ q b,u=.map (some q)∧μs i q=some (r,b):=by
       cases hx with
       | sg hs=>simp [Go.Abs.sg] at hs
       | map hmq=>exact ⟨_,_,rfl,hmq⟩
      obtain ⟨q,b,rfl,hmq⟩:=hum
      have hxe:zQ (Ts i) x=.map (some q):=by
       cases hvx:zQ (Ts i) x <;> rw [hvx] at hu <;> simp [dem,qF] at hu <;> rw [hu]
      refine obj q r b hmq fun Sa Sb hQ=>?_
      have hQ:yM (zQ (Ts i) x) Sa Sb=true:=hQ
      rw [hxe] at hQ
      simp only [yM,Bool.and_eq_true,Bool.not_eq_true',List.contains_eq_mem,decide_eq_false_iff_not] at hQ
      refine ⟨?_,hQ.2⟩
      have h1:=hQ.1
      split at h1 <;> first | (cases h1;done) | skip
      rename_i hsa
      exact ⟨_,hsa,rfl⟩
     exact ⟨_,hres,Wn 3 (JO hq3) k2.dem⟩
   by_cases hrd:qE oi=false
   ·
    obtain ⟨a,h1,h2⟩:=aeA hdr hv hni hrd hops
    have h3:=(h2 (Hs i)).2
    rw [ha] at h3
    have e:zf i=a:=by simpa using congrArg (Option.map Prod.fst) h3
    subst e
    exact ⟨_,(h2 _).1,Wn 3 (JO hq3) h1⟩
   ·
    have hrd:qE oi=true:=by simpa using hrd
    by_cases hlt:i < j
    ·
     rw [if_neg (by omega)]
     have hL:=hline.later (i:=i) (j+1 - i) (by omega)
     rw [show i+(j+1 - i)=j+1 by omega] at hL
     obtain ⟨a,h1,_,h3,h4,_⟩:=afw hdr hv hni hm hops hL
     rw [ha] at h4
     have e:zf i=a:=by simpa using congrArg (Option.map Prod.fst) h4
     subst e
     exact ⟨_,h3,Wn 3 (JO hq3) h1⟩
    ·
     rw [if_pos (by omega)]
     rw [hrd] at hp2
     have hcl:yE ((abY P (fixed P ops) (ops.toList.drop j) []).getD (i - j) []) oi=true:=by
      simpa [hlt] using hp2
     obtain ⟨hGj2,hTj⟩:=hline.inv j (by omega)
     have hC0:Clear (μs j) (Hs j) [] (Ts j) (As j):=fun t _=>(hTj.slots t).v0
     have hC:=hline.clear hdr (j:=j) (by omega) _ [] j (Nat.le_refl _) rfl hC0 (i - j) (by rw [List.length_drop];omega)
     rw [show j+(i - j)=i by omega] at hC
     have hL:=hline.later (i:=j) (i - j) (by omega)
     rw [show j+(i - j)=i by omega] at hL
     obtain ⟨a,h1,h2,_,_,h5⟩:=afw hdr hv hni hm (hC.operands (vN hv) hcl) hL
     rw [ha] at h5
     have e:zf i=a:=by simpa using congrArg (Option.map Prod.fst) h5
     subst e
     exact ⟨_,h2,Wn 3 (JO hq3) h1⟩
  obtain ⟨G',h1,h2⟩:=same
  unfold recheck
  rw [h1]
  exact h2
 ·
  rw [hw]
  rfl
end
end Go.Abs
namespace Go.Abs
open Go.RowKit
section
variable {P:Program} {call:FuncId→List Value→M Value}
def aev (μ:Mu) (ω:Nat→Option wP) (H:zx) (e:AEx) (T':List Value) (S':zx) (R:St):Prop :=
 ∃ A' H' μ' ω',R=some (e,A',H')∧GI μ' S' H'∧Later μ H μ' H'∧Kept ω H ω' H'∧TI μ' H' ω' T' A'
theorem ac8 {hp:Bool} (hc:Ji P call) (fuel:Nat):∀ (c:Code) (T T' A:List Value) (S S' H:zx) (μ:Mu) (ω:Nat→Option wP) (e:AEx),wM P hp call fuel c T S=some (e,T',S')→GI μ S H→TI μ H ω T A→aev μ ω H e T' S' (wL P c A H):=by
 intro c
 induction c with
 | skip =>
  intro T T' A S S' H μ ω e h hG hT
  simp only [wM,Option.some.injEq,Prod.mk.injEq] at h
  obtain ⟨rfl,rfl,rfl⟩:=h
  exact ⟨A,H,μ,ω,rfl,hG,Later.refl _ _,Kept.refl _ _,hT⟩
 | exit id =>
  intro T T' A S S' H μ ω e h hG hT
  simp only [wM,Option.some.injEq,Prod.mk.injEq] at h
  obtain ⟨rfl,rfl,rfl⟩:=h
  exact ⟨A,H,μ,ω,rfl,hG,Later.refl _ _,Kept.refl _ _,hT⟩
 | ret =>
  intro T T' A S S' H μ ω e h hG hT
  simp only [wM,Option.some.injEq,Prod.mk.injEq] at h
  obtain ⟨rfl,rfl,rfl⟩:=h
  exact ⟨A,H,μ,ω,rfl,hG,Later.refl _ _,Kept.refl _ _,hT⟩
 | region i ops d =>
  intro T T' A S S' H μ ω e h hG hT
  cases d with
  | false =>
   simp only [wM] at h
   split at h <;> first | (cases h;done) | skip
   rename_i T1 S1 ho
   cases h
   obtain ⟨A',H',μ',ω',h1,h2,h3,h4,h5⟩:=afr hc _ _ _ _ _ _ _ _ _ ho hG hT
   exact ⟨A',H',μ',ω',by simp only [wL,h1],h2,h3,h4,h5⟩
  | true =>
   simp only [wM] at h
   split at h <;> first | (cases h;done) | skip
   rename_i hd
   split at h <;> first | (cases h;done) | skip
   rename_i T1 S1 ho
   cases h
   obtain ⟨A',H',μ',ω',h1,h2,h3,h4,h5⟩:=abK hc hd ho hG hT
   exact ⟨A',H',μ',ω',by simp only [wL,h1],h2,h3,h4,h5⟩
 | seq x y ihx ihy =>
  intro T T' A S S' H μ ω e h hG hT
  simp only [wM] at h
  split at h
  ·
   rename_i T1 S1 hx
   obtain ⟨A1,H1,μ1,ω1,h1,h2,h3,h4,h5⟩:=ihx _ _ _ _ _ _ _ _ _ hx hG hT
   obtain ⟨A2,H2,μ2,ω2,k1,k2,k3,k4,k5⟩:=ihy _ _ _ _ _ _ _ _ _ h h2 h5
   exact ⟨A2,H2,μ2,ω2,by simp only [wL,h1];exact k1,k2,h3.trans k3,h4.trans k4,k5⟩
  ·
   rename_i hne
   obtain ⟨A1,H1,μ1,ω1,h1,h2,h3,h4,h5⟩:=ihx _ _ _ _ _ _ _ _ _ h hG hT
   refine ⟨A1,H1,μ1,ω1,?_,h2,h3,h4,h5⟩
   simp only [wL,h1]
   cases e with
   | normal=>exact absurd h (hne _ _)
   | exit id=>rfl
   | ret=>rfl
 | cond c x y ihx ihy =>
  intro T T' A S S' H μ ω e h hG hT
  simp only [wM] at h
  split at h <;> first | (cases h;done) | skip
  rename_i hok
  have hv:=hT.eval hok
  split at h
  ·
   rename_i hb
   have:zQ A c=.bool true:=je hv (by rw [hb];rfl) |>.trans hb
   obtain ⟨A1,H1,μ1,ω1,h1,h2,h3,h4,h5⟩:=ihx _ _ _ _ _ _ _ _ _ h hG hT
   exact ⟨A1,H1,μ1,ω1,by simp only [wL,hok,if_true,this];exact h1,h2,h3,h4,h5⟩
  ·
   rename_i hb
   have:zQ A c=.bool false:=je hv (by rw [hb];rfl) |>.trans hb
   obtain ⟨A1,H1,μ1,ω1,h1,h2,h3,h4,h5⟩:=ihy _ _ _ _ _ _ _ _ _ h hG hT
   exact ⟨A1,H1,μ1,ω1,by simp only [wL,hok,if_true,this];exact h1,h2,h3,h4,h5⟩
  ·
   cases h
 | block id c ih =>
  intro T T' A S S' H μ ω e h hG hT
  simp only [wM] at h
  split at h
  ·
   rename_i id' T1 S1 hx
   obtain ⟨A1,H1,μ1,ω1,h1,h2,h3,h4,h5⟩:=ih _ _ _ _ _ _ _ _ _ hx hG hT
   by_cases hid:id'=id
   ·
    rw [if_pos hid] at h
    cases h
    exact ⟨A1,H1,μ1,ω1,by simp only [wL,h1,if_pos hid],h2,h3,h4,h5⟩
   ·
    rw [if_neg hid] at h
    cases h
    exact ⟨A1,H1,μ1,ω1,by simp only [wL,h1,if_neg hid],h2,h3,h4,h5⟩
  ·
   rename_i hne
   obtain ⟨A1,H1,μ1,ω1,h1,h2,h3,h4,h5⟩:=ih _ _ _ _ _ _ _ _ _ h hG hT
   refine ⟨A1,H1,μ1,ω1,?_,h2,h3,h4,h5⟩
   simp only [wL,h1]
   cases e with
   | normal=>rfl
   | exit id'=>exact absurd h (hne _ _ _)
   | ret=>rfl
 | loop c ih =>
  have key:∀ (n:Nat) (T T' A:List Value) (S S' H:zx) (μ:Mu) (ω:Nat→Option wP) (e:AEx),yA n (wM P hp call fuel c) T S=some (e,T',S')→GI μ S H→TI μ H ω T A→aev μ ω H e T' S' (yN (wL P c) A H):=by
   intro n
   induction n with
   | zero=>intro T T' A S S' H μ ω e h;cases h
   | succ n ihn =>
    intro T T' A S S' H μ ω e h hG hT
    simp only [yA] at h
    split at h
    ·
     rename_i T1 S1 hx
     obtain ⟨A1,H1,μ1,ω1,h1,h2,h3,h4,h5⟩:=ih _ _ _ _ _ _ _ _ _ hx hG hT
     obtain ⟨A2,H2,μ2,ω2,k1,k2,k3,k4,k5⟩:=ihn _ _ _ _ _ _ _ _ _ h h2 h5
     exact ⟨A2,H2,μ2,ω2,by rw [yc h1];exact k1,k2,h3.trans k3,h4.trans k4,k5⟩
    ·
     rename_i hne
     obtain ⟨A1,H1,μ1,ω1,h1,h2,h3,h4,h5⟩:=ih _ _ _ _ _ _ _ _ _ h hG hT
     exact ⟨A1,H1,μ1,ω1,jK h1 (fun he=>by subst he;exact hne _ _ h),h2,h3,h4,h5⟩
  intro T T' A S S' H μ ω e h hG hT
  simp only [wM] at h
  obtain ⟨A1,H1,μ1,ω1,h1,h2⟩:=key fuel _ _ _ _ _ _ _ _ _ h hG hT
  exact ⟨A1,H1,μ1,ω1,by simp only [wL];exact h1,h2⟩
 | _=>intro T T' A S S' H μ ω e h;simp only [wM] at h;cases h
theorem VV.agq {μ:Mu} {H:zx} {ω ω':Nat→Option wP} {f:wP→Option wP} (hω:∀ r,ω' r=(ω r).bind f) {s s':wP} (hs:f s=some s') {v a:Value} (h:VV μ H ω (some s) v a) (hv:jG v=true):VV μ H ω' (some s') v a:=by
 cases h with
 | sg h=>exact .sg h
 | ptr h=>exact .ptr h
 | map h=>exact .map h
 | slm h=>exact .slm h
 | slE=>exact .slE
 | sl hr hp hg hl hl' hc=>exact .sl hr hp hg hl hl' (fun i hi=>(hc i hi).at0)
 | so h hr hp hg hl hl' hc=>exact .so (by rw [hω,h];exact hs) hr hp hg hl hl' (fun i hi=>(hc i hi).at0)
 | ep hr hp hg hl hc=>exact .ep hr hp hg hl (fun i hi=>(hc i hi).at0)
 | func fn hx hc h1 h2=>exact .func fn hx hc (fun i=>(h1 i).at0) (fun i=>(h2 i).at0)
 | agg hx hh=>exact .agg hx (fun i=>(hh i).at0)
 | nores=>exact .nores
 | @tuple _ x x' hx hh =>
  have h0:x.size=0:=by simpa [jG] using hv
  have e1:x=#[]:=Array.eq_empty_of_size_eq_zero h0
  have e2:x'=#[]:=Array.eq_empty_of_size_eq_zero (by rw [← hx];exact h0)
  subst e1 e2
  exact .nores
def place (rs:List ResultVar):wP→Option wP
 | .ext=>some .ext
 | .res _=>none
 | .slot i j=>match rs with
  | [.tmp t]=>if i=t then some (.res j) else none
  | _=>match j with
   | none=>(rs.findIdx? (adq i)).map fun k=>.res (some k)
   | some _=>none
theorem aat {rs:List ResultVar} {i:Nat} (h:∀ t,rs≠[.tmp t]):place rs (.slot i none)=(rs.findIdx? (adq i)).map fun k=>.res (some k):=by
 match rs,h with
 | [],_=>rfl
 | [.tmp t],h=>exact absurd rfl (h t)
 | [.cell _ _],_=>rfl
 | .tmp _::_::_,_=>rfl
 | .cell _ _::_::_,_=>rfl
theorem Xk {μ:Mu} {ω:Nat→Option wP} {S H:zx} {T A:List Value} (hG:GI μ S H) (hT:TI μ H ω T A):∀ (l:List ResultVar) (vs:List Value),zJ P T S l=some vs →
  ∃ zf,kM P A H l=some zf∧vs.length=l.length∧zf.length=l.length∧∀ i:Nat,match (l[i]?:Option ResultVar) with
   | some (.tmp t)=>vs.getD i zh=T.getD t zh∧zf.getD i zh=A.getD t zh
   | _=>V0 μ H (vs.getD i zh) (zf.getD i zh):=by
 intro l
 induction l with
 | nil =>
  intro vs h
  simp only [zJ,Option.some.injEq] at h
  subst h
  exact ⟨[],rfl,rfl,rfl,fun i=>by simpa using VV.zh⟩
 | cons x l ih =>
  intro vs h
  cases x with
  | tmp t =>
   simp only [zJ] at h
   split at h <;> first | (cases h;done) | skip
   rename_i vs' hr
   cases h
   obtain ⟨zf,h1,h2,h3,h4⟩:=ih _ hr
   refine ⟨A.getD t zh::zf,by simp only [kM,h1],by simp [h2],by simp [h3],fun i=>?_⟩
   cases i with
   | zero=>exact ⟨rfl,rfl⟩
   | succ i=>simpa using h4 i
  | cell a t =>
   simp only [zJ] at h
   split at h <;> first | (cases h;done) | skip
   rename_i v S1 vs' hl hr
   cases h
   obtain ⟨zf,h1,h2,h3,h4⟩:=ih _ hr
   obtain ⟨_,w,k1,k2⟩:=Js hl (hT.slots a).v0 (.inr hG)
   refine ⟨w::zf,by simp only [kM,k1,h1],by simp [h2],by simp [h3],fun i=>?_⟩
   cases i with
   | zero=>exact k2
   | succ i=>simpa using h4 i
theorem ae1 {μ:Mu} {ω:Nat→Option wP} {S S' H:zx} {T A:List Value} {fn:Func} {v:Value} (hG:GI μ S H) (hT:TI μ H ω T A) (h:aav P fn T S=some (v,S')) :
  S'=S∧∃ a,adX P fn A H=some (a,H)∧VV μ H (fun r=>(ω r).bind (place fn.results.toList)) (some (.res none)) v a:=by
 unfold aav at h
 split at h <;> first | (cases h;done) | skip
 rename_i vs hvs
 split at h <;> first | (cases h;done) | skip
 rename_i hok
 obtain ⟨zf,h1,h2,h3,h4⟩:=Xk hG hT _ _ hvs
 generalize hrs:fn.results.toList=rs at *
 split at h
 ·
  rename_i v1
  cases h
  obtain ⟨a,rfl⟩:∃ a,zf=[a]:=by
   match zf,h3.trans h2.symm with
   | [a],_=>exact ⟨a,rfl⟩
  refine ⟨rfl,a,by simp only [adX,hrs,h1],?_⟩
  match rs,h2 with
  | [x],_ =>
   have:=h4 0
   cases x with
   | tmp t =>
    simp only [List.getElem?_cons_zero,List.getD_cons_zero] at this
    obtain ⟨rfl,rfl⟩:=this
    refine (hT.slots t).Qa (fun _=>rfl) _ (fun s hs=>?_)
    cases hs
    refine ⟨_,rfl,by simp only [place,if_true],fun k t' ht=>?_⟩
    cases ht
    exact ⟨_,rfl,by simp only [place,if_true]⟩
   | cell b t=>exact (show V0 μ H v a from this).at0
 ·
  rename_i hne
  split at h <;> first | (cases h;done) | skip
  rename_i hnt
  cases h
  refine ⟨rfl,.tuple zf.toArray,?_,.tuple (by simp [h2,h3]) fun i=>?_⟩
  ·
   simp only [adX,hrs,h1]
   match zf,vs,h3.trans h2.symm,hne with
   | [],_,_,_=>rfl
   | [a],[v],_,hne=>exact absurd rfl (hne v)
   | a::b::c,_,_,_=>rfl
  ·
   have e1:vs.toArray.getD i zh=vs.getD i zh:=by rw [← getD_toList,List.toList_toArray]
   have e2:zf.toArray.getD i zh=zf.getD i zh:=by rw [← getD_toList,List.toList_toArray]
   rw [e1,e2]
   have h5:=h4 i
   cases hx:rs[i]? with
   | none=>rw [hx] at h5;exact (show V0 μ H _ _ from h5).at0
   | some x =>
    rw [hx] at h5
    cases x with
    | cell b t=>exact (show V0 μ H _ _ from h5).at0
    | tmp t =>
     dsimp only at h5
     have hi:i < rs.length:=(List.getElem?_eq_some_iff.1 hx).1
     have hid:rs.findIdx? (adq t)=some i:=by
      have:=List.all_eq_true.1 hok i (List.mem_range.2 hi)
      rw [hx] at this
      simpa using this
     have hnt2:jG (T.getD t zh)=true:=by
      rw [← h5.1,List.getD_eq_getElem?_getD,List.getElem?_eq_getElem (by omega)]
      exact List.all_eq_true.1 hnt _ (List.getElem_mem _)
     rw [h5.1,h5.2]
     refine (hT.slots t).agq (fun _=>rfl) (s':=.res (some i)) ?_ hnt2
     have hne1:∀ t',rs≠[.tmp t']:=by
      intro t' e
      rw [e] at h2
      match vs,h2 with
      | [v],_=>exact hne v rfl
     rw [aat hne1,hid];rfl
def abx (P:Program) (O:Ora):Prop:=∀ f q,O.fn f=some q→Ji P (fun g args=>if g=f then q args else fun _=>none)
theorem afj {s t:wP} {i:Nat} (h:s.comp i=some t):t≠.ext:=by
 cases s with
 | ext=>cases h
 | slot a b=>cases b <;> first | (cases h;exact fun h=>by cases h) | cases h
 | res b=>cases b <;> first | (cases h;exact fun h=>by cases h) | cases h
theorem VV.wW {μ μ':Mu} {H:zx} {ω ω':Nat→Option wP} {es:List Nat} (hp:∀ r l own e,H.get r=some (.cells l own e)→e ∉ es→Zj μ r→Zj μ' r) (hω:∀ r s,s≠.ext→ω r=some s→ω' r=some s)
  {ℓ:Option wP} {v a:Value} (h:VV μ H ω ℓ v a):∀ d,Go.Abs.wW es d v=true→(∀ s,ℓ=some s→s≠.ext)→VV μ' H ω' ℓ v a:=by
 induction h with
 | sg h=>exact fun _ _ _=>.sg h
 | ptr h=>intro d hc;cases d <;> simp [Go.Abs.wW] at hc
 | map h=>intro d hc;cases d <;> simp [Go.Abs.wW] at hc
 | slm h=>intro d hc;cases d <;> simp [Go.Abs.wW] at hc
 | slE=>exact fun _ _ _=>.slE
 | @sl ℓ e n r o cs l own hr hpr hg hl hn hc ih =>
  intro d hcl _
  cases d with
  | zero=>cases hcl
  | succ d =>
   have hv:Go.Abs.wW es (d+1) (.iface 1 (.iface e (.iface n (.agg cs))))=(!es.contains e && cs.toList.all (Go.Abs.wW es d)):=rfl
   rw [hv,Bool.and_eq_true] at hcl
   have he:e ∉ es:=by simpa using hcl.1
   refine .sl hr (hp _ _ _ _ hg he hpr) hg hl hn (fun i hi=>ih i hi d ?_ (fun s hs=>by cases hs))
   rw [List.getD_eq_getElem?_getD,List.getElem?_eq_getElem (by omega)]
   exact List.all_eq_true.1 hcl.2 _ (List.getElem_mem _)
 | @so s e n r cs l anc hw hr hpr hg hl hn hc ih =>
  intro d hcl hs
  cases d with
  | zero=>cases hcl
  | succ d =>
   have hv:Go.Abs.wW es (d+1) (.iface 2 (.iface e (.iface n (.agg cs))))=(!es.contains e && cs.toList.all (Go.Abs.wW es d)):=rfl
   rw [hv,Bool.and_eq_true] at hcl
   have he:e ∉ es:=by simpa using hcl.1
   refine .so (hω _ _ (hs _ rfl) hw) hr (hp _ _ _ _ hg he hpr) hg hl hn (fun i hi=>ih i hi d ?_ (fun s hs=>by cases hs))
   rw [List.getD_eq_getElem?_getD,List.getElem?_eq_getElem (by omega)]
   exact List.all_eq_true.1 hcl.2 _ (List.getElem_mem _)
 | ep hr hpr hg hl hc ih =>
  intro d hcl
  cases d with
  | zero=>cases hcl
  | succ d=>simp [Go.Abs.wW,vSl] at hcl
 | func fn hx hc h1 h2=>intro d hc;cases d <;> simp [Go.Abs.wW] at hc
 | @agg ℓ x x' hx hh ih =>
  intro d hcl _
  cases d with
  | zero=>cases hcl
  | succ d =>
   have hcl:x.toList.all (Go.Abs.wW es d)=true:=hcl
   refine .agg hx (fun i=>?_)
   by_cases hi:i < x.size
   ·
    refine ih i d ?_ (fun s hs=>by cases hs)
    rw [Array.getD_eq_getD_getElem?,Array.getElem?_eq_getElem hi]
    exact List.all_eq_true.1 hcl _ (by simp)
   ·
    rw [Array.getD_eq_getD_getElem?,Array.getElem?_eq_none (Nat.le_of_not_lt hi),Array.getD_eq_getD_getElem?,Array.getElem?_eq_none (by omega)]
    exact .nores
 | nores=>exact fun _ _ _=>.nores
 | @tuple ℓ x x' hx hh ih =>
  intro d hcl hs
  cases d with
  | zero=>cases hcl
  | succ d =>
   have hcl:x.toList.all (Go.Abs.wW es d)=true:=hcl
   refine .tuple hx (fun i=>?_)
   by_cases hi:i < x.size
   ·
    refine ih i d ?_ (fun s hb=>?_)
    ·
     rw [Array.getD_eq_getD_getElem?,Array.getElem?_eq_getElem hi]
     exact List.all_eq_true.1 hcl _ (by simp)
    ·
     cases ℓ with
     | none=>cases hb
     | some s0=>exact afj (s:=s0) hb
   ·
    rw [Array.getD_eq_getD_getElem?,Array.getElem?_eq_none (Nat.le_of_not_lt hi),Array.getD_eq_getD_getElem?,Array.getElem?_eq_none (by omega)]
    exact .nores
open Classical in
noncomputable def agM (μ:Mu) (ω:Nat→Option wP):Nat→Option wP:=fun r=>if ∃ q,μ q=some (r,true) then none else ω r
open Classical in
noncomputable def Qj (μ μ1:Mu) (ω:Nat→Option wP):Nat→Option wP:=fun r=>if ∃ q,μ q=some (r,true)∧¬ μ1 q=some (r,true) then some .ext else ω r
theorem adx {call:FuncId→List Value→M Value} (hc:Ji P call) {hps:FuncId→Bool} {hp:Bool}:Ji P (wz hps hp call):=by
 cases hp with
 | false=>exact hc
 | true =>
  intro g args aargs S v S' h μ H ω hG hA hD hE
  unfold wz at h
  dsimp only at h
  split at h
  ·
   exact hc g args aargs S v S' h μ H ω hG hA hD hE
  ·
   split at h <;> first | (cases h;done) | skip
   rename_i m S1 hf
   obtain ⟨μ1,h1,h2,h3,hsz⟩:=Qv _ _ _ _ _ _ hf hG hA
   split at h <;> first | (cases h;done) | skip
   rename_i r0 hr0
   obtain ⟨v0,S2⟩:=r0
   simp only [Option.some.injEq] at h
   unfold JV at h
   dsimp only at h
   split at h
   ·
    rename_i hb
    cases h
    simp only [Bool.and_eq_true,beq_iff_eq] at hb
    obtain ⟨⟨_,hgr⟩,hlog⟩:=hb
    have hlent:∀ q r,μ q=some (r,true)→¬ μ1 q=some (r,true)→r < H.next∧Zj μ1 r:=fun q r hq hn =>
     ⟨hG.lt q r _ hq,fun q' hq'=>by
      rcases h2.new q' r hq' with h5 | h5
      ·
       have:=hG.inj q q' r hq h5
       subst this
       exact hn hq'
      ·
       have:=hG.lt q r _ hq;omega,by rw [h2.hid];exact hG.vis q r hq⟩
    have hDL:Dom μ1 H (Qj μ μ1 ω):=fun r s hs=>by
     unfold Qj at hs
     split at hs
     ·
      rename_i hx
      obtain ⟨q,hq,hn⟩:=hx
      exact hlent q r hq hn
     ·
      exact ⟨(hD r s hs).1,h2.priv (hD r s hs).1 (hD r s hs).2⟩
    have hEL:∀ r s,Qj μ μ1 ω r=some s→s=.ext:=fun r s hs=>by
     unfold Qj at hs
     split at hs
     ·
      cases hs;rfl
     ·
      exact hE r s hs
    obtain ⟨a,H',μ',ω',k1,k2,k3,k4,k5,k6⟩:=hc g m aargs S1 v S2 hr0 μ1 H (Qj μ μ1 ω) h1 h3 hDL hEL
    have hsame:∀ q r,μ q=some (r,true)→H'.get r=H.get r:=fun q r hq=>by
     by_cases hn:μ1 q=some (r,true)
     ·
      obtain ⟨new,e1,e2⟩:=k3.still
      have:new=[]:=by
       rw [k2.log,h1.log,hlog] at e1
       exact List.append_cancel_right (bs:=S1.log) (by rw [← e1];rfl)
      subst this
      exact (e2 q r hn (by simp)).2
     ·
      exact (k4 r (by unfold Qj;rw [if_pos ⟨q,hq,hn⟩])).2
    have hL:Later μ H μ H':=⟨fun _ _ b h=>⟨b,h⟩,k3.next,fun _ _ h=>.inl h,rfl,fun r hr hh=>k3.same r hr (by rw [h2.hid];exact hh),⟨[],rfl,fun q r hq _=>⟨hq,hsame q r hq⟩⟩,
     fun r l own e hr hp hg=>k3.cells r l own e hr (h2.priv hr hp) hg⟩
    rcases Bool.or_eq_true _ _ |>.mp hgr with hgr | hgr
    ·
     refine ⟨a,H',μ,ω,k1,hG.later hL rfl hsame,hL,fun r hr=>⟨hr,(k4 r ?_).2⟩,fun r s hs=>⟨Nat.lt_of_lt_of_le (hD r s hs).1 k3.next,(hD r s hs).2⟩,?_⟩
     ·
      unfold Qj
      split
      ·
       rfl
      ·
       exact hr
     ·
      rw [VV.qC hgr k6]
      exact VV.wC hgr
    ·
     have hpr:∀ r l own e,H'.get r=some (.cells l own e)→e ∉ acN S args→Zj μ' r→Zj μ r:=fun r l own e hg he hp=>by
      refine ⟨fun q hq=>?_,by rw [← h2.hid,← k3.hid];exact hp.2⟩
      rcases hsz q r hq with hn | ⟨l1,own1,e1,he1,hg1⟩
      ·
       obtain ⟨new,e1,e2⟩:=k3.still
       have:new=[]:=by
        rw [k2.log,h1.log,hlog] at e1
        exact List.append_cancel_right (bs:=S1.log) (by rw [← e1];rfl)
       subst this
       exact hp.1 q (e2 q r hn (by simp)).1
      ·
       rw [hsame q r hq,hg1] at hg
       cases hg
       exact he he1
     have hno:∀ r s,ω r=some s→¬ ∃ q,μ q=some (r,true):=fun r s hs ⟨q,hq⟩=>(hD r s hs).2.1 q hq
     have hst:∀ r,(∃ q,μ q=some (r,true))→∀ s,ω' r=some s→s=.ext:=fun r ⟨q,hq⟩ s hs=>by
      by_cases hn:μ1 q=some (r,true)
      ·
       exfalso
       obtain ⟨new,e1,e2⟩:=k3.still
       have:new=[]:=by
        rw [k2.log,h1.log,hlog] at e1
        exact List.append_cancel_right (bs:=S1.log) (by rw [← e1];rfl)
       subst this
       exact (k5 r s hs).2.1 q (e2 q r hn (by simp)).1
      ·
       have:=(k4 r (by unfold Qj;rw [if_pos ⟨q,hq,hn⟩])).1
       rw [hs] at this
       cases this
       rfl
     refine ⟨a,H',μ,agM μ ω',k1,hG.later hL rfl hsame,hL,fun r hr=>?_,fun r s hs=>?_,?_⟩
     ·
      have hnr:=hno r _ hr
      unfold agM
      rw [if_neg hnr]
      refine k4 r ?_
      unfold Qj
      rw [if_neg (fun ⟨q,hq,_⟩=>hnr ⟨q,hq⟩)]
      exact hr
     ·
      unfold agM at hs
      split at hs
      ·
       cases hs
      ·
       rename_i hnr
       exact ⟨(k5 r s hs).1,fun q hq=>hnr ⟨q,hq⟩,by rw [← h2.hid,← k3.hid];exact (k5 r s hs).2.2⟩
     ·
      refine k6.wW hpr (fun r s hne hs=>?_) 16 hgr (fun s hs=>by cases hs;exact fun h=>by cases h)
      unfold agM
      rw [if_neg (fun hx=>hne (hst r hx s hs))]
      exact hs
   ·
    cases h
    obtain ⟨a,H',μ',ω',k1,k2,k3,k4,k5,k6⟩:=hc g m aargs S1 v S' hr0 μ1 H ω h1 h3 (fun r s hs=>⟨(hD r s hs).1,h2.priv (hD r s hs).1 (hD r s hs).2⟩) hE
    exact ⟨a,H',μ',ω',k1,k2,h2.trans k3,k4,k5,k6⟩
theorem VV.clean {μ μ':Mu} {H:zx} {ω:Nat→Option wP} (hp:∀ r,Zj μ r→Zj μ' r) {ℓ:Option wP} {v a:Value} (h:VV μ H ω ℓ v a):∀ d,zX d v=true→VV μ' H ω ℓ v a:=by
 induction h with
 | sg h=>exact fun _ _=>.sg h
 | ptr h=>intro d hc;cases d <;> simp [zX] at hc
 | map h=>intro d hc;cases d <;> simp [zX] at hc
 | slm h=>intro d hc;cases d <;> simp [zX] at hc
 | slE=>exact fun _ _=>.slE
 | sl hr hpr hg hl hn hc ih =>
  intro d hcl
  obtain ⟨d,rfl⟩:∃ k,d=k+4:=by
   match d,hcl with
   | 0,h=>cases h
   | 1,h=>simp [zX] at h
   | 2,h=>simp [zX] at h
   | 3,h=>simp [zX] at h
   | k+4,_=>exact ⟨k,rfl⟩
  simp only [zX] at hcl
  refine .sl hr (hp _ hpr) hg hl hn (fun i hi=>ih i hi d ?_)
  rw [List.getD_eq_getElem?_getD,List.getElem?_eq_getElem (by omega)]
  exact List.all_eq_true.1 hcl _ (List.getElem_mem _)
 | so hω hr hpr hg hl hn hc ih =>
  intro d hcl
  obtain ⟨d,rfl⟩:∃ k,d=k+4:=by
   match d,hcl with
   | 0,h=>cases h
   | 1,h=>simp [zX] at h
   | 2,h=>simp [zX] at h
   | 3,h=>simp [zX] at h
   | k+4,_=>exact ⟨k,rfl⟩
  simp only [zX] at hcl
  refine .so hω hr (hp _ hpr) hg hl hn (fun i hi=>ih i hi d ?_)
  rw [List.getD_eq_getElem?_getD,List.getElem?_eq_getElem (by omega)]
  exact List.all_eq_true.1 hcl _ (List.getElem_mem _)
 | ep hr hpr hg hl hc ih =>
  intro d hcl
  obtain ⟨d,rfl⟩:∃ k,d=k+2:=by
   match d,hcl with
   | 0,h=>cases h
   | 1,h=>simp [zX] at h
   | k+2,_=>exact ⟨k,rfl⟩
  simp only [zX] at hcl
  refine .ep hr (hp _ hpr) hg hl (fun i hi=>ih i hi d ?_)
  rw [List.getD_eq_getElem?_getD,List.getElem?_eq_getElem hi]
  exact List.all_eq_true.1 hcl _ (List.getElem_mem _)
 | func fn hx hc h1 h2=>intro d hc;cases d <;> simp [zX] at hc
 | @agg ℓ x x' hx hh ih =>
  intro d hcl
  obtain ⟨d,rfl⟩:∃ k,d=k+1:=by
   match d,hcl with
   | 0,h=>cases h
   | k+1,_=>exact ⟨k,rfl⟩
  simp only [zX] at hcl
  refine .agg hx (fun i=>?_)
  by_cases hi:i < x.size
  ·
   refine ih i d ?_
   rw [Array.getD_eq_getD_getElem?,Array.getElem?_eq_getElem hi]
   exact List.all_eq_true.1 hcl _ (by simp)
  ·
   rw [Array.getD_eq_getD_getElem?,Array.getElem?_eq_none (Nat.le_of_not_lt hi),Array.getD_eq_getD_getElem?,Array.getElem?_eq_none (by omega)]
   exact .nores
 | nores=>exact fun _ _=>.nores
 | @tuple ℓ x x' hx hh ih =>
  intro d hcl
  obtain ⟨d,rfl⟩:∃ k,d=k+1:=by
   match d,hcl with
   | 0,h=>cases h
   | k+1,_=>exact ⟨k,rfl⟩
  simp only [zX] at hcl
  refine .tuple hx (fun i=>?_)
  by_cases hi:i < x.size
  ·
   refine ih i d ?_
   rw [Array.getD_eq_getD_getElem?,Array.getElem?_eq_getElem hi]
   exact List.all_eq_true.1 hcl _ (by simp)
  ·
   rw [Array.getD_eq_getD_getElem?,Array.getElem?_eq_none (Nat.le_of_not_lt hi),Array.getD_eq_getD_getElem?,Array.getElem?_eq_none (by omega)]
   exact .nores
theorem VV.lower {μ μ' : Mu} {S H : zx} {ω : Nat → Option wP} (hG : GI μ S H) (hp : ∀ r, Zj μ r → Zj μ' r) (hq : ∀ q r, μ q = some (r, true) → Zj μ' r) {ℓ : Option wP} {v a : Value} (h : VV μ H ω ℓ v a) :
    ∀ d d', zX d (jS S d' v) = true → VV μ' H ω ℓ (jS S d' v) a := by
  induction h with
  | sg h =>
    intro d d' hc
    rename_i v
    have e : jS S d' v = v := by
      cases d' with
      | zero => rfl
      | succ d' => cases v <;> first | rfl | (simp [Go.Abs.sg] at h; done) | skip
                   rename_i a n c
                   cases a <;> first | rfl | (simp [Go.Abs.sg] at h; done)
    rw [e]; exact .sg h
  | ptr h => intro d d' hc; cases d' <;> cases d <;> simp [jS, zX] at hc
  | map h => intro d d' hc; cases d' <;> cases d <;> simp [jS, zX] at hc
  | @slm ℓ r o r' b n hm =>
    intro d d' hc
    cases d' with
    | zero => cases d <;> simp [jS, zX] at hc
    | succ d' =>
      by_cases ho : o = 0
      · subst ho
        cases hg : S.get r with
        | none => rw [show jS S (d' + 1) (.slice (some ⟨r, 0, none⟩) n n) = .slice (some ⟨r, 0, none⟩) n n by simp only [jS, hg]] at hc; cases d <;> simp [zX] at hc
        | some ob =>
          cases ob with
          | map es c => rw [show jS S (d' + 1) (.slice (some ⟨r, 0, none⟩) n n) = .slice (some ⟨r, 0, none⟩) n n by simp only [jS, hg]] at hc; cases d <;> simp [zX] at hc
          | dead => rw [show jS S (d' + 1) (.slice (some ⟨r, 0, none⟩) n n) = .slice (some ⟨r, 0, none⟩) n n by simp only [jS, hg]] at hc; cases d <;> simp [zX] at hc
          | cells cs own e =>
            by_cases hle : n * e ≤ cs.length
            · have e1 : jS S (d' + 1) (.slice (some ⟨r, 0, none⟩) n n) = SL 1 e n (cs.take (n * e)) := by simp only [jS, hg, hle, and_self, if_true]
              rw [e1] at hc ⊢
              obtain ⟨r2, cs', own', _, hm', hg', hl⟩ := hG.cells hg
              rw [hm] at hm'; cases hm'
              have hlen := hl.1
              refine .sl (o := 0) (hG.lt r r' _ hm) (hq r r' hm) hg' (by omega) (by simp; omega) fun i hi => ?_
              have hv : VV μ H W0 none (cs.getD i Go.undef) (cs'.getD i Go.undef) := hl.2 i
              have e2 : (cs.take (n * e)).toArray.toList.getD i Go.undef = cs.getD i Go.undef := by
                rw [List.toList_toArray, List.getD_eq_getElem?_getD, List.getElem?_take, if_pos hi, ← List.getD_eq_getElem?_getD]
              rw [e2, Nat.zero_add]
              obtain ⟨d, rfl⟩ : ∃ k, d = k + 4 := by
                match d, hc with
                | 0, h => cases h
                | 1, h => simp [SL, zX] at h
                | 2, h => simp [SL, zX] at h
                | 3, h => simp [SL, zX] at h
                | k + 4, _ => exact ⟨k, rfl⟩
              simp only [SL, zX, List.toList_toArray] at hc
              have hci : zX d (cs.getD i Go.undef) = true := by
                have h2 : i < cs.length := by omega
                rw [List.getD_eq_getElem?_getD, List.getElem?_eq_getElem h2, Option.getD_some]
                exact List.all_eq_true.1 hc _ (by rw [List.mem_take_iff_getElem]; exact ⟨i, by omega, rfl⟩)
              exact (hv.clean hp d hci).at0
            · rw [show jS S (d' + 1) (.slice (some ⟨r, 0, none⟩) n n) = .slice (some ⟨r, 0, none⟩) n n by simp only [jS, hg, hle, and_false, if_false]] at hc; cases d <;> simp [zX] at hc
      · rw [show jS S (d' + 1) (.slice (some ⟨r, o, none⟩) n n) = .slice (some ⟨r, o, none⟩) n n by
          simp only [jS]
          split
          · rename_i h; simp only [Value.slice.injEq, Option.some.injEq, Addr.mk.injEq] at h; exact absurd h.1.2.1 ho
          · rename_i h; cases h
          · rename_i h; cases h
          · rfl] at hc
        cases d <;> simp [zX] at hc
  | slE => intro d d' _; cases d' <;> exact .slE
  | sl hr hpr hg hl hn hc ih => intro d d' hcl; cases d' <;> exact (VV.sl hr hpr hg hl hn hc).clean hp d hcl
  | so hω hr hpr hg hl hn hc ih => intro d d' hcl; cases d' <;> exact (VV.so hω hr hpr hg hl hn hc).clean hp d hcl
  | ep hr hpr hg hl hc ih => intro d d' hcl; cases d' <;> exact (VV.ep hr hpr hg hl hc).clean hp d hcl
  | func fn hx hc h1 h2 => intro d d' hcl; cases d' <;> cases d <;> simp [jS, zX] at hcl
  | @agg ℓ x x' hx hh ih =>
    intro d d' hcl
    cases d' with
    | zero => exact (VV.agg hx hh).clean hp d hcl
    | succ d' =>
      have e : jS S (d' + 1) (.agg x) = .agg (x.map (jS S d')) := rfl
      rw [e] at hcl ⊢
      cases d with
      | zero => cases hcl
      | succ d =>
        simp only [zX] at hcl
        refine .agg (by simpa using hx) fun i => ?_
        by_cases hi : i < x.size
        · have e2 : (x.map (jS S d')).getD i Go.undef = jS S d' (x.getD i Go.undef) := by simp [Array.getD_eq_getD_getElem?, Array.getElem?_eq_getElem hi]
          rw [e2]
          refine ih i d d' ?_
          refine List.all_eq_true.1 hcl _ ?_
          simp only [Array.toList_map, List.mem_map]
          exact ⟨x[i], by simp, by rw [Array.getD_eq_getD_getElem?, Array.getElem?_eq_getElem hi]; rfl⟩
        · rw [Array.getD_eq_getD_getElem?, Array.getElem?_eq_none (by simpa using Nat.le_of_not_lt hi), Array.getD_eq_getD_getElem?, Array.getElem?_eq_none (by omega)]
          exact .nores
  | nores =>
    intro d d' hcl
    cases d' with
    | zero => exact .nores
    | succ d' => rw [show jS S (d' + 1) (.tuple #[]) = .tuple #[] by simp [jS]]; exact .nores
  | @tuple ℓ x x' hx hh ih =>
    intro d d' hcl
    cases d' with
    | zero => exact (VV.tuple hx hh).clean hp d hcl
    | succ d' =>
      have e : jS S (d' + 1) (.tuple x) = .tuple (x.map (jS S d')) := rfl
      rw [e] at hcl ⊢
      cases d with
      | zero => cases hcl
      | succ d =>
        simp only [zX] at hcl
        refine .tuple (by simpa using hx) fun i => ?_
        by_cases hi : i < x.size
        · have e2 : (x.map (jS S d')).getD i Go.undef = jS S d' (x.getD i Go.undef) := by simp [Array.getD_eq_getD_getElem?, Array.getElem?_eq_getElem hi]
          rw [e2]
          refine ih i d d' ?_
          refine List.all_eq_true.1 hcl _ ?_
          simp only [Array.toList_map, List.mem_map]
          exact ⟨x[i], by simp, by rw [Array.getD_eq_getD_getElem?, Array.getElem?_eq_getElem hi]; rfl⟩
        · rw [Array.getD_eq_getD_getElem?, Array.getElem?_eq_none (by simpa using Nat.le_of_not_lt hi), Array.getD_eq_getD_getElem?, Array.getElem?_eq_none (by omega)]
          exact .nores
open Classical in
noncomputable def xX (μ:Mu):Mu:=⟨fun _=>none,fun r=>μ.hid r || decide (∃ q,μ q=some (r,true)),[]⟩
theorem JA {μ:Mu} {r:Nat} (h:Zj μ r):Zj (xX μ) r:=⟨fun q hq=>(by cases hq),by
 simp only [xX,h.2,Bool.false_or,decide_eq_false_iff_not]
 rintro ⟨q,hq⟩
 exact h.1 q hq⟩
theorem abH {μ:Mu} {r:Nat} (h:(xX μ).hid r=false):Zj μ r:=by
 simp only [xX,Bool.or_eq_false_iff,decide_eq_false_iff_not] at h
 exact ⟨fun q hq=>h.2 ⟨q,hq⟩,h.1⟩
def agU (P:Program) (g:FuncId) (args:List Value) (run:M Value):Prop:=∀ aargs S v S',run S=some (v,S')→∀ μ H ω,GI μ S H→L0 μ H args aargs→Dom μ H ω→(∀ r s,ω r=some s→s=.ext) →
 ∃ a H' μ' ω',lim P g aargs H=some (a,H')∧GI μ' S' H'∧Later μ H μ' H'∧Kept ω H ω' H'∧Dom μ' H' ω'∧VV μ' H' ω' (some (.res none)) v a
theorem ad9 {g:FuncId} {args:List Value} {run:M Value} (hr:agU P g args run):agU P g args (aaA run args):=by
 intro aargs S v S' h μ H ω hG hA hD hE
 unfold aaA at h
 split at h <;> first | (cases h;done) | skip
 rename_i hca
 split at h <;> first | (cases h;done) | skip
 rename_i w S1 hrun
 split at h <;> first | (cases h;done) | skip
 rename_i hcw
 cases h
 have hG0:GI (xX μ) zx.empty H:=⟨fun q o h=>(by cases h),fun q q' r h=>(by cases h),fun q r b h=>(by cases h),fun q _=>rfl,fun q r h=>(by cases h),fun r h=>by
  simp only [xX,Bool.or_eq_true,decide_eq_true_eq] at h
  rcases h with h | ⟨q,hq⟩
  ·
   exact hG.hlt r h
  ·
   exact hG.lt q r _ hq,rfl,fun q cs anc e h=>(by cases h)⟩
 have hA0:L0 (xX μ) H args aargs:=⟨hA.1,fun i=>by
  by_cases hi:i < args.length
  ·
   refine (hA.2 i).clean (fun r h=>JA h) 16 ?_
   rw [List.getD_eq_getElem?_getD,List.getElem?_eq_getElem hi]
   exact List.all_eq_true.1 hca _ (List.getElem_mem _)
  ·
   rw [List.getD_eq_getElem?_getD,List.getElem?_eq_none (Nat.le_of_not_lt hi),List.getD_eq_getElem?_getD,List.getElem?_eq_none (by rw [← hA.1];omega)]
   exact .nores⟩
 obtain ⟨a,H1,μ1,ω1,k1,k2,k3,k4,k5,k6⟩:=hr aargs _ _ _ hrun (xX μ) H ω hG0 hA0 (fun r s h=>⟨(hD r s h).1,JA (hD r s h).2⟩) hE
 have hp1:∀ r,Zj μ1 r→Zj μ r:=fun r h=>abH (by rw [← k3.hid];exact h.2)
 have hL:Later μ H μ H1:=⟨fun _ _ b h=>⟨b,h⟩,k3.next,fun _ _ h=>.inl h,rfl,fun r hr hh=>k3.same r hr (by simp only [xX,hh,Bool.true_or]),⟨[],rfl,fun q r hq _=>⟨hq,k3.same r (hG.lt q r _ hq) (by
  simp only [xX,Bool.or_eq_true,decide_eq_true_eq]
  exact .inr ⟨q,hq⟩)⟩⟩,fun r l own e hr hp hg=>k3.cells r l own e hr (JA hp) hg⟩
 have hq1:∀ q r,μ1 q=some (r,true)→Zj μ r:=fun q r h=>by
  rcases k3.new q r h with h5 | h5
  ·
   cases h5
  ·
   exact ⟨fun q' hq'=>by have:=hG.lt q' r _ hq';omega,by
    cases hh:μ.hid r with
    | false=>rfl
    | true=>have:=hG.hlt r hh;omega⟩
 refine ⟨a,H1,μ,ω1,k1,?_,hL,k4,fun r s h=>⟨(k5 r s h).1,hp1 r (k5 r s h).2⟩,k6.lower k2 hp1 hq1 16 16 hcw⟩
 exact hG.later hL rfl fun q r hq=>k3.same r (hG.lt q r _ hq) (by
  simp only [xX,Bool.or_eq_true,decide_eq_true_eq]
  exact .inr ⟨q,hq⟩)
theorem adb {O:Ora} (hO:abx P O):∀ n,Ji P (kS P O n):=by
 intro n
 induction n with
 | zero=>intro g args aargs S v S' h;cases h
 | succ n ih =>
  intro g args aargs S v S' h μ H ω hG hA hD hE
  simp only [kS] at h
  cases ho:O.fn g with
  | some q =>
   rw [ho] at h
   exact hO g q ho g args aargs S v S' (by simpa using h) μ H ω hG hA hD hE
  | none =>
   rw [ho] at h
   dsimp only at h
   cases hf:P.funcs[g]? with
   | none=>rw [hf] at h;cases h
   | some fn =>
    rw [hf] at h
    dsimp only at h
    split at h <;> first | (cases h;done) | skip
    rename_i hn
    cases hb:fn.body with
    | none=>rw [hb] at h;cases h
    | some c =>
     rw [hb] at h
     dsimp only at h
     have hrun:agU P g args (acL P (O.hp g) (wz O.hp (O.hp g) (kS P O n)) n fn c args):=by
      intro aargs S v S' h μ H ω hG hA hD hE
      have hT0:TI μ H ω (args++List.replicate (fn.ntmps - args.length) zh) (aargs++List.replicate (fn.ntmps - aargs.length) zh):=by
       have hl:L0 μ H (args++List.replicate (fn.ntmps - args.length) zh) (aargs++List.replicate (fn.ntmps - aargs.length) zh):=by
        refine hA.append (VL.ofRange (by rw [hA.1]) fun i hi=>?_)
        have hi2:i < fn.ntmps - args.length:=by simpa using hi
        rw [List.getD_eq_getElem?_getD,List.getElem?_replicate,if_pos hi2,List.getD_eq_getElem?_getD,List.getElem?_replicate,if_pos (by rw [← hA.1];exact hi2)]
        exact .nores
       exact ⟨hl.1,fun i=>(hl.2 i).at0,hD,fun r j hr=>by have:=hE r _ hr;cases this⟩
      have fin:∀ (e:AEx) (T1:List Value) (S1:zx),(e=.normal∨e=.ret)→wM P (O.hp g) (wz O.hp (O.hp g) (kS P O n)) n c (args++List.replicate (fn.ntmps - args.length) zh) S=some (e,T1,S1)→aav P fn T1 S1=some (v,S') →
        ∃ a H' μ' ω',lim P g aargs H=some (a,H')∧GI μ' S' H'∧Later μ H μ' H'∧Kept ω H ω' H'∧Dom μ' H' ω'∧VV μ' H' ω' (some (.res none)) v a:=by
       intro e T1 S1 he hcode hres
       obtain ⟨A1,H1,μ1,ω1,h1,h2,h3,h4,h5⟩:=ac8 (adx ih) n c _ _ _ _ _ _ _ _ _ hcode hG hT0
       obtain ⟨rfl,a,k1,k2⟩:=ae1 (P:=P) h2 h5 hres
       refine ⟨a,H1,μ1,fun r=>(ω1 r).bind (place fn.results.toList),adu hf hn hb h1 he k1,h2,h3,fun r hr=>?_,fun r s hs=>?_,k2⟩
       ·
        obtain ⟨q1,q2⟩:=h4 r hr
        exact ⟨by simp [q1,place],q2⟩
       ·
        cases hr:ω1 r with
        | none=>simp [hr] at hs
        | some s0=>exact h5.dom r s0 hr
      unfold acL at h
      split at h
      ·
       rename_i T1 S1 hx;exact fin .normal _ _ (.inl rfl) hx h
      ·
       rename_i T1 S1 hx;exact fin .ret _ _ (.inr rfl) hx h
      ·
       cases h
     split at h
     ·
      exact ad9 hrun aargs S v S' h μ H ω hG hA hD hE
     ·
      exact hrun aargs S v S' h μ H ω hG hA hD hE
end
end Go.Abs
namespace Go.Abs
open Go.RowKit
open Classical
noncomputable def zU (P:Program) (O:Ora) (g:FuncId) (args:List Value):M Value:=fun S =>
 if h:∃ r,∃ k0,∀ k,k0≤k→kS P O k g args S=some r then some (Classical.choose h) else none
section
variable {P:Program} {O:Ora}
theorem QA {g:FuncId} {args:List Value} {S:zx} {r:Value×zx} (h:zU P O g args S=some r):∃ k0,∀ k,k0≤k→kS P O k g args S=some r:=by
 unfold zU at h
 split at h
 ·
  rename_i hx
  have:=Classical.choose_spec hx
  cases h
  exact this
 ·
  cases h
theorem Xo {g:FuncId} {args:List Value} {S:zx} {r:Value×zx} (h:∃ k0,∀ k,k0≤k→kS P O k g args S=some r):zU P O g args S=some r:=by
 have hx:∃ r,∃ k0,∀ k,k0≤k→kS P O k g args S=some r:=⟨r,h⟩
 unfold zU
 rw [dif_pos hx]
 obtain ⟨k0,h0⟩:=h
 obtain ⟨k1,h1⟩:=Classical.choose_spec hx
 have e0:=h0 (max k0 k1) (Nat.le_max_left _ _)
 have e1:=h1 (max k0 k1) (Nat.le_max_right _ _)
 rw [e0] at e1
 exact e1.symm
theorem afA (hO:abx P O):Ji P (zU P O):=by
 intro g args aargs S v S' h
 obtain ⟨k,hk⟩:=QA h
 exact adb hO k g args aargs S v S' (hk k (Nat.le_refl k))
def afV (c:FuncId→List Value→M Value) (ck:Nat→FuncId→List Value→M Value):Prop:=∀ g args S r,c g args S=some r→∃ k0,∀ k,k0≤k→ck k g args S=some r
theorem Kv:afV (zU P O) (fun k=>kS P O k):=fun g args S r h=>QA h
theorem Ym {c:FuncId→List Value→M Value} {ck:Nat→FuncId→List Value→M Value} (hl:afV c ck) {hps:FuncId→Bool} {hp:Bool}:afV (wz hps hp c) (fun k=>wz hps hp (ck k)):=by
 cases hp with
 | false=>exact hl
 | true =>
  intro g args S r h
  unfold wz at h
  dsimp only at h
  split at h
  ·
   rename_i hg
   obtain ⟨k0,h0⟩:=hl _ _ _ _ h
   exact ⟨k0,fun k hk=>by unfold wz;dsimp only;rw [if_pos hg];exact h0 k hk⟩
  ·
   rename_i hg
   split at h <;> first | (cases h;done) | skip
   rename_i m S1 hf
   split at h <;> first | (cases h;done) | skip
   rename_i r0 hr0
   obtain ⟨k0,h0⟩:=hl _ _ _ _ hr0
   exact ⟨k0,fun k hk=>by unfold wz;dsimp only;rw [if_neg hg,hf];dsimp only;rw [h0 k hk];exact h⟩
section
variable {c:FuncId→List Value→M Value} {ck:Nat→FuncId→List Value→M Value}
theorem Ql (hl:afV c ck) {fx:Fx} {T:List Value} {o:Oper} {S:zx} {r:Value×zx} (h:wB P fx c T o S=some r):∃ k0,∀ k,k0≤k→wB P fx (ck k) T o S=some r:=by
 unfold wB at h
 split at h
 ·
  rename_i hok
  split at h
  ·
   rename_i q0 hop
   split at h
   ·
    rename_i f hf
    split at h
    ·
     rename_i g first captured hev
     obtain ⟨k0,hk⟩:=hl _ _ _ _ h
     refine ⟨k0,fun k hkk=>?_⟩
     unfold wB
     rw [if_pos hok]
     simp only [hop,hf,hev]
     exact hk k hkk
    ·
     cases h
   ·
    rename_i b hb
    refine ⟨0,fun k _=>?_⟩
    unfold wB
    rw [if_pos hok]
    simp only [hop,hb]
    exact h
   ·
    cases h
  ·
   rename_i hop
   refine ⟨0,fun k _=>?_⟩
   unfold wB
   rw [if_pos hok]
   split
   ·
    rename_i q0 hc;exact absurd hc (hop q0)
   ·
    exact h
 ·
  cases h
theorem adK (hl:afV c ck) {fx:Fx} {ops:Array Oper}:∀ (l:List Oper) (T:List Value) (S:zx) (r:List Value×zx),jl P fx c ops l T S=some r→∃ k0,∀ k,k0≤k→jl P fx (ck k) ops l T S=some r:=by
 intro l
 induction l with
 | nil=>intro T S r h;exact ⟨0,fun k _=>h⟩
 | cons o l ih =>
  intro T S r h
  simp only [jl] at h
  split at h
  ·
   rename_i hw
   split at h
   ·
    rename_i v S' hs
    obtain ⟨k1,h1⟩:=Ql hl hs
    obtain ⟨k2,h2⟩:=ih _ _ _ h
    refine ⟨max k1 k2,fun k hk=>?_⟩
    simp only [jl,hw,if_true,h1 k (by omega)]
    exact h2 k (by omega)
   ·
    cases h
  ·
   rename_i hw
   obtain ⟨k2,h2⟩:=ih _ _ _ h
   refine ⟨k2,fun k hk=>?_⟩
   simp only [jl,hw,if_false]
   exact h2 k hk
theorem abX (hl:afV c ck) {fx:Fx} {chk:List Nat} {nl:List (Nat×Nat)} {ops:Array Oper}:∀ (l:List Oper) (i:Nat) (hist:List (Value×zx)) (T:List Value) (S:zx) (r:List Value×zx),jQ P fx chk nl c ops i hist l T S=some r→∃ k0,∀ k,k0≤k→jQ P fx chk nl (ck k) ops i hist l T S=some r:=by
 intro l
 induction l with
 | nil=>intro i hist T S r h;exact ⟨0,fun k _=>h⟩
 | cons o l ih =>
  intro i hist T S r h
  simp only [jQ] at h
  split at h
  ·
   rename_i hw
   split at h
   ·
    rename_i v S' hs
    split at h
    ·
     rename_i hq
     obtain ⟨k1,h1⟩:=Ql hl hs
     obtain ⟨k2,h2⟩:=ih _ _ _ _ _ h
     refine ⟨max k1 k2,fun k hk=>?_⟩
     simp only [jQ,hw,if_true,h1 k (by omega),hq]
     exact h2 k (by omega)
    ·
     cases h
   ·
    cases h
  ·
   rename_i hw
   obtain ⟨k2,h2⟩:=ih _ _ _ _ _ h
   refine ⟨k2,fun k hk=>?_⟩
   simp only [jQ,hw,if_false]
   exact h2 k hk
end
noncomputable def zD (P:Program) (O:Ora) (hp:Bool):Code→List Value→zx→St
 | .skip,T,H=>some (.normal,T,H)
 | .region _ ops false,T,H=>match jl P ⟨hp,false,false⟩ (wz O.hp hp (zU P O)) ops ops.toList T H with
  | some (T1,H1)=>some (.normal,T1,H1)
  | none=>none
 | .region _ ops true,T,H=>if qY P ops then match jQ P ⟨hp,!(checked P ops).isEmpty,fixed P ops⟩ (checked P ops) (again P ops) (wz O.hp hp (zU P O)) ops 0 [] ops.toList T H with
  | some (T1,H1)=>some (.normal,T1,H1)
  | none=>none
  else none
 | .seq x y,T,H=>match zD P O hp x T H with
  | some (.normal,T1,H1)=>zD P O hp y T1 H1
  | r=>r
 | .cond c x y,T,H=>if yL c then
   match zQ T c with
   | .bool true=>zD P O hp x T H
   | .bool false=>zD P O hp y T H
   | _=>none
  else none
 | .block id c,T,H=>match zD P O hp c T H with
  | some (.exit id',T1,H1)=>if id'=id then some (.normal,T1,H1) else some (.exit id',T1,H1)
  | r=>r
 | .loop c,T,H=>yN (zD P O hp c) T H
 | .exit id,T,H=>some (.exit id,T,H)
 | .ret,T,H=>some (.ret,T,H)
 | _,_,_=>none
theorem Yq {hp:Bool}:∀ (c:Code) (T:List Value) (H:zx) (r),zD P O hp c T H=some r→∃ k0,∀ k fuel,k0≤k→k0≤fuel→wM P hp (wz O.hp hp (kS P O k)) fuel c T H=some r:=by
 intro c
 induction c with
 | skip=>intro T H r h;exact ⟨0,fun k fuel _ _=>h⟩
 | region i ops d =>
  intro T H r h
  cases d with
  | false =>
   simp only [zD] at h
   split at h
   ·
    rename_i T1 H1 ho
    obtain ⟨k0,h0⟩:=adK (Ym Kv) _ _ _ _ ho
    exact ⟨k0,fun k fuel hk _=>by simp only [wM,h0 k hk];exact h⟩
   ·
    cases h
  | true =>
   simp only [zD] at h
   split at h
   ·
    rename_i hd
    split at h
    ·
     rename_i T1 H1 ho
     obtain ⟨k0,h0⟩:=abX (Ym Kv) _ _ _ _ _ _ ho
     exact ⟨k0,fun k fuel hk _=>by simp only [wM,hd,if_true,h0 k hk];exact h⟩
    ·
     cases h
   ·
    cases h
 | seq x y ihx ihy =>
  intro T H r h
  simp only [zD] at h
  split at h
  ·
   rename_i T1 H1 hx
   obtain ⟨k1,h1⟩:=ihx _ _ _ hx
   obtain ⟨k2,h2⟩:=ihy _ _ _ h
   exact ⟨max k1 k2,fun k fuel hk hf=>by simp only [wM,h1 k fuel (by omega) (by omega)];exact h2 k fuel (by omega) (by omega)⟩
  ·
   rename_i hne
   obtain ⟨k1,h1⟩:=ihx _ _ _ h
   refine ⟨k1,fun k fuel hk hf=>?_⟩
   simp only [wM,h1 k fuel hk hf]
   split
   ·
    rename_i T1 H1 he;exact absurd (h.trans he) (hne T1 H1)
   ·
    rfl
 | cond c x y ihx ihy =>
  intro T H r h
  simp only [zD] at h
  split at h
  ·
   rename_i hok
   split at h
   ·
    rename_i hb
    obtain ⟨k1,h1⟩:=ihx _ _ _ h
    exact ⟨k1,fun k fuel hk hf=>by simp only [wM,hok,if_true,hb];exact h1 k fuel hk hf⟩
   ·
    rename_i hb
    obtain ⟨k1,h1⟩:=ihy _ _ _ h
    exact ⟨k1,fun k fuel hk hf=>by simp only [wM,hok,if_true,hb];exact h1 k fuel hk hf⟩
   ·
    cases h
  ·
   cases h
 | block id c ih =>
  intro T H r h
  simp only [zD] at h
  split at h
  ·
   rename_i id' T1 H1 hc
   obtain ⟨k1,h1⟩:=ih _ _ _ hc
   exact ⟨k1,fun k fuel hk hf=>by simp only [wM,h1 k fuel hk hf];exact h⟩
  ·
   rename_i hne
   obtain ⟨k1,h1⟩:=ih _ _ _ h
   refine ⟨k1,fun k fuel hk hf=>?_⟩
   simp only [wM,h1 k fuel hk hf]
   split
   ·
    rename_i id' T1 H1 he;exact absurd (h.trans he) (hne id' T1 H1)
   ·
    rfl
 | loop c ih =>
  intro T H r h
  simp only [zD] at h
  obtain ⟨n,hn⟩:=vC h
  have key:∀ (n:Nat) (T:List Value) (H:zx),yA n (zD P O hp c) T H=some r→∃ k0,∀ k fuel,k0≤k→k0≤fuel→∀ j,n≤j→yA j (wM P hp (wz O.hp hp (kS P O k)) fuel c) T H=some r:=by
   intro n
   induction n with
   | zero=>intro T H h;cases h
   | succ n ihn =>
    intro T H h
    simp only [yA] at h
    split at h
    ·
     rename_i T1 H1 hf
     obtain ⟨k1,h1⟩:=ih _ _ _ hf
     obtain ⟨k2,h2⟩:=ihn _ _ h
     refine ⟨max k1 k2,fun k fuel hk hfu j hj=>?_⟩
     obtain ⟨j,rfl⟩:∃ i,j=i+1:=⟨j - 1,by omega⟩
     simp only [yA,h1 k fuel (by omega) (by omega)]
     exact h2 k fuel (by omega) (by omega) j (by omega)
    ·
     rename_i hne
     obtain ⟨k1,h1⟩:=ih _ _ _ h
     refine ⟨k1,fun k fuel hk hfu j hj=>?_⟩
     obtain ⟨j,rfl⟩:∃ i,j=i+1:=⟨j - 1,by omega⟩
     simp only [yA,h1 k fuel hk hfu]
     split
     ·
      rename_i T1 H1 he;exact absurd (h.trans he) (hne T1 H1)
     ·
      rfl
  obtain ⟨k0,h0⟩:=key n T H hn
  exact ⟨max k0 n,fun k fuel hk hf=>by simp only [wM];exact h0 k fuel (by omega) (by omega) fuel (by omega)⟩
 | exit id=>intro T H r h;exact ⟨0,fun k fuel _ _=>h⟩
 | ret=>intro T H r h;exact ⟨0,fun k fuel _ _=>h⟩
 | _=>intro T H r h;simp only [zD] at h;cases h
theorem yD {f:FuncId} {fn:Func} {c:Code} {args:List Value} {H H1 H':zx} {e:AEx} {T:List Value} {v:Value} (ho:O.fn f=none) (hpu:O.pu f=false) (hf:P.funcs[f]?=some fn) (hn:fn.name≠ "runtime.NumGoroutine") (hb:fn.body=some c)
  (h:zD P O (O.hp f) c (args++List.replicate (fn.ntmps - args.length) zh) H=some (e,T,H1)) (he:e=.normal∨e=.ret) (hres:aav P fn T H1=some (v,H')):zU P O f args H=some (v,H'):=by
 obtain ⟨k0,h0⟩:=Yq _ _ _ _ h
 refine Xo ⟨k0+1,fun k hk=>?_⟩
 obtain ⟨k,rfl⟩:∃ i,k=i+1:=⟨k - 1,by omega⟩
 simp only [kS,ho,hf,if_neg hn,hb,hpu,Bool.false_eq_true,if_false,acL,h0 k k (by omega) (by omega)]
 rcases he with rfl | rfl <;> exact hres
theorem VI {f:FuncId} {fn:Func} {c:Code} {args:List Value} {S H1 H':zx} {e:AEx} {T:List Value} {v:Value} (ho:O.fn f=none) (hpu:O.pu f=true) (hf:P.funcs[f]?=some fn) (hn:fn.name≠ "runtime.NumGoroutine") (hb:fn.body=some c)
  (h:zD P O (O.hp f) c (args++List.replicate (fn.ntmps - args.length) zh) zx.empty=some (e,T,H1)) (he:e=.normal∨e=.ret) (hres:aav P fn T H1=some (v,H')) (hca:args.all (zX 16)=true) (hcv:zX 16 (jS H' 16 v)=true):zU P O f args S=some (jS H' 16 v,S):=by
 obtain ⟨k0,h0⟩:=Yq _ _ _ _ h
 refine Xo ⟨k0+1,fun k hk=>?_⟩
 obtain ⟨k,rfl⟩:∃ i,k=i+1:=⟨k - 1,by omega⟩
 have hr:acL P (O.hp f) (wz O.hp (O.hp f) (kS P O k)) k fn c args zx.empty=some (v,H'):=by
  simp only [acL,h0 k k (by omega) (by omega)]
  rcases he with rfl | rfl <;> exact hres
 simp only [kS,ho,hf,if_neg hn,hb,hpu,if_true,aaA,if_pos hca,hr,if_pos hcv]
theorem QW (S:zx):∀ (d d':Nat) (v:Value),zX d v=true→jS S d' v=v:=by
 intro d
 induction d with
 | zero=>intro d' v h;cases h
 | succ d ih =>
  intro d' v h
  cases d' with
  | zero=>rfl
  | succ d' =>
   cases v with
   | agg cs =>
    simp only [zX] at h
    show Value.agg (cs.map (jS S d'))=.agg cs
    congr 1
    apply Array.ext (by simp)
    intro i h1 h2
    rw [Array.getElem_map]
    exact ih d' _ (List.all_eq_true.1 h _ (by simp))
   | tuple cs =>
    simp only [zX] at h
    show Value.tuple (cs.map (jS S d'))=.tuple cs
    congr 1
    apply Array.ext (by simp)
    intro i h1 h2
    rw [Array.getElem_map]
    exact ih d' _ (List.all_eq_true.1 h _ (by simp))
   | slice a n c =>
    cases a with
    | none=>rfl
    | some a=>simp [zX] at h
   | _=>rfl
theorem yK {f:FuncId} {fn:Func} {c:Code} {args:List Value} {S H1 H':zx} {e:AEx} {T:List Value} {v:Value} (ho:O.fn f=none) (hpu:O.pu f=true) (hf:P.funcs[f]?=some fn) (hn:fn.name≠ "runtime.NumGoroutine") (hb:fn.body=some c)
  (h:zD P O (O.hp f) c (args++List.replicate (fn.ntmps - args.length) zh) zx.empty=some (e,T,H1)) (he:e=.normal∨e=.ret) (hres:aav P fn T H1=some (v,H')) (hca:args.all (zX 16)=true) (hcv:zX 16 v=true):zU P O f args S=some (v,S):=by
 have e1:=QW H' 16 16 v hcv
 have:=VI (S:=S) ho hpu hf hn hb h he hres hca (by rw [e1];exact hcv)
 rwa [e1] at this
def Ty.Z8:(t:Ty)→t.Val→List Value
 | .int k,n=>[.int k n]
 | .bool,b=>[.bool b]
 | .str,s=>[.string s]
 | .slc _ e,l=>match l with
  | none=>[.slice none 0 0]
  | some l=>[SL 1 e.sz l.length (l.flatMap e.Z8)]
 | .pair a b,(x,y)=>a.Z8 x++b.Z8 y
 | .unit,_=>[]
theorem Ty.Xq:∀ (t:Ty) (x:t.Val),(t.Z8 x).length=t.sz:=by
 intro t
 induction t with
 | pair a b iha ihb=>rintro ⟨x,y⟩;simp [Ty.Z8,Ty.sz,iha,ihb]
 | slc bytes e ih=>intro x;cases x <;> rfl
 | _=>intro x;rfl
theorem Z9 {e:Ty} (l:List e.Val):(l.flatMap e.Z8).length=l.length * e.sz:=by
 induction l with
 | nil=>simp
 | cons x l ih=>simp [List.flatMap_cons,Ty.Xq,ih,Nat.add_mul];omega
def M0:Mu:=⟨fun _=>none,fun _=>false,[]⟩
theorem GI.none {H:zx}:GI M0 zx.empty H:=⟨(fun q o h=>by cases h),(fun q q' r h=>by cases h),(fun q r b h=>by cases h),(fun q _=>rfl),(fun q r h=>by cases h),(fun r h=>by cases h),rfl,(fun q cs anc e h=>by cases h)⟩
theorem Ty.Qk:∀ (t:Ty) (x:t.Val) (H:zx),Later M0 H M0 (t.place x H).2∧L0 M0 (t.place x H).2 (t.Z8 x) (t.place x H).1:=by
 intro t
 induction t with
 | int k=>intro x H;exact ⟨Later.refl _ _,VL.cons (.sg rfl) VL.nil⟩
 | bool=>intro x H;exact ⟨Later.refl _ _,VL.cons (.sg rfl) VL.nil⟩
 | str=>intro x H;exact ⟨Later.refl _ _,VL.cons (.sg rfl) VL.nil⟩
 | unit=>intro x H;exact ⟨Later.refl _ _,VL.nil⟩
 | pair a b iha ihb =>
  rintro ⟨x,y⟩ H
  obtain ⟨h1,h2⟩:=iha x H
  obtain ⟨h3,h4⟩:=ihb y (a.place x H).2
  exact ⟨h1.trans h3,(h2.later h3).append h4⟩
 | slc bytes e ih =>
  intro x H
  match x with
  | none=>exact ⟨Later.refl _ _,VL.cons (.sg rfl) VL.nil⟩
  | some []=>exact ⟨Later.refl _ _,VL.cons (.slE (e:=e.sz)) VL.nil⟩
  | some (x::l) =>
   have key:∀ (l:List e.Val) (H:zx),Later M0 H M0 (jX e.place l H).2∧L0 M0 (jX e.place l H).2 (l.flatMap e.Z8) (jX e.place l H).1:=by
    intro l
    induction l with
    | nil=>intro H;exact ⟨Later.refl _ _,VL.nil⟩
    | cons x l ihl =>
     intro H
     obtain ⟨h1,h2⟩:=ih x H
     obtain ⟨h3,h4⟩:=ihl (e.place x H).2
     exact ⟨h1.trans h3,(h2.later h3).append h4⟩
   obtain ⟨h1,h2⟩:=key (x::l) H
   have hL:Later M0 (jX e.place (x::l) H).2 M0 ((jX e.place (x::l) H).2.push (.cells (jX e.place (x::l) H).1 .ro e.sz)):=Ya (fun q r h=>by cases h) _
   refine ⟨h1.trans hL,VL.cons ?_ VL.nil⟩
   have hlen:(jX e.place (x::l) H).1.length=(l.length+1) * e.sz:=by rw [← h2.1,Z9];rfl
   show V0 M0 ((jX e.place (x::l) H).2.push (.cells (jX e.place (x::l) H).1 .ro e.sz)) (SL 1 e.sz (l.length+1) ((x::l).flatMap e.Z8)) (.slice (some ⟨(jX e.place (x::l) H).2.next,0,none⟩) (l.length+1) (l.length+1))
   refine VV.sl (o:=0) (l:=(jX e.place (x::l) H).1) (own:=.ro) (by simp) ⟨fun q h=>(by cases h),rfl⟩ (by rw [zx.jc,if_pos rfl]) (by omega) (by rw [List.toList_toArray,Z9];rfl) (fun i hi=>?_)
   rw [Nat.zero_add,List.toList_toArray]
   exact (h2.2 i).kG hL
def Args.Z8:(l:List (Bool×Ty))→Args l→List Value
 | [],_=>[]
 | (b,c)::l,(x,xs)=>xW b (c.Z8 x)::Args.Z8 l xs
theorem adr {H:zx} {b:Bool} {cs cs':List Value} (h:L0 M0 H cs cs'):V0 M0 H (xW b cs) (xW b cs'):=by
 unfold xW
 split
 ·
  exact JL h
 ·
  rw [vJ,vJ];exact h.2 0
theorem Args.Qk:∀ (l:List (Bool×Ty)) (x:Args l) (H:zx),Later M0 H M0 (Args.place l x H).2∧L0 M0 (Args.place l x H).2 (Args.Z8 l x) (Args.place l x H).1:=by
 intro l
 induction l with
 | nil=>intro x H;exact ⟨Later.refl _ _,VL.nil⟩
 | cons p l ih =>
  obtain ⟨b,c⟩:=p
  rintro ⟨x,xs⟩ H
  obtain ⟨h1,h2⟩:=c.Qk x H
  obtain ⟨h3,h4⟩:=ih xs (c.place x H).2
  exact ⟨h1.trans h3,VL.cons ((adr h2).kG h3) h4⟩
theorem KX (hO:abx P O) {f:FuncId} {codes:List (Bool×Ty)} {x:Args codes} {S':zx} (h:zU P O f (Args.Z8 codes x) zx.empty=some (.bool true,S')) :
  ∃ k,(kZ P k f (Args.place codes x zx.empty).1 (Args.place codes x zx.empty).2).map (·.1)=some (.bool true):=by
 obtain ⟨h1,h2⟩:=Args.Qk codes x zx.empty
 obtain ⟨a,H',μ',ω',k1,k2,k3,k4,k5,k6⟩:=afA hO f _ _ _ _ _ h M0 _ W0 GI.none h2 (fun r s hs=>by cases hs) (fun r s hs=>by cases hs)
 have:a=.bool true:=je (k6.v0) rfl
 subst this
 exact aak k1
theorem adQ {hps pus:FuncId→Bool}:abx P ⟨fun _=>none,hps,pus⟩:=fun f q h=>by cases h
end
end Go.Abs
namespace Go.Abs
open Go.RowKit
section
variable {R:Type} {P:Program} {O:Ora} {fx:Fx} {hp nm:Bool} {chk:List Nat} {call:FuncId→List Value→M Value} {ops:Array Oper}
def okC (v:Value) (r:Option R):Option R:=if okq 3 v=true then r else none
@[simp] theorem X3 (b:Bool) (r:Option R):okC (.bool b) r=r:=Eq.trans rfl rfl
@[simp] theorem aa4 (k:IntKind) (n:Int) (r:Option R):okC (.int k n) r=r:=Eq.trans rfl rfl
@[simp] theorem Yt (s:ByteArray) (r:Option R):okC (.string s) r=r:=Eq.trans rfl rfl
@[simp] theorem Qs (a:Option Addr) (n c:Nat) (r:Option R):okC (.slice a n c) r=r:=Eq.trans rfl rfl
@[simp] theorem Ko (k:Nat) (v:Value) (r:Option R):okC (.iface k v) r=r:=Eq.trans rfl rfl
@[simp] theorem aeZ (a:Option Addr) (r:Option R):okC (.pointer a) r=r:=Eq.trans rfl rfl
def gdC (v:Value) (b:Bool) (s:M Value) (S:zx) (K:Value→zx→Option R):Option R :=
 if (vb v == some b)=true then andThen (s S) (fun v S1=>okC v (K v S1)) else K zh S
@[simp] theorem aeM (s:M Value) (H:zx) (K:Value→zx→Option R):gdC (.bool true) true s H K=andThen (s H) (fun v S1=>okC v (K v S1)):=Eq.trans rfl rfl
@[simp] theorem aey (s:M Value) (H:zx) (K:Value→zx→Option R):gdC (.bool false) false s H K=andThen (s H) (fun v S1=>okC v (K v S1)):=Eq.trans rfl rfl
@[simp] theorem ael (s:M Value) (H:zx) (K:Value→zx→Option R):gdC (.bool true) false s H K=K zh H:=Eq.trans rfl rfl
@[simp] theorem aeD (s:M Value) (H:zx) (K:Value→zx→Option R):gdC (.bool false) true s H K=K zh H:=Eq.trans rfl rfl
@[simp] theorem aem (s:M Value) (b:Bool) (H:zx) (K:Value→zx→Option R):gdC zh b s H K=K zh H:=Eq.trans rfl rfl
abbrev ZB {α:Type} (a:α):Type:=Unit
def zO (s:Option (Value×zx)) (K:Value→zx→Option R) (p:ZB K):Option R:=andThen s K
def gdK (v:Value) (b:Bool) (s:M Value) (S:zx) (K:Value→zx→Option R) (p:ZB K):Option R:=gd v b s S K
def aeg (v:Value) (b:Bool) (s:M Value) (S:zx) (K:Value→zx→Option R) (p:ZB K):Option R:=gdC v b s S K
def okK (v:Value) (r:Option R) (p:ZB r):Option R:=okC v r
@[simp] theorem Q5 (v:Value) (H:zx) (K:Value→zx→Option R) (p:ZB K):zO (some (v,H)) K p=K v H:=Eq.trans rfl rfl
@[simp] theorem aeB (s:M Value) (H:zx) (K:Value→zx→Option R) (p:ZB K):gdK (.bool true) true s H K p=zO (s H) K p:=Eq.trans rfl rfl
@[simp] theorem aeH (s:M Value) (H:zx) (K:Value→zx→Option R) (p:ZB K):gdK (.bool false) false s H K p=zO (s H) K p:=Eq.trans rfl rfl
@[simp] theorem aeF (s:M Value) (H:zx) (K:Value→zx→Option R) (p:ZB K):gdK (.bool true) false s H K p=K zh H:=Eq.trans rfl rfl
@[simp] theorem aef (s:M Value) (H:zx) (K:Value→zx→Option R) (p:ZB K):gdK (.bool false) true s H K p=K zh H:=Eq.trans rfl rfl
@[simp] theorem aeu (s:M Value) (b:Bool) (H:zx) (K:Value→zx→Option R) (p:ZB K):gdK zh b s H K p=K zh H:=Eq.trans rfl rfl
@[simp] theorem acC (s:M Value) (H:zx) (K:Value→zx→Option R) (p:ZB K):aeg (.bool true) true s H K p=zO (s H) (fun v S1=>okK v (K v S1) ()) ():=Eq.trans rfl rfl
@[simp] theorem abh (s:M Value) (H:zx) (K:Value→zx→Option R) (p:ZB K):aeg (.bool false) false s H K p=zO (s H) (fun v S1=>okK v (K v S1) ()) ():=Eq.trans rfl rfl
@[simp] theorem aa3 (s:M Value) (H:zx) (K:Value→zx→Option R) (p:ZB K):aeg (.bool true) false s H K p=K zh H:=Eq.trans rfl rfl
@[simp] theorem ab9 (s:M Value) (H:zx) (K:Value→zx→Option R) (p:ZB K):aeg (.bool false) true s H K p=K zh H:=Eq.trans rfl rfl
@[simp] theorem aa9 (s:M Value) (b:Bool) (H:zx) (K:Value→zx→Option R) (p:ZB K):aeg zh b s H K p=K zh H:=Eq.trans rfl rfl
@[simp] theorem Vd (b:Bool) (r:Option R) (p:ZB r):okK (.bool b) r p=r:=Eq.trans rfl rfl
@[simp] theorem abQ (k:IntKind) (n:Int) (r:Option R) (p:ZB r):okK (.int k n) r p=r:=Eq.trans rfl rfl
@[simp] theorem Yn (s:ByteArray) (r:Option R) (p:ZB r):okK (.string s) r p=r:=Eq.trans rfl rfl
@[simp] theorem QY (a:Option Addr) (n c:Nat) (r:Option R) (p:ZB r):okK (.slice a n c) r p=r:=Eq.trans rfl rfl
@[simp] theorem J5 (a:Option Addr) (r:Option R) (p:ZB r):okK (.pointer a) r p=r:=Eq.trans rfl rfl
theorem aeh {v:Value} (h:okq 3 v=true) (r:Option R) (p:ZB r):okK v r p=r:=if_pos h
theorem abJ {l rest:List Oper} {o:Oper} {T:List Value} {T1:Value→List Value} {S:zx} {v:Value} {r:Option (List Value×zx)} (hl:l=o::rest) (hg:o.guard=none) (hm:∀ v,xH o rest T v=T1 v)
  (hs:wB P fx call T o S=some (v,S)) (hK:jl P fx call ops rest (T1 v) S=r):jl P fx call ops l T S=r:=by
 subst hl
 simp only [jl,Region.wanted,hg,if_true,hs,hm]
 exact hK
theorem afM {l rest:List Oper} {o:Oper} {T:List Value} {T1:Value→List Value} {S:zx} {s:Option (Value×zx)} {K:Value→zx→Option (List Value×zx)} (hl:l=o::rest) (hg:o.guard=none) (hm:∀ v,xH o rest T v=T1 v)
  (hs:wB P fx call T o S=s) (hK:∀ v S1,jl P fx call ops rest (T1 v) S1=K v S1):jl P fx call ops l T S=zO s K ():=by
 show _=andThen s K
 subst hl hs
 simp only [jl,Region.wanted,hg,if_true,hm,hK]
 rfl
theorem afJ {l rest:List Oper} {o:Oper} {T:List Value} {T1:Value→List Value} {S:zx} {j:Nat} {b:Bool} {g:Value} {s:M Value} {K:Value→zx→Option (List Value×zx)} (hl:l=o::rest) (hg:o.guard=some (j,b)) (hm:∀ v,xH o rest T v=T1 v)
  (hy:ynd ops T j=vb g) (hs:wB P fx call T o S=s S) (hK:∀ v S1,jl P fx call ops rest (T1 v) S1=K v S1):jl P fx call ops l T S=gdK g b s S K ():=by
 show _=gd g b s S K
 subst hl
 simp only [jl,Region.wanted,hg,hy,hs,hm,hK,gd]
 rfl
theorem ac3 {l rest:List Oper} {o:Oper} {T:List Value} {T1:Value→List Value} {S:zx} {k:Nat} {s:Option (Value×zx)} {K:Value→zx→Option (List Value×zx)} (hc:chk.contains k=false) (hl:l=o::rest) (hg:o.guard=none) (hm:∀ v,xH o rest T v=T1 v)
  (hs:wB P fx call T o S=s) (hK:∀ v S1,jQ P fx chk [] call ops (k+1) [] rest (T1 v) S1=K v S1):jQ P fx chk [] call ops k [] l T S=zO s K ():=by
 show _=andThen s K
 subst hl hs
 simp only [jQ,qU,List.isEmpty_nil,if_true,Region.wanted,hg,if_true,hm,hK,hc,Bool.not_false,Bool.true_or]
 rfl
theorem VQ {l rest:List Oper} {o:Oper} {T:List Value} {T1:Value→List Value} {S:zx} {k:Nat} {v:Value} {r:Option (List Value×zx)} (hc:chk.contains k=false) (hl:l=o::rest) (hg:o.guard=none) (hm:∀ v,xH o rest T v=T1 v)
  (hs:wB P fx call T o S=some (v,S)) (hK:jQ P fx chk [] call ops (k+1) [] rest (T1 v) S=r):jQ P fx chk [] call ops k [] l T S=r:=by
 subst hl
 simp only [jQ,qU,List.isEmpty_nil,if_true,Region.wanted,hg,if_true,hs,hm,hc,Bool.not_false,Bool.true_or]
 exact hK
theorem acP {l rest:List Oper} {o:Oper} {T:List Value} {T1:Value→List Value} {S:zx} {k:Nat} {s:Option (Value×zx)} {K:Value→zx→Option (List Value×zx)} (hc:chk.contains k=false) {x:Nat×Nat} {nl:List (Nat×Nat)} {hist:List (Value×zx)} {pe:Value} (hpe:ku T o=pe) (hl:l=o::rest) (hg:o.guard=none) (hm:∀ v,xH o rest T v=T1 v)
  (hs:wB P fx call T o S=s) (hK:∀ v S1,jQ P fx chk (x::nl) call ops (k+1) (hist++[(pe,S)]) rest (T1 v) S1=K v S1):jQ P fx chk (x::nl) call ops k hist l T S=zO s K ():=by
 show _=andThen s K
 subst hl hs
 simp only [jQ,qU,List.isEmpty_cons,Bool.false_eq_true,if_false,hpe,Region.wanted,hg,if_true,hm,hK,hc,Bool.not_false,Bool.true_or]
 rfl
theorem abO {l rest:List Oper} {o:Oper} {T:List Value} {T1:Value→List Value} {S:zx} {k:Nat} {s:Option (Value×zx)} {K:Value→zx→Option (List Value×zx)} (hc:chk.contains k=true) {x:Nat×Nat} {nl:List (Nat×Nat)} {hist:List (Value×zx)} {pe:Value} (hpe:ku T o=pe) (hl:l=o::rest) (hg:o.guard=none) (hm:∀ v,xH o rest T v=T1 v)
  (hs:wB P fx call T o S=s) (hK:∀ v S1,jQ P fx chk (x::nl) call ops (k+1) (hist++[(pe,S)]) rest (T1 v) S1=K v S1):jQ P fx chk (x::nl) call ops k hist l T S=zO s (fun v S1=>okK v (K v S1) ()) ():=by
 show _=andThen s (fun v S1=>okC v (K v S1))
 subst hl hs
 simp only [jQ,qU,List.isEmpty_cons,Bool.false_eq_true,if_false,hpe,Region.wanted,hg,if_true,hm,hK,hc,Bool.not_true,Bool.false_or]
 rfl
theorem aar {l rest:List Oper} {o:Oper} {T:List Value} {T1:Value→List Value} {S:zx} {k:Nat} {v:Value} {r:Option (List Value×zx)} (hc:chk.contains k=false) {x:Nat×Nat} {nl:List (Nat×Nat)} {hist:List (Value×zx)} {pe:Value} (hpe:ku T o=pe) (hl:l=o::rest) (hg:o.guard=none) (hm:∀ v,xH o rest T v=T1 v)
  (hs:wB P fx call T o S=some (v,S)) (hK:jQ P fx chk (x::nl) call ops (k+1) (hist++[(pe,S)]) rest (T1 v) S=r):jQ P fx chk (x::nl) call ops k hist l T S=r:=by
 subst hl
 simp only [jQ,qU,List.isEmpty_cons,Bool.false_eq_true,if_false,hpe,Region.wanted,hg,if_true,hs,hm,hc,Bool.not_false,Bool.true_or]
 exact hK
theorem Xe {l rest:List Oper} {o:Oper} {T:List Value} {T1:Value→List Value} {S:zx} {k:Nat} {v:Value} {r:Option (List Value×zx)} (hc:chk.contains k=true) {x:Nat×Nat} {nl:List (Nat×Nat)} {hist:List (Value×zx)} {pe:Value} (hpe:ku T o=pe) (hl:l=o::rest) (hg:o.guard=none) (hm:∀ v,xH o rest T v=T1 v)
  (hs:wB P fx call T o S=some (v,S)) (hK:jQ P fx chk (x::nl) call ops (k+1) (hist++[(pe,S)]) rest (T1 v) S=r):jQ P fx chk (x::nl) call ops k hist l T S=okK v r ():=by
 show _=okC v r
 subst hl
 simp only [jQ,qU,List.isEmpty_cons,Bool.false_eq_true,if_false,hpe,Region.wanted,hg,if_true,hs,hm,hc,Bool.not_true,Bool.false_or]
 rw [← hK]
 rfl
theorem adR {l rest:List Oper} {o:Oper} {T:List Value} {T1:Value→List Value} {S:zx} {j k:Nat} {b:Bool} {g:Value} {s:M Value} {K:Value→zx→Option (List Value×zx)} (hc:chk.contains k=false) {x:Nat×Nat} {nl:List (Nat×Nat)} {hist:List (Value×zx)} {pe:Value} (hpe:ku T o=pe) (hl:l=o::rest) (hg:o.guard=some (j,b)) (hm:∀ v,xH o rest T v=T1 v)
  (hy:ynd ops T j=vb g) (hs:wB P fx call T o S=s S) (hK:∀ v S1,jQ P fx chk (x::nl) call ops (k+1) (hist++[(pe,S)]) rest (T1 v) S1=K v S1):jQ P fx chk (x::nl) call ops k hist l T S=gdK g b s S K ():=by
 show _=gd g b s S K
 subst hl
 simp only [jQ,qU,List.isEmpty_cons,Bool.false_eq_true,if_false,hpe,Region.wanted,hg,hy,hs,hm,hK,gd,hc,Bool.not_false,Bool.true_or,if_true]
 rfl
theorem ab6 {l rest:List Oper} {o:Oper} {T:List Value} {T1:Value→List Value} {S:zx} {j k:Nat} {b:Bool} {g:Value} {s:M Value} {K:Value→zx→Option (List Value×zx)} (hc:chk.contains k=true) {x:Nat×Nat} {nl:List (Nat×Nat)} {hist:List (Value×zx)} {pe:Value} (hpe:ku T o=pe) (hl:l=o::rest) (hg:o.guard=some (j,b)) (hm:∀ v,xH o rest T v=T1 v)
  (hy:ynd ops T j=vb g) (hs:wB P fx call T o S=s S) (hK:∀ v S1,jQ P fx chk (x::nl) call ops (k+1) (hist++[(pe,S)]) rest (T1 v) S1=K v S1):jQ P fx chk (x::nl) call ops k hist l T S=aeg g b s S K ():=by
 show _=gdC g b s S K
 subst hl
 simp only [jQ,qU,List.isEmpty_cons,Bool.false_eq_true,if_false,hpe,Region.wanted,hg,hy,hs,hm,hK,gdC,hc,Bool.not_true,Bool.false_or]
 rfl
def ckK (c:Bool) (r:Option R) (p:ZB r):Option R:=if c then r else none
@[simp] theorem X6 (r:Option R) (p:ZB r):ckK true r p=r:=Eq.trans rfl rfl
noncomputable def ae5 (P:Program) (O:Ora) (hp:Bool) (v:Value) (x y:Code) (T:List Value) (S:zx):St:=ad4 v (zD P O hp x T S) (zD P O hp y T S)
@[simp] theorem WM (x y:Code) (T:List Value) (S:zx):ae5 P O hp (.bool true) x y T S=zD P O hp x T S:=Eq.trans rfl rfl
@[simp] theorem JU (x y:Code) (T:List Value) (S:zx):ae5 P O hp (.bool false) x y T S=zD P O hp y T S:=Eq.trans rfl rfl
@[simp] theorem Wj (T:List Value) (H:zx):zD P O hp .skip T H=some (.normal,T,H):=Eq.trans rfl rfl
@[simp] theorem WS (T:List Value) (H:zx):zD P O hp .ret T H=some (.ret,T,H):=Eq.trans rfl rfl
@[simp] theorem Wl (i:Nat) (T:List Value) (H:zx):zD P O hp (.exit i) T H=some (.exit i,T,H):=Eq.trans rfl rfl
@[simp] theorem Zv (i:Nat) (ops:Array Oper) (T:List Value) (H:zx):zD P O false (.region i ops false) T H=Q9 (jl P ⟨false,false,false⟩ (zU P O) ops ops.toList T H):=Eq.trans rfl rfl
@[simp] theorem vX (i:Nat) (ops:Array Oper) (T:List Value) (H:zx):zD P O true (.region i ops false) T H=Q9 (jl P ⟨true,false,false⟩ (wz O.hp true (zU P O)) ops ops.toList T H):=Eq.trans rfl rfl
theorem kJ {i:Nat} {ops:Array Oper} (hd:qY P ops=true) (hf:fixed P ops=nm) (hc:checked P ops=chk) {nl:List (Nat×Nat)} (hn:again P ops=nl) (T:List Value) (H:zx):zD P O false (.region i ops true) T H=Q9 (jQ P ⟨false,!chk.isEmpty,nm⟩ chk nl (zU P O) ops 0 [] ops.toList T H):=by
 subst hf hc hn
 simp only [zD,hd,if_true,wz]
 rfl
theorem YQ {i:Nat} {ops:Array Oper} (hd:qY P ops=true) (hf:fixed P ops=nm) (hc:checked P ops=chk) {nl:List (Nat×Nat)} (hn:again P ops=nl) (T:List Value) (H:zx):zD P O true (.region i ops true) T H=Q9 (jQ P ⟨true,!chk.isEmpty,nm⟩ chk nl (wz O.hp true (zU P O)) ops 0 [] ops.toList T H):=by
 subst hf hc hn
 simp only [zD,hd,if_true]
 rfl
@[simp] theorem WJ (x y:Code) (T:List Value) (H:zx):zD P O hp (.seq x y) T H=agn (zD P O hp x T H) (zD P O hp y):=Eq.trans rfl rfl
@[simp] theorem Jf (i:Nat) (c:Code) (T:List Value) (H:zx):zD P O hp (.block i c) T H=QT i (zD P O hp c T H):=Eq.trans rfl rfl
@[simp] theorem Ju (c:Code) (T:List Value) (H:zx):zD P O hp (.loop c) T H=yN (zD P O hp c) T H:=Eq.trans rfl rfl
@[simp] theorem Wx (t:Tmp) (x y:Code) (T:List Value) (H:zx):zD P O hp (.cond (.tmp t) x y) T H=ae5 P O hp (T.getD t zh) x y T H:=by
 simp only [zD,yL,if_true,zQ]
 rfl
@[simp] theorem Kw:dem zh=zh:=vg
@[simp] theorem abB (k:IntKind) (n:Int):dem (.int k n)=.int k n:=Eq.trans rfl rfl
@[simp] theorem XT (b:Bool):dem (.bool b)=.bool b:=Eq.trans rfl rfl
@[simp] theorem WL (s:ByteArray):dem (.string s)=.string s:=Eq.trans rfl rfl
@[simp] theorem acr:dem (.slice none 0 0)=.slice none 0 0:=Eq.trans rfl rfl
@[simp] theorem acf (x:Array Value):dem (.agg x)=.agg x:=Eq.trans rfl rfl
@[simp] theorem XF (f:Fn) (x c:Array Value):dem (.func f x c)=.func f x c:=Eq.trans rfl rfl
@[simp] theorem Wq (a:Option Addr):dem (.pointer a)=.pointer a:=Eq.trans rfl rfl
@[simp] theorem agT (e n:Nat) (cs:List Value):dem (SL 1 e n cs)=SL 1 e n cs:=Eq.trans rfl rfl
@[simp] theorem agW (e n:Nat) (cs:List Value):dem (SL 2 e n cs)=SL 1 e n cs:=Eq.trans rfl rfl
@[simp] theorem aeJ (k e n:Nat) (cs:List Value) (r:Option R) (p:ZB r):okK (SL k e n cs) r p=r:=Eq.trans rfl rfl
@[simp] theorem aea (cs:List Value) (r:Option R) (p:ZB r):okK (EP cs) r p=r:=Eq.trans rfl rfl
@[simp] theorem ahc (k e n:Nat) (cs:List Value) (r:Option R):okC (SL k e n cs) r=r:=Eq.trans rfl rfl
@[simp] theorem aes (cs:List Value) (r:Option R):okC (EP cs) r=r:=Eq.trans rfl rfl
def sv (k e n:Nat) (cs:List Value):Value:=if k=0 then .slice none 0 0 else SL k e n cs
structure Okv (k n:Nat) (cs:List Value):Prop where
 le:k≤2
 nil:k=0→n=0∧cs=[]
theorem sv0 {e n:Nat} {cs:List Value}:sv 0 e n cs=.slice none 0 0:=rfl
theorem sv1 {e n:Nat} {cs:List Value}:sv 1 e n cs=SL 1 e n cs:=rfl
theorem sv2 {e n:Nat} {cs:List Value}:sv 2 e n cs=SL 2 e n cs:=rfl
@[simp] theorem XU (k e n:Nat) (cs:List Value):dem (sv k e n cs)=sv (if k=2 then 1 else k) e n cs:=by
 unfold sv
 by_cases h0:k=0
 ·
  subst h0;rfl
 ·
  by_cases h2:k=2
  ·
   subst h2;rfl
  ·
   rw [if_neg h0,if_neg h2,if_neg h0]
   simp only [SL,dem,qF,if_neg h2]
@[simp] theorem Kt (k e n:Nat) (cs:List Value) (r:Option R):okC (sv k e n cs) r=r:=by
 unfold sv;split <;> rfl
@[simp] theorem aeK (k e n:Nat) (cs:List Value) (r:Option R) (p:ZB r):okK (sv k e n cs) r p=r:=Kt k e n cs r
theorem Xy {k e n:Nat} {cs:List Value} (h:Okv k n cs):∃ e',vSl (sv k e n cs)=some (e',n,cs)∧(e'=e∨n=0∧cs=[]):=by
 unfold sv
 by_cases h0:k=0
 ·
  obtain ⟨rfl,rfl⟩:=h.nil h0
  rw [if_pos h0]
  exact ⟨0,rfl,.inr ⟨rfl,rfl⟩⟩
 ·
  rw [if_neg h0]
  have:k=1∨k=2:=by have:=h.le;omega
  exact ⟨e,by simp [SL,vSl,this],.inl rfl⟩
theorem aeS {t te:TypeId} {k e n:Nat} {cs:List Value} {S:zx} (ht:P.underlying t=some (.slice te)) (h:Okv k n cs):Jc P t (sv k e n cs) S=some (goInt n,S):=by
 by_cases h0:k=0
 ·
  obtain ⟨rfl,rfl⟩:=h.nil h0
  subst h0
  simp only [sv0,Jc,Qx,ht]
 ·
  obtain ⟨e',h1,_⟩:=Xy (e:=e) h
  simp only [sv,if_neg h0] at h1 ⊢
  simp only [SL] at h1 ⊢
  simp only [Jc,ht,h1]
theorem YG {t te:TypeId} {k e n:Nat} {cs:List Value} {S:zx} {ki:IntKind} {i:Int} (ht:P.underlying t=some (.slice te)) (he:qG P te=some e) (h:Okv k n cs) (h0:0≤i) (hi:i < n) :
  zV P t (sv k e n cs) (.int ki i) S=some (EP ((cs.drop (i.toNat * e)).take e),S):=by
 have hk:k≠0:=fun e=>by have:=(h.nil e).1;omega
 have hk2:k=1∨k=2:=by have:=h.le;omega
 have h1:vSl (SL k e n cs)=some (e,n,cs):=by simp [SL,vSl,hk2]
 simp only [sv,if_neg hk]
 simp only [SL] at h1 ⊢
 simp only [zV,ht,h1,he,if_true]
 rw [if_pos ⟨h0,hi⟩]
@[simp] theorem QL {t:TypeId} {v:Value} {S:zx} (ht:yV P t=some false):zZ P nm t (EP [v]) S=some (v,S):=by
 simp [EP,zZ,ht]
theorem aaN {t:TypeId} {n:Nat} {cs:List Value} {S:zx} (ht:yV P t=some true) (hn:qG P t=some n) (hc:cs.length=n):zZ P nm t (EP cs) S=some (.agg cs.toArray,S):=by
 simp only [EP,zZ,ht,hn,if_true,List.toList_toArray]
 rw [if_pos (by omega),← hc,List.take_length]
theorem aa8 {t te:TypeId} {k e n:Nat} {cs:List Value} {S:zx} {lo hi:Option Value} {i j:Int} (ht:P.underlying t=some (.slice te)) (he:qG P te=some e) (h:Okv k n cs) (hlo:qH 0 lo=some i) (hhi:qH n hi=some j)
  (h0:0≤i) (hij:i≤j) (hj:j≤n):xI P t (sv k e n cs) lo hi S=some (sv (if k=2 then 1 else k) e (j.toNat - i.toNat) ((cs.drop (i.toNat * e)).take ((j.toNat - i.toNat) * e)),S):=by
 by_cases hk:k=0
 ·
  obtain ⟨rfl,rfl⟩:=h.nil hk
  subst hk
  simp only [sv0,xI,ht,vSl,he,hlo,hhi,if_pos h0,if_pos hij,if_pos hj]
  rfl
 ·
  have hk2:k=1∨k=2:=by have:=h.le;omega
  have h1:vSl (SL k e n cs)=some (e,n,cs):=by simp [SL,vSl,hk2]
  have h3:(if k=2 then 1 else k)=1:=by rcases hk2 with rfl | rfl <;> rfl
  rw [h3]
  simp only [sv,if_neg hk]
  simp only [SL] at h1 ⊢
  simp only [xI,ht,h1,he,hlo,hhi,if_pos h0,if_pos hij,if_pos hj,if_true]
  rfl
theorem adE {t te:TypeId} {k e n:Nat} {cs:List Value} {S:zx} (ht:P.underlying t=some (.slice te)) (h:Okv k n cs):wE P .eql t (sv k e n cs) (.slice none 0 0) S=some (.bool (decide (k=0)),S):=by
 by_cases hk:k=0
 ·
  subst hk
  simp only [sv0,wE,xB,yJ,ht,xU]
  rfl
 ·
  have hk2:k=1∨k=2:=by have:=h.le;omega
  have h1:vSl (SL k e n cs)=some (e,n,cs):=by simp [SL,vSl,hk2]
  simp only [sv,if_neg hk]
  simp only [SL] at h1 ⊢
  simp only [wE,ht,h1]
  simp [hk]
@[simp] theorem JE (k e n:Nat) (cs:List Value):ZH (sv k e n cs)=false:=by unfold sv;split <;> rfl
@[simp] theorem ZJ (dr:Bool) (t:TypeId) (k e n:Nat) (cs:List Value) (lo hi:Option Value) (S:zx):kL P dr t (sv k e n cs) lo hi S=xI P t (sv k e n cs) lo hi S:=by
 unfold kL;rw [JE];rfl
@[simp] theorem vT (dr:Bool) (t:TypeId) (s:ByteArray) (lo hi:Option Value) (S:zx):kL P dr t (.string s) lo hi S=xI P t (.string s) lo hi S:=Eq.trans rfl rfl
@[simp] theorem JC (hp dr:Bool) (src dst:TypeId) (k e n:Nat) (cs:List Value) (S:zx):yT P hp dr src dst (sv k e n cs) S=vP P src dst (sv k e n cs) S:=by
 unfold yT
 rw [JE]
 have:∀ s,sv k e n cs≠.string s:=by intro s;unfold sv;split <;> (intro h;cases h)
 cases hp <;> simp only [Bool.false_eq_true,if_false] <;> (split <;> first | rfl | (rename_i h;exact absurd h (this _)) | skip)
@[simp] theorem Yf (hp dr:Bool) (src dst:TypeId) (k:IntKind) (n:Int) (S:zx):yT P hp dr src dst (.int k n) S=vP P src dst (.int k n) S:=by cases hp <;> rfl
@[simp] theorem Zx (dr:Bool) (src dst:TypeId) (s:ByteArray) (S:zx):yT P false dr src dst (.string s) S=vP P src dst (.string s) S:=Eq.trans rfl rfl
@[simp] theorem vZ (dr:Bool) (src dst:TypeId) (s:ByteArray) (S:zx):yT P true dr src dst (.string s) S=wF P src dst (.string s) S:=Eq.trans rfl rfl
theorem VO {t te tx tex:TypeId} {k e n j m bytes:Nat} {cs ds:List Value} {z:Value} {S:zx} (ht:P.underlying t=some (.slice te)) (he:qG P te=some e) (hz:zeroOf P te=some z) (hzs:z.cells.size=e) (hb:bytesOf P te=some bytes) (hp:0 < e)
  (htx:P.underlying tx=some (.slice tex)) (h:Okv k n cs) (hk:k≠1) (hx:Okv j m ds) (hn:cs.length=n * e) (hm:ds.length=m * e) (h1:cs.all (·.oneCell')=true) (h2:ds.all (·.oneCell')=true) (hl:(n+m) * bytes≤140737488355328) (hmax:n+m≤4611686018427387903) :
  wu P t tx (sv k e n cs) (sv j e m ds) S=some (sv (if k=0∧m=0 then 0 else 2) e (n+m) (cs++ds),S):=by
 have hel:yj P t=some te:=by simp only [yj,ht]
 have hsrc:afp P tx e (sv j e m ds)=some (m,ds):=by
  obtain ⟨e',q1,q2⟩:=Xy (e:=e) hx
  have hns:∀ s,sv j e m ds≠.string s:=by intro s;unfold sv;split <;> (intro h;cases h)
  have hcond:m=0∨e'=e:=q2.elim .inr fun h=>.inl h.1
  unfold afp
  split
  ·
   rename_i s hs;exact absurd hs (hns s)
  ·
   simp only [htx,q1,if_pos hcond,if_pos hm,h2,if_true]
 have hsrc:Jj P tx e (sv j e m ds) S=some (m,ds):=by
  unfold Jj
  rw [JE]
  exact hsrc
 by_cases hk0:k=0
 ·
  obtain ⟨rfl,rfl⟩:=h.nil hk0
  subst hk0
  simp only [sv0,wu,wV,hel,he,hz,hb,if_pos hp,if_pos hzs,hsrc]
  by_cases hm0:m=0
  ·
   subst hm0
   simp [sv0]
  ·
   rw [Nat.zero_add] at hl hmax
   rw [if_neg hm0,if_pos hl,if_pos hmax,if_neg Bool.false_ne_true,if_neg (fun h=>hm0 h.2),sv2,Nat.zero_add,List.nil_append]
 ·
  have hk2:k=2:=by have:=h.le;omega
  subst hk2
  rw [if_neg (fun h=>hk0 h.1)]
  have h1':cs.toArray.toList.all (·.oneCell')=true:=by simpa using h1
  simp only [sv2,SL,wu,wV,hel,he,hz,hb,if_pos hp,if_pos hzs,hsrc,if_true,if_pos hl,if_pos hmax,h1']
@[simp] theorem XC (op:BinOp) (t:TypeId) (k k':IntKind) (a b:Int) (S:zx):wE P op t (.int k a) (.int k' b) S=xB P op t (.int k a) (.int k' b) S:=Eq.trans rfl rfl
@[simp] theorem Wv (op:BinOp) (t:TypeId) (a b:ByteArray) (S:zx):wE P op t (.string a) (.string b) S=xB P op t (.string a) (.string b) S:=Eq.trans rfl rfl
@[simp] theorem QG (op:BinOp) (t:TypeId) (a b:Bool) (S:zx):wE P op t (.bool a) (.bool b) S=xB P op t (.bool a) (.bool b) S:=Eq.trans rfl rfl
@[simp] theorem XQ (op:BinOp) (t:TypeId) (a b:Array Value) (S:zx):wE P op t (.agg a) (.agg b) S=xB P op t (.agg a) (.agg b) S:=Eq.trans rfl rfl
@[simp] theorem Yo (b:Bool) (x y:Value) (S:zx):yX (.bool b) x y S=some (if b then dem x else dem y,S):=Eq.trans rfl rfl
@[simp] theorem Kr {src dst:TypeId} (k:IntKind) (n:Int) (S:zx):vP P src dst (.int k n) S=wF P src dst (.int k n) S:=Eq.trans rfl rfl
@[simp] theorem vU (vs:List Value) (i:Nat) (S:zx):zG (.tuple vs.toArray) i S=(vs[i]?).map (·,S):=by
 simp only [zG,List.getElem?_toArray]
 cases vs[i]? <;> rfl
end
end Go.Abs
namespace Go.Abs
theorem qh {P:Program} {fn:Func} {a b:Value} {r:List Value} {T:List Value} {S:zx} (h:zJ P T S fn.results.toList=some (a::b::r)) (hn:afI fn.results.toList=true) (hall:(a::b::r).all jG=true) :
  aav P fn T S=some (.tuple (a::b::r).toArray,S):=by
 unfold aav
 rw [h]
 dsimp only
 rw [if_pos hn,if_pos hall]
theorem yP {P:Program} {fn:Func} {a:Value} {T:List Value} {S:zx} (h:zJ P T S fn.results.toList=some [a]) (hn:afI fn.results.toList=true):aav P fn T S=some (a,S):=by
 unfold aav
 rw [h]
 dsimp only
 rw [if_pos hn]
@[simp] theorem jE (k:IntKind) (n:Int):jG (.int k n)=true:=rfl
@[simp] theorem jq (b:Bool):jG (.bool b)=true:=rfl
@[simp] theorem KY (k e n:Nat) (cs:List Value):jG (sv k e n cs)=true:=by unfold sv;split <;> rfl
@[simp] theorem jD (x:Array Value):jG (.agg x)=true:=rfl
@[simp] theorem jh (a:Option Addr) (n c:Nat):jG (.slice a n c)=true:=rfl
end Go.Abs
namespace Go.Abs
open Go.RowKit
def vs {α:Type} (f:α→List Value) (e k:Nat) (l:List α):Value:=sv k e l.length (l.flatMap f)
structure Okl {α:Type} (k:Nat) (l:List α):Prop where
 le:k≤2
 nil:k=0→l=[]
theorem Okl.own {α:Type} {l:List α}:Okl 2 l:=⟨Nat.le_refl 2,(fun h=>by cases h)⟩
theorem Okl.read {α:Type} {l:List α}:Okl 1 l:=⟨by omega,(fun h=>by cases h)⟩
theorem Okl.none {α:Type}:Okl 0 ([]:List α):=⟨by omega,fun _=>rfl⟩
theorem Okl.dem {α:Type} {k:Nat} {l:List α} (h:Okl k l):Okl (if k=2 then 1 else k) l:=⟨by have:=h.le;split <;> omega,fun hk=>h.nil (by split at hk <;> omega)⟩
def cb (b:UInt8):List Value:=[.int .u8 b.toNat]
def ci (n:Int):List Value:=[.int .i64 n]
section
variable {R α:Type} {P:Program} {f:α→List Value} {e k j:Nat} {l m:List α} {t te tx tex:TypeId} {S:zx}
theorem Okl.okv (h:Okl k l):Okv k l.length (l.flatMap f):=⟨h.le,fun h0=>by rw [h.nil h0];exact ⟨rfl,rfl⟩⟩
theorem jO (hf:∀ x,(f x).length=e) (l:List α):(l.flatMap f).length=l.length * e:=by
 induction l with
 | nil=>simp
 | cons x l ih=>simp only [List.flatMap_cons,List.length_append,hf,ih,List.length_cons,Nat.add_mul];omega
theorem Jh (hf:∀ x,(f x).length=e) (l:List α):∀ (i:Nat),(l.flatMap f).drop (i * e)=(l.drop i).flatMap f:=by
 induction l with
 | nil=>intro i;simp
 | cons x l ih =>
  intro i
  cases i with
  | zero=>simp
  | succ i =>
   rw [List.flatMap_cons,List.drop_succ_cons,← ih i,List.drop_append,List.drop_eq_nil_of_le (by rw [hf,Nat.add_mul];omega),List.nil_append,hf]
   congr 1
   rw [Nat.add_mul];omega
theorem Jg (hf:∀ x,(f x).length=e) (l:List α):∀ (i:Nat),(l.flatMap f).take (i * e)=(l.take i).flatMap f:=by
 induction l with
 | nil=>intro i;simp
 | cons x l ih =>
  intro i
  cases i with
  | zero=>simp
  | succ i =>
   rw [List.flatMap_cons,List.take_succ_cons,List.flatMap_cons,← ih i,List.take_append,List.take_of_length_le (by rw [hf,Nat.add_mul];omega),hf]
   congr 2
   rw [Nat.add_mul];omega
@[simp] theorem acp:dem (vs f e k l)=vs f e (if k=2 then 1 else k) l:=XU _ _ _ _
@[simp] theorem aeI (r:Option R):okC (vs f e k l) r=r:=Kt _ _ _ _ _
@[simp] theorem aeN (r:Option R) (p:ZB r):okK (vs f e k l) r p=r:=Kt _ _ _ _ _
@[simp] theorem agV:ZH (vs f e k l)=false:=JE _ _ _ _
@[simp] theorem WO (dr:Bool) (lo hi:Option Value):kL P dr t (vs f e k l) lo hi S=xI P t (vs f e k l) lo hi S:=ZJ _ _ _ _ _ _ _ _ _
@[simp] theorem Qo (hp dr:Bool) (src dst:TypeId):yT P hp dr src dst (vs f e k l) S=vP P src dst (vs f e k l) S:=JC _ _ _ _ _ _ _ _ _
@[simp] theorem jH:jG (vs f e k l)=true:=KY _ _ _ _
theorem aaR (ht:P.underlying t=some (.slice te)) (h:Okl k l):Jc P t (vs f e k l) S=some (goInt l.length,S):=aeS ht h.okv
theorem XL (ht:P.underlying t=some (.slice te)) (h:Okl k l):wE P .eql t (vs f e k l) (.slice none 0 0) S=some (.bool (decide (k=0)),S):=adE ht h.okv
theorem ae6 {ki:IntKind} {i:Int} (ht:P.underlying t=some (.slice te)) (he:qG P te=some e) (hf:∀ x,(f x).length=e) (h:Okl k l) (h0:0≤i) (hi:i < l.length) :
  zV P t (vs f e k l) (.int ki i) S=some (EP (f (l[i.toNat]'(by omega))),S):=by
 unfold vs
 rw [YG ht he h.okv h0 hi,Jh hf]
 have hlt:i.toNat < l.length:=by omega
 have:=Jg hf (l.drop i.toNat) 1
 rw [Nat.one_mul] at this
 rw [this,List.drop_eq_getElem_cons hlt,List.take_succ_cons,List.take_zero,List.flatMap_cons,List.flatMap_nil,List.append_nil]
theorem adH {lo hi:Option Value} {i j:Int} (ht:P.underlying t=some (.slice te)) (he:qG P te=some e) (hf:∀ x,(f x).length=e) (h:Okl k l) (hlo:qH 0 lo=some i) (hhi:qH l.length hi=some j) (h0:0≤i) (hij:i≤j) (hj:j≤l.length) :
  xI P t (vs f e k l) lo hi S=some (vs f e (if k=2 then 1 else k) ((l.drop i.toNat).take (j.toNat - i.toNat)),S):=by
 unfold vs
 rw [aa8 ht he h.okv hlo hhi h0 hij hj,Jh hf,Jg hf]
 congr 3
 simp;omega
theorem Jv {bytes:Nat} {z:Value} (ht:P.underlying t=some (.slice te)) (he:qG P te=some e) (hz:zeroOf P te=some z) (hzs:z.cells.size=e) (hb:bytesOf P te=some bytes) (hp:0 < e) (htx:P.underlying tx=some (.slice tex))
  (hf:∀ x,(f x).length=e) (h1:∀ x,(f x).all (·.oneCell')=true) (h:Okl k l) (hk:k≠1) (hm:Okl j m) (hl:(l.length+m.length) * bytes≤140737488355328) (hmax:l.length+m.length≤4611686018427387903) :
  wu P t tx (vs f e k l) (vs f e j m) S=some (vs f e (if k=0∧m.length=0 then 0 else 2) (l++m),S):=by
 have hone:∀ l:List α,(l.flatMap f).all (·.oneCell')=true:=by
  intro l
  rw [List.all_flatMap,List.all_eq_true]
  exact fun x _=>h1 x
 unfold vs
 rw [VO ht he hz hzs hb hp htx h.okv hk hm.okv (jO hf l) (jO hf m) (hone l) (hone m) hl hmax,List.flatMap_append,List.length_append]
theorem X9 (x:UInt8):(cb x).length=1:=rfl
theorem agc (x:UInt8):(cb x).all (·.oneCell')=true:=rfl
theorem aew (x:Int):(ci x).length=1:=rfl
theorem agK (x:Int):(ci x).all (·.oneCell')=true:=rfl
theorem ad1 (l:List UInt8):wK (l.flatMap cb)=some l:=by
 induction l with
 | nil=>rfl
 | cons b l ih =>
  have:(b::l).flatMap cb=.int .u8 b.toNat::l.flatMap cb:=rfl
  rw [this]
  simp only [wK,J6,ih]
  simp
theorem ji {v:Value} {i j:Nat} {S:zx} (h:j≠i):zG (zL j v) i S=zG v i S:=by
 cases v with
 | tuple vs=>simp only [zL,zG,Array.getElem?_modify,if_neg h]
 | _=>rfl
theorem aaQ {v:Value} {S:zx}:zG (zL 0 v) 1 S=zG v 1 S:=ji (by decide)
theorem acD {v:Value} {S:zx}:zG (zL 0 v) 2 S=zG v 2 S:=ji (by decide)
theorem abf {v:Value} {S:zx}:zG (zL 1 v) 2 S=zG v 2 S:=ji (by decide)
theorem acn {v:Value} {S:zx}:zG (zL 0 v) 3 S=zG v 3 S:=ji (by decide)
theorem aaE {v:Value} {S:zx}:zG (zL 1 v) 3 S=zG v 3 S:=ji (by decide)
theorem abz {v:Value} {S:zx}:zG (zL 2 v) 3 S=zG v 3 S:=ji (by decide)
theorem acv {v:Value} {S:zx}:zG (zL 0 v) 4 S=zG v 4 S:=ji (by decide)
theorem abu {v:Value} {S:zx}:zG (zL 1 v) 4 S=zG v 4 S:=ji (by decide)
theorem abp {v:Value} {S:zx}:zG (zL 2 v) 4 S=zG v 4 S:=ji (by decide)
theorem abb {v:Value} {S:zx}:zG (zL 3 v) 4 S=zG v 4 S:=ji (by decide)
theorem ab7 {v:Value} {S:zx}:zG (zL 0 v) 5 S=zG v 5 S:=ji (by decide)
theorem ach {v:Value} {S:zx}:zG (zL 1 v) 5 S=zG v 5 S:=ji (by decide)
theorem aa6 {v:Value} {S:zx}:zG (zL 2 v) 5 S=zG v 5 S:=ji (by decide)
theorem ab5 {v:Value} {S:zx}:zG (zL 3 v) 5 S=zG v 5 S:=ji (by decide)
theorem aaF {v:Value} {S:zx}:zG (zL 4 v) 5 S=zG v 5 S:=ji (by decide)
abbrev by_ (k:Nat) (l:List UInt8):Value:=vs cb 1 k l
abbrev iz (k:Nat) (l:List Int):Value:=vs ci 1 k l
theorem abr {src dst:TypeId} {k:Nat} {l:List UInt8} (hs:P.underlying src=some (.slice te)) (he:P.underlying te=some (.int .u8)) (hd:P.underlying dst=some .string) (h:Okl k l):vP P src dst (by_ k l) S=some (.string ⟨l.toArray⟩,S):=by
 obtain ⟨e',h1,_⟩:=Xy (e:=1) (h.okv (f:=cb))
 have hlen:(l.flatMap cb).length=l.length:=by rw [jO X9];omega
 have hns:∀ s,by_ k l≠.string s:=by intro s;unfold by_ vs sv;split <;> (intro h;cases h)
 unfold vP
 split
 ·
  rename_i s hs;exact absurd hs (hns s)
 ·
  unfold by_ vs
  rw [h1]
  simp only [hs,hd,he,if_pos hlen,ad1]
end
end Go.Abs
namespace Go.Abs
open Go.RowKit
def CLe (c d:FuncId→List Value→M Value):Prop:=∀ g a S r,c g a S=some r→d g a S=some r
section
variable {P:Program} {O:Ora} {c d:FuncId→List Value→M Value}
theorem WT (h:CLe c d) {fx:Fx} {T:List Value} {o:Oper} {S:zx} {r:Value×zx} (hs:wB P fx c T o S=some r):wB P fx d T o S=some r:=by
 unfold wB at hs ⊢
 split at hs
 ·
  rename_i hok
  rw [if_pos hok]
  cases hop:o.op with
  | call q =>
   rw [hop] at hs
   dsimp only at hs ⊢
   cases hcal:q.callee with
   | value f =>
    rw [hcal] at hs
    dsimp only at hs ⊢
    split at hs
    ·
     rename_i g first captured hev
     exact h _ _ _ _ hs
    ·
     cases hs
   | builtin b=>rw [hcal] at hs;exact hs
   | invoke a b=>rw [hcal] at hs;cases hs
  | _=>rw [hop] at hs;exact hs
 ·
  cases hs
theorem abV (h:CLe c d) {fx:Fx} {ops:Array Oper}:∀ (l:List Oper) (T:List Value) (S:zx) (r:List Value×zx),jl P fx c ops l T S=some r→jl P fx d ops l T S=some r:=by
 intro l
 induction l with
 | nil=>intro T S r hs;exact hs
 | cons o l ih =>
  intro T S r hs
  simp only [jl] at hs ⊢
  split at hs
  ·
   rename_i hw
   rw [if_pos hw]
   split at hs
   ·
    rename_i v S' he
    rw [WT h he]
    exact ih _ _ _ hs
   ·
    cases hs
  ·
   rename_i hw
   rw [if_neg hw]
   exact ih _ _ _ hs
theorem V8 (h:CLe c d) {fx:Fx} {chk:List Nat} {nl:List (Nat×Nat)} {ops:Array Oper}:∀ (l:List Oper) (i:Nat) (hist:List (Value×zx)) (T:List Value) (S:zx) (r:List Value×zx),jQ P fx chk nl c ops i hist l T S=some r→jQ P fx chk nl d ops i hist l T S=some r:=by
 intro l
 induction l with
 | nil=>intro i hist T S r hs;exact hs
 | cons o l ih =>
  intro i hist T S r hs
  simp only [jQ] at hs ⊢
  split at hs
  ·
   rename_i hw
   rw [if_pos hw]
   split at hs
   ·
    rename_i v S' he
    rw [WT h he]
    dsimp only
    split at hs
    ·
     rename_i hq
     rw [if_pos hq]
     exact ih _ _ _ _ _ hs
    ·
     cases hs
   ·
    cases hs
  ·
   rename_i hw
   rw [if_neg hw]
   exact ih _ _ _ _ _ hs
theorem Yh (h:CLe c d) {hp:Bool} {n m:Nat} (hn:n≤m):∀ (q:Code) (T:List Value) (S:zx) (r),wM P hp c n q T S=some r→wM P hp d m q T S=some r:=by
 intro q
 induction q with
 | skip=>intro T S r hs;exact hs
 | exit id=>intro T S r hs;exact hs
 | ret=>intro T S r hs;exact hs
 | region i ops dr =>
  intro T S r hs
  cases dr with
  | false =>
   simp only [wM] at hs ⊢
   split at hs
   ·
    rename_i T1 S1 ho
    rw [abV h _ _ _ _ ho];exact hs
   ·
    cases hs
  | true =>
   simp only [wM] at hs ⊢
   split at hs
   ·
    rename_i hd
    rw [if_pos hd]
    split at hs
    ·
     rename_i T1 S1 ho
     rw [V8 h _ _ _ _ _ _ ho];exact hs
    ·
     cases hs
   ·
    cases hs
 | seq x y ihx ihy =>
  intro T S r hs
  simp only [wM] at hs ⊢
  split at hs
  ·
   rename_i T1 S1 hx
   rw [ihx _ _ _ hx]
   exact ihy _ _ _ hs
  ·
   rename_i hne
   rw [ihx _ _ _ hs]
   split
   ·
    rename_i T1 S1 he;exact absurd (hs.trans he) (hne T1 S1)
   ·
    rfl
 | cond x y z ihy ihz =>
  intro T S r hs
  simp only [wM] at hs ⊢
  split at hs
  ·
   rename_i hok
   rw [if_pos hok]
   split at hs
   ·
    rename_i hb;exact ihy _ _ _ hs
   ·
    rename_i hb;exact ihz _ _ _ hs
   ·
    cases hs
  ·
   cases hs
 | block id x ih =>
  intro T S r hs
  simp only [wM] at hs ⊢
  split at hs
  ·
   rename_i id' T1 S1 hx
   rw [ih _ _ _ hx];exact hs
  ·
   rename_i hne
   rw [ih _ _ _ hs]
   split
   ·
    rename_i id' T1 S1 he;exact absurd (hs.trans he) (hne id' T1 S1)
   ·
    rfl
 | loop x ih =>
  intro T S r hs
  simp only [wM] at hs ⊢
  have key:∀ (n:Nat) (T:List Value) (S:zx),∀ k,yA k (wM P hp c n x) T S=some r→(∀ T S r,wM P hp c n x T S=some r→wM P hp d m x T S=some r)→yA k (wM P hp d m x) T S=some r:=by
   intro n T S k hk hx
   induction k generalizing T S with
   | zero=>cases hk
   | succ k ihk =>
    simp only [yA] at hk ⊢
    split at hk
    ·
     rename_i T1 S1 h1
     rw [hx _ _ _ h1]
     exact ihk _ _ hk
    ·
     rename_i hne
     rw [hx _ _ _ hk]
     split
     ·
      rename_i T1 S1 he;exact absurd (hk.trans he) (hne T1 S1)
     ·
      rfl
  exact Y8 hn (key n T S n hs ih)
 | _=>intro T S r hs;simp only [wM] at hs;cases hs
theorem VY {hps:FuncId→Bool} {hp:Bool} (h:CLe c d):CLe (wz hps hp c) (wz hps hp d):=by
 cases hp with
 | false=>exact h
 | true =>
  intro g a S r hs
  unfold wz at hs ⊢
  dsimp only at hs ⊢
  split at hs
  ·
   rename_i hg;rw [if_pos hg];exact h _ _ _ _ hs
  ·
   rename_i hg
   rw [if_neg hg]
   split at hs <;> first | (cases hs;done) | skip
   rename_i m S1 hf
   split at hs <;> first | (cases hs;done) | skip
   rename_i r0 hr0
   (try rw [hf])
   (try dsimp only)
   rw [h _ _ _ _ hr0]
   exact hs
theorem Q8 (h:CLe c d) {hp:Bool} {n m:Nat} (hn:n≤m) {fn:Func} {q:Code} {a:List Value} {S:zx} {r:Value×zx} (hs:acL P hp c n fn q a S=some r):acL P hp d m fn q a S=some r:=by
 unfold acL at hs ⊢
 split at hs
 ·
  rename_i T1 S1 hx
  rw [Yh h hn _ _ _ _ hx];exact hs
 ·
  rename_i T1 S1 hx
  rw [Yh h hn _ _ _ _ hx];exact hs
 ·
  cases hs
theorem ac0:∀ (n m:Nat),n≤m→CLe (kS P O n) (kS P O m):=by
 intro n
 induction n with
 | zero=>intro m _ g a S r h;cases h
 | succ n ih =>
  intro m hm g a S r h
  obtain ⟨m,rfl⟩:∃ k,m=k+1:=⟨m - 1,by omega⟩
  simp only [kS] at h ⊢
  cases ho:O.fn g with
  | some q=>rw [ho] at h;exact h
  | none =>
   rw [ho] at h
   dsimp only at h ⊢
   cases hf:P.funcs[g]? with
   | none=>rw [hf] at h;cases h
   | some fn =>
    rw [hf] at h
    dsimp only at h ⊢
    split at h
    ·
     cases h
    ·
     rename_i hn
     rw [if_neg hn]
     cases hb:fn.body with
     | none=>rw [hb] at h;cases h
     | some q =>
      rw [hb] at h
      dsimp only at h ⊢
      have hc:=VY (hps:=O.hp) (hp:=O.hp g) (ih m (by omega))
      split at h
      ·
       rename_i hpu
       rw [if_pos hpu]
       unfold aaA at h ⊢
       split at h <;> first | (cases h;done) | skip
       rename_i hca
       rw [if_pos hca]
       split at h <;> first | (cases h;done) | skip
       rename_i v1 S1 hr
       rw [Q8 hc (by omega) hr]
       exact h
      ·
       rename_i hpu
       rw [if_neg hpu]
       exact Q8 hc (by omega) h
theorem ac1 {n:Nat} {g:FuncId} {args:List Value} {S:zx} {r:Value×zx} (h:kS P O n g args S=some r):zU P O g args S=some r :=
 Xo ⟨n,fun k hk=>ac0 n k hk _ _ _ _ h⟩
end
end Go.Abs
namespace Go.Abs
open Go.RowKit
theorem ac7 (x:(Ty.slc 1 (.int .u8)).Val) (hg:(Ty.slc 1 (.int .u8)).Good x):∃ k l,Okl k l∧k≠2∧(Ty.slc 1 (.int .u8)).Z8 x=[by_ k l]∧l.length≤140737488351232:=by
 match x,hg with
 | none,_=>exact ⟨0,[],Okl.none,by decide,rfl,by simp⟩
 | some xs,hg =>
  obtain ⟨h1,h2,h3⟩:=hg
  have key:∀ xs:List Int,(∀ n ∈ xs,(Lit.int .u8 n).wf=true)→(xs.flatMap fun n=>[Value.int .u8 n])=(xs.map fun n=>UInt8.ofNat n.toNat).flatMap cb:=by
   intro xs
   induction xs with
   | nil=>intro _;rfl
   | cons n xs ih =>
    intro h
    have hw:=h n (by simp)
    simp [Lit.wf,IntKind.min,IntKind.max,IntKind.signed,IntKind.bits] at hw
    have e:(Value.int .u8 n)=.int .u8 ((UInt8.ofNat n.toNat).toNat:Int):=by
     simp only [UInt8.toNat_ofNat']
     congr 1
     omega
    rw [List.flatMap_cons,ih (fun m hm=>h m (by simp [hm])),List.map_cons,List.flatMap_cons,e]
    rfl
  refine ⟨1,(show List Int from xs).map fun n=>UInt8.ofNat n.toNat,Okl.read,by decide,?_,?_⟩
  ·
   have e:=key (show List Int from xs) h3
   show [SL 1 1 (show List Int from xs).length ((show List Int from xs).flatMap fun n=>[Value.int .u8 n])]=[_]
   unfold by_ vs
   rw [sv1,List.length_map,← e]
  ·
   have:(show List Int from xs).length * 1≤140737488351232:=h1
   rw [List.length_map];omega
theorem abm {n:Int} (h:(Lit.int .i64 n).wf=true):-9223372036854775808≤n∧n < 9223372036854775808:=by
 simp [Lit.wf,IntKind.min,IntKind.max,IntKind.signed,IntKind.bits] at h
 omega
def y5 (call:FuncId→List Value→M Value) (g:FuncId) (args:List Value):M Value:=fun S=>match wS args S with
 | some (m,S1)=>match call g m S1 with
  | some r=>some (JV S S1 args r)
  | none=>none
 | none=>none
theorem Yl {x:Value} {S:zx} (h:ZH x=false):qI x S=some (x,S):=by
 unfold qI
 split <;> first | rfl | (simp [ZH] at h)
theorem WV:∀ {l:List Value} {S:zx},l.all (fun x=>!ZH x)=true→ql l S=some (l,S)
 | [],S,_=>rfl
 | x::l,S,h=>by
  rw [List.all_cons,Bool.and_eq_true] at h
  have h1:ZH x=false:=by simpa using h.1
  simp only [ql,Yl h1,WV h.2]
theorem Yc {x:Value} {S:zx} (h:kP x=false):qR x S=some (x,S):=by
 unfold qR
 split
 ·
  rename_i cs
  have h1:cs.toList.all (fun x=>!ZH x)=true:=by
   rw [List.all_eq_true]
   intro y hy
   have:cs.toList.any ZH=false:=h
   rw [List.any_eq_false] at this
   simpa using this y hy
  rw [WV h1]
 ·
  rename_i hne
  refine Yl ?_
  cases x <;> first | rfl | exact h | (exact absurd rfl (hne _))
theorem xu:∀ {l:List Value} {S:zx},l.all (fun x=>!kP x)=true→wS l S=some (l,S)
 | [],S,_=>rfl
 | x::l,S,h=>by
  rw [List.all_cons,Bool.and_eq_true] at h
  have h1:kP x=false:=by simpa using h.1
  simp only [wS,Yc h1,xu h.2]
theorem adO {call:FuncId→List Value→M Value} {g:FuncId} {args:List Value} {S:zx} (h:args.all (fun x=>!kP x)=true):y5 call g args S=call g args S:=by
 have hn:args.any kP=false:=by
  rw [List.any_eq_false];intro x hx
  have:=List.all_eq_true.1 h x hx
  simpa using this
 unfold y5;rw [xu h]
 dsimp only
 cases call g args S with
 | none=>rfl
 | some r=>dsimp only;rw [JV,hn];rfl
theorem aam {call:FuncId→List Value→M Value} {g:FuncId} {args m:List Value} {S S1 S2:zx} {v:Value} (h:wS args S=some (m,S1)) (hc:call g m S1=some (v,S2)) (ha:args.any kP=true) (hv:ground v=true) (hl:S2.log=S1.log):y5 call g args S=some (v,S):=by
 unfold y5;rw [h]
 dsimp only
 rw [hc]
 dsimp only
 rw [JV,ha,hv,hl,beq_self_eq_true]
 rfl
theorem KE {call:FuncId→List Value→M Value} {g:FuncId} {args m:List Value} {S S1 S2:zx} {v:Value} (h:wS args S=some (m,S1)) (hc:call g m S1=some (v,S2)) (ha:args.any kP=true) (hv:wW (acN S args) 16 v=true) (hl:S2.log=S1.log):y5 call g args S=some (v,S):=by
 unfold y5;rw [h]
 dsimp only
 rw [hc]
 dsimp only
 rw [JV,ha,hv,hl,beq_self_eq_true,Bool.or_true]
 rfl
theorem aaj {q o n e:Nat} {cs:List Value} {anc:List Nat} {S:zx} (hg:S.get q=some (.cells cs (.own anc) e)) (hl:o+n * e≤cs.length):qI (.slice (some ⟨q,o,none⟩) n n) S=some (SL 1 e n ((cs.drop o).take (n * e)),S.set q .dead):=by
 unfold qI;dsimp only;rw [hg];dsimp only;rw [if_pos rfl,if_pos hl]
end Go.Abs
namespace Go.Abs
open Go.RowKit
section
variable {P:Program} {μ μ1:Mu} {S S1 H H1:zx} {ω ω1:Nat→Option wP}
structure Ext (S S1:zx):Prop where
 next:S.next≤S1.next
 get:∀ k,k < S.next→S1.get k=S.get k
 log:∃ new,S1.log=new++S.log∧∀ k ∈ new,S.next≤k
theorem Ext.refl (S:zx):Ext S S:=⟨Nat.le_refl _,fun _ _=>rfl,[],rfl,fun k h=>by cases h⟩
theorem Ext.trans {S2:zx} (h:Ext S S1) (k:Ext S1 S2):Ext S S2:=⟨Nat.le_trans h.1 k.1,fun q hq=>(k.2 q (Nat.lt_of_lt_of_le hq h.1)).trans (h.2 q hq),by
 obtain ⟨n1,e1,f1⟩:=h.log
 obtain ⟨n2,e2,f2⟩:=k.log
 refine ⟨n2++n1,by rw [e2,e1,List.append_assoc],fun q hq=>?_⟩
 rcases List.mem_append.1 hq with hq | hq
 ·
  exact Nat.le_trans h.1 (f2 q hq)
 ·
  exact f1 q hq⟩
theorem Ext.push (S:zx) (o:wY):Ext S (S.push o):=⟨by simp,fun k hk=>by rw [zx.jc,if_neg (by omega)],[],rfl,fun k h=>by cases h⟩
theorem Ext.set {S S1:zx} (h:Ext S S1) {r:Nat} (hr:S.next≤r) (o:wY):Ext S (S1.set r o):=⟨by simpa using h.1,fun k hk=>by rw [zx.jJ,if_neg (by omega)];exact h.2 k hk,by
 obtain ⟨n1,e1,f1⟩:=h.log
 refine ⟨r::n1,by rw [zx.Y7,e1];rfl,fun q hq=>?_⟩
 rcases List.mem_cons.1 hq with rfl | hq
 ·
  exact hr
 ·
  exact f1 q hq⟩
inductive Lower (S:zx) (v1:Value) (S1:zx):Value→Prop
 | same (h:ground v1=true):Lower S v1 S1 v1
 | own {r n e:Nat} {cs:List Value} (hv:v1=.slice (some ⟨r,0,none⟩) n n) (hr:S.next≤r) (hg:S1.get r=some (.cells cs (.own []) e)) (hn:cs.length=n * e) (hs:cs.all sg=true):Lower S v1 S1 (SL 2 e n cs)
end
end Go.Abs
namespace Go.Abs
open Go.RowKit
section
variable {P:Program} {S:zx} {t te tx tex:TypeId} {q o n c e i r:Nat} {cs:List Value} {own:Own} {anc:List Nat} {v x:Value} {hp:Bool}
theorem YC (h:S.get q=some (.cells cs own e)) (ha:yV P t=some false) (hv:cs[o]?=some v) (hn:∀ l,v≠.agg l):zZ P false t (.pointer (some ⟨q,o,none⟩)) S=some (dem v,S):=by
 unfold zZ
 simp only [Bool.false_eq_true,if_false]
 have:yh P t (.pointer (some ⟨q,o,none⟩)) S=some (v,S):=by simp only [yh,h,ha,hv]
 rw [this]
 split
 ·
  rename_i l S2 he;cases he;exact absurd rfl (hn _)
 ·
  rename_i v2 S2 _ he;cases he;rfl
 ·
  rename_i he;cases he
theorem qx {k:IntKind} {m:Int} (h:S.get q=some (.cells cs own e)) (ha:yV P t=some false) (hv:cs[o]?=some (.int k m)):zZ P false t (.pointer (some ⟨q,o,none⟩)) S=some (.int k m,S) :=
 YC h ha hv (fun l h=>by cases h)
theorem ae4 {a:Option Addr} {n c:Nat} (h:S.get q=some (.cells cs own e)) (ha:yV P t=some false) (hv:cs[o]?=some (.slice a n c)):zZ P false t (.pointer (some ⟨q,o,none⟩)) S=some (.slice a n c,S) :=
 YC h ha hv (fun l h=>by cases h)
theorem YK (h:S.get q=some (.cells cs own e)) (ha:yV P t=some true) (hs:qG P t=some n) (hle:o+n≤cs.length):zZ P false t (.pointer (some ⟨q,o,none⟩)) S=some (.agg (((cs.drop o).take n).toArray.map qF),S):=by
 unfold zZ
 simp only [Bool.false_eq_true,if_false]
 have:yh P t (.pointer (some ⟨q,o,none⟩)) S=some (.agg ((cs.drop o).take n).toArray,S):=by simp only [yh,h,ha,hs,if_pos hle]
 rw [this]
theorem Zm (h:S.get q=some (.cells cs (.own anc) e)) (hs:qG P t=some n) (hx:x.cells.size=n) (h1:x.cells.toList.all (·.oneCell')=true) (hle:o+n≤cs.length) :
  wQ P t (.pointer (some ⟨q,o,none⟩)) x S=some (zh,(S.kills anc).set q (.cells (splice cs o x.cells.toList) (.own []) e)):=by
 simp only [wQ,vS,h,hs,if_pos hx,if_pos h1,if_pos hle]
theorem aeU {k:IntKind} {j:Int} {sz:Nat} (ht:P.underlying t=some (.slice te)) (hs:qG P te=some sz) (h0:0≤j) (hj:j < n):zV P t (.slice (some ⟨q,o,none⟩) n c) (.int k j) S=some (.pointer (some ⟨q,o+j.toNat * sz,none⟩),S):=by
 simp only [zV,jP,ht,hs]
 rw [if_pos ⟨h0,hj⟩]
theorem afk (ht:P.underlying t=some (.slice te)) (a:Option Addr) (n c:Nat) (S:zx):Jc P t (.slice a n c) S=some (goInt n,S):=by
 simp only [Jc,Qx,ht]
theorem afO {k m:Nat} {ds:List Value} (htx:P.underlying tx=some (.slice tex)) (hx:Okv k m ds) (hm:ds.length=m * e) (h2:ds.all (·.oneCell')=true):afp P tx e (sv k e m ds)=some (m,ds):=by
 obtain ⟨e',q1,q2⟩:=Xy (e:=e) hx
 have hns:∀ s,sv k e m ds≠.string s:=by intro s;unfold sv;split <;> (intro h;cases h)
 have hcond:m=0∨e'=e:=q2.elim .inr fun h=>.inl h.1
 unfold afp
 split
 ·
  rename_i s hs;exact absurd hs (hns s)
 ·
  simp only [htx,q1,if_pos hcond,if_pos hm,h2,if_true]
theorem XI {k m:Nat} {ds:List Value} (htx:P.underlying tx=some (.slice tex)) (hx:Okv k m ds) (hm:ds.length=m * e) (h2:ds.all (·.oneCell')=true):Jj P tx e (sv k e m ds) S=some (m,ds):=by
 unfold Jj
 rw [JE]
 exact afO htx hx hm h2
theorem ZP {bytes k:Nat} {z:Value} {news:List Value} (hel:P.underlying t=some (.slice te)) (he:qG P te=some e) (hz:zeroOf P te=some z) (hzs:z.cells.size=e) (hb:bytesOf P te=some bytes) (hpos:0 < e) (hsrc:Jj P tx e x S=some (k,news))
  (hg:S.get q=some (.cells cs (.own anc) e)) (hle:o+n * e≤cs.length) (hmax:(n+k) * bytes≤140737488355328) (hmax2:n+k≤4611686018427387903) (h1:((cs.drop o).take (n * e)).all (·.oneCell')=true) :
  wV P hp t tx (.slice (some ⟨q,o,none⟩) n c) x S=some (.slice (some ⟨S.next,0,none⟩) (n+k) (n+k),
   if o+n * e=cs.length then (S.set q (.cells cs .ro e)).push (.cells ((cs.drop o).take (n * e)++news) (.own (if n * e=0 then [] else q::anc)) e)
   else ((S.kills anc).set q .dead).push (.cells ((cs.drop o).take (n * e)++news) (.own []) e)):=by
 have hel2:yj P t=some te:=by simp only [yj,hel]
 simp only [wV,hel2,he,hz,hb,if_pos hpos,if_pos hzs,hsrc,hg,if_true,if_pos hle,if_pos hmax,if_pos hmax2,if_pos h1,yO]
 by_cases h:o+n * e=cs.length
 ·
  rw [if_pos h,if_pos h]
 ·
  rw [if_neg h,if_neg h]
theorem Vu {bytes k:Nat} {z:Value} {news:List Value} (hel:P.underlying t=some (.slice te)) (he:qG P te=some e) (hz:zeroOf P te=some z) (hzs:z.cells.size=e) (hb:bytesOf P te=some bytes) (hpos:0 < e) (hsrc:Jj P tx e x S=some (k,news))
  (hmax:k * bytes≤140737488355328) (hmax2:k≤4611686018427387903) :
  wV P true t tx (.slice none 0 0) x S=some (if k=0 then .slice none 0 0 else .slice (some ⟨S.next,0,none⟩) k k,if k=0 then S else S.push (.cells news (.own []) e)):=by
 have hel2:yj P t=some te:=by simp only [yj,hel]
 simp only [wV,hel2,he,hz,hb,if_pos hpos,if_pos hzs,hsrc,if_pos hmax,if_pos hmax2,if_true]
 by_cases h:k=0
 ·
  rw [if_pos h,if_pos h,if_pos h]
 ·
  rw [if_neg h,if_neg h,if_neg h]
end
theorem vw {α:Type} {f:α→List Value} {e k d:Nat} {l:List α} (hk:k≤2) (h:∀ x ∈ l,(f x).all (zX d)=true):zX (d+4) (vs f e k l)=true:=by
 unfold vs sv
 split
 ·
  rfl
 ·
  show ((l.flatMap f).toArray.toList.all (zX d))=true
  rw [List.toList_toArray,List.all_flatMap,List.all_eq_true]
  exact h
theorem kK {k d:Nat} {l:List UInt8} (hk:k≤2):zX (d+5) (by_ k l)=true:=vw hk (fun _ _=>rfl)
theorem aaJ {l:List Value} {d:Nat} (h:l.all (zX d)=true):zX (d+1) (.agg l.toArray)=true:=by
 show l.toArray.toList.all (zX d)=true
 simpa using h
theorem qo {l:List Value} {d:Nat} (h:l.all (zX d)=true):zX (d+1) (.tuple l.toArray)=true:=by
 show l.toArray.toList.all (zX d)=true
 simpa using h
theorem all1 {p:Value→Bool} {a:Value} (h:p a=true):[a].all p=true:=by simp [h]
theorem all2 {p:Value→Bool} {a b:Value} (h:p a=true) (k:p b=true):[a,b].all p=true:=by simp [h,k]
theorem ahm {p:Value→Bool} {a b c:Value} (h:p a=true) (k:p b=true) (j:p c=true):[a,b,c].all p=true:=by simp [h,k,j]
theorem acZ {k e n:Nat} {cs:List Value}:(sv k e n cs).cells=#[sv k e n cs]:=by unfold sv;split <;> rfl
theorem adG {α:Type} {f:α→List Value} {e k:Nat} {l:List α}:(vs f e k l).cells=#[vs f e k l]:=acZ
theorem afx {k e n:Nat} {cs:List Value}:qF (sv k e n cs)=sv (if k=2 then 1 else k) e n cs:=by rw [← XU];unfold sv;split <;> rfl
theorem afh {α:Type} {f:α→List Value} {e k:Nat} {l:List α}:qF (vs f e k l)=vs f e (if k=2 then 1 else k) l:=afx
theorem vK {k:IntKind} {n:Int}:qF (.int k n)=.int k n:=rfl
theorem qV {x:Array Value}:(Value.agg x).cells=x:=rfl
theorem xk {k:IntKind} {n:Int}:(Value.int k n).cells=#[.int k n]:=rfl
@[simp] theorem Qr (a:Option Addr) (n c:Nat):dem (.slice a n c)=.slice a n c:=Eq.trans rfl rfl
@[simp] theorem acI (a:Option Nat):dem (.map a)=.map a:=Eq.trans rfl rfl
theorem wrap_i64 {n:Int} (h0:-9223372036854775808≤n) (h:n < 9223372036854775808):IntKind.i64.wrap n=n:=by
 simp [IntKind.wrap,IntKind.bits,IntKind.signed]
 split <;> omega
theorem abq {l pre suf:List Int} {n:Int} (hl:l=pre++n::suf) (h:Int.toNat (pre.length:Int) < l.length):l[Int.toNat (pre.length:Int)]=n:=by
 subst hl;simp
theorem aeG {α:Type} {l pre suf:List α} {n:α} (hl:l=pre++n::suf) (h:Int.toNat (pre.length:Int) < l.length):l[Int.toNat (pre.length:Int)]=n:=by
 subst hl;simp
theorem aen (k:Nat):(if (if k=2 then 1 else k)=2 then 1 else if k=2 then 1 else k)=if k=2 then 1 else k:=by split <;> simp_all
theorem Qi (k:Nat):(if k=2 then 1 else k)≠2:=by split <;> omega
theorem Z7 (Sa Sb:zx):yM zh Sa Sb=true:=rfl
theorem Qy (cs:List Value) (Sa Sb:zx):yM (EP cs) Sa Sb=true:=rfl
theorem Xh {q o e:Nat} {cs:List Value} {own:Own} {S:zx} (h:S.get q=some (.cells cs own e)):yM (.pointer (some ⟨q,o,none⟩)) S S=true:=by
 simp only [yM,h,Nat.sub_self,List.take_zero,List.contains_nil,Bool.not_false,Bool.and_self]
theorem aaf {q o e:Nat} {cs:List Value} {own:Own} {S S1:zx} (h:S.get q=some (.cells cs own e)) (hq:q < S.next) (hE:Ext S S1):yM (.pointer (some ⟨q,o,none⟩)) S S1=true:=by
 obtain ⟨new,h1,h2⟩:=hE.log
 simp only [yM,h,h1,List.length_append,Nat.add_sub_cancel,List.take_left,Bool.true_and,Bool.not_eq_true',List.contains_eq_mem,decide_eq_false_iff_not]
 intro hm
 have:=h2 q hm
 omega
end Go.Abs
namespace Go.Abs
open Go.RowKit
section
variable {P:Program} {fx:Fx} {chk:List Nat} {call:FuncId→List Value→M Value} {ops:Array Oper}
theorem sP (f:Func) (i n:Nat) {l:List Oper} {T:List Value} {T1:Value→List Value} {S:zx} {v:Value} {r:Option (List Value×zx)} (hK:jl P fx call ops ((reg f i).toList.drop (n+1)) (T1 v) S=r) (hl:l=(opAt f i n)::((reg f i).toList.drop (n+1)):=by kernel_rfl) (hg:(opAt f i n).guard=none:=by kernel_rfl) (hm:∀ v,xH (opAt f i n) ((reg f i).toList.drop (n+1)) T v=T1 v:=by exact fun _=>rfl) (hs:wB P fx call T (opAt f i n) S=some (v,S):=by kernel_rfl):jl P fx call ops l T S=r :=
 abJ hl hg hm hs hK
theorem sD (f:Func) (i n:Nat) {l:List Oper} {T:List Value} {T1:Value→List Value} {S:zx} {s:Option (Value×zx)} {K:Value→zx→Option (List Value×zx)} (hK:∀ v S1,jl P fx call ops ((reg f i).toList.drop (n+1)) (T1 v) S1=K v S1) (hl:l=(opAt f i n)::((reg f i).toList.drop (n+1)):=by kernel_rfl) (hg:(opAt f i n).guard=none:=by kernel_rfl) (hm:∀ v,xH (opAt f i n) ((reg f i).toList.drop (n+1)) T v=T1 v:=by exact fun _=>rfl) (hs:wB P fx call T (opAt f i n) S=s:=by kernel_rfl):jl P fx call ops l T S=zO s K () :=
 afM hl hg hm hs hK
theorem sG (f:Func) (i n:Nat) {l:List Oper} {T:List Value} {T1:Value→List Value} {S:zx} {j:Nat} {b:Bool} {g:Value} {s:M Value} {K:Value→zx→Option (List Value×zx)} (hK:∀ v S1,jl P fx call ops ((reg f i).toList.drop (n+1)) (T1 v) S1=K v S1) (hl:l=(opAt f i n)::((reg f i).toList.drop (n+1)):=by kernel_rfl) (hg:(opAt f i n).guard=some (j,b):=by kernel_rfl) (hm:∀ v,xH (opAt f i n) ((reg f i).toList.drop (n+1)) T v=T1 v:=by exact fun _=>rfl) (hy:ynd ops T j=vb g:=by kernel_rfl) (hs:wB P fx call T (opAt f i n) S=s S:=by kernel_rfl):jl P fx call ops l T S=gdK g b s S K () :=
 afJ hl hg hm hy hs hK
theorem tD (f:Func) (i n:Nat) {l:List Oper} {T:List Value} {T1:Value→List Value} {S:zx} {k:Nat} {s:Option (Value×zx)} {K:Value→zx→Option (List Value×zx)} (hK:∀ v S1,jQ P fx chk [] call ops (k+1) [] ((reg f i).toList.drop (n+1)) (T1 v) S1=K v S1) (hc:chk.contains k=false:=by kernel_rfl) (hl:l=(opAt f i n)::((reg f i).toList.drop (n+1)):=by kernel_rfl) (hg:(opAt f i n).guard=none:=by kernel_rfl) (hm:∀ v,xH (opAt f i n) ((reg f i).toList.drop (n+1)) T v=T1 v:=by exact fun _=>rfl) (hs:wB P fx call T (opAt f i n) S=s:=by kernel_rfl):jQ P fx chk [] call ops k [] l T S=zO s K () :=
 ac3 hc hl hg hm hs hK
theorem tP (f:Func) (i n:Nat) {l:List Oper} {T:List Value} {T1:Value→List Value} {S:zx} {k:Nat} {v:Value} {r:Option (List Value×zx)} (hK:jQ P fx chk [] call ops (k+1) [] ((reg f i).toList.drop (n+1)) (T1 v) S=r) (hc:chk.contains k=false:=by kernel_rfl) (hl:l=(opAt f i n)::((reg f i).toList.drop (n+1)):=by kernel_rfl) (hg:(opAt f i n).guard=none:=by kernel_rfl) (hm:∀ v,xH (opAt f i n) ((reg f i).toList.drop (n+1)) T v=T1 v:=by exact fun _=>rfl) (hs:wB P fx call T (opAt f i n) S=some (v,S):=by kernel_rfl):jQ P fx chk [] call ops k [] l T S=r :=
 VQ hc hl hg hm hs hK
theorem uD (f:Func) (i n:Nat) {l:List Oper} {T:List Value} {T1:Value→List Value} {S:zx} {k:Nat} {s:Option (Value×zx)} {K:Value→zx→Option (List Value×zx)} {x:Nat×Nat} {nl:List (Nat×Nat)} {hist:List (Value×zx)} {pe:Value} (hK:∀ v S1,jQ P fx chk (x::nl) call ops (k+1) (hist++[(pe,S)]) ((reg f i).toList.drop (n+1)) (T1 v) S1=K v S1) (hc:chk.contains k=false:=by kernel_rfl) (hpe:ku T (opAt f i n)=pe:=by kernel_rfl) (hl:l=(opAt f i n)::((reg f i).toList.drop (n+1)):=by kernel_rfl) (hg:(opAt f i n).guard=none:=by kernel_rfl) (hm:∀ v,xH (opAt f i n) ((reg f i).toList.drop (n+1)) T v=T1 v:=by exact fun _=>rfl) (hs:wB P fx call T (opAt f i n) S=s:=by kernel_rfl):jQ P fx chk (x::nl) call ops k hist l T S=zO s K () :=
 acP hc hpe hl hg hm hs hK
theorem uDC (f:Func) (i n:Nat) {l:List Oper} {T:List Value} {T1:Value→List Value} {S:zx} {k:Nat} {s:Option (Value×zx)} {K:Value→zx→Option (List Value×zx)} {x:Nat×Nat} {nl:List (Nat×Nat)} {hist:List (Value×zx)} {pe:Value} (hK:∀ v S1,jQ P fx chk (x::nl) call ops (k+1) (hist++[(pe,S)]) ((reg f i).toList.drop (n+1)) (T1 v) S1=K v S1) (hc:chk.contains k=true:=by kernel_rfl) (hpe:ku T (opAt f i n)=pe:=by kernel_rfl) (hl:l=(opAt f i n)::((reg f i).toList.drop (n+1)):=by kernel_rfl) (hg:(opAt f i n).guard=none:=by kernel_rfl) (hm:∀ v,xH (opAt f i n) ((reg f i).toList.drop (n+1)) T v=T1 v:=by exact fun _=>rfl) (hs:wB P fx call T (opAt f i n) S=s:=by kernel_rfl):jQ P fx chk (x::nl) call ops k hist l T S=zO s (fun v S1=>okK v (K v S1) ()) () :=
 abO hc hpe hl hg hm hs hK
theorem uP (f:Func) (i n:Nat) {l:List Oper} {T:List Value} {T1:Value→List Value} {S:zx} {k:Nat} {v:Value} {r:Option (List Value×zx)} {x:Nat×Nat} {nl:List (Nat×Nat)} {hist:List (Value×zx)} {pe:Value} (hK:jQ P fx chk (x::nl) call ops (k+1) (hist++[(pe,S)]) ((reg f i).toList.drop (n+1)) (T1 v) S=r) (hc:chk.contains k=false:=by kernel_rfl) (hpe:ku T (opAt f i n)=pe:=by kernel_rfl) (hl:l=(opAt f i n)::((reg f i).toList.drop (n+1)):=by kernel_rfl) (hg:(opAt f i n).guard=none:=by kernel_rfl) (hm:∀ v,xH (opAt f i n) ((reg f i).toList.drop (n+1)) T v=T1 v:=by exact fun _=>rfl) (hs:wB P fx call T (opAt f i n) S=some (v,S):=by kernel_rfl):jQ P fx chk (x::nl) call ops k hist l T S=r :=
 aar hc hpe hl hg hm hs hK
theorem uPC (f:Func) (i n:Nat) {l:List Oper} {T:List Value} {T1:Value→List Value} {S:zx} {k:Nat} {v:Value} {r:Option (List Value×zx)} {x:Nat×Nat} {nl:List (Nat×Nat)} {hist:List (Value×zx)} {pe:Value} (hK:jQ P fx chk (x::nl) call ops (k+1) (hist++[(pe,S)]) ((reg f i).toList.drop (n+1)) (T1 v) S=r) (hc:chk.contains k=true:=by kernel_rfl) (hpe:ku T (opAt f i n)=pe:=by kernel_rfl) (hl:l=(opAt f i n)::((reg f i).toList.drop (n+1)):=by kernel_rfl) (hg:(opAt f i n).guard=none:=by kernel_rfl) (hm:∀ v,xH (opAt f i n) ((reg f i).toList.drop (n+1)) T v=T1 v:=by exact fun _=>rfl) (hs:wB P fx call T (opAt f i n) S=some (v,S):=by kernel_rfl):jQ P fx chk (x::nl) call ops k hist l T S=okK v r () :=
 Xe hc hpe hl hg hm hs hK
theorem uG (f:Func) (i n:Nat) {l:List Oper} {T:List Value} {T1:Value→List Value} {S:zx} {j k:Nat} {b:Bool} {g:Value} {s:M Value} {K:Value→zx→Option (List Value×zx)} {x:Nat×Nat} {nl:List (Nat×Nat)} {hist:List (Value×zx)} {pe:Value} (hK:∀ v S1,jQ P fx chk (x::nl) call ops (k+1) (hist++[(pe,S)]) ((reg f i).toList.drop (n+1)) (T1 v) S1=K v S1) (hc:chk.contains k=false:=by kernel_rfl) (hpe:ku T (opAt f i n)=pe:=by kernel_rfl) (hl:l=(opAt f i n)::((reg f i).toList.drop (n+1)):=by kernel_rfl) (hg:(opAt f i n).guard=some (j,b):=by kernel_rfl) (hm:∀ v,xH (opAt f i n) ((reg f i).toList.drop (n+1)) T v=T1 v:=by exact fun _=>rfl) (hy:ynd ops T j=vb g:=by kernel_rfl) (hs:wB P fx call T (opAt f i n) S=s S:=by kernel_rfl):jQ P fx chk (x::nl) call ops k hist l T S=gdK g b s S K () :=
 adR hc hpe hl hg hm hy hs hK
theorem uGC (f:Func) (i n:Nat) {l:List Oper} {T:List Value} {T1:Value→List Value} {S:zx} {j k:Nat} {b:Bool} {g:Value} {s:M Value} {K:Value→zx→Option (List Value×zx)} {x:Nat×Nat} {nl:List (Nat×Nat)} {hist:List (Value×zx)} {pe:Value} (hK:∀ v S1,jQ P fx chk (x::nl) call ops (k+1) (hist++[(pe,S)]) ((reg f i).toList.drop (n+1)) (T1 v) S1=K v S1) (hc:chk.contains k=true:=by kernel_rfl) (hpe:ku T (opAt f i n)=pe:=by kernel_rfl) (hl:l=(opAt f i n)::((reg f i).toList.drop (n+1)):=by kernel_rfl) (hg:(opAt f i n).guard=some (j,b):=by kernel_rfl) (hm:∀ v,xH (opAt f i n) ((reg f i).toList.drop (n+1)) T v=T1 v:=by exact fun _=>rfl) (hy:ynd ops T j=vb g:=by kernel_rfl) (hs:wB P fx call T (opAt f i n) S=s S:=by kernel_rfl):jQ P fx chk (x::nl) call ops k hist l T S=aeg g b s S K () :=
 ab6 hc hpe hl hg hm hy hs hK
end
end Go.Abs
namespace Go.Proofs.Ytgggklfbhmlapaa
open Go.Abs
def O:Ora:=⟨fun _=>none,fun f=>([9,24,37]:List Nat).contains f,fun f=>([11,14,15,16,17,18,19,20,21,22,23,27,30,34,38,39,42,45,47]:List Nat).contains f⟩
theorem agp:abx zi O:=adQ
end Go.Proofs.Ytgggklfbhmlapaa
namespace Go.Proofs.Ytgggklfbhmlapaa
open Go.Abs
noncomputable def zu.jm:Code:=(.seq (.region 12 (reg Try.f9 12) false) (.seq (.cond (.tmp 55) Code.skip (.exit 0)) (.seq (.block 1 (.seq (.region 13 (reg Try.f9 13) false) (.region 14 (reg Try.f9 14) false))) (.region 15 (reg Try.f9 15) false))))
noncomputable def zu.code:Code:=(.seq (.region 0 (reg Try.f9 0) false) (.seq (.seq (.region 1 (reg Try.f9 1) false) (.cond (.tmp 16) (.seq (.region 2 (reg Try.f9 2) false) Code.ret) Code.skip)) (.seq (.region 3 (reg Try.f9 3) false) (.seq (.seq (.region 4 (reg Try.f9 4) false) (.cond (.tmp 26) (.seq (.region 5 (reg Try.f9 5) false) Code.ret) Code.skip)) (.seq (.seq (.region 6 (reg Try.f9 6) false) (.cond (.tmp 28) (.seq (.region 7 (reg Try.f9 7) false) (.seq (.seq (.region 8 (reg Try.f9 8) true) (.cond (.tmp 48) (.seq (.region 9 (reg Try.f9 9) false) Code.ret) Code.skip)) (.seq (.region 10 (reg Try.f9 10) false) (.seq (.seq (.region 11 (reg Try.f9 11) false) (.block 0 (.loop zu.jm))) (.seq (.region 16 (reg Try.f9 16) false) (.cond (.tmp 75) (.seq (.region 17 (reg Try.f9 17) false) Code.ret) Code.skip)))))) Code.skip)) (.seq (.region 18 (reg Try.f9 18) false) (.seq (.seq (.region 19 (reg Try.f9 19) false) (.cond (.tmp 84) (.seq (.region 20 (reg Try.f9 20) false) Code.ret) Code.skip)) (.seq (.region 21 (reg Try.f9 21) false) (.seq (.region 22 (reg Try.f9 22) false) Code.ret)))))))))
theorem zu.body:Try.f9.body=some zu.code:=by kernel_rfl
theorem zu.eta {T:List Value} (h:T.length=102):T=[T.getD 0 zh,T.getD 1 zh,T.getD 2 zh,T.getD 3 zh,T.getD 4 zh,T.getD 5 zh,T.getD 6 zh,T.getD 7 zh,T.getD 8 zh,T.getD 9 zh,T.getD 10 zh,T.getD 11 zh,T.getD 12 zh,T.getD 13 zh,T.getD 14 zh,T.getD 15 zh,T.getD 16 zh,T.getD 17 zh,T.getD 18 zh,T.getD 19 zh,T.getD 20 zh,T.getD 21 zh,T.getD 22 zh,T.getD 23 zh,T.getD 24 zh,T.getD 25 zh,T.getD 26 zh,T.getD 27 zh,T.getD 28 zh,T.getD 29 zh,T.getD 30 zh,T.getD 31 zh,T.getD 32 zh,T.getD 33 zh,T.getD 34 zh,T.getD 35 zh,T.getD 36 zh,T.getD 37 zh,T.getD 38 zh,T.getD 39 zh,T.getD 40 zh,T.getD 41 zh,T.getD 42 zh,T.getD 43 zh,T.getD 44 zh,T.getD 45 zh,T.getD 46 zh,T.getD 47 zh,T.getD 48 zh,T.getD 49 zh,T.getD 50 zh,T.getD 51 zh,T.getD 52 zh,T.getD 53 zh,T.getD 54 zh,T.getD 55 zh,T.getD 56 zh,T.getD 57 zh,T.getD 58 zh,T.getD 59 zh,T.getD 60 zh,T.getD 61 zh,T.getD 62 zh,T.getD 63 zh,T.getD 64 zh,T.getD 65 zh,T.getD 66 zh,T.getD 67 zh,T.getD 68 zh,T.getD 69 zh,T.getD 70 zh,T.getD 71 zh,T.getD 72 zh,T.getD 73 zh,T.getD 74 zh,T.getD 75 zh,T.getD 76 zh,T.getD 77 zh,T.getD 78 zh,T.getD 79 zh,T.getD 80 zh,T.getD 81 zh,T.getD 82 zh,T.getD 83 zh,T.getD 84 zh,T.getD 85 zh,T.getD 86 zh,T.getD 87 zh,T.getD 88 zh,T.getD 89 zh,T.getD 90 zh,T.getD 91 zh,T.getD 92 zh,T.getD 93 zh,T.getD 94 zh,T.getD 95 zh,T.getD 96 zh,T.getD 97 zh,T.getD 98 zh,T.getD 99 zh,T.getD 100 zh,T.getD 101 zh]:=(y7 T 102 h).trans (by kernel_rfl)
variable (x0 x1 x2 x3 x4 x5 x6 x7 x8 x9 d i k l f n o p q r s t u w x y z A B C D E F G H I J K L M N P Q R U V W X Y Z a0 a1 a2 m g a3 a4 a5 a6 a7 a8 a9 b0 b1 b2 b3 b4 b5 b6 b7 b8 b9 c0 c1 c2 c3 c4 c5 c6 c7 c8 c9 d0 d1 d2 d3 d4 d5 d6 d7 d9 f0 f1 f2 f3 f4 f5 f6 f7 f8 b c:Value) (S:zx)
theorem zu.r0 :jl zi ⟨true,false,false⟩ (wz O.hp true (zU zi O)) (reg Try.f9 0) (reg Try.f9 0).toList ([x0,x1,x2,x3,x4,x5,x6,x7,x8,x9,d,i,k,l,f,n,o,p,q,r,s,t,u,w,x,y,z,A,B,C,D,E,F,G,H,I,J,K,L,M,N,P,Q,R,U,V,W,X,Y,Z,a0,a1,a2,m,g,a3,a4,a5,a6,a7,a8,a9,b0,b1,b2,b3,b4,b5,b6,b7,b8,b9,c0,c1,c2,c3,c4,c5,c6,c7,c8,c9,d0,d1,d2,d3,d4,d5,d6,d7,d9,f0,f1,f2,f3,f4,f5,f6,f7,f8,b,c]) S =
  (zO (WR (dem x0) S) (fun v0 S1=>some ([x0,x1,v0,x3,Value.bool false,x5,x6,x7,x8,x9,d,i,k,l,f,n,o,p,q,r,s,t,u,w,x,y,z,A,B,C,D,E,F,G,H,I,J,K,L,M,N,P,Q,R,U,V,W,X,Y,Z,a0,a1,a2,m,g,a3,a4,a5,a6,a7,a8,a9,b0,b1,b2,b3,b4,b5,b6,b7,b8,b9,c0,c1,c2,c3,c4,c5,c6,c7,c8,c9,d0,d1,d2,d3,d4,d5,d6,d7,d9,f0,f1,f2,f3,f4,f5,f6,f7,f8,b,c],S1)) ()):=by
 kernel_rfl
theorem zu.r1 :jl zi ⟨true,false,false⟩ (wz O.hp true (zU zi O)) (reg Try.f9 1) (reg Try.f9 1).toList ([x0,x1,x2,x3,x4,x5,x6,x7,x8,x9,d,i,k,l,f,n,o,p,q,r,s,t,u,w,x,y,z,A,B,C,D,E,F,G,H,I,J,K,L,M,N,P,Q,R,U,V,W,X,Y,Z,a0,a1,a2,m,g,a3,a4,a5,a6,a7,a8,a9,b0,b1,b2,b3,b4,b5,b6,b7,b8,b9,c0,c1,c2,c3,c4,c5,c6,c7,c8,c9,d0,d1,d2,d3,d4,d5,d6,d7,d9,f0,f1,f2,f3,f4,f5,f6,f7,f8,b,c]) S =
  (zO (y5 (zU zi O) 11 [] S) (fun v0 S1=>zO (aUn zi UnOp.not v0 S1) (fun v1 S2=>some ([x0,x1,x2,x3,x4,x5,x6,x7,x8,x9,d,i,k,l,f,v0,v1,p,q,r,s,t,u,w,x,y,z,A,B,C,D,E,F,G,H,I,J,K,L,M,N,P,Q,R,U,V,W,X,Y,Z,a0,a1,a2,m,g,a3,a4,a5,a6,a7,a8,a9,b0,b1,b2,b3,b4,b5,b6,b7,b8,b9,c0,c1,c2,c3,c4,c5,c6,c7,c8,c9,d0,d1,d2,d3,d4,d5,d6,d7,d9,f0,f1,f2,f3,f4,f5,f6,f7,f8,b,c],S2)) ()) ()):=by
 kernel_rfl
theorem zu.r2 :jl zi ⟨true,false,false⟩ (wz O.hp true (zU zi O)) (reg Try.f9 2) (reg Try.f9 2).toList ([x0,x1,x2,x3,x4,x5,x6,x7,x8,x9,d,i,k,l,f,n,o,p,q,r,s,t,u,w,x,y,z,A,B,C,D,E,F,G,H,I,J,K,L,M,N,P,Q,R,U,V,W,X,Y,Z,a0,a1,a2,m,g,a3,a4,a5,a6,a7,a8,a9,b0,b1,b2,b3,b4,b5,b6,b7,b8,b9,c0,c1,c2,c3,c4,c5,c6,c7,c8,c9,d0,d1,d2,d3,d4,d5,d6,d7,d9,f0,f1,f2,f3,f4,f5,f6,f7,f8,b,c]) S =
  ( some ([x0,x1,x2,x3,Value.bool false,x5,x6,x7,x8,x9,d,i,k,l,f,n,o,p,q,r,s,t,u,w,x,y,z,A,B,C,D,E,F,G,H,I,J,K,L,M,N,P,Q,R,U,V,W,X,Y,Z,a0,a1,a2,m,g,a3,a4,a5,a6,a7,a8,a9,b0,b1,b2,b3,b4,b5,b6,b7,b8,b9,c0,c1,c2,c3,c4,c5,c6,c7,c8,c9,d0,d1,d2,d3,d4,d5,d6,d7,d9,f0,f1,f2,f3,f4,f5,f6,f7,f8,b,c],S)):=by
 kernel_rfl
theorem zu.r3 :jl zi ⟨true,false,false⟩ (wz O.hp true (zU zi O)) (reg Try.f9 3) (reg Try.f9 3).toList ([x0,x1,x2,x3,x4,x5,x6,x7,x8,x9,d,i,k,l,f,n,o,p,q,r,s,t,u,w,x,y,z,A,B,C,D,E,F,G,H,I,J,K,L,M,N,P,Q,R,U,V,W,X,Y,Z,a0,a1,a2,m,g,a3,a4,a5,a6,a7,a8,a9,b0,b1,b2,b3,b4,b5,b6,b7,b8,b9,c0,c1,c2,c3,c4,c5,c6,c7,c8,c9,d0,d1,d2,d3,d4,d5,d6,d7,d9,f0,f1,f2,f3,f4,f5,f6,f7,f8,b,c]) S =
  (zO (zZ zi false 29 x2 S) (fun v0 S1=>zO (y5 (zU zi O) 16 [(dem v0)] S1) (fun v1 S2=>zO (zG v1 0 S2) (fun v3 S3=>zO (zG (zL 0 v1) 1 S3) (fun v4 S4=>some ([x0,x1,x2,x3,x4,v3,v4,x7,x8,x9,d,i,k,l,f,n,o,zL 1 (zL 0 v1),v0,dem v1,dem v3,dem v4,u,w,x,y,z,A,B,C,D,E,F,G,H,I,J,K,L,M,N,P,Q,R,U,V,W,X,Y,Z,a0,a1,a2,m,g,a3,a4,a5,a6,a7,a8,a9,b0,b1,b2,b3,b4,b5,b6,b7,b8,b9,c0,c1,c2,c3,c4,c5,c6,c7,c8,c9,d0,d1,d2,d3,d4,d5,d6,d7,d9,f0,f1,f2,f3,f4,f5,f6,f7,f8,b,c],S4)) ()) ()) ()) ()):=by
 kernel_rfl
theorem zu.r4 :jl zi ⟨true,false,false⟩ (wz O.hp true (zU zi O)) (reg Try.f9 4) (reg Try.f9 4).toList ([x0,x1,x2,x3,x4,x5,x6,x7,x8,x9,d,i,k,l,f,n,o,p,q,r,s,t,u,w,x,y,z,A,B,C,D,E,F,G,H,I,J,K,L,M,N,P,Q,R,U,V,W,X,Y,Z,a0,a1,a2,m,g,a3,a4,a5,a6,a7,a8,a9,b0,b1,b2,b3,b4,b5,b6,b7,b8,b9,c0,c1,c2,c3,c4,c5,c6,c7,c8,c9,d0,d1,d2,d3,d4,d5,d6,d7,d9,f0,f1,f2,f3,f4,f5,f6,f7,f8,b,c]) S =
  (zO (wE zi BinOp.eql 34 (dem x6) (.int .i64 0) S) (fun v1 S1=>zO (zZ zi false 29 x2 S1) (fun v2 S2=>zO (y5 (zU zi O) 14 [(dem v2)] S2) (fun v3 S3=>zO (wE zi BinOp.neq 4 v1 v3 S3) (fun v4 S4=>some ([x0,x1,x2,x3,x4,x5,x6,x7,x8,x9,d,i,k,l,f,n,o,p,q,r,s,t,dem x6,v1,v2,v3,v4,A,B,C,D,E,F,G,H,I,J,K,L,M,N,P,Q,R,U,V,W,X,Y,Z,a0,a1,a2,m,g,a3,a4,a5,a6,a7,a8,a9,b0,b1,b2,b3,b4,b5,b6,b7,b8,b9,c0,c1,c2,c3,c4,c5,c6,c7,c8,c9,d0,d1,d2,d3,d4,d5,d6,d7,d9,f0,f1,f2,f3,f4,f5,f6,f7,f8,b,c],S4)) ()) ()) ()) ()):=by
 kernel_rfl
theorem zu.r5 :jl zi ⟨true,false,false⟩ (wz O.hp true (zU zi O)) (reg Try.f9 5) (reg Try.f9 5).toList ([x0,x1,x2,x3,x4,x5,x6,x7,x8,x9,d,i,k,l,f,n,o,p,q,r,s,t,u,w,x,y,z,A,B,C,D,E,F,G,H,I,J,K,L,M,N,P,Q,R,U,V,W,X,Y,Z,a0,a1,a2,m,g,a3,a4,a5,a6,a7,a8,a9,b0,b1,b2,b3,b4,b5,b6,b7,b8,b9,c0,c1,c2,c3,c4,c5,c6,c7,c8,c9,d0,d1,d2,d3,d4,d5,d6,d7,d9,f0,f1,f2,f3,f4,f5,f6,f7,f8,b,c]) S =
  ( some ([x0,x1,x2,x3,Value.bool false,x5,x6,x7,x8,x9,d,i,k,l,f,n,o,p,q,r,s,t,u,w,x,y,z,A,B,C,D,E,F,G,H,I,J,K,L,M,N,P,Q,R,U,V,W,X,Y,Z,a0,a1,a2,m,g,a3,a4,a5,a6,a7,a8,a9,b0,b1,b2,b3,b4,b5,b6,b7,b8,b9,c0,c1,c2,c3,c4,c5,c6,c7,c8,c9,d0,d1,d2,d3,d4,d5,d6,d7,d9,f0,f1,f2,f3,f4,f5,f6,f7,f8,b,c],S)):=by
 kernel_rfl
theorem zu.r6 :jl zi ⟨true,false,false⟩ (wz O.hp true (zU zi O)) (reg Try.f9 6) (reg Try.f9 6).toList ([x0,x1,x2,x3,x4,x5,x6,x7,x8,x9,d,i,k,l,f,n,o,p,q,r,s,t,u,w,x,y,z,A,B,C,D,E,F,G,H,I,J,K,L,M,N,P,Q,R,U,V,W,X,Y,Z,a0,a1,a2,m,g,a3,a4,a5,a6,a7,a8,a9,b0,b1,b2,b3,b4,b5,b6,b7,b8,b9,c0,c1,c2,c3,c4,c5,c6,c7,c8,c9,d0,d1,d2,d3,d4,d5,d6,d7,d9,f0,f1,f2,f3,f4,f5,f6,f7,f8,b,c]) S =
  (zO (wE zi BinOp.eql 34 (dem x6) (.int .i64 0) S) (fun v1 S1=>some ([x0,x1,x2,x3,x4,x5,x6,x7,x8,x9,d,i,k,l,f,n,o,p,q,r,s,t,u,w,x,y,z,dem x6,v1,C,D,E,F,G,H,I,J,K,L,M,N,P,Q,R,U,V,W,X,Y,Z,a0,a1,a2,m,g,a3,a4,a5,a6,a7,a8,a9,b0,b1,b2,b3,b4,b5,b6,b7,b8,b9,c0,c1,c2,c3,c4,c5,c6,c7,c8,c9,d0,d1,d2,d3,d4,d5,d6,d7,d9,f0,f1,f2,f3,f4,f5,f6,f7,f8,b,c],S1)) ()):=by
 kernel_rfl
theorem zu.r7 :jl zi ⟨true,false,false⟩ (wz O.hp true (zU zi O)) (reg Try.f9 7) (reg Try.f9 7).toList ([x0,x1,x2,x3,x4,x5,x6,x7,x8,x9,d,i,k,l,f,n,o,p,q,r,s,t,u,w,x,y,z,A,B,C,D,E,F,G,H,I,J,K,L,M,N,P,Q,R,U,V,W,X,Y,Z,a0,a1,a2,m,g,a3,a4,a5,a6,a7,a8,a9,b0,b1,b2,b3,b4,b5,b6,b7,b8,b9,c0,c1,c2,c3,c4,c5,c6,c7,c8,c9,d0,d1,d2,d3,d4,d5,d6,d7,d9,f0,f1,f2,f3,f4,f5,f6,f7,f8,b,c]) S =
  (zO (y5 (zU zi O) 22 [(dem (dem x5))] S) (fun v1 S1=>zO (zG v1 0 S1) (fun v3 S2=>zO (zG (zL 0 v1) 1 S2) (fun v4 S3=>zO (yU zi 29 S3) (fun v5 S4=>zO (wQ zi 29 v5 (dem v3) S4) (fun v6 S5=>some ([x0,x1,x2,x3,x4,x5,x6,v5,v4,x9,d,i,k,l,f,n,o,p,q,r,s,t,u,w,x,y,z,A,B,zL 1 (zL 0 v1),dem x5,dem v1,v3,dem v4,H,I,J,K,L,M,N,P,Q,R,U,V,W,X,Y,Z,a0,a1,a2,m,g,a3,a4,a5,a6,a7,a8,a9,b0,b1,b2,b3,b4,b5,b6,b7,b8,b9,c0,c1,c2,c3,c4,c5,c6,c7,c8,c9,d0,d1,d2,d3,d4,d5,d6,d7,d9,f0,f1,f2,f3,f4,f5,f6,f7,f8,b,c],S5)) ()) ()) ()) ()) ()):=by
 kernel_rfl
theorem zu.d8:qY zi (reg Try.f9 8)=true:=by kernel_rfl
theorem zu.ff8:fixed zi (reg Try.f9 8)=false:=by kernel_rfl
theorem zu.k8:checked zi (reg Try.f9 8)=[11]:=by kernel_rfl
theorem zu.g8:again zi (reg Try.f9 8)=[(11,10)]:=by kernel_rfl
theorem zu.r8 :zD zi O true (.region 8 (reg Try.f9 8) true) ([x0,x1,x2,x3,x4,x5,x6,x7,x8,x9,d,i,k,l,f,n,o,p,q,r,s,t,u,w,x,y,z,A,B,C,D,E,F,G,H,I,J,K,L,M,N,P,Q,R,U,V,W,X,Y,Z,a0,a1,a2,m,g,a3,a4,a5,a6,a7,a8,a9,b0,b1,b2,b3,b4,b5,b6,b7,b8,b9,c0,c1,c2,c3,c4,c5,c6,c7,c8,c9,d0,d1,d2,d3,d4,d5,d6,d7,d9,f0,f1,f2,f3,f4,f5,f6,f7,f8,b,c]) S =
  Q9 (zO (wE zi BinOp.neq 34 (dem x8) (.int .i64 0) S) (fun v1 S1=>gdK (dem v1) false (zZ zi false 29 x7) S1 (fun v3 S2=>gdK (dem v1) false (zZ zi false 29 x2) S2 (fun v4 S3=>gdK (dem v1) false (y5 (zU zi O) 20 [(dem v3),(dem v4)]) S3 (fun v5 S4=>gdK (dem v1) false (aUn zi UnOp.not v5) S4 (fun v6 S5=>zO (yX (dem v1) (Value.bool true) v6 S5) (fun v7 S6=>gdK (dem v7) false (zZ zi false 29 x2) S6 (fun v9 S7=>gdK (dem v7) false ((zU zi O) 24 [(dem v9)]) S7 (fun g0 S8=>aeg (dem v7) false (zZ zi false 29 x2) S8 (fun g1 S9=>gdK (dem v7) false (y5 (zU zi O) 20 [(dem g0),(dem g1)]) S9 (fun g2 g4=>gdK (dem v7) false (aUn zi UnOp.not g2) g4 (fun g3 g5=>zO (yX (dem v7) (Value.bool true) g3 g5) (fun g6 g7=>ckK (yM x2 S7 S8 && (true)) (some ([x0,x1,x2,x3,x4,x5,x6,x7,x8,x9,d,i,k,l,f,n,o,p,q,r,s,t,u,w,x,y,z,A,B,C,D,E,F,G,dem x8,v1,dem v1,v3,v4,v5,v6,v7,dem v7,v9,g0,g1,g2,g3,g6,Z,a0,a1,a2,m,g,a3,a4,a5,a6,a7,a8,a9,b0,b1,b2,b3,b4,b5,b6,b7,b8,b9,c0,c1,c2,c3,c4,c5,c6,c7,c8,c9,d0,d1,d2,d3,d4,d5,d6,d7,d9,f0,f1,f2,f3,f4,f5,f6,f7,f8,b,c],g7)) ()) ()) ()) ()) ()) ()) ()) ()) ()) ()) ()) ()) ()):=by
 rw [YQ zu.d8 zu.ff8 zu.k8 zu.g8]
 refine congrArg Q9 ?_
 refine uP Try.f9 8 0 (v:=x8) (pe:=zh) ?_
 refine uD Try.f9 8 1 (pe:=zh) (fun v1 S1=>?_)
 refine uP Try.f9 8 2 (v:=v1) (pe:=zh) ?_
 refine uG Try.f9 8 3 (j:=2) (pe:=x7) (fun v3 S2=>?_)
 refine uG Try.f9 8 4 (j:=2) (pe:=x2) (fun v4 S3=>?_)
 refine uG Try.f9 8 5 (j:=2) (pe:=zh) (fun v5 S4=>?_)
 refine uG Try.f9 8 6 (j:=2) (pe:=zh) (fun v6 S5=>?_)
 refine uD Try.f9 8 7 (pe:=zh) (fun v7 S6=>?_)
 refine uP Try.f9 8 8 (v:=v7) (pe:=zh) ?_
 refine uG Try.f9 8 9 (j:=8) (pe:=x2) (fun v9 S7=>?_)
 refine uG Try.f9 8 10 (j:=8) (pe:=zh) (fun g0 S8=>?_)
 refine uGC Try.f9 8 11 (j:=8) (pe:=x2) (fun g1 S9=>?_)
 refine uG Try.f9 8 12 (j:=8) (pe:=zh) (fun g2 g4=>?_)
 refine uG Try.f9 8 13 (j:=8) (pe:=zh) (fun g3 g5=>?_)
 refine uD Try.f9 8 14 (pe:=zh) (fun g6 g7=>?_)
 kernel_rfl
theorem zu.r9 :jl zi ⟨true,false,false⟩ (wz O.hp true (zU zi O)) (reg Try.f9 9) (reg Try.f9 9).toList ([x0,x1,x2,x3,x4,x5,x6,x7,x8,x9,d,i,k,l,f,n,o,p,q,r,s,t,u,w,x,y,z,A,B,C,D,E,F,G,H,I,J,K,L,M,N,P,Q,R,U,V,W,X,Y,Z,a0,a1,a2,m,g,a3,a4,a5,a6,a7,a8,a9,b0,b1,b2,b3,b4,b5,b6,b7,b8,b9,c0,c1,c2,c3,c4,c5,c6,c7,c8,c9,d0,d1,d2,d3,d4,d5,d6,d7,d9,f0,f1,f2,f3,f4,f5,f6,f7,f8,b,c]) S =
  ( some ([x0,x1,x2,x3,Value.bool false,x5,x6,x7,x8,x9,d,i,k,l,f,n,o,p,q,r,s,t,u,w,x,y,z,A,B,C,D,E,F,G,H,I,J,K,L,M,N,P,Q,R,U,V,W,X,Y,Z,a0,a1,a2,m,g,a3,a4,a5,a6,a7,a8,a9,b0,b1,b2,b3,b4,b5,b6,b7,b8,b9,c0,c1,c2,c3,c4,c5,c6,c7,c8,c9,d0,d1,d2,d3,d4,d5,d6,d7,d9,f0,f1,f2,f3,f4,f5,f6,f7,f8,b,c],S)):=by
 kernel_rfl
theorem zu.r10 :jl zi ⟨true,false,false⟩ (wz O.hp true (zU zi O)) (reg Try.f9 10) (reg Try.f9 10).toList ([x0,x1,x2,x3,x4,x5,x6,x7,x8,x9,d,i,k,l,f,n,o,p,q,r,s,t,u,w,x,y,z,A,B,C,D,E,F,G,H,I,J,K,L,M,N,P,Q,R,U,V,W,X,Y,Z,a0,a1,a2,m,g,a3,a4,a5,a6,a7,a8,a9,b0,b1,b2,b3,b4,b5,b6,b7,b8,b9,c0,c1,c2,c3,c4,c5,c6,c7,c8,c9,d0,d1,d2,d3,d4,d5,d6,d7,d9,f0,f1,f2,f3,f4,f5,f6,f7,f8,b,c]) S =
  (zO (zZ zi false 29 x2 S) (fun v0 S1=>zO ((zU zi O) 24 [(dem v0)] S1) (fun v1 S2=>zO (yU zi 29 S2) (fun v2 S3=>zO (wQ zi 29 v2 (dem v1) S3) (fun v3 S4=>some ([x0,x1,x2,x3,x4,x5,x6,x7,x8,v2,d,i,k,l,f,n,o,p,q,r,s,t,u,w,x,y,z,A,B,C,D,E,F,G,H,I,J,K,L,M,N,P,Q,R,U,V,W,X,Y,v0,v1,a1,a2,m,g,a3,a4,a5,a6,a7,a8,a9,b0,b1,b2,b3,b4,b5,b6,b7,b8,b9,c0,c1,c2,c3,c4,c5,c6,c7,c8,c9,d0,d1,d2,d3,d4,d5,d6,d7,d9,f0,f1,f2,f3,f4,f5,f6,f7,f8,b,c],S4)) ()) ()) ()) ()):=by
 kernel_rfl
theorem zu.r11 :jl zi ⟨true,false,false⟩ (wz O.hp true (zU zi O)) (reg Try.f9 11) (reg Try.f9 11).toList ([x0,x1,x2,x3,x4,x5,x6,x7,x8,x9,d,i,k,l,f,n,o,p,q,r,s,t,u,w,x,y,z,A,B,C,D,E,F,G,H,I,J,K,L,M,N,P,Q,R,U,V,W,X,Y,Z,a0,a1,a2,m,g,a3,a4,a5,a6,a7,a8,a9,b0,b1,b2,b3,b4,b5,b6,b7,b8,b9,c0,c1,c2,c3,c4,c5,c6,c7,c8,c9,d0,d1,d2,d3,d4,d5,d6,d7,d9,f0,f1,f2,f3,f4,f5,f6,f7,f8,b,c]) S =
  (zO (zM zi 29 x9 4 S) (fun v0 S1=>zO (zZ zi false 27 v0 S1) (fun v1 S2=>zO (Jc zi 27 v1 S2) (fun v2 S3=>some ([x0,x1,x2,x3,x4,x5,x6,x7,x8,x9,d,i,k,l,f,n,o,p,q,r,s,t,u,w,x,y,z,A,B,C,D,E,F,G,H,I,J,K,L,M,N,P,Q,R,U,V,W,X,Y,Z,a0,v0,v1,v2,.int .i64 0,a3,a4,a5,a6,a7,a8,a9,b0,b1,b2,b3,b4,b5,b6,b7,b8,b9,c0,c1,c2,c3,c4,c5,c6,c7,c8,c9,d0,d1,d2,d3,d4,d5,d6,d7,d9,f0,f1,f2,f3,f4,f5,f6,f7,f8,b,c],S3)) ()) ()) ()):=by
 kernel_rfl
theorem zu.r12 :jl zi ⟨true,false,false⟩ (wz O.hp true (zU zi O)) (reg Try.f9 12) (reg Try.f9 12).toList ([x0,x1,x2,x3,x4,x5,x6,x7,x8,x9,d,i,k,l,f,n,o,p,q,r,s,t,u,w,x,y,z,A,B,C,D,E,F,G,H,I,J,K,L,M,N,P,Q,R,U,V,W,X,Y,Z,a0,a1,a2,m,g,a3,a4,a5,a6,a7,a8,a9,b0,b1,b2,b3,b4,b5,b6,b7,b8,b9,c0,c1,c2,c3,c4,c5,c6,c7,c8,c9,d0,d1,d2,d3,d4,d5,d6,d7,d9,f0,f1,f2,f3,f4,f5,f6,f7,f8,b,c]) S =
  (zO (wE zi BinOp.lss 3 g m S) (fun v0 S1=>some ([x0,x1,x2,x3,x4,x5,x6,x7,x8,x9,d,i,k,l,f,n,o,p,q,r,s,t,u,w,x,y,z,A,B,C,D,E,F,G,H,I,J,K,L,M,N,P,Q,R,U,V,W,X,Y,Z,a0,a1,a2,m,g,v0,a4,a5,a6,a7,a8,a9,b0,b1,b2,b3,b4,b5,b6,b7,b8,b9,c0,c1,c2,c3,c4,c5,c6,c7,c8,c9,d0,d1,d2,d3,d4,d5,d6,d7,d9,f0,f1,f2,f3,f4,f5,f6,f7,f8,b,c],S1)) ()):=by
 kernel_rfl
theorem zu.r13 :jl zi ⟨true,false,false⟩ (wz O.hp true (zU zi O)) (reg Try.f9 13) (reg Try.f9 13).toList ([x0,x1,x2,x3,x4,x5,x6,x7,x8,x9,d,i,k,l,f,n,o,p,q,r,s,t,u,w,x,y,z,A,B,C,D,E,F,G,H,I,J,K,L,M,N,P,Q,R,U,V,W,X,Y,Z,a0,a1,a2,m,g,a3,a4,a5,a6,a7,a8,a9,b0,b1,b2,b3,b4,b5,b6,b7,b8,b9,c0,c1,c2,c3,c4,c5,c6,c7,c8,c9,d0,d1,d2,d3,d4,d5,d6,d7,d9,f0,f1,f2,f3,f4,f5,f6,f7,f8,b,c]) S =
  ( some ([x0,x1,x2,x3,x4,x5,x6,x7,x8,x9,g,i,k,l,f,n,o,p,q,r,s,t,u,w,x,y,z,A,B,C,D,E,F,G,H,I,J,K,L,M,N,P,Q,R,U,V,W,X,Y,Z,a0,a1,a2,m,dem g,a3,dem g,a5,a6,a7,a8,a9,b0,b1,b2,b3,b4,b5,b6,b7,b8,b9,c0,c1,c2,c3,c4,c5,c6,c7,c8,c9,d0,d1,d2,d3,d4,d5,d6,d7,d9,f0,f1,f2,f3,f4,f5,f6,f7,f8,b,c],S)):=by
 kernel_rfl
theorem zu.r14 :jl zi ⟨true,false,false⟩ (wz O.hp true (zU zi O)) (reg Try.f9 14) (reg Try.f9 14).toList ([x0,x1,x2,x3,x4,x5,x6,x7,x8,x9,d,i,k,l,f,n,o,p,q,r,s,t,u,w,x,y,z,A,B,C,D,E,F,G,H,I,J,K,L,M,N,P,Q,R,U,V,W,X,Y,Z,a0,a1,a2,m,g,a3,a4,a5,a6,a7,a8,a9,b0,b1,b2,b3,b4,b5,b6,b7,b8,b9,c0,c1,c2,c3,c4,c5,c6,c7,c8,c9,d0,d1,d2,d3,d4,d5,d6,d7,d9,f0,f1,f2,f3,f4,f5,f6,f7,f8,b,c]) S =
  (zO (zM zi 29 x9 4 S) (fun v0 S1=>zO (zZ zi false 27 v0 S1) (fun v1 S2=>zO (zV zi 27 v1 (dem d) S2) (fun v3 S3=>zO (zM zi 47 v3 1 S3) (fun v4 S4=>zO (zZ zi false 3 v4 S4) (fun v5 S5=>zO (wE zi BinOp.add 3 v5 (.int .i64 1) S5) (fun v6 S6=>zO (zV zi 27 v1 (dem d) S6) (fun v7 S7=>zO (zM zi 47 v7 1 S7) (fun v8 S8=>zO (wQ zi 3 v8 (dem v6) S8) (fun v9 S9=>some ([x0,x1,x2,x3,x4,x5,x6,x7,x8,x9,d,i,k,l,f,n,o,p,q,r,s,t,u,w,x,y,z,A,B,C,D,E,F,G,H,I,J,K,L,M,N,P,Q,R,U,V,W,X,Y,Z,a0,a1,a2,m,g,a3,a4,v0,v1,dem d,v3,v4,v5,v6,v7,v8,b4,b5,b6,b7,b8,b9,c0,c1,c2,c3,c4,c5,c6,c7,c8,c9,d0,d1,d2,d3,d4,d5,d6,d7,d9,f0,f1,f2,f3,f4,f5,f6,f7,f8,b,c],S9)) ()) ()) ()) ()) ()) ()) ()) ()) ()):=by
 kernel_rfl
theorem zu.r15 :jl zi ⟨true,false,false⟩ (wz O.hp true (zU zi O)) (reg Try.f9 15) (reg Try.f9 15).toList ([x0,x1,x2,x3,x4,x5,x6,x7,x8,x9,d,i,k,l,f,n,o,p,q,r,s,t,u,w,x,y,z,A,B,C,D,E,F,G,H,I,J,K,L,M,N,P,Q,R,U,V,W,X,Y,Z,a0,a1,a2,m,g,a3,a4,a5,a6,a7,a8,a9,b0,b1,b2,b3,b4,b5,b6,b7,b8,b9,c0,c1,c2,c3,c4,c5,c6,c7,c8,c9,d0,d1,d2,d3,d4,d5,d6,d7,d9,f0,f1,f2,f3,f4,f5,f6,f7,f8,b,c]) S =
  (zO (wE zi BinOp.add 3 g (.int .i64 1) S) (fun v0 S1=>some ([x0,x1,x2,x3,x4,x5,x6,x7,x8,x9,d,i,k,l,f,n,o,p,q,r,s,t,u,w,x,y,z,A,B,C,D,E,F,G,H,I,J,K,L,M,N,P,Q,R,U,V,W,X,Y,Z,a0,a1,a2,m,dem v0,a3,a4,a5,a6,a7,a8,a9,b0,b1,b2,b3,v0,b5,b6,b7,b8,b9,c0,c1,c2,c3,c4,c5,c6,c7,c8,c9,d0,d1,d2,d3,d4,d5,d6,d7,d9,f0,f1,f2,f3,f4,f5,f6,f7,f8,b,c],S1)) ()):=by
 kernel_rfl
theorem zu.r16 :jl zi ⟨true,false,false⟩ (wz O.hp true (zU zi O)) (reg Try.f9 16) (reg Try.f9 16).toList ([x0,x1,x2,x3,x4,x5,x6,x7,x8,x9,d,i,k,l,f,n,o,p,q,r,s,t,u,w,x,y,z,A,B,C,D,E,F,G,H,I,J,K,L,M,N,P,Q,R,U,V,W,X,Y,Z,a0,a1,a2,m,g,a3,a4,a5,a6,a7,a8,a9,b0,b1,b2,b3,b4,b5,b6,b7,b8,b9,c0,c1,c2,c3,c4,c5,c6,c7,c8,c9,d0,d1,d2,d3,d4,d5,d6,d7,d9,f0,f1,f2,f3,f4,f5,f6,f7,f8,b,c]) S =
  (zO (zM zi 29 x9 4 S) (fun v0 S1=>zO (zZ zi false 27 v0 S1) (fun v1 S2=>zO (Jc zi 27 v1 S2) (fun v2 S3=>zO (wE zi BinOp.gtr 3 v2 (.int .i64 0) S3) (fun v3 S4=>gdK (dem v3) true (zZ zi false 29 x2) S4 (fun v5 S5=>gdK (dem v3) true (zZ zi false 29 x9) S5 (fun v6 S6=>gdK (dem v3) true (y5 (zU zi O) 20 [(dem v5),(dem v6)]) S6 (fun v7 S7=>zO (yX (dem v3) v7 (Value.bool false) S7) (fun v8 S8=>some ([x0,x1,x2,x3,x4,x5,x6,x7,x8,x9,d,i,k,l,f,n,o,p,q,r,s,t,u,w,x,y,z,A,B,C,D,E,F,G,H,I,J,K,L,M,N,P,Q,R,U,V,W,X,Y,Z,a0,a1,a2,m,g,a3,a4,a5,a6,a7,a8,a9,b0,b1,b2,b3,b4,v0,v1,v2,v3,dem v3,v5,v6,v7,v8,c4,c5,c6,c7,c8,c9,d0,d1,d2,d3,d4,d5,d6,d7,d9,f0,f1,f2,f3,f4,f5,f6,f7,f8,b,c],S8)) ()) ()) ()) ()) ()) ()) ()) ()):=by
 refine sD Try.f9 16 0 (fun v0 S1=>?_)
 refine sD Try.f9 16 1 (fun v1 S2=>?_)
 refine sD Try.f9 16 2 (fun v2 S3=>?_)
 refine sD Try.f9 16 3 (fun v3 S4=>?_)
 refine sP Try.f9 16 4 (v:=v3) ?_
 refine sG Try.f9 16 5 (j:=4) (fun v5 S5=>?_)
 refine sG Try.f9 16 6 (j:=4) (fun v6 S6=>?_)
 refine sG Try.f9 16 7 (j:=4) (fun v7 S7=>?_)
 refine sD Try.f9 16 8 (fun v8 S8=>?_)
 kernel_rfl
theorem zu.r17 :jl zi ⟨true,false,false⟩ (wz O.hp true (zU zi O)) (reg Try.f9 17) (reg Try.f9 17).toList ([x0,x1,x2,x3,x4,x5,x6,x7,x8,x9,d,i,k,l,f,n,o,p,q,r,s,t,u,w,x,y,z,A,B,C,D,E,F,G,H,I,J,K,L,M,N,P,Q,R,U,V,W,X,Y,Z,a0,a1,a2,m,g,a3,a4,a5,a6,a7,a8,a9,b0,b1,b2,b3,b4,b5,b6,b7,b8,b9,c0,c1,c2,c3,c4,c5,c6,c7,c8,c9,d0,d1,d2,d3,d4,d5,d6,d7,d9,f0,f1,f2,f3,f4,f5,f6,f7,f8,b,c]) S =
  ( some ([x0,x1,x2,x3,Value.bool false,x5,x6,x7,x8,x9,d,i,k,l,f,n,o,p,q,r,s,t,u,w,x,y,z,A,B,C,D,E,F,G,H,I,J,K,L,M,N,P,Q,R,U,V,W,X,Y,Z,a0,a1,a2,m,g,a3,a4,a5,a6,a7,a8,a9,b0,b1,b2,b3,b4,b5,b6,b7,b8,b9,c0,c1,c2,c3,c4,c5,c6,c7,c8,c9,d0,d1,d2,d3,d4,d5,d6,d7,d9,f0,f1,f2,f3,f4,f5,f6,f7,f8,b,c],S)):=by
 kernel_rfl
theorem zu.r18 :jl zi ⟨true,false,false⟩ (wz O.hp true (zU zi O)) (reg Try.f9 18) (reg Try.f9 18).toList ([x0,x1,x2,x3,x4,x5,x6,x7,x8,x9,d,i,k,l,f,n,o,p,q,r,s,t,u,w,x,y,z,A,B,C,D,E,F,G,H,I,J,K,L,M,N,P,Q,R,U,V,W,X,Y,Z,a0,a1,a2,m,g,a3,a4,a5,a6,a7,a8,a9,b0,b1,b2,b3,b4,b5,b6,b7,b8,b9,c0,c1,c2,c3,c4,c5,c6,c7,c8,c9,d0,d1,d2,d3,d4,d5,d6,d7,d9,f0,f1,f2,f3,f4,f5,f6,f7,f8,b,c]) S =
  (zO (jM zi 33 0 [] S) (fun v0 S1=>zO (wV zi true 33 33 v0 (dem x1) S1) (fun v2 S2=>zO (y5 (zU zi O) 22 [(dem v2)] S2) (fun v3 S3=>zO (zG v3 0 S3) (fun v5 S4=>zO (zG (zL 0 v3) 1 S4) (fun v6 S5=>zO (yU zi 29 S5) (fun v7 S6=>zO (wQ zi 29 v7 (dem v5) S6) (fun v8 S7=>some ([x0,x1,x2,x3,x4,x5,x6,x7,x8,x9,d,v7,v6,l,f,n,o,p,q,r,s,t,u,w,x,y,z,A,B,C,D,E,F,G,H,I,J,K,L,M,N,P,Q,R,U,V,W,X,Y,Z,a0,a1,a2,m,g,a3,a4,a5,a6,a7,a8,a9,b0,b1,b2,b3,b4,b5,b6,b7,b8,b9,c0,c1,c2,c3,zL 1 (zL 0 v3),dem v0,dem x1,v2,dem v3,v5,dem v6,d1,d2,d3,d4,d5,d6,d7,d9,f0,f1,f2,f3,f4,f5,f6,f7,f8,b,c],S7)) ()) ()) ()) ()) ()) ()) ()):=by
 kernel_rfl
theorem zu.r19 :jl zi ⟨true,false,false⟩ (wz O.hp true (zU zi O)) (reg Try.f9 19) (reg Try.f9 19).toList ([x0,x1,x2,x3,x4,x5,x6,x7,x8,x9,d,i,k,l,f,n,o,p,q,r,s,t,u,w,x,y,z,A,B,C,D,E,F,G,H,I,J,K,L,M,N,P,Q,R,U,V,W,X,Y,Z,a0,a1,a2,m,g,a3,a4,a5,a6,a7,a8,a9,b0,b1,b2,b3,b4,b5,b6,b7,b8,b9,c0,c1,c2,c3,c4,c5,c6,c7,c8,c9,d0,d1,d2,d3,d4,d5,d6,d7,d9,f0,f1,f2,f3,f4,f5,f6,f7,f8,b,c]) S =
  (zO (wE zi BinOp.neq 34 (dem k) (.int .i64 0) S) (fun v1 S1=>some ([x0,x1,x2,x3,x4,x5,x6,x7,x8,x9,d,i,k,l,f,n,o,p,q,r,s,t,u,w,x,y,z,A,B,C,D,E,F,G,H,I,J,K,L,M,N,P,Q,R,U,V,W,X,Y,Z,a0,a1,a2,m,g,a3,a4,a5,a6,a7,a8,a9,b0,b1,b2,b3,b4,b5,b6,b7,b8,b9,c0,c1,c2,c3,c4,c5,c6,c7,c8,c9,d0,dem k,v1,d3,d4,d5,d6,d7,d9,f0,f1,f2,f3,f4,f5,f6,f7,f8,b,c],S1)) ()):=by
 kernel_rfl
theorem zu.r20 :jl zi ⟨true,false,false⟩ (wz O.hp true (zU zi O)) (reg Try.f9 20) (reg Try.f9 20).toList ([x0,x1,x2,x3,x4,x5,x6,x7,x8,x9,d,i,k,l,f,n,o,p,q,r,s,t,u,w,x,y,z,A,B,C,D,E,F,G,H,I,J,K,L,M,N,P,Q,R,U,V,W,X,Y,Z,a0,a1,a2,m,g,a3,a4,a5,a6,a7,a8,a9,b0,b1,b2,b3,b4,b5,b6,b7,b8,b9,c0,c1,c2,c3,c4,c5,c6,c7,c8,c9,d0,d1,d2,d3,d4,d5,d6,d7,d9,f0,f1,f2,f3,f4,f5,f6,f7,f8,b,c]) S =
  (zO (zZ zi false 29 i S) (fun v0 S1=>zO (wX zi 29 [] S1) (fun v1 S2=>zO (y5 (zU zi O) 20 [(dem v0),(dem v1)] S2) (fun v2 S3=>some ([x0,x1,x2,x3,v2,x5,x6,x7,x8,x9,d,i,k,l,f,n,o,p,q,r,s,t,u,w,x,y,z,A,B,C,D,E,F,G,H,I,J,K,L,M,N,P,Q,R,U,V,W,X,Y,Z,a0,a1,a2,m,g,a3,a4,a5,a6,a7,a8,a9,b0,b1,b2,b3,b4,b5,b6,b7,b8,b9,c0,c1,c2,c3,c4,c5,c6,c7,c8,c9,d0,d1,d2,v0,v1,dem v2,d6,d7,d9,f0,f1,f2,f3,f4,f5,f6,f7,f8,b,c],S3)) ()) ()) ()):=by
 kernel_rfl
theorem zu.r21 :jl zi ⟨true,false,false⟩ (wz O.hp true (zU zi O)) (reg Try.f9 21) (reg Try.f9 21).toList ([x0,x1,x2,x3,x4,x5,x6,x7,x8,x9,d,i,k,l,f,n,o,p,q,r,s,t,u,w,x,y,z,A,B,C,D,E,F,G,H,I,J,K,L,M,N,P,Q,R,U,V,W,X,Y,Z,a0,a1,a2,m,g,a3,a4,a5,a6,a7,a8,a9,b0,b1,b2,b3,b4,b5,b6,b7,b8,b9,c0,c1,c2,c3,c4,c5,c6,c7,c8,c9,d0,d1,d2,d3,d4,d5,d6,d7,d9,f0,f1,f2,f3,f4,f5,f6,f7,f8,b,c]) S =
  (zO (zZ zi false 29 i S) (fun v0 S1=>zO (y5 (zU zi O) 16 [(dem v0)] S1) (fun v1 S2=>zO (zG v1 0 S2) (fun v3 S3=>zO (zG (zL 0 v1) 1 S3) (fun v4 S4=>some ([x0,x1,x2,x3,x4,x5,x6,x7,x8,x9,d,i,k,v3,v4,n,o,p,q,r,s,t,u,w,x,y,z,A,B,C,D,E,F,G,H,I,J,K,L,M,N,P,Q,R,U,V,W,X,Y,Z,a0,a1,a2,m,g,a3,a4,a5,a6,a7,a8,a9,b0,b1,b2,b3,b4,b5,b6,b7,b8,b9,c0,c1,c2,c3,c4,c5,c6,c7,c8,c9,d0,d1,d2,d3,d4,d5,zL 1 (zL 0 v1),v0,dem v1,dem v3,dem v4,f2,f3,f4,f5,f6,f7,f8,b,c],S4)) ()) ()) ()) ()):=by
 kernel_rfl
theorem zu.r22 :jl zi ⟨true,false,false⟩ (wz O.hp true (zU zi O)) (reg Try.f9 22) (reg Try.f9 22).toList ([x0,x1,x2,x3,x4,x5,x6,x7,x8,x9,d,i,k,l,f,n,o,p,q,r,s,t,u,w,x,y,z,A,B,C,D,E,F,G,H,I,J,K,L,M,N,P,Q,R,U,V,W,X,Y,Z,a0,a1,a2,m,g,a3,a4,a5,a6,a7,a8,a9,b0,b1,b2,b3,b4,b5,b6,b7,b8,b9,c0,c1,c2,c3,c4,c5,c6,c7,c8,c9,d0,d1,d2,d3,d4,d5,d6,d7,d9,f0,f1,f2,f3,f4,f5,f6,f7,f8,b,c]) S =
  (zO (wE zi BinOp.eql 34 (dem f) (.int .i64 0) S) (fun v1 S1=>gdK (dem v1) true (ret l) S1 (fun v3 S2=>gdK (dem v1) true (yT zi true false 33 9 (dem v3)) S2 (fun v4 S3=>gdK (dem v1) true (ret x1) S3 (fun v5 S4=>gdK (dem v1) true (yT zi true false 33 9 (dem v5)) S4 (fun v6 S5=>gdK (dem v1) true (wE zi BinOp.eql 9 v4 v6) S5 (fun v7 S6=>zO (yX (dem v1) v7 (Value.bool false) S6) (fun v8 S7=>some ([x0,x1,x2,x3,v8,x5,x6,x7,x8,x9,d,i,k,l,f,n,o,p,q,r,s,t,u,w,x,y,z,A,B,C,D,E,F,G,H,I,J,K,L,M,N,P,Q,R,U,V,W,X,Y,Z,a0,a1,a2,m,g,a3,a4,a5,a6,a7,a8,a9,b0,b1,b2,b3,b4,b5,b6,b7,b8,b9,c0,c1,c2,c3,c4,c5,c6,c7,c8,c9,d0,d1,d2,d3,d4,d5,d6,d7,d9,f0,f1,dem f,v1,dem v1,dem v3,v4,dem v5,v6,v7,dem v8],S7)) ()) ()) ()) ()) ()) ()) ()):=by
 refine sP Try.f9 22 0 (v:=f) ?_
 refine sD Try.f9 22 1 (fun v1 S1=>?_)
 refine sP Try.f9 22 2 (v:=v1) ?_
 refine sG Try.f9 22 3 (j:=2) (fun v3 S2=>?_)
 refine sG Try.f9 22 4 (j:=2) (fun v4 S3=>?_)
 refine sG Try.f9 22 5 (j:=2) (fun v5 S4=>?_)
 refine sG Try.f9 22 6 (j:=2) (fun v6 S5=>?_)
 refine sG Try.f9 22 7 (j:=2) (fun v7 S6=>?_)
 refine sD Try.f9 22 8 (fun v8 S7=>?_)
 refine sP Try.f9 22 9 (v:=v8) ?_
 kernel_rfl
theorem zu.rs:type_of% (ahs @zu.r0 (ahs @zu.r1 (ahs @zu.r2 (ahs @zu.r3 (ahs @zu.r4 (ahs @zu.r5 (ahs @zu.r6 (ahs @zu.r7 (ahs @zu.r8 (ahs @zu.r9 (ahs @zu.r10 (ahs @zu.r11 (ahs @zu.r12 (ahs @zu.r13 (ahs @zu.r14 (ahs @zu.r15 (ahs @zu.r16 (ahs @zu.r17 (ahs @zu.r18 (ahs @zu.r19 (ahs @zu.r20 (ahs @zu.r21 (@zu.r22))))))))))))))))))))))):=ahs @zu.r0 (ahs @zu.r1 (ahs @zu.r2 (ahs @zu.r3 (ahs @zu.r4 (ahs @zu.r5 (ahs @zu.r6 (ahs @zu.r7 (ahs @zu.r8 (ahs @zu.r9 (ahs @zu.r10 (ahs @zu.r11 (ahs @zu.r12 (ahs @zu.r13 (ahs @zu.r14 (ahs @zu.r15 (ahs @zu.r16 (ahs @zu.r17 (ahs @zu.r18 (ahs @zu.r19 (ahs @zu.r20 (ahs @zu.r21 (@zu.r22))))))))))))))))))))))
theorem zu.runs {x0 x1:Value} {S S1:zx} {e:AEx} {T:List Value} (h:zD zi O true zu.code ([x0,x1,zh,zh,zh,zh,zh,zh,zh,zh,zh,zh,zh,zh,zh,zh,zh,zh,zh,zh,zh,zh,zh,zh,zh,zh,zh,zh,zh,zh,zh,zh,zh,zh,zh,zh,zh,zh,zh,zh,zh,zh,zh,zh,zh,zh,zh,zh,zh,zh,zh,zh,zh,zh,zh,zh,zh,zh,zh,zh,zh,zh,zh,zh,zh,zh,zh,zh,zh,zh,zh,zh,zh,zh,zh,zh,zh,zh,zh,zh,zh,zh,zh,zh,zh,zh,zh,zh,zh,zh,zh,zh,zh,zh,zh,zh,zh,zh,zh,zh,zh,zh]) S=some (e,T,S1)) (he:e=.normal∨e=.ret):zU zi O 9 [x0,x1] S=some (T.getD 4 zh,S1) :=
 yD rfl rfl Try.func9 (by decide) zu.body (by exact h) he (yP (a:=T.getD 4 zh) ((show zJ zi T S1 Try.f9.results.toList=zJ zi T S1 [(ResultVar.tmp 4)] from by kernel_rfl).trans (by simp only [zJ])) (by kernel_rfl))
end Go.Proofs.Ytgggklfbhmlapaa
namespace Go.Proofs.Ytgggklfbhmlapaa
open Go.Abs
abbrev jv.id:FuncId:=24
noncomputable def jv.code:Code:=(.seq (.region 0 (reg Try.f24 0) false) (.seq (.region 1 (reg Try.f24 1) false) (.seq (.region 2 (reg Try.f24 2) false) Code.ret)))
theorem jv.body:Try.f24.body=some jv.code:=by kernel_rfl
variable (c d g i j k l m:Value) (S:zx)
theorem jv.r0 :jl zi ⟨true,false,false⟩ (wz O.hp true (zU zi O)) (reg Try.f24 0) (reg Try.f24 0).toList ([c,d,g,i,j,k,l,m]) S =
  (zO (WR (dem c) S) (fun f b=>zO (yU zi 29 b) (fun n o=>some ([c,f,n,i,j,k,l,m],o)) ()) ()):=by
 kernel_rfl
theorem jv.r1 :jl zi ⟨true,false,false⟩ (wz O.hp true (zU zi O)) (reg Try.f24 1) (reg Try.f24 1).toList ([c,d,g,i,j,k,l,m]) S =
  (zO (zM zi 29 d 4 S) (fun f b=>zO (zZ zi false 27 f b) (fun n o=>zO ((zU zi O) 37 [(dem n)] o) (fun p r=>zO (zM zi 29 d 4 r) (fun q s=>zO (wQ zi 27 q (dem p) s) (fun u t=>some ([c,d,g,f,n,p,q,m],t)) ()) ()) ()) ()) ()):=by
 kernel_rfl
theorem jv.r2 :jl zi ⟨true,false,false⟩ (wz O.hp true (zU zi O)) (reg Try.f24 2) (reg Try.f24 2).toList ([c,d,g,i,j,k,l,m]) S =
  (zO (zZ zi false 29 d S) (fun f b=>zO (wQ zi 29 g (dem f) b) (fun n o=>some ([c,d,g,i,j,k,l,f],o)) ()) ()):=by
 kernel_rfl
theorem jv.rs:type_of% (ahs @jv.r0 (ahs @jv.r1 (@jv.r2))):=ahs @jv.r0 (ahs @jv.r1 (@jv.r2))
theorem jv.runs {c:Value} {S b:zx} {e:AEx} {T:List Value} (h:zD zi O true jv.code ([c,zh,zh,zh,zh,zh,zh,zh]) S=some (e,T,b)) (he:e=.normal∨e=.ret) {w0:Value} (c0:zZ zi false 29 (T.getD 2 zh) b=some (w0,b)):zU zi O 24 [c] S=some (w0,b) :=
 yD rfl rfl Try.func24 (by decide) jv.body (by exact h) he (yP (a:=w0) ((show zJ zi T b Try.f24.results.toList=zJ zi T b [(ResultVar.cell 2 29)] from by kernel_rfl).trans (by simp only [zJ,c0])) (by kernel_rfl))
end Go.Proofs.Ytgggklfbhmlapaa
namespace Go.Proofs.Ytgggklfbhmlapaa
open Go.Abs
abbrev zS.id:FuncId:=37
noncomputable def zS.code:Code:=(.seq (.region 0 (reg Try.f37 0) false) (.seq (.seq (.region 1 (reg Try.f37 1) false) (.cond (.tmp 4) (.seq (.region 2 (reg Try.f37 2) false) Code.ret) Code.skip)) (.seq (.region 3 (reg Try.f37 3) false) Code.ret)))
theorem zS.body:Try.f37.body=some zS.code:=by kernel_rfl
variable (b c l f g i j k:Value) (S:zx)
theorem zS.r0 :jl zi ⟨true,false,false⟩ (wz O.hp true (zU zi O)) (reg Try.f37 0) (reg Try.f37 0).toList ([b,c,l,f,g,i,j,k]) S =
  ( some ([b,c,Value.slice none 0 0,f,g,i,j,k],S)):=by
 kernel_rfl
theorem zS.r1 :jl zi ⟨true,false,false⟩ (wz O.hp true (zU zi O)) (reg Try.f37 1) (reg Try.f37 1).toList ([b,c,l,f,g,i,j,k]) S =
  (zO (wE zi BinOp.eql 27 (dem b) (Value.slice none 0 0) S) (fun o d=>some ([b,c,l,dem b,o,i,j,k],d)) ()):=by
 kernel_rfl
theorem zS.r2 :jl zi ⟨true,false,false⟩ (wz O.hp true (zU zi O)) (reg Try.f37 2) (reg Try.f37 2).toList ([b,c,l,f,g,i,j,k]) S =
  ( some ([b,c,Value.slice none 0 0,f,g,i,j,k],S)):=by
 kernel_rfl
theorem zS.r3 :jl zi ⟨true,false,false⟩ (wz O.hp true (zU zi O)) (reg Try.f37 3) (reg Try.f37 3).toList ([b,c,l,f,g,i,j,k]) S =
  (zO (jM zi 27 0 [] S) (fun m d=>zO (wV zi true 27 27 m (dem b) d) (fun n p=>some ([b,c,n,f,g,dem m,dem b,dem n],p)) ()) ()):=by
 kernel_rfl
theorem zS.rs:type_of% (ahs @zS.r0 (ahs @zS.r1 (ahs @zS.r2 (@zS.r3)))):=ahs @zS.r0 (ahs @zS.r1 (ahs @zS.r2 (@zS.r3)))
theorem zS.runs {b:Value} {S d:zx} {e:AEx} {T:List Value} (h:zD zi O true zS.code ([b,zh,zh,zh,zh,zh,zh,zh]) S=some (e,T,d)) (he:e=.normal∨e=.ret):zU zi O 37 [b] S=some (T.getD 2 zh,d) :=
 yD rfl rfl Try.func37 (by decide) zS.body (by exact h) he (yP (a:=T.getD 2 zh) ((show zJ zi T d Try.f37.results.toList=zJ zi T d [(ResultVar.tmp 2)] from by kernel_rfl).trans (by simp only [zJ])) (by kernel_rfl))
end Go.Proofs.Ytgggklfbhmlapaa
namespace Go.Abs
open Go.RowKit
theorem agm {b:Nat} {e:Ty} {α:Type} (f:α→List Value) (Q:α→Prop) (h:∀ x,e.Good x→∃ y,e.Z8 x=f y∧Q y) (hf:∀ y,(f y).length=e.sz) (x:(Ty.slc b e).Val) (hg:(Ty.slc b e).Good x) :
  ∃ k l,Okl k l∧k≠2∧(Ty.slc b e).Z8 x=[vs f e.sz k l]∧l.length * b≤140737488351232∧∀ y ∈ l,Q y:=by
 match x,hg with
 | none,_=>exact ⟨0,[],Okl.none,by decide,rfl,by simp,fun y hy=>by cases hy⟩
 | some xs,hg =>
  obtain ⟨h1,h2,h3⟩:=hg
  have key:∀ xs:List e.Val,(∀ n ∈ xs,e.Good n)→∃ l:List α,xs.flatMap e.Z8=l.flatMap f∧l.length=xs.length∧∀ y ∈ l,Q y:=by
   intro xs
   induction xs with
   | nil=>intro _;exact ⟨[],rfl,rfl,fun y hy=>by cases hy⟩
   | cons n xs ih =>
    intro hn
    obtain ⟨y,hy,hq⟩:=h n (hn n (by simp))
    obtain ⟨l,k1,k2,k3⟩:=ih (fun m hm=>hn m (by simp [hm]))
    refine ⟨y::l,by rw [List.flatMap_cons,List.flatMap_cons,hy,k1],by simp [k2],fun z hz=>?_⟩
    rcases List.mem_cons.1 hz with rfl | hz
    ·
     exact hq
    ·
     exact k3 z hz
  obtain ⟨l,k1,k2,k3⟩:=key xs h3
  refine ⟨1,l,Okl.read,by decide,?_,by rw [k2];exact h1,k3⟩
  show [SL 1 e.sz (List.length xs) (List.flatMap e.Z8 xs)]=[_]
  unfold vs
  rw [sv1,k1,k2]
theorem aal {cs xs:List Value} (h:cs.length=xs.length):splice cs 0 xs=xs:=by
 unfold splice
 rw [List.take_zero,List.nil_append,Nat.zero_add,← h,List.drop_length,List.append_nil]
theorem af6 {k e n:Nat} {cs:List Value}:(sv k e n cs).oneCell'=true:=by unfold sv;split <;> rfl
theorem agF {α:Type} {f:α→List Value} {e k:Nat} {l:List α}:(vs f e k l).oneCell'=true:=af6
theorem afF {k:IntKind} {n:Int}:(Value.int k n).oneCell'=true:=rfl
theorem J7 {P:Program} {t:TypeId} {z xs:List Value} {x:Value} (S:zx) (hx:x.cells.toList=xs) (hs:qG P t=some z.length) (hl:xs.length=z.length) (h1:xs.all (·.oneCell')=true) :
  ∃ S2,wQ P t (.pointer (some ⟨S.next,0,none⟩)) x (S.push (.cells z (.own []) 0))=some (zh,S2)∧S2.get S.next=some (.cells xs (.own []) 0)∧Ext S S2∧S.next < S2.next:=by
 have hg:(S.push (.cells z (.own []) 0)).get S.next=some (.cells z (.own []) 0):=by rw [zx.jc,if_pos rfl]
 refine ⟨_,Zm hg hs (by rw [← Array.length_toList,hx,hl]) (by rw [hx];exact h1) (by simp),?_,(Ext.push S _).set (Nat.le_refl _) _,by simp [zx.kills]⟩
 rw [zx.jJ,if_pos rfl,hx,aal hl.symm]
theorem ZG {P:Program} {t:TypeId} {q o n:Nat} {cs:List Value} {e:Nat} {x:Value} {S S0:zx} (hg:S.get q=some (.cells cs (.own []) e)) (hs:qG P t=some n) (hn:x.cells.size=n) (h1:x.cells.toList.all (·.oneCell')=true) (hle:o+n≤cs.length) (hE:Ext S0 S) (hq:S0.next≤q) :
  ∃ S2,wQ P t (.pointer (some ⟨q,o,none⟩)) x S=some (zh,S2)∧S2.get q=some (.cells (splice cs o x.cells.toList) (.own []) e)∧Ext S0 S2∧S2.next=S.next∧∀ k,k≠q→S2.get k=S.get k:=by
 exact ⟨_,Zm hg hs hn h1 hle,by rw [zx.jJ,if_pos rfl],hE.set hq _,by simp [zx.kills],fun k hk=>by rw [zx.jJ,if_neg hk];rfl⟩
theorem aeO (x:Value) (S:zx):∃ S2,WR x S=some (.pointer (some ⟨S.next,0,none⟩),S2)∧S2.get S.next=some (.cells x.cells.toList (.own []) 0)∧Ext S S2∧S.next < S2.next :=
 ⟨_,rfl,by rw [zx.jc,if_pos rfl],Ext.push _ _,by simp⟩
end Go.Abs
namespace Go.Abs
open Go.RowKit
abbrev ms (q n:Nat):Value:=.slice (some ⟨q,0,none⟩) n n
theorem ag5 {k e n:Nat} {cs:List Value}:ZH (sv k e n cs)=false:=by unfold sv;split <;> rfl
theorem ag6 {α:Type} {f:α→List Value} {e k:Nat} {l:List α}:ZH (vs f e k l)=false:=ag5
theorem Xu {P:Program} {O:Ora} {g:FuncId} {args:List Value} {S:zx} {r:Option (Value×zx)} (h:zU P O g args S=r) (ha:args.all (fun x=>!kP x)=true):y5 (zU P O) g args S=r:=(adO ha).trans h
theorem QE {α:Type} {f:α→List Value} {e q:Nat} {l:List α} {rest:List Value} {anc:List Nat} {S:zx} (hf:∀ x,(f x).length=e) (hg:S.get q=some (.cells (l.flatMap f++rest) (.own anc) e)) :
  qR (ms q l.length) S=some (vs f e 1 l,S.set q .dead):=by
 have hl:=jO hf l
 have e0:qR (ms q l.length) S=qI (ms q l.length) S:=rfl
 rw [e0,aaj hg (by rw [List.length_append,hl];omega),List.drop_zero,← hl,List.take_left]
 rfl
theorem Qp {x y:Value} {args:List Value} {S S1:zx} (h:qR x S=some (y,S1)) (ha:args.all (fun x=>!kP x)=true):wS (x::args) S=some (y::args,S1):=by
 simp only [wS,h,xu ha]
theorem abd {x y x2 y2:Value} {args:List Value} {S S1 S2:zx} (h:qR x S=some (y,S1)) (h2:qR x2 S1=some (y2,S2)) (ha:args.all (fun x=>!kP x)=true):wS (x::x2::args) S=some (y::y2::args,S2):=by
 simp only [wS,h,h2,xu ha]
section
variable {P:Program} {O:Ora} {α:Type} {f:α→List Value} {e q:Nat} {l:List α} {rest:List Value} {anc:List Nat} {S:zx}
end
end Go.Abs
namespace Go.Abs
open Go.RowKit
def Fr (fp:List Nat) (S S1:zx):Prop:=S.next≤S1.next∧∀ p,p < S.next→p ∉ fp→S1.get p=S.get p
theorem Fr.refl (fp:List Nat) (S:zx):Fr fp S S:=⟨Nat.le_refl _,fun _ _ _=>rfl⟩
theorem Fr.ext {fp:List Nat} {S S1:zx} (h:Ext S S1):Fr fp S S1:=⟨h.next,fun p hp _=>h.get p hp⟩
theorem Fr.trans {fp fp2:List Nat} {S S1 S2:zx} (h:Fr fp S S1) (k:Fr fp2 S1 S2) (hs:∀ x ∈ fp2,x ∈ fp∨S.next≤x):Fr fp S S2:=⟨Nat.le_trans h.1 k.1,fun p hp hn=>by
 rw [k.2 p (Nat.lt_of_lt_of_le hp h.1) (fun hx=>(hs p hx).elim hn (fun h=>by omega)),h.2 p hp hn]⟩
theorem Fr.set {fp:List Nat} {S S1:zx} (h:Fr fp S S1) {r:Nat} (hr:r ∈ fp∨S.next≤r) (o:wY):Fr fp S (S1.set r o):=⟨h.1,fun p hp hn=>by
 rw [zx.jJ,if_neg (fun e=>by subst e;exact hr.elim hn (fun h=>by omega))];exact h.2 p hp hn⟩
theorem Fr.kills {fp:List Nat} {S S1:zx} (h:Fr fp S S1) {l:List Nat} (hl:∀ x ∈ l,x ∈ fp∨S.next≤x):Fr fp S (S1.kills l):=⟨by rw [zx.ZT];exact h.1,fun p hp hn=>by
 rw [zx.qZ,if_neg (fun e=>(hl p e).elim hn (fun h=>by omega))];exact h.2 p hp hn⟩
theorem Fr.push {fp:List Nat} {S S1:zx} (h:Fr fp S S1) (o:wY):Fr fp S (S1.push o):=⟨by simp;have:=h.1;omega,fun p hp hn=>by
 rw [zx.jc,if_neg (by have:=h.1;omega)];exact h.2 p hp hn⟩
def Many (S:zx) (x:Nat):Prop:=∀ cs own,S.get x≠some (.cells cs own 0)
def xM {α:Type} (f:α→List Value) (e:Nat) (S:zx) (a:Option Addr) (l:List α) (fp:List Nat):Prop :=
 (a=none∧l=[]∧fp=[])∨∃ r anc rest,a=some ⟨r,0,none⟩∧fp=r::anc∧S.get r=some (.cells (l.flatMap f++rest) (.own anc) e)∧∀ x ∈ fp,x < S.next∧Many S x
theorem ZK {A B C D:List Value} {o:Nat} (h:o=A.length) (hl:B.length=C.length):splice (A++(B++D)) o C=A++(C++D):=by
 subst h
 unfold splice
 rw [List.take_left,← hl,List.drop_append,List.drop_eq_nil_of_le (by omega),List.nil_append,show A.length+B.length - A.length=B.length by omega,List.drop_left,List.append_assoc]
section
variable {α:Type} {f:α→List Value} {e:Nat} {S S1:zx} {a:Option Addr} {l:List α} {fp:List Nat}
theorem xM.keep (h:xM f e S a l fp) (hn:S.next≤S1.next) (hk:∀ x ∈ fp,S1.get x=S.get x):xM f e S1 a l fp:=by
 rcases h with h | ⟨r,anc,rest,h1,h2,h3,h4⟩
 ·
  exact .inl h
 ·
  refine .inr ⟨r,anc,rest,h1,h2,by rw [hk r (by rw [h2];simp)];exact h3,fun x hx=>⟨Nat.lt_of_lt_of_le (h4 x hx).1 hn,fun cs own=>by rw [hk x hx];exact (h4 x hx).2 cs own⟩⟩
theorem xM.lt (h:xM f e S a l fp):∀ x ∈ fp,x < S.next:=by
 rcases h with ⟨_,_,rfl⟩ | ⟨r,anc,rest,h1,h2,h3,h4⟩
 ·
  intro x hx;cases hx
 ·
  exact fun x hx=>(h4 x hx).1
theorem xM.many (h:xM f e S a l fp):∀ x ∈ fp,Many S x:=by
 rcases h with ⟨_,_,rfl⟩ | ⟨r,anc,rest,h1,h2,h3,h4⟩
 ·
  intro x hx;cases hx
 ·
  exact fun x hx=>(h4 x hx).2
theorem xM.ext (h:xM f e S a l fp) (k:Ext S S1):xM f e S1 a l fp:=h.keep k.next fun x hx=>k.get x (h.lt x hx)
theorem xM.fr {fp2:List Nat} (h:xM f e S a l fp) (k:Fr fp2 S S1) (hd:∀ x ∈ fp,x ∉ fp2):xM f e S1 a l fp:=h.keep k.1 fun x hx=>k.2 x (h.lt x hx) (hd x hx)
theorem xM.ag1 (h:xM f e S a l fp) {p:Nat} {cs:List Value} {own:Own} (hp:S.get p=some (.cells cs own 0)):p ∉ fp:=fun hx=>h.many p hx cs own hp
theorem xM.take (h:xM f e S a l fp) (n:Nat):xM f e S a (l.take n) fp:=by
 rcases h with ⟨h1,h2,h3⟩ | ⟨r,anc,rest,h1,h2,h3,h4⟩
 ·
  exact .inl ⟨h1,by rw [h2,List.take_nil],h3⟩
 ·
  refine .inr ⟨r,anc,(l.drop n).flatMap f++rest,h1,h2,?_,h4⟩
  rw [h3,← List.append_assoc,← List.flatMap_append,List.take_append_drop]
theorem Jl {x r:Nat} {cs:List Value} {own:Own} (he:e≠0) (h:Many S x):Many (S.set r (.cells cs own e)) x:=fun cs' own'=>by
 rw [zx.jJ]
 split
 ·
  intro hx;simp only [Option.some.injEq,wY.cells.injEq] at hx;exact he hx.2.2
 ·
  exact h cs' own'
theorem ZI {x:Nat} {l:List Nat} (h:Many S x):Many (S.kills l) x:=fun cs' own'=>by
 rw [zx.qZ]
 split
 ·
  intro hx;simp at hx
 ·
  exact h cs' own'
theorem aa0 {x:Nat} {cs:List Value} {own:Own} (he:e≠0) (h:Many S x):Many (S.push (.cells cs own e)) x:=fun cs' own'=>by
 rw [zx.jc]
 split
 ·
  intro hx;simp only [Option.some.injEq,wY.cells.injEq] at hx;exact he hx.2.2
 ·
  exact h cs' own'
variable {P:Program} {t te tx:TypeId} {z:Value} {bytes:Nat}
theorem xM.append (u:P.underlying t=some (.slice te)) (us:qG P te=some e) (hz:zeroOf P te=some z) (hzs:z.cells.size=e) (hb:bytesOf P te=some bytes) (hpos:0 < e) (hf:∀ x,(f x).length=e) (h1:∀ x,(f x).all (·.oneCell')=true)
  (hd:xM f e S a l fp) {x:Value} {b:List α} (hsrc:Jj P tx e x S=some (b.length,b.flatMap f)) (hm:(l.length+b.length) * bytes≤140737488355328) (hm2:l.length+b.length≤4611686018427387903) :
  ∃ a' S1 fp',wV P true t tx (.slice a l.length l.length) x S=some (.slice a' (l++b).length (l++b).length,S1)∧xM f e S1 a' (l++b) fp'∧(∀ x ∈ fp',x ∈ fp∨S.next≤x)∧Fr fp S S1:=by
 have hone:∀ l:List α,(l.flatMap f).all (·.oneCell')=true:=by
  intro l
  rw [List.all_flatMap,List.all_eq_true]
  exact fun x _=>h1 x
 have he:e≠0:=by omega
 rcases hd with ⟨rfl,rfl,rfl⟩ | ⟨r,anc,rest,rfl,rfl,k2,k3⟩
 ·
  have e1:=Vu (t:=t) (tx:=tx) (S:=S) u us hz hzs hb hpos hsrc (by simpa using hm) (by simpa using hm2)
  by_cases h0:b.length=0
  ·
   have hb:b=[]:=List.length_eq_zero_iff.1 h0
   subst hb
   exact ⟨none,S,[],e1,.inl ⟨rfl,rfl,rfl⟩,(fun x hx=>by cases hx),Fr.refl _ _⟩
  ·
   rw [if_neg h0,if_neg h0] at e1
   refine ⟨some ⟨S.next,0,none⟩,_,[S.next],e1,.inr ⟨S.next,[],[],rfl,rfl,?_,fun x hx=>?_⟩,(fun x hx=>by simp at hx;omega),(Fr.refl _ _).push _⟩
   ·
    rw [zx.jc,if_pos rfl,List.append_nil,List.nil_append]
   ·
    simp only [List.mem_singleton] at hx
    subst hx
    refine ⟨by simp,fun cs own=>?_⟩
    rw [zx.jc,if_pos rfl]
    intro hx;simp only [Option.some.injEq,wY.cells.injEq] at hx;exact he hx.2.2
 ·
  have hlen:(l.flatMap f).length=l.length * e:=jO hf l
  have htk:((l.flatMap f++rest).drop 0).take (l.length * e)=l.flatMap f:=by rw [List.drop_zero,← hlen,List.take_left]
  have e1:=ZP (hp:=true) (t:=t) (tx:=tx) (o:=0) (n:=l.length) (c:=l.length) u us hz hzs hb hpos hsrc k2 (by rw [List.length_append,hlen];omega) hm hm2 (by rw [htk];exact hone l)
  rw [htk,← List.length_append] at e1
  have hnew:∀ {S2:zx} {cs:List Value} {own:Own},Many (S2.push (.cells cs own e)) S2.next:=fun {S2 cs own} cs' own'=>by
   rw [zx.jc,if_pos rfl]
   intro hx;simp only [Option.some.injEq,wY.cells.injEq] at hx;exact he hx.2.2
  by_cases h0:0+l.length * e=(l.flatMap f++rest).length
  ·
   rw [if_pos h0] at e1
   refine ⟨some ⟨S.next,0,none⟩,_,_,e1,.inr ⟨S.next,_,[],rfl,rfl,by rw [zx.jc,zx.xw,if_pos rfl,List.append_nil,List.flatMap_append],fun x hx=>?_⟩,fun x hx=>?_,((Fr.refl _ _).set (.inl (by simp)) _).push _⟩
   ·
    rcases List.mem_cons.1 hx with rfl | hx
    ·
     exact ⟨by simp,hnew (S2:=S.set r (.cells (l.flatMap f++rest) .ro e))⟩
    ·
     have hx:x ∈ r::anc:=by
      split at hx
      ·
       cases hx
      ·
       exact hx
     exact ⟨by have:=(k3 x hx).1;simp;omega,aa0 he (Jl he (k3 x hx).2)⟩
   ·
    rcases List.mem_cons.1 hx with rfl | hx
    ·
     exact .inr (Nat.le_refl _)
    ·
     left
     split at hx
     ·
      cases hx
     ·
      exact hx
  ·
   rw [if_neg h0] at e1
   refine ⟨some ⟨S.next,0,none⟩,_,[S.next],e1,.inr ⟨S.next,[],[],rfl,rfl,by rw [zx.jc,zx.xw,zx.ZT,if_pos rfl,List.append_nil,List.flatMap_append],fun x hx=>?_⟩,fun x hx=>?_,(((Fr.refl _ _).kills (l:=anc) (fun x hx=>.inl (by simp [hx]))).set (.inl (by simp)) _).push _⟩
   ·
    simp only [List.mem_singleton] at hx
    subst hx
    exact ⟨by simp,by have:=hnew (S2:=(S.kills anc).set r .dead) (cs:=l.flatMap f++b.flatMap f) (own:=.own []);rwa [zx.xw,zx.ZT] at this⟩
   ·
    simp only [List.mem_singleton] at hx
    exact .inr (by omega)
theorem xM.aeb (hf:∀ x,(f x).length=e) {x:α} {pre suf:List α} {rest:List Value}:(((pre++x::suf).flatMap f++rest).drop (0+pre.length * e)).take e=f x:=by
 rw [List.flatMap_append,List.flatMap_cons,List.append_assoc,List.append_assoc,Nat.zero_add,← jO hf pre,List.drop_left,← hf x,List.take_left]
theorem xM.load (g:yV P te=some true) (us:qG P te=some e) (hf:∀ x,(f x).length=e) (hdm:∀ x,(f x).map qF=f x) {r:Nat} {own:Own} {x:α} {pre suf:List α} {rest:List Value} (hg:S.get r=some (.cells ((pre++x::suf).flatMap f++rest) own e)) :
  zZ P false te (.pointer (some ⟨r,0+pre.length * e,none⟩)) S=some (.agg (f x).toArray,S):=by
 have hle:0+pre.length * e+e≤((pre++x::suf).flatMap f++rest).length:=by
  rw [List.length_append,jO hf,List.length_append,List.length_cons,Nat.add_mul,Nat.add_mul];omega
 rw [YK hg g us hle,aeb hf]
 simp only [List.map_toArray,hdm]
theorem xM.put (us:qG P te=some e) (hf:∀ x,(f x).length=e) (h1:∀ x,(f x).all (·.oneCell')=true) (he:e≠0) {r:Nat} {anc:List Nat} {x y:α} {pre suf:List α} {rest:List Value} (hg:S.get r=some (.cells ((pre++x::suf).flatMap f++rest) (.own anc) e))
  (hx:∀ k ∈ r::anc,k < S.next∧Many S k) :
  ∃ S1,wQ P te (.pointer (some ⟨r,0+pre.length * e,none⟩)) (.agg (f y).toArray) S=some (zh,S1)∧S1.get r=some (.cells ((pre++y::suf).flatMap f++rest) (.own []) e)∧S1.next=S.next∧Fr (r::anc) S S1∧Many S1 r:=by
 have hle:0+pre.length * e+e≤((pre++x::suf).flatMap f++rest).length:=by
  rw [List.length_append,jO hf,List.length_append,List.length_cons,Nat.add_mul,Nat.add_mul];omega
 have hs:splice ((pre++x::suf).flatMap f++rest) (0+pre.length * e) (f y)=(pre++y::suf).flatMap f++rest:=by
  rw [List.flatMap_append,List.flatMap_cons,List.append_assoc,List.append_assoc,ZK (by rw [jO hf,Nat.zero_add]) (by rw [hf,hf]),List.flatMap_append,List.flatMap_cons,List.append_assoc,List.append_assoc]
 have:=Zm (P:=P) (t:=te) (o:=0+pre.length * e) (n:=e) (x:=.agg (f y).toArray) hg us (by rw [qV,List.size_toArray,hf]) (by rw [qV];exact h1 y) hle
 refine ⟨_,this,?_,by simp,((Fr.refl _ _).kills (fun k hk=>.inl (by simp [hk]))).set (.inl (by simp)) _,?_⟩
 ·
  rw [zx.jJ,if_pos rfl,qV]
  show some (wY.cells (splice _ _ (f y)) _ _)=_
  rw [hs]
 ·
  refine Jl he (ZI (hx r (by simp)).2)
theorem xM.clear (u:P.underlying t=some (.slice te)) (us:qG P te=some e) (hz:zeroOf P te=some z) (hgz:ground z=true) (hzs:z.cells.size=e) (hz1:z.cells.toList.all (·.oneCell')=true) (hpos:0 < e) (hf:∀ x,(f x).length=e)
  {r:Nat} {anc:List Nat} {pre suf:List α} {rest:List Value} (hg:S.get r=some (.cells ((pre++suf).flatMap f++rest) (.own anc) e)) (hn:suf.length≠0) (hx:∀ k ∈ r::anc,k < S.next∧Many S k) (c:Nat) :
  ∃ S1 rest1,QK P t (.slice (some ⟨r,0+pre.length * e,none⟩) suf.length c) S=some (zh,S1)∧S1.get r=some (.cells (pre.flatMap f++rest1) (.own []) e)∧S1.next=S.next∧Fr (r::anc) S S1∧Many S1 r:=by
 have hel:yj P t=some te:=by simp only [yj,u]
 have hle:0+pre.length * e+suf.length * e≤((pre++suf).flatMap f++rest).length:=by
  rw [List.length_append,jO hf,List.length_append,Nat.add_mul];omega
 have hs:splice ((pre++suf).flatMap f++rest) (0+pre.length * e) (zl z.cells.toList suf.length)=pre.flatMap f++(zl z.cells.toList suf.length++rest):=by
  rw [List.flatMap_append,List.append_assoc,ZK (by rw [jO hf,Nat.zero_add]) (by rw [acE,jO hf,show z.cells.toList.length=e from hzs])]
 refine ⟨(S.kills anc).set r (.cells (splice ((pre++suf).flatMap f++rest) (0+pre.length * e) (zl z.cells.toList suf.length)) (.own []) e),zl z.cells.toList suf.length++rest,?_,by rw [zx.jJ,if_pos rfl,hs],by simp,((Fr.refl _ _).kills (fun k hk=>.inl (by simp [hk]))).set (.inl (by simp)) _,Jl (by omega) (ZI (hx r (by simp)).2)⟩
 simp only [QK,kY,hel,us,hz,hg]
 rw [if_neg hn,if_pos hgz,if_pos hzs,if_pos hz1,if_pos hpos,if_pos hle]
end
end Go.Abs
namespace Go.Proofs.Ytgggklfbhmlapaa
open Go.Abs
abbrev zI.id:FuncId:=22
noncomputable def zI.code:Code:=(.seq (.region 0 (reg Try.f22 0) false) (.seq (.region 1 (reg Try.f22 1) false) (.seq (.seq (.region 2 (reg Try.f22 2) false) (.cond (.tmp 16) (.seq (.region 3 (reg Try.f22 3) false) Code.ret) Code.skip)) (.seq (.region 4 (reg Try.f22 4) false) (.seq (.region 5 (reg Try.f22 5) true) (.seq (.seq (.region 6 (reg Try.f22 6) false) (.cond (.tmp 43) (.seq (.region 7 (reg Try.f22 7) false) Code.ret) Code.skip)) (.seq (.region 8 (reg Try.f22 8) false) Code.ret)))))))
theorem zI.body:Try.f22.body=some zI.code:=by kernel_rfl
variable (U x1 X x3 a Y V W Z x9 c d f g i k l m n o p q r s t u w x y z A B C D E F G H I J K L M N P Q:Value) (S:zx)
theorem zI.r0 :jl zi ⟨false,false,false⟩ (zU zi O) (reg Try.f22 0) (reg Try.f22 0).toList ([U,x1,X,x3,a,Y,V,W,Z,x9,c,d,f,g,i,k,l,m,n,o,p,q,r,s,t,u,w,x,y,z,A,B,C,D,E,F,G,H,I,J,K,L,M,N,P,Q]) S =
  (zO (yU zi 29 S) (fun v0 R=>some ([U,x1,v0,.int .i64 0,a,Y,V,W,Z,x9,c,d,f,g,i,k,l,m,n,o,p,q,r,s,t,u,w,x,y,z,A,B,C,D,E,F,G,H,I,J,K,L,M,N,P,Q],R)) ()):=by
 kernel_rfl
theorem zI.r1 :jl zi ⟨false,false,false⟩ (zU zi O) (reg Try.f22 1) (reg Try.f22 1).toList ([U,x1,X,x3,a,Y,V,W,Z,x9,c,d,f,g,i,k,l,m,n,o,p,q,r,s,t,u,w,x,y,z,A,B,C,D,E,F,G,H,I,J,K,L,M,N,P,Q]) S =
  (zO ((zU zi O) 33 [(dem (dem U)),(.int .i64 4)] S) (fun b R=>zO (zG b 0 R) (fun v3 S2=>zO (zG (zL 0 b) 1 S2) (fun v4 S3=>zO (zG (zL 1 (zL 0 b)) 2 S3) (fun v5 S4=>some ([U,x1,X,x3,v3,v4,v5,W,Z,zL 2 (zL 1 (zL 0 b)),dem U,dem b,dem v3,dem v4,dem v5,k,l,m,n,o,p,q,r,s,t,u,w,x,y,z,A,B,C,D,E,F,G,H,I,J,K,L,M,N,P,Q],S4)) ()) ()) ()) ()):=by
 kernel_rfl
theorem zI.r2 :jl zi ⟨false,false,false⟩ (zU zi O) (reg Try.f22 2) (reg Try.f22 2).toList ([U,x1,X,x3,a,Y,V,W,Z,x9,c,d,f,g,i,k,l,m,n,o,p,q,r,s,t,u,w,x,y,z,A,B,C,D,E,F,G,H,I,J,K,L,M,N,P,Q]) S =
  (zO (wE zi BinOp.neq 34 (dem V) (.int .i64 0) S) (fun b R=>some ([U,x1,X,x3,a,Y,V,W,Z,x9,c,d,f,g,i,dem V,b,m,n,o,p,q,r,s,t,u,w,x,y,z,A,B,C,D,E,F,G,H,I,J,K,L,M,N,P,Q],R)) ()):=by
 kernel_rfl
theorem zI.r3 :jl zi ⟨false,false,false⟩ (zU zi O) (reg Try.f22 3) (reg Try.f22 3).toList ([U,x1,X,x3,a,Y,V,W,Z,x9,c,d,f,g,i,k,l,m,n,o,p,q,r,s,t,u,w,x,y,z,A,B,C,D,E,F,G,H,I,J,K,L,M,N,P,Q]) S =
  (zO (wX zi 29 [] S) (fun v0 R=>zO (wQ zi 29 X (dem v0) R) (fun b S2=>some ([U,x1,X,.int .i64 71,a,Y,V,W,Z,x9,c,d,f,g,i,k,l,v0,n,o,p,q,r,s,t,u,w,x,y,z,A,B,C,D,E,F,G,H,I,J,K,L,M,N,P,Q],S2)) ()) ()):=by
 kernel_rfl
theorem zI.r4 :jl zi ⟨false,false,false⟩ (zU zi O) (reg Try.f22 4) (reg Try.f22 4).toList ([U,x1,X,x3,a,Y,V,W,Z,x9,c,d,f,g,i,k,l,m,n,o,p,q,r,s,t,u,w,x,y,z,A,B,C,D,E,F,G,H,I,J,K,L,M,N,P,Q]) S =
  (zO ((zU zi O) 34 [(dem (dem Y))] S) (fun b R=>zO (zG b 0 R) (fun v3 S2=>zO (zG (zL 0 b) 1 S2) (fun v4 S3=>some ([U,x1,X,x3,a,Y,v4,v3,Z,x9,c,d,f,g,i,k,l,m,zL 1 (zL 0 b),dem Y,dem b,dem v3,dem v4,s,t,u,w,x,y,z,A,B,C,D,E,F,G,H,I,J,K,L,M,N,P,Q],S3)) ()) ()) ()):=by
 kernel_rfl
theorem zI.d5:qY zi (reg Try.f22 5)=true:=by kernel_rfl
theorem zI.ff5:fixed zi (reg Try.f22 5)=false:=by kernel_rfl
theorem zI.k5:checked zi (reg Try.f22 5)=[0,1,2,3,4,5,6,7,8,9,10,11,12,13]:=by kernel_rfl
theorem zI.g5:again zi (reg Try.f22 5)=[(2,14),(5,14),(8,14),(11,14)]:=by kernel_rfl
theorem zI.r5 :zD zi O false (.region 5 (reg Try.f22 5) true) ([U,x1,X,x3,a,Y,V,W,Z,x9,c,d,f,g,i,k,l,m,n,o,p,q,r,s,t,u,w,x,y,z,A,B,C,D,E,F,G,H,I,J,K,L,M,N,P,Q]) S =
  Q9 (okK a ( zO (zV zi 53 (dem a) (.int .i64 0) S) (fun b R=>okK b ( zO (zZ zi false 3 b R) (fun v2 S2=>okK v2 ( okK a ( zO (zV zi 53 (dem a) (.int .i64 1) S2) (fun v4 S3=>okK v4 ( zO (zZ zi false 3 v4 S3) (fun v5 S4=>okK v5 ( okK a ( zO (zV zi 53 (dem a) (.int .i64 2) S4) (fun v7 S5=>okK v7 ( zO (zZ zi false 3 v7 S5) (fun v8 S6=>okK v8 ( okK a ( zO (zV zi 53 (dem a) (.int .i64 3) S6) (fun a0 S7=>okK a0 ( zO (zZ zi false 3 a0 S7) (fun a2 S8=>okK a2 ( okK W ( zO (wX zi 29 [(0,(dem v2)),(1,(dem v5)),(2,(dem v8)),(3,(dem a2)),(4,(dem (dem W)))] S8) (fun a3 S9=>okK a3 ( zO (yU zi 29 S9) (fun a4 a1=>zO (wQ zi 29 a4 (dem a3) a1) (fun a6 a5=>ckK (yM b R a1 && (yM v4 S3 a1 && (yM v7 S5 a1 && (yM a0 S7 a1 && (true))))) (some ([U,x1,X,x3,a,Y,V,W,a4,x9,c,d,f,g,i,k,l,m,n,o,p,q,r,dem a,b,v2,dem a,v4,v5,dem a,v7,v8,dem a,a0,a2,dem W,a3,H,I,J,K,L,M,N,P,Q],a5)) ()) ()) ()) ()) ()) ()) ()) ()) ()) ()) ()) ()) ()) ()) ()) ()) ()) ()) ()) ()) ()) ()) ()) ()) ()) ()):=by
 rw [kJ zI.d5 zI.ff5 zI.k5 zI.g5]
 refine congrArg Q9 ?_
 refine uPC Try.f22 5 0 (v:=a) (pe:=zh) ?_
 refine uDC Try.f22 5 1 (pe:=zh) (fun b R=>?_)
 refine uDC Try.f22 5 2 (pe:=b) (fun v2 S2=>?_)
 refine uPC Try.f22 5 3 (v:=a) (pe:=zh) ?_
 refine uDC Try.f22 5 4 (pe:=zh) (fun v4 S3=>?_)
 refine uDC Try.f22 5 5 (pe:=v4) (fun v5 S4=>?_)
 refine uPC Try.f22 5 6 (v:=a) (pe:=zh) ?_
 refine uDC Try.f22 5 7 (pe:=zh) (fun v7 S5=>?_)
 refine uDC Try.f22 5 8 (pe:=v7) (fun v8 S6=>?_)
 refine uPC Try.f22 5 9 (v:=a) (pe:=zh) ?_
 refine uDC Try.f22 5 10 (pe:=zh) (fun a0 S7=>?_)
 refine uDC Try.f22 5 11 (pe:=a0) (fun a2 S8=>?_)
 refine uPC Try.f22 5 12 (v:=W) (pe:=zh) ?_
 refine uDC Try.f22 5 13 (pe:=zh) (fun a3 S9=>?_)
 refine uD Try.f22 5 14 (pe:=zh) (fun a4 a1=>?_)
 refine uD Try.f22 5 15 (pe:=zh) (fun a6 a5=>?_)
 kernel_rfl
theorem zI.r6 :jl zi ⟨false,false,false⟩ (zU zi O) (reg Try.f22 6) (reg Try.f22 6).toList ([U,x1,X,x3,a,Y,V,W,Z,x9,c,d,f,g,i,k,l,m,n,o,p,q,r,s,t,u,w,x,y,z,A,B,C,D,E,F,G,H,I,J,K,L,M,N,P,Q]) S =
  (zO (wE zi BinOp.neq 34 (dem V) (.int .i64 0) S) (fun b R=>gdK (dem b) false (zZ zi false 29 Z) R (fun v3 S2=>gdK (dem b) false ((zU zi O) 14 [(dem v3)]) S2 (fun v4 S3=>gdK (dem b) false (aUn zi UnOp.not v4) S3 (fun v5 S4=>zO (yX (dem b) (Value.bool true) v5 S4) (fun v6 S5=>some ([U,x1,X,x3,a,Y,V,W,Z,x9,c,d,f,g,i,k,l,m,n,o,p,q,r,s,t,u,w,x,y,z,A,B,C,D,E,F,G,dem V,b,dem b,v3,v4,v5,v6,P,Q],S5)) ()) ()) ()) ()) ()):=by
 refine sP Try.f22 6 0 (v:=V) ?_
 refine sD Try.f22 6 1 (fun b R=>?_)
 refine sP Try.f22 6 2 (v:=b) ?_
 refine sG Try.f22 6 3 (j:=2) (fun v3 S2=>?_)
 refine sG Try.f22 6 4 (j:=2) (fun v4 S3=>?_)
 refine sG Try.f22 6 5 (j:=2) (fun v5 S4=>?_)
 refine sD Try.f22 6 6 (fun v6 S5=>?_)
 kernel_rfl
theorem zI.r7 :jl zi ⟨false,false,false⟩ (zU zi O) (reg Try.f22 7) (reg Try.f22 7).toList ([U,x1,X,x3,a,Y,V,W,Z,x9,c,d,f,g,i,k,l,m,n,o,p,q,r,s,t,u,w,x,y,z,A,B,C,D,E,F,G,H,I,J,K,L,M,N,P,Q]) S =
  (zO (wX zi 29 [] S) (fun v0 R=>zO (wQ zi 29 X (dem v0) R) (fun b S2=>some ([U,x1,X,.int .i64 71,a,Y,V,W,Z,x9,c,d,f,g,i,k,l,m,n,o,p,q,r,s,t,u,w,x,y,z,A,B,C,D,E,F,G,H,I,J,K,L,M,N,v0,Q],S2)) ()) ()):=by
 kernel_rfl
theorem zI.r8 :jl zi ⟨false,false,false⟩ (zU zi O) (reg Try.f22 8) (reg Try.f22 8).toList ([U,x1,X,x3,a,Y,V,W,Z,x9,c,d,f,g,i,k,l,m,n,o,p,q,r,s,t,u,w,x,y,z,A,B,C,D,E,F,G,H,I,J,K,L,M,N,P,Q]) S =
  (zO (zZ zi false 29 Z S) (fun v0 R=>zO (wQ zi 29 X (dem v0) R) (fun b S2=>some ([U,x1,X,.int .i64 0,a,Y,V,W,Z,x9,c,d,f,g,i,k,l,m,n,o,p,q,r,s,t,u,w,x,y,z,A,B,C,D,E,F,G,H,I,J,K,L,M,N,P,v0],S2)) ()) ()):=by
 kernel_rfl
theorem zI.rs:type_of% (ahs @zI.r0 (ahs @zI.r1 (ahs @zI.r2 (ahs @zI.r3 (ahs @zI.r4 (ahs @zI.r5 (ahs @zI.r6 (ahs @zI.r7 (@zI.r8))))))))):=ahs @zI.r0 (ahs @zI.r1 (ahs @zI.r2 (ahs @zI.r3 (ahs @zI.r4 (ahs @zI.r5 (ahs @zI.r6 (ahs @zI.r7 (@zI.r8))))))))
theorem zI.runs {U:Value} {S R:zx} {e:AEx} {T:List Value} (h:zD zi O false zI.code ([U,zh,zh,zh,zh,zh,zh,zh,zh,zh,zh,zh,zh,zh,zh,zh,zh,zh,zh,zh,zh,zh,zh,zh,zh,zh,zh,zh,zh,zh,zh,zh,zh,zh,zh,zh,zh,zh,zh,zh,zh,zh,zh,zh,zh,zh]) zx.empty=some (e,T,R)) (he:e=.normal∨e=.ret) {w0:Value} (c0:zZ zi false 29 (T.getD 2 zh) R=some (w0,R)) (h0:jG (w0)=true) (h1:jG (T.getD 3 zh)=true) (hca:[U].all (zX 16)=true) (hcv:zX 16 (Value.tuple #[w0,T.getD 3 zh])=true):zU zi O 22 [U] S=some (Value.tuple #[w0,T.getD 3 zh],S) :=
 yK rfl rfl Try.func22 (by decide) zI.body (by exact h) he ((qh ((show zJ zi T R Try.f22.results.toList=zJ zi T R [(ResultVar.cell 2 29),(ResultVar.tmp 3)] from by kernel_rfl).trans (by simp only [zJ,c0])) (by kernel_rfl) (by simp only [List.all_cons,List.all_nil,h0,h1,Bool.and_true])).trans rfl) hca hcv
end Go.Proofs.Ytgggklfbhmlapaa
namespace Go.Proofs.Ytgggklfbhmlapaa
open Go.Abs
abbrev zW.id:FuncId:=20
noncomputable def zW.code:Code:=(.seq (.region 0 (reg Try.f20 0) false) (.seq (.region 1 (reg Try.f20 1) false) Code.ret))
theorem zW.body:Try.f20.body=some zW.code:=by kernel_rfl
variable (g i k l x4 x5 x6 x7 x8 x9 o p q r s t u w x y z A B C D E F G H I J K L M N P Q R:Value) (S:zx)
theorem zW.r0 :jl zi ⟨false,false,false⟩ (zU zi O) (reg Try.f20 0) (reg Try.f20 0).toList ([g,i,k,l,x4,x5,x6,x7,x8,x9,o,p,q,r,s,t,u,w,x,y,z,A,B,C,D,E,F,G,H,I,J,K,L,M,N,P,Q,R]) S =
  (zO (WR (dem g) S) (fun U m=>zO (WR (dem i) m) (fun V S2=>some ([g,i,U,V,Value.bool false,x5,x6,x7,x8,x9,o,p,q,r,s,t,u,w,x,y,z,A,B,C,D,E,F,G,H,I,J,K,L,M,N,P,Q,R],S2)) ()) ()):=by
 kernel_rfl
theorem zW.r1 :jl zi ⟨false,false,false⟩ (zU zi O) (reg Try.f20 1) (reg Try.f20 1).toList ([g,i,k,l,x4,x5,x6,x7,x8,x9,o,p,q,r,s,t,u,w,x,y,z,A,B,C,D,E,F,G,H,I,J,K,L,M,N,P,Q,R]) S =
  (zO (zM zi 29 k 0 S) (fun U m=>zO (zZ zi false 3 U m) (fun V S2=>zO (zM zi 29 l 0 S2) (fun v2 S3=>zO (zZ zi false 3 v2 S3) (fun v3 S4=>zO (wE zi BinOp.eql 3 V v3 S4) (fun f S5=>gdK (dem f) true (zM zi 29 k 1) S5 (fun v6 S6=>gdK (dem f) true (zZ zi false 3 v6) S6 (fun v7 S7=>gdK (dem f) true (zM zi 29 l 1) S7 (fun v8 S8=>gdK (dem f) true (zZ zi false 3 v8) S8 (fun v9 S9=>gdK (dem f) true (wE zi BinOp.eql 3 v7 v9) S9 (fun W b2=>zO (yX (dem f) W (Value.bool false) b2) (fun b b3=>gdK (dem b) true (zM zi 29 k 2) b3 (fun X b4=>gdK (dem b) true (zZ zi false 3 X) b4 (fun Y b5=>gdK (dem b) true (zM zi 29 l 2) b5 (fun Z b6=>gdK (dem b) true (zZ zi false 3 Z) b6 (fun a0 b7=>gdK (dem b) true (wE zi BinOp.eql 3 Y a0) b7 (fun a1 b8=>zO (yX (dem b) a1 (Value.bool false) b8) (fun c b9=>gdK (dem c) true (zM zi 29 k 3) b9 (fun a2 c0=>gdK (dem c) true (zZ zi false 3 a2) c0 (fun a3 c1=>gdK (dem c) true (zM zi 29 l 3) c1 (fun a4 c2=>gdK (dem c) true (zZ zi false 3 a4) c2 (fun a5 c3=>gdK (dem c) true (wE zi BinOp.eql 3 a3 a5) c3 (fun a6 c4=>zO (yX (dem c) a6 (Value.bool false) c4) (fun d c5=>gdK (dem d) true (zM zi 29 k 4) c5 (fun a7 c6=>gdK (dem d) true (zZ zi false 27 a7) c6 (fun a8 c7=>gdK (dem d) true (zM zi 29 l 4) c7 (fun a9 c8=>gdK (dem d) true (zZ zi false 27 a9) c8 (fun b0 c9=>gdK (dem d) true ((zU zi O) 31 [(dem a8),(dem b0)]) c9 (fun b1 d0=>zO (yX (dem d) b1 (Value.bool false) d0) (fun n d1=>some ([g,i,k,l,n,U,V,v2,v3,f,dem f,v6,v7,v8,v9,W,b,dem b,X,Y,Z,a0,a1,c,dem c,a2,a3,a4,a5,a6,d,dem d,a7,a8,a9,b0,b1,dem n],d1)) ()) ()) ()) ()) ()) ()) ()) ()) ()) ()) ()) ()) ()) ()) ()) ()) ()) ()) ()) ()) ()) ()) ()) ()) ()) ()) ()) ()) ()):=by
 refine sD Try.f20 1 0 (fun U m=>?_)
 refine sD Try.f20 1 1 (fun V S2=>?_)
 refine sD Try.f20 1 2 (fun v2 S3=>?_)
 refine sD Try.f20 1 3 (fun v3 S4=>?_)
 refine sD Try.f20 1 4 (fun f S5=>?_)
 refine sP Try.f20 1 5 (v:=f) ?_
 refine sG Try.f20 1 6 (j:=5) (fun v6 S6=>?_)
 refine sG Try.f20 1 7 (j:=5) (fun v7 S7=>?_)
 refine sG Try.f20 1 8 (j:=5) (fun v8 S8=>?_)
 refine sG Try.f20 1 9 (j:=5) (fun v9 S9=>?_)
 refine sG Try.f20 1 10 (j:=5) (fun W b2=>?_)
 refine sD Try.f20 1 11 (fun b b3=>?_)
 refine sP Try.f20 1 12 (v:=b) ?_
 refine sG Try.f20 1 13 (j:=12) (fun X b4=>?_)
 refine sG Try.f20 1 14 (j:=12) (fun Y b5=>?_)
 refine sG Try.f20 1 15 (j:=12) (fun Z b6=>?_)
 refine sG Try.f20 1 16 (j:=12) (fun a0 b7=>?_)
 refine sG Try.f20 1 17 (j:=12) (fun a1 b8=>?_)
 refine sD Try.f20 1 18 (fun c b9=>?_)
 refine sP Try.f20 1 19 (v:=c) ?_
 refine sG Try.f20 1 20 (j:=19) (fun a2 c0=>?_)
 refine sG Try.f20 1 21 (j:=19) (fun a3 c1=>?_)
 refine sG Try.f20 1 22 (j:=19) (fun a4 c2=>?_)
 refine sG Try.f20 1 23 (j:=19) (fun a5 c3=>?_)
 refine sG Try.f20 1 24 (j:=19) (fun a6 c4=>?_)
 refine sD Try.f20 1 25 (fun d c5=>?_)
 refine sP Try.f20 1 26 (v:=d) ?_
 refine sG Try.f20 1 27 (j:=26) (fun a7 c6=>?_)
 refine sG Try.f20 1 28 (j:=26) (fun a8 c7=>?_)
 refine sG Try.f20 1 29 (j:=26) (fun a9 c8=>?_)
 refine sG Try.f20 1 30 (j:=26) (fun b0 c9=>?_)
 refine sG Try.f20 1 31 (j:=26) (fun b1 d0=>?_)
 refine sD Try.f20 1 32 (fun n d1=>?_)
 refine sP Try.f20 1 33 (v:=n) ?_
 kernel_rfl
theorem zW.rs:type_of% (ahs @zW.r0 (@zW.r1)):=ahs @zW.r0 (@zW.r1)
theorem zW.runs {g i:Value} {S m:zx} {e:AEx} {T:List Value} (h:zD zi O false zW.code ([g,i,zh,zh,zh,zh,zh,zh,zh,zh,zh,zh,zh,zh,zh,zh,zh,zh,zh,zh,zh,zh,zh,zh,zh,zh,zh,zh,zh,zh,zh,zh,zh,zh,zh,zh,zh,zh]) zx.empty=some (e,T,m)) (he:e=.normal∨e=.ret) (hca:[g,i].all (zX 16)=true) (hcv:zX 16 (T.getD 4 zh)=true):zU zi O 20 [g,i] S=some (T.getD 4 zh,S) :=
 yK rfl rfl Try.func20 (by decide) zW.body (by exact h) he (yP (a:=T.getD 4 zh) ((show zJ zi T m Try.f20.results.toList=zJ zi T m [(ResultVar.tmp 4)] from by kernel_rfl).trans (by simp only [zJ])) (by kernel_rfl)) hca hcv
end Go.Proofs.Ytgggklfbhmlapaa
namespace Go.Proofs.Ytgggklfbhmlapaa
open Go.Abs
abbrev zT.id:FuncId:=16
noncomputable def zT.code:Code:=(.seq (.region 0 (reg Try.f16 0) false) (.seq (.seq (.region 1 (reg Try.f16 1) false) (.cond (.tmp 10) (.seq (.region 2 (reg Try.f16 2) false) Code.ret) Code.skip)) (.seq (.region 3 (reg Try.f16 3) false) (.seq (.region 4 (reg Try.f16 4) false) (.seq (.region 5 (reg Try.f16 5) false) Code.ret)))))
theorem zT.body:Try.f16.body=some zT.code:=by kernel_rfl
variable (a b K L B F C G H I c d f g i j k l m n o p q r s t u v w x y z A:Value) (S:zx)
theorem zT.r0 :jl zi ⟨false,false,false⟩ (zU zi O) (reg Try.f16 0) (reg Try.f16 0).toList ([a,b,K,L,B,F,C,G,H,I,c,d,f,g,i,j,k,l,m,n,o,p,q,r,s,t,u,v,w,x,y,z,A]) S =
  (zO (WR (dem a) S) (fun J D=>some ([a,J,Value.slice none 0 0,.int .i64 0,B,F,C,G,H,I,c,d,f,g,i,j,k,l,m,n,o,p,q,r,s,t,u,v,w,x,y,z,A],D)) ()):=by
 kernel_rfl
theorem zT.r1 :jl zi ⟨false,false,false⟩ (zU zi O) (reg Try.f16 1) (reg Try.f16 1).toList ([a,b,K,L,B,F,C,G,H,I,c,d,f,g,i,j,k,l,m,n,o,p,q,r,s,t,u,v,w,x,y,z,A]) S =
  (zO (zZ zi false 29 b S) (fun J D=>zO ((zU zi O) 14 [(dem J)] D) (fun M N=>zO (aUn zi UnOp.not M N) (fun E P=>some ([a,b,K,L,B,F,C,G,J,M,E,d,f,g,i,j,k,l,m,n,o,p,q,r,s,t,u,v,w,x,y,z,A],P)) ()) ()) ()):=by
 kernel_rfl
theorem zT.r2 :jl zi ⟨false,false,false⟩ (zU zi O) (reg Try.f16 2) (reg Try.f16 2).toList ([a,b,K,L,B,F,C,G,H,I,c,d,f,g,i,j,k,l,m,n,o,p,q,r,s,t,u,v,w,x,y,z,A]) S =
  ( some ([a,b,Value.slice none 0 0,.int .i64 71,B,F,C,G,H,I,c,d,f,g,i,j,k,l,m,n,o,p,q,r,s,t,u,v,w,x,y,z,A],S)):=by
 kernel_rfl
theorem zT.r3 :jl zi ⟨false,false,false⟩ (zU zi O) (reg Try.f16 3) (reg Try.f16 3).toList ([a,b,K,L,B,F,C,G,H,I,c,d,f,g,i,j,k,l,m,n,o,p,q,r,s,t,u,v,w,x,y,z,A]) S =
  (zO (zM zi 29 b 0 S) (fun J D=>zO (zZ zi false 3 J D) (fun M N=>zO (zM zi 29 b 1 N) (fun E P=>zO (zZ zi false 3 E P) (fun Z X=>zO (zM zi 29 b 2 X) (fun Q Y=>zO (zZ zi false 3 Q Y) (fun R S6=>zO (zM zi 29 b 3 S6) (fun v6 S7=>zO (zZ zi false 3 v6 S7) (fun v7 S8=>zO (jI zi 53 4 [(0,M),(1,Z),(2,R),(3,v7)] S8) (fun v8 S9=>zO ((zU zi O) 28 [(dem v8)] S9) (fun U a0=>zO (zG U 0 a0) (fun V a1=>zO (zG (zL 0 U) 1 a1) (fun W a2=>some ([a,b,K,L,V,W,C,G,H,I,c,zL 1 (zL 0 U),J,M,E,Z,Q,R,v6,v7,v8,dem U,dem V,dem W,s,t,u,v,w,x,y,z,A],a2)) ()) ()) ()) ()) ()) ()) ()) ()) ()) ()) ()) ()):=by
 kernel_rfl
theorem zT.r4 :jl zi ⟨false,false,false⟩ (zU zi O) (reg Try.f16 4) (reg Try.f16 4).toList ([a,b,K,L,B,F,C,G,H,I,c,d,f,g,i,j,k,l,m,n,o,p,q,r,s,t,u,v,w,x,y,z,A]) S =
  (zO (zM zi 29 b 4 S) (fun J D=>zO (zZ zi false 27 J D) (fun M N=>zO ((zU zi O) 27 [(dem M)] N) (fun E P=>zO (zG E 0 P) (fun Q X=>zO (zG (zL 0 E) 1 X) (fun R Y=>some ([a,b,K,L,B,F,Q,R,H,I,c,d,f,g,i,j,k,l,m,n,o,p,q,r,zL 1 (zL 0 E),J,M,dem E,dem Q,dem R,y,z,A],Y)) ()) ()) ()) ()) ()):=by
 kernel_rfl
theorem zT.r5 :jl zi ⟨false,false,false⟩ (zU zi O) (reg Try.f16 5) (reg Try.f16 5).toList ([a,b,K,L,B,F,C,G,H,I,c,d,f,g,i,j,k,l,m,n,o,p,q,r,s,t,u,v,w,x,y,z,A]) S =
  (zO (wu zi 33 33 B (dem C) S) (fun E D=>some ([a,b,E,.int .i64 0,dem B,F,C,G,H,I,c,d,f,g,i,j,k,l,m,n,o,p,q,r,s,t,u,v,w,x,dem B,dem C,dem E],D)) ()):=by
 kernel_rfl
theorem zT.rs:type_of% (ahs @zT.r0 (ahs @zT.r1 (ahs @zT.r2 (ahs @zT.r3 (ahs @zT.r4 (@zT.r5)))))):=ahs @zT.r0 (ahs @zT.r1 (ahs @zT.r2 (ahs @zT.r3 (ahs @zT.r4 (@zT.r5)))))
theorem zT.runs {a:Value} {S D:zx} {e:AEx} {T:List Value} (h:zD zi O false zT.code ([a,zh,zh,zh,zh,zh,zh,zh,zh,zh,zh,zh,zh,zh,zh,zh,zh,zh,zh,zh,zh,zh,zh,zh,zh,zh,zh,zh,zh,zh,zh,zh,zh]) zx.empty=some (e,T,D)) (he:e=.normal∨e=.ret)  (h0:jG (T.getD 2 zh)=true) (h1:jG (T.getD 3 zh)=true) (hca:[a].all (zX 16)=true) (hcv:zX 16 (Value.tuple #[T.getD 2 zh,T.getD 3 zh])=true):zU zi O 16 [a] S=some (Value.tuple #[T.getD 2 zh,T.getD 3 zh],S) :=
 yK rfl rfl Try.func16 (by decide) zT.body (by exact h) he ((qh ((show zJ zi T D Try.f16.results.toList=zJ zi T D [(ResultVar.tmp 2),(ResultVar.tmp 3)] from by kernel_rfl).trans (by simp only [zJ])) (by kernel_rfl) (by simp only [List.all_cons,List.all_nil,h0,h1,Bool.and_true])).trans rfl) hca hcv
end Go.Proofs.Ytgggklfbhmlapaa
namespace Go.Proofs.Ytgggklfbhmlapaa
open Go.Abs
abbrev zC.id:FuncId:=14
noncomputable def zC.code:Code:=(.seq (.region 0 (reg Try.f14 0) false) (.seq (.seq (.region 1 (reg Try.f14 1) false) (.cond (.tmp 20) (.seq (.region 2 (reg Try.f14 2) false) Code.ret) Code.skip)) (.seq (.seq (.region 3 (reg Try.f14 3) false) (.cond (.tmp 37) (.seq (.region 4 (reg Try.f14 4) false) Code.ret) Code.skip)) (.seq (.region 5 (reg Try.f14 5) false) (.seq (.region 6 (reg Try.f14 6) false) Code.ret)))))
theorem zC.body:Try.f14.body=some zC.code:=by kernel_rfl
variable (U b x2 X V Y Z x7 x8 x9 c d f g i k l m n o p q r s t u w x y z A B C D E F G H I J K L M N P Q:Value) (S:zx)
theorem zC.r0 :jl zi ⟨false,false,false⟩ (zU zi O) (reg Try.f14 0) (reg Try.f14 0).toList ([U,b,x2,X,V,Y,Z,x7,x8,x9,c,d,f,g,i,k,l,m,n,o,p,q,r,s,t,u,w,x,y,z,A,B,C,D,E,F,G,H,I,J,K,L,M,N,P,Q]) S =
  (zO (WR (dem U) S) (fun v0 W=>some ([U,v0,Value.bool false,X,V,Y,Z,x7,x8,x9,c,d,f,g,i,k,l,m,n,o,p,q,r,s,t,u,w,x,y,z,A,B,C,D,E,F,G,H,I,J,K,L,M,N,P,Q],W)) ()):=by
 kernel_rfl
theorem zC.r1 :jl zi ⟨false,false,false⟩ (zU zi O) (reg Try.f14 1) (reg Try.f14 1).toList ([U,b,x2,X,V,Y,Z,x7,x8,x9,c,d,f,g,i,k,l,m,n,o,p,q,r,s,t,u,w,x,y,z,A,B,C,D,E,F,G,H,I,J,K,L,M,N,P,Q]) S =
  (zO (zM zi 29 b 0 S) (fun v0 W=>zO (zZ zi false 3 v0 W) (fun v1 S2=>zO ((zU zi O) 26 [(dem v1),(.int .i64 1),(.int .i64 4095)] S2) (fun R S3=>zO (aUn zi UnOp.not R S3) (fun v3 S4=>gdK (dem v3) false (zM zi 29 b 1) S4 (fun v5 S5=>gdK (dem v3) false (zZ zi false 3 v5) S5 (fun v6 S6=>gdK (dem v3) false ((zU zi O) 26 [(dem v6),(.int .i64 0),(.int .i64 6)]) S6 (fun v7 S7=>gdK (dem v3) false (aUn zi UnOp.not v7) S7 (fun v8 S8=>zO (yX (dem v3) (Value.bool true) v8 S8) (fun v9 S9=>gdK (dem v9) false (zM zi 29 b 2) S9 (fun a0 a5=>gdK (dem v9) false (zZ zi false 3 a0) a5 (fun a1 a6=>gdK (dem v9) false ((zU zi O) 26 [(dem a1),(.int .i64 0),(.int .i64 255)]) a6 (fun a2 a7=>gdK (dem v9) false (aUn zi UnOp.not a2) a7 (fun a3 a8=>zO (yX (dem v9) (Value.bool true) a3 a8) (fun a4 a9=>some ([U,b,x2,X,V,v0,v1,R,v3,dem v3,v5,v6,v7,v8,v9,dem v9,a0,a1,a2,a3,a4,q,r,s,t,u,w,x,y,z,A,B,C,D,E,F,G,H,I,J,K,L,M,N,P,Q],a9)) ()) ()) ()) ()) ()) ()) ()) ()) ()) ()) ()) ()) ()) ()):=by
 refine sD Try.f14 1 0 (fun v0 W=>?_)
 refine sD Try.f14 1 1 (fun v1 S2=>?_)
 refine sD Try.f14 1 2 (fun R S3=>?_)
 refine sD Try.f14 1 3 (fun v3 S4=>?_)
 refine sP Try.f14 1 4 (v:=v3) ?_
 refine sG Try.f14 1 5 (j:=4) (fun v5 S5=>?_)
 refine sG Try.f14 1 6 (j:=4) (fun v6 S6=>?_)
 refine sG Try.f14 1 7 (j:=4) (fun v7 S7=>?_)
 refine sG Try.f14 1 8 (j:=4) (fun v8 S8=>?_)
 refine sD Try.f14 1 9 (fun v9 S9=>?_)
 refine sP Try.f14 1 10 (v:=v9) ?_
 refine sG Try.f14 1 11 (j:=10) (fun a0 a5=>?_)
 refine sG Try.f14 1 12 (j:=10) (fun a1 a6=>?_)
 refine sG Try.f14 1 13 (j:=10) (fun a2 a7=>?_)
 refine sG Try.f14 1 14 (j:=10) (fun a3 a8=>?_)
 refine sD Try.f14 1 15 (fun a4 a9=>?_)
 kernel_rfl
theorem zC.r2 :jl zi ⟨false,false,false⟩ (zU zi O) (reg Try.f14 2) (reg Try.f14 2).toList ([U,b,x2,X,V,Y,Z,x7,x8,x9,c,d,f,g,i,k,l,m,n,o,p,q,r,s,t,u,w,x,y,z,A,B,C,D,E,F,G,H,I,J,K,L,M,N,P,Q]) S =
  ( some ([U,b,Value.bool false,X,V,Y,Z,x7,x8,x9,c,d,f,g,i,k,l,m,n,o,p,q,r,s,t,u,w,x,y,z,A,B,C,D,E,F,G,H,I,J,K,L,M,N,P,Q],S)):=by
 kernel_rfl
theorem zC.r3 :jl zi ⟨false,false,false⟩ (zU zi O) (reg Try.f14 3) (reg Try.f14 3).toList ([U,b,x2,X,V,Y,Z,x7,x8,x9,c,d,f,g,i,k,l,m,n,o,p,q,r,s,t,u,w,x,y,z,A,B,C,D,E,F,G,H,I,J,K,L,M,N,P,Q]) S =
  (zO (zM zi 29 b 3 S) (fun v0 W=>zO (zZ zi false 3 v0 W) (fun v1 S2=>zO (wE zi BinOp.neq 3 v1 (.int .i64 0) S2) (fun R S3=>gdK (dem R) true (zM zi 29 b 3) S3 (fun v4 S4=>gdK (dem R) true (zZ zi false 3 v4) S4 (fun v5 S5=>gdK (dem R) true ((zU zi O) 25 [(dem v5)]) S5 (fun v6 S6=>gdK (dem R) true (aUn zi UnOp.not v6) S6 (fun v7 S7=>gdK (dem R) true (ret v7) S7 (fun v8 S8=>gdK (dem v8) false (zM zi 29 b 3) S8 (fun v9 S9=>gdK (dem v8) false (zZ zi false 3 v9) S9 (fun b0 a5=>gdK (dem v8) false (wE zi BinOp.quo 3 b0 (.int .i64 65536)) a5 (fun a0 a6=>gdK (dem v8) false (zM zi 29 b 0) a6 (fun a1 a7=>gdK (dem v8) false (zZ zi false 3 a1) a7 (fun a2 a8=>gdK (dem v8) false (wE zi BinOp.geq 3 a0 a2) a8 (fun a3 a9=>gdK (dem R) true (yX (dem v8) (Value.bool true) a3) a9 (fun a4 b1=>zO (yX (dem R) a4 (Value.bool false) b1) (fun b2 b3=>some ([U,b,x2,X,V,Y,Z,x7,x8,x9,c,d,f,g,i,k,l,m,n,o,p,v0,v1,R,dem R,v4,v5,v6,v7,dem v8,v9,b0,a0,a1,a2,a3,a4,b2,I,J,K,L,M,N,P,Q],b3)) ()) ()) ()) ()) ()) ()) ()) ()) ()) ()) ()) ()) ()) ()) ()) ()):=by
 refine sD Try.f14 3 0 (fun v0 W=>?_)
 refine sD Try.f14 3 1 (fun v1 S2=>?_)
 refine sD Try.f14 3 2 (fun R S3=>?_)
 refine sP Try.f14 3 3 (v:=R) ?_
 refine sG Try.f14 3 4 (j:=3) (fun v4 S4=>?_)
 refine sG Try.f14 3 5 (j:=3) (fun v5 S5=>?_)
 refine sG Try.f14 3 6 (j:=3) (fun v6 S6=>?_)
 refine sG Try.f14 3 7 (j:=3) (fun v7 S7=>?_)
 refine sG Try.f14 3 8 (j:=3) (fun v8 S8=>?_)
 refine sG Try.f14 3 9 (j:=8) (fun v9 S9=>?_)
 refine sG Try.f14 3 10 (j:=8) (fun b0 a5=>?_)
 refine sG Try.f14 3 11 (j:=8) (fun a0 a6=>?_)
 refine sG Try.f14 3 12 (j:=8) (fun a1 a7=>?_)
 refine sG Try.f14 3 13 (j:=8) (fun a2 a8=>?_)
 refine sG Try.f14 3 14 (j:=8) (fun a3 a9=>?_)
 refine sG Try.f14 3 15 (j:=3) (fun a4 b1=>?_)
 refine sD Try.f14 3 16 (fun b2 b3=>?_)
 kernel_rfl
theorem zC.r4 :jl zi ⟨false,false,false⟩ (zU zi O) (reg Try.f14 4) (reg Try.f14 4).toList ([U,b,x2,X,V,Y,Z,x7,x8,x9,c,d,f,g,i,k,l,m,n,o,p,q,r,s,t,u,w,x,y,z,A,B,C,D,E,F,G,H,I,J,K,L,M,N,P,Q]) S =
  ( some ([U,b,Value.bool false,X,V,Y,Z,x7,x8,x9,c,d,f,g,i,k,l,m,n,o,p,q,r,s,t,u,w,x,y,z,A,B,C,D,E,F,G,H,I,J,K,L,M,N,P,Q],S)):=by
 kernel_rfl
theorem zC.r5 :jl zi ⟨false,false,false⟩ (zU zi O) (reg Try.f14 5) (reg Try.f14 5).toList ([U,b,x2,X,V,Y,Z,x7,x8,x9,c,d,f,g,i,k,l,m,n,o,p,q,r,s,t,u,w,x,y,z,A,B,C,D,E,F,G,H,I,J,K,L,M,N,P,Q]) S =
  (zO (zM zi 29 b 4 S) (fun v0 W=>zO (zZ zi false 27 v0 W) (fun v1 S2=>zO ((zU zi O) 27 [(dem v1)] S2) (fun R S3=>zO (zG R 0 S3) (fun v4 S4=>zO (zG (zL 0 R) 1 S4) (fun v5 S5=>some ([U,b,x2,v4,v5,Y,Z,x7,x8,x9,c,d,f,g,i,k,l,m,n,o,p,q,r,s,t,u,w,x,y,z,A,B,C,D,E,F,G,H,zL 1 (zL 0 R),v0,v1,dem R,dem v4,dem v5,P,Q],S5)) ()) ()) ()) ()) ()):=by
 kernel_rfl
theorem zC.r6 :jl zi ⟨false,false,false⟩ (zU zi O) (reg Try.f14 6) (reg Try.f14 6).toList ([U,b,x2,X,V,Y,Z,x7,x8,x9,c,d,f,g,i,k,l,m,n,o,p,q,r,s,t,u,w,x,y,z,A,B,C,D,E,F,G,H,I,J,K,L,M,N,P,Q]) S =
  (zO (wE zi BinOp.eql 34 (dem V) (.int .i64 0) S) (fun v1 W=>some ([U,b,v1,X,V,Y,Z,x7,x8,x9,c,d,f,g,i,k,l,m,n,o,p,q,r,s,t,u,w,x,y,z,A,B,C,D,E,F,G,H,I,J,K,L,M,N,dem V,dem v1],W)) ()):=by
 kernel_rfl
theorem zC.rs:type_of% (ahs @zC.r0 (ahs @zC.r1 (ahs @zC.r2 (ahs @zC.r3 (ahs @zC.r4 (ahs @zC.r5 (@zC.r6))))))):=ahs @zC.r0 (ahs @zC.r1 (ahs @zC.r2 (ahs @zC.r3 (ahs @zC.r4 (ahs @zC.r5 (@zC.r6))))))
theorem zC.runs {U:Value} {S W:zx} {e:AEx} {T:List Value} (h:zD zi O false zC.code ([U,zh,zh,zh,zh,zh,zh,zh,zh,zh,zh,zh,zh,zh,zh,zh,zh,zh,zh,zh,zh,zh,zh,zh,zh,zh,zh,zh,zh,zh,zh,zh,zh,zh,zh,zh,zh,zh,zh,zh,zh,zh,zh,zh,zh,zh]) zx.empty=some (e,T,W)) (he:e=.normal∨e=.ret) (hca:[U].all (zX 16)=true) (hcv:zX 16 (T.getD 2 zh)=true):zU zi O 14 [U] S=some (T.getD 2 zh,S) :=
 yK rfl rfl Try.func14 (by decide) zC.body (by exact h) he (yP (a:=T.getD 2 zh) ((show zJ zi T W Try.f14.results.toList=zJ zi T W [(ResultVar.tmp 2)] from by kernel_rfl).trans (by simp only [zJ])) (by kernel_rfl)) hca hcv
end Go.Proofs.Ytgggklfbhmlapaa
namespace Go.Proofs.Ytgggklfbhmlapaa
open Go.Abs
abbrev zK.id:FuncId:=26
noncomputable def zK.code:Code:=(.seq (.region 0 (reg Try.f26 0) false) (.seq (.region 1 (reg Try.f26 1) false) Code.ret))
theorem zK.body:Try.f26.body=some zK.code:=by kernel_rfl
variable (b c d o p q z s t u i k l m n:Value) (S:zx)
theorem zK.r0 :jl zi ⟨false,false,false⟩ (zU zi O) (reg Try.f26 0) (reg Try.f26 0).toList ([b,c,d,o,p,q,z,s,t,u,i,k,l,m,n]) S =
  ( some ([b,c,d,o,p,q,Value.bool false,s,t,u,i,k,l,m,n],S)):=by
 kernel_rfl
theorem zK.r1 :jl zi ⟨false,false,false⟩ (zU zi O) (reg Try.f26 1) (reg Try.f26 1).toList ([b,c,d,o,p,q,z,s,t,u,i,k,l,m,n]) S =
  (zO (wE zi BinOp.geq 3 (dem b) (dem c) S) (fun f g=>gdK (dem f) true (ret b) g (fun w A=>gdK (dem f) true (ret d) A (fun x B=>gdK (dem f) true (wE zi BinOp.leq 3 (dem w) (dem x)) B (fun y C=>zO (yX (dem f) y (Value.bool false) C) (fun r D=>some ([b,c,d,o,p,q,r,dem b,dem c,f,dem f,dem w,dem x,y,dem r],D)) ()) ()) ()) ()) ()):=by
 refine sP Try.f26 1 0 (v:=b) ?_
 refine sP Try.f26 1 1 (v:=c) ?_
 refine sD Try.f26 1 2 (fun f g=>?_)
 refine sP Try.f26 1 3 (v:=f) ?_
 refine sG Try.f26 1 4 (j:=3) (fun w A=>?_)
 refine sG Try.f26 1 5 (j:=3) (fun x B=>?_)
 refine sG Try.f26 1 6 (j:=3) (fun y C=>?_)
 refine sD Try.f26 1 7 (fun r D=>?_)
 refine sP Try.f26 1 8 (v:=r) ?_
 kernel_rfl
theorem zK.rs:type_of% (ahs @zK.r0 (@zK.r1)):=ahs @zK.r0 (@zK.r1)
theorem zK.runs {b c d:Value} {S g:zx} {e:AEx} {T:List Value} (h:zD zi O false zK.code ([b,c,d,zh,zh,zh,zh,zh,zh,zh,zh,zh,zh,zh,zh]) S=some (e,T,g)) (he:e=.normal∨e=.ret):zU zi O 26 [b,c,d] S=some (T.getD 6 zh,g) :=
 yD rfl rfl Try.func26 (by decide) zK.body (by exact h) he (yP (a:=T.getD 6 zh) ((show zJ zi T g Try.f26.results.toList=zJ zi T g [(ResultVar.tmp 6)] from by kernel_rfl).trans (by simp only [zJ])) (by kernel_rfl))
end Go.Proofs.Ytgggklfbhmlapaa
namespace Go.Proofs.Ytgggklfbhmlapaa
open Go.Abs
abbrev jd.id:FuncId:=25
noncomputable def jd.code:Code:=(.seq (.region 0 (reg Try.f25 0) false) (.seq (.region 1 (reg Try.f25 1) false) Code.ret))
theorem jd.body:Try.f25.body=some jd.code:=by kernel_rfl
variable (b g w k l m n o p q f:Value) (S:zx)
theorem jd.r0 :jl zi ⟨false,false,false⟩ (zU zi O) (reg Try.f25 0) (reg Try.f25 0).toList ([b,g,w,k,l,m,n,o,p,q,f]) S =
  ( some ([b,g,Value.bool false,k,l,m,n,o,p,q,f],S)):=by
 kernel_rfl
theorem jd.r1 :jl zi ⟨false,false,false⟩ (zU zi O) (reg Try.f25 1) (reg Try.f25 1).toList ([b,g,w,k,l,m,n,o,p,q,f]) S =
  (zO ((zU zi O) 26 [(dem (dem b)),(.int .i64 65536),(.int .i64 268435455)] S) (fun c d=>gdK (dem c) true (ret b) d (fun r x=>gdK (dem c) true (wE zi BinOp.rem 3 (dem r) (.int .i64 65536)) x (fun s y=>gdK (dem c) true (wE zi BinOp.quo 3 s (.int .i64 256)) y (fun t z=>gdK (dem c) true (wE zi BinOp.lss 3 t (.int .i64 7)) z (fun u A=>zO (yX (dem c) u (Value.bool false) A) (fun i B=>some ([b,g,i,dem b,c,dem c,dem r,s,t,u,dem i],B)) ()) ()) ()) ()) ()) ()):=by
 refine sP Try.f25 1 0 (v:=b) ?_
 refine sD Try.f25 1 1 (fun c d=>?_)
 refine sP Try.f25 1 2 (v:=c) ?_
 refine sG Try.f25 1 3 (j:=2) (fun r x=>?_)
 refine sG Try.f25 1 4 (j:=2) (fun s y=>?_)
 refine sG Try.f25 1 5 (j:=2) (fun t z=>?_)
 refine sG Try.f25 1 6 (j:=2) (fun u A=>?_)
 refine sD Try.f25 1 7 (fun i B=>?_)
 refine sP Try.f25 1 8 (v:=i) ?_
 kernel_rfl
theorem jd.rs:type_of% (ahs @jd.r0 (@jd.r1)):=ahs @jd.r0 (@jd.r1)
theorem jd.runs {b:Value} {S d:zx} {e:AEx} {T:List Value} (h:zD zi O false jd.code ([b,zh,zh,zh,zh,zh,zh,zh,zh,zh,zh]) S=some (e,T,d)) (he:e=.normal∨e=.ret):zU zi O 25 [b] S=some (T.getD 2 zh,d) :=
 yD rfl rfl Try.func25 (by decide) jd.body (by exact h) he (yP (a:=T.getD 2 zh) ((show zJ zi T d Try.f25.results.toList=zJ zi T d [(ResultVar.tmp 2)] from by kernel_rfl).trans (by simp only [zJ])) (by kernel_rfl))
end Go.Proofs.Ytgggklfbhmlapaa
namespace Go.Proofs.Ytgggklfbhmlapaa
open Go.Abs
theorem adV:zi.underlying 3=some (TypeDesc.int IntKind.i64):=by kernel_rfl
theorem aeY:qG zi 3=some 1:=by kernel_rfl
theorem agX:bytesOf zi 3=some 8:=by kernel_rfl
theorem ag2:zeroOf zi 3=(some (Value.int IntKind.i64 0)):=by kernel_rfl
theorem JD:yV zi 3=some false:=by kernel_rfl
theorem agi:zeroOf zi 4=(some (Value.bool false)):=by kernel_rfl
theorem Xa:zi.underlying 5=some (TypeDesc.int IntKind.u8):=by kernel_rfl
theorem Yx:qG zi 5=some 1:=by kernel_rfl
theorem acj:bytesOf zi 5=some 1:=by kernel_rfl
theorem acg:zeroOf zi 5=(some (Value.int IntKind.u8 0)):=by kernel_rfl
theorem aft:yV zi 5=some false:=by kernel_rfl
theorem adw:zi.underlying 9=some TypeDesc.string:=by kernel_rfl
theorem yF:zi.underlying 27=some (TypeDesc.slice 47):=by kernel_rfl
theorem V9:qG zi 27=some 1:=by kernel_rfl
theorem Yp:yV zi 27=some false:=by kernel_rfl
theorem qQ:qG zi 29=some 5:=by kernel_rfl
theorem Xp:yV zi 29=some true:=by kernel_rfl
theorem y8:zi.underlying 33=some (TypeDesc.slice 5):=by kernel_rfl
theorem adt:zi.underlying 47=some (TypeDesc.struct #[{ name:= "ID",type:=3,offset:=0,embedded:=false,tag:= "",pkgPath:= "",byteOffset:=0 },{ name:= "Fee",type:=3,offset:=1,embedded:=false,tag:= "",pkgPath:= "",byteOffset:=8 }]):=by kernel_rfl
theorem kE:qG zi 47=some 2:=by kernel_rfl
theorem XR:bytesOf zi 47=some 16:=by kernel_rfl
theorem Vq:zeroOf zi 47=(some (Value.agg #[(Value.int IntKind.i64 0),(Value.int IntKind.i64 0)])):=by kernel_rfl
theorem XO:yV zi 47=some true:=by kernel_rfl
theorem YJ:zi.underlying 53=some (TypeDesc.slice 3):=by kernel_rfl
theorem Jq:zi.underlying 68=some (TypeDesc.int IntKind.u64):=by kernel_rfl
theorem Z4:zi.underlying 77=some (TypeDesc.map 3 4):=by kernel_rfl
theorem jy (q o:Nat) (S:zx):zM zi 29 (.pointer (some ⟨q,o,none⟩)) 0 S=some (.pointer (some ⟨q,o+0,none⟩),S):=by kernel_rfl
theorem jw (q o:Nat) (S:zx):zM zi 29 (.pointer (some ⟨q,o,none⟩)) 1 S=some (.pointer (some ⟨q,o+1,none⟩),S):=by kernel_rfl
theorem jA (q o:Nat) (S:zx):zM zi 29 (.pointer (some ⟨q,o,none⟩)) 2 S=some (.pointer (some ⟨q,o+2,none⟩),S):=by kernel_rfl
theorem jB (q o:Nat) (S:zx):zM zi 29 (.pointer (some ⟨q,o,none⟩)) 3 S=some (.pointer (some ⟨q,o+3,none⟩),S):=by kernel_rfl
theorem zY (q o:Nat) (S:zx):zM zi 29 (.pointer (some ⟨q,o,none⟩)) 4 S=some (.pointer (some ⟨q,o+4,none⟩),S):=by kernel_rfl
theorem xq (q o:Nat) (S:zx):zM zi 47 (.pointer (some ⟨q,o,none⟩)) 0 S=some (.pointer (some ⟨q,o+0,none⟩),S):=by kernel_rfl
theorem Zc (q o:Nat) (S:zx):zM zi 47 (.pointer (some ⟨q,o,none⟩)) 1 S=some (.pointer (some ⟨q,o+1,none⟩),S):=by kernel_rfl
theorem kH {q:Nat} {x0 x1 x2 x3 x4:Value} {own:Own} {e:Nat} {S:zx} (h:S.get q=some (.cells [x0,x1,x2,x3,x4] own e)):zZ zi false 29 (.pointer (some ⟨q,0,none⟩)) S=some (.agg [qF x0,qF x1,qF x2,qF x3,qF x4].toArray,S):=(YK (o:=0) h Xp qQ (by simp)).trans (by simp)
theorem kX {fx:Bool} {x0 x1:Value} {S:zx}:zZ zi fx 47 (EP [x0,x1]) S=some (.agg [x0,x1].toArray,S):=aaN XO kE rfl
theorem Ku {q:Nat} {x0 x1:Value} {own:Own} {e:Nat} {S:zx} (h:S.get q=some (.cells [x0,x1] own e)):zZ zi false 47 (.pointer (some ⟨q,0,none⟩)) S=some (.agg [qF x0,qF x1].toArray,S):=(YK (o:=0) h XO kE (by simp)).trans (by simp)
theorem Z5  (S:zx):wX zi 29 [] S=some (.agg [(Value.int IntKind.i64 0),(Value.int IntKind.i64 0),(Value.int IntKind.i64 0),(Value.int IntKind.i64 0),(Value.slice none 0 0)].toArray,S):=by
 kernel_rfl
theorem xR {y0 y1 y2 y3 y4:Value} (h0:y0.cells=#[y0]) (h1:y1.cells=#[y1]) (h2:y2.cells=#[y2]) (h3:y3.cells=#[y3]) (h4:y4.cells=#[y4]) (S:zx):wX zi 29 [(0,y0),(1,y1),(2,y2),(3,y3),(4,y4)] S=some (.agg [y0,y1,y2,y3,y4].toArray,S):=by
 rw [show wX zi 29 [(0,y0),(1,y1),(2,y2),(3,y3),(4,y4)] S=(match xP ([(0,1),(1,1),(2,1),(3,1),(4,1)][·]?) [(Value.int IntKind.i64 0),(Value.int IntKind.i64 0),(Value.int IntKind.i64 0),(Value.int IntKind.i64 0),(Value.slice none 0 0)] [(0,y0),(1,y1),(2,y2),(3,y3),(4,y4)] with | some l=>some (.agg l.toArray,S) | none=>none) from by kernel_rfl]
 simp [xP,splice,qV,h0,h1,h2,h3,h4]
theorem aaO  (S:zx):wX zi 47 [] S=some (.agg [(Value.int IntKind.i64 0),(Value.int IntKind.i64 0)].toArray,S):=by
 kernel_rfl
theorem YO {y0 y1:Value} (h0:y0.cells=#[y0]) (h1:y1.cells=#[y1]) (S:zx):wX zi 47 [(0,y0),(1,y1)] S=some (.agg [y0,y1].toArray,S):=by
 rw [show wX zi 47 [(0,y0),(1,y1)] S=(match xP ([(0,1),(1,1)][·]?) [(Value.int IntKind.i64 0),(Value.int IntKind.i64 0)] [(0,y0),(1,y1)] with | some l=>some (.agg l.toArray,S) | none=>none) from by kernel_rfl]
 simp [xP,splice,qV,h0,h1]
@[simp] theorem YS (k:IntKind) (n:Int) (H:zx):wF zi 3 68 (.int k n) H=some (.int IntKind.u64 (IntKind.wrap IntKind.u64 n),H):=Zy adV Jq k n
@[simp] theorem JR (k:IntKind) (n:Int) (H:zx):wF zi 5 68 (.int k n) H=some (.int IntKind.u64 (IntKind.wrap IntKind.u64 n),H):=Zy Xa Jq k n
@[simp] theorem YX (k:IntKind) (n:Int) (H:zx):wF zi 68 3 (.int k n) H=some (.int IntKind.i64 (IntKind.wrap IntKind.i64 n),H):=Zy Jq adV k n
@[simp] theorem xY (k:IntKind) (n:Int) (H:zx):wF zi 68 5 (.int k n) H=some (.int IntKind.u8 (IntKind.wrap IntKind.u8 n),H):=Zy Jq Xa k n
theorem ZX (S:zx):jI zi 33 0 [] S=some (sv 2 1 0 [],S):=by kernel_rfl
theorem Ja (x0:Int) (S:zx):jI zi 33 1 [(0,.int IntKind.u8 x0)] S=some (sv 2 1 1 [.int IntKind.u8 x0],S):=by kernel_rfl
theorem WU (x0:Int) (S:zx):jI zi 53 1 [(0,.int IntKind.i64 x0)] S=some (sv 2 1 1 [.int IntKind.i64 x0],S):=by kernel_rfl
theorem aah (x0 x1:Int) (S:zx):jI zi 53 2 [(0,.int IntKind.i64 x0),(1,.int IntKind.i64 x1)] S=some (sv 2 1 2 [.int IntKind.i64 x0,.int IntKind.i64 x1],S):=by kernel_rfl
theorem Ve {k:Nat} {l:List UInt8} {S:zx} (h:Okl k l):Jc zi 33 (by_ k l) S=some (goInt l.length,S):=aaR y8 h
theorem ag9 {k:Nat} {l:List UInt8} {S:zx} {ki:IntKind} {i:Int} (h:Okl k l) (h0:0≤i) (hi:i < l.length):zV zi 33 (by_ k l) (.int ki i) S=some (EP [.int .u8 (l[i.toNat]'(by omega)).toNat],S):=ae6 y8 Yx X9 h h0 hi
theorem aeT {fx:Bool} {v:Value} {S:zx}:zZ zi fx 5 (EP [v]) S=some (v,S):=QL aft
theorem acV {k:Nat} {l:List UInt8} {S:zx} {lo hi:Option Value} {i j:Int} (h:Okl k l) (hlo:qH 0 lo=some i) (hhi:qH l.length hi=some j) (h0:0≤i) (hij:i≤j) (hj:j≤l.length):xI zi 33 (by_ k l) lo hi S=some (by_ (if k=2 then 1 else k) ((l.drop i.toNat).take (j.toNat - i.toNat)),S):=adH y8 Yx X9 h hlo hhi h0 hij hj
theorem vk {k:Nat} {l:List UInt8} {S:zx} {j:Nat} {m:List UInt8} (h:Okl k l) (hk:k≠1) (hm:Okl j m) (hl:l.length+m.length≤140737488355328):wu zi 33 33 (by_ k l) (by_ j m) S=some (by_ (if k=0∧m.length=0 then 0 else 2) (l++m),S):=Jv y8 Yx acg rfl acj (by omega) y8 X9 agc h hk hm (by omega) (by omega)
theorem adF {k:Nat} {l:List UInt8} {S:zx} (h:Okl k l):wE zi .eql 33 (by_ k l) (.slice none 0 0) S=some (.bool (decide (k=0)),S):=XL y8 h
theorem aeE {k:Nat} {l:List UInt8} {S:zx} (h:Okl k l):vP zi 33 9 (by_ k l) S=some (.string ⟨l.toArray⟩,S):=abr y8 Xa adw h
theorem aej {k:Nat} {l:List Int} {S:zx} (h:Okl k l):Jc zi 53 (iz k l) S=some (goInt l.length,S):=aaR YJ h
theorem abj {k:Nat} {l:List Int} {S:zx} {ki:IntKind} {i:Int} (h:Okl k l) (h0:0≤i) (hi:i < l.length):zV zi 53 (iz k l) (.int ki i) S=some (EP [.int .i64 (l[i.toNat]'(by omega))],S):=ae6 YJ aeY aew h h0 hi
theorem xC {fx:Bool} {v:Value} {S:zx}:zZ zi fx 3 (EP [v]) S=some (v,S):=QL JD
theorem acw {k:Nat} {l:List Int} {S:zx} {j:Nat} {m:List Int} (h:Okl k l) (hk:k≠1) (hm:Okl j m) (hl:l.length+m.length≤17592186044416):wu zi 53 53 (iz k l) (iz j m) S=some (iz (if k=0∧m.length=0 then 0 else 2) (l++m),S):=Jv YJ aeY ag2 rfl agX (by omega) YJ aew agK h hk hm (by omega) (by omega)
theorem wk:type_of% (ahs @WJ (ahs @Zv (ahs @Jf (ahs @Wj (ahs @WS (ahs @Wl (ahs @Wx (ahs @Ju (ahs @Je (ahs @QD (ahs @Jt (ahs @QF (ahs @XW (ahs @ZE (ahs @Yg (ahs @JH (ahs @WM (ahs @JU (ahs @Q5 (ahs @aeB (ahs @aeH (ahs @aeF (ahs @aef (ahs @aeu (ahs @acC (ahs @abh (ahs @aa3 (ahs @ab9 (ahs @aa9 (ahs @X6 (ahs @Z7 (ahs @Qy (ahs @Bool.and_true (ahs @Bool.true_and (ahs @Bool.and_self (ahs @Vd (ahs @abQ (ahs @Yn (ahs @QY (ahs @J5 (ahs @aeJ (ahs @aea (ahs @aeK (ahs @aeN (ahs @agI (ahs @agB (ahs @agw (ahs @agu (ahs @agA (ahs @aeM (ahs @aey (ahs @ael (ahs @aeD (ahs @aem (ahs @aa1 (ahs @Yo (ahs @Bool.false_eq_true (ahs @X3 (ahs @aa4 (ahs @Yt (ahs @Qs (ahs @Ko (ahs @aeI (ahs @Kt (ahs @aes (ahs @Kw (ahs @abB (ahs @XT (ahs @WL (ahs @acr (ahs @acf (ahs @XF (ahs @Wq (ahs @Qr (ahs @acI (ahs @acp (ahs @XU (ahs @Qb (ahs @XC (ahs @Wv (ahs @QG (ahs @Kr (ahs @Yf (ahs @Zx (ahs @vZ (ahs @JC (ahs @Qo (ahs @ZJ (ahs @WO (ahs @vT (ahs @vX (ahs @vU (ahs @Xz (ahs @XE (ahs @Vh (ahs @Vj (ahs @XH (ahs @Vl (ahs @XD (ahs @Vr (ahs @X7 (ahs @acJ (ahs @Bool.not_true (ahs @Bool.not_false (ahs @Bool.true_eq_false (ahs @decide_true (ahs @decide_false (ahs @aaQ (ahs @acD (ahs @abf (ahs @acn (ahs @aaE (ahs @abz (ahs @acv (ahs @abu (ahs @abp (ahs @abb (ahs @ab7 (ahs @ach (ahs @aa6 (ahs @ab5 (@aaF)))))))))))))))))))))))))))))))))))))))))))))))))))))))))))))))))))))))))))))))))))))))))))))))))))))))))))))))))))))))))):=ahs @WJ (ahs @Zv (ahs @Jf (ahs @Wj (ahs @WS (ahs @Wl (ahs @Wx (ahs @Ju (ahs @Je (ahs @QD (ahs @Jt (ahs @QF (ahs @XW (ahs @ZE (ahs @Yg (ahs @JH (ahs @WM (ahs @JU (ahs @Q5 (ahs @aeB (ahs @aeH (ahs @aeF (ahs @aef (ahs @aeu (ahs @acC (ahs @abh (ahs @aa3 (ahs @ab9 (ahs @aa9 (ahs @X6 (ahs @Z7 (ahs @Qy (ahs @Bool.and_true (ahs @Bool.true_and (ahs @Bool.and_self (ahs @Vd (ahs @abQ (ahs @Yn (ahs @QY (ahs @J5 (ahs @aeJ (ahs @aea (ahs @aeK (ahs @aeN (ahs @agI (ahs @agB (ahs @agw (ahs @agu (ahs @agA (ahs @aeM (ahs @aey (ahs @ael (ahs @aeD (ahs @aem (ahs @aa1 (ahs @Yo (ahs @Bool.false_eq_true (ahs @X3 (ahs @aa4 (ahs @Yt (ahs @Qs (ahs @Ko (ahs @aeI (ahs @Kt (ahs @aes (ahs @Kw (ahs @abB (ahs @XT (ahs @WL (ahs @acr (ahs @acf (ahs @XF (ahs @Wq (ahs @Qr (ahs @acI (ahs @acp (ahs @XU (ahs @Qb (ahs @XC (ahs @Wv (ahs @QG (ahs @Kr (ahs @Yf (ahs @Zx (ahs @vZ (ahs @JC (ahs @Qo (ahs @ZJ (ahs @WO (ahs @vT (ahs @vX (ahs @vU (ahs @Xz (ahs @XE (ahs @Vh (ahs @Vj (ahs @XH (ahs @Vl (ahs @XD (ahs @Vr (ahs @X7 (ahs @acJ (ahs @Bool.not_true (ahs @Bool.not_false (ahs @Bool.true_eq_false (ahs @decide_true (ahs @decide_false (ahs @aaQ (ahs @acD (ahs @abf (ahs @acn (ahs @aaE (ahs @abz (ahs @acv (ahs @abu (ahs @abp (ahs @abb (ahs @ab7 (ahs @ach (ahs @aa6 (ahs @ab5 (@aaF)))))))))))))))))))))))))))))))))))))))))))))))))))))))))))))))))))))))))))))))))))))))))))))))))))))))))))))))))))))))))
theorem zSs:type_of% (ahs wk (ahs (@List.getD_cons_succ Value) (ahs (@List.getD_cons_zero Value) (ahs @if_true.{1} (ahs @if_false.{1} (ahs (@List.getElem?_cons_succ Value) (ahs (@List.getElem?_cons_zero Value) (ahs @Option.map_some.{0,0} @eq_self.{1})))))))):=ahs wk (ahs (@List.getD_cons_succ Value) (ahs (@List.getD_cons_zero Value) (ahs @if_true.{1} (ahs @if_false.{1} (ahs (@List.getElem?_cons_succ Value) (ahs (@List.getElem?_cons_zero Value) (ahs @Option.map_some.{0,0} @eq_self.{1})))))))
end Go.Proofs.Ytgggklfbhmlapaa
namespace Go.Proofs.Ytgggklfbhmlapaa
open Go.Abs
theorem af7 (x:Int):sv 2 1 1 [.int .i64 x]=iz 2 [x]:=rfl
theorem aeX {k:Nat} {l:List Int} {x:Int} {S:zx} (h:Okl k l) (hk:k≠1) (hl:l.length≤17592186044000):wu zi 53 53 (iz k l) (iz 2 [x]) S=some (iz 2 (l++[x]),S):=by
 rw [acw h hk Okl.own (by simp;omega),if_neg (fun h=>by have:=h.2;simp at this)]
end Go.Proofs.Ytgggklfbhmlapaa
namespace Go.Proofs.Ytgggklfbhmlapaa
open Go.Abs
def btw (n a b:Int):Bool:=decide (a≤n) && decide (n≤b)
theorem aaI {n a b:Int}:btw n a b=true ↔ a≤n∧n≤b:=by simp [btw]
def JM (n:Int):Bool:=btw n 65536 268435455 && decide (n % 65536 / 256 < 7)
theorem QN {n:Int}:JM n=true ↔ 65536≤n∧n≤268435455∧n % 65536 / 256 < 7:=by simp [JM,btw,and_assoc]
theorem ad3 {n m:Int} (h:0≤n):n.tmod m=n % m:=Int.tmod_eq_emod_of_nonneg h
theorem XM {n m:Int} (h:0≤n):n.tdiv m=n / m:=Int.tdiv_eq_ediv_of_nonneg h
theorem XK:(65536:Int)≠0:=by decide
theorem ahr:(256:Int)≠0:=by decide
theorem zK.v (n a b:Int) (S:zx):zU zi O zK.id [.int .i64 n,.int .i64 a,.int .i64 b] S=some (.bool (btw n a b),S):=by
 obtain ⟨T,hTe⟩:∃ T,T=(.int .i64 n::.int .i64 a::.int .i64 b::zh::zh::zh::zh::zh::zh::zh::zh::zh::zh::zh::zh::[]):=⟨_,rfl⟩
 have hr:zD zi O false zK.code T S=zD zi O false zK.code T S:=rfl
 unfold btw
 by_cases h1:a≤n
 ·
  conv at hr =>
   rhs
   rw [hTe]
   simp only [zK.code,zK.rs,zSs,reduceIte,zk,zn,zo,zq,decide_eq_true h1]
  rw [decide_eq_true h1,Bool.true_and]
  rw [hTe] at hr
  exact zK.runs hr (.inr rfl)
 ·
  conv at hr =>
   rhs
   rw [hTe]
   simp only [zK.code,zK.rs,zSs,reduceIte,zk,zn,zo,zq,decide_eq_false h1]
  rw [decide_eq_false h1,Bool.false_and]
  rw [hTe] at hr
  exact zK.runs hr (.inr rfl)
theorem jd.v (n:Int) (S:zx):zU zi O jd.id [.int .i64 n] S=some (.bool (JM n),S):=by
 obtain ⟨T,hTe⟩:∃ T,T=(.int .i64 n::zh::zh::zh::zh::zh::zh::zh::zh::zh::zh::[]):=⟨_,rfl⟩
 have hr:zD zi O false jd.code T S=zD zi O false jd.code T S:=rfl
 unfold JM
 cases h1:btw n 65536 268435455
 ·
  conv at hr =>
   rhs
   rw [hTe]
   simp only [jd.code,jd.rs,zSs,reduceIte,zk,zn,zo,zq,zK.v,h1]
  rw [hTe] at hr
  exact jd.runs hr (.inr rfl)
 ·
  have hb:=aaI.mp h1
  have q1:IntKind.i64.wrap ((n.tmod 65536).tdiv 256)=n % 65536 / 256:=by
   rw [ad3 (by omega),XM (by omega),wrap_i64 (by omega) (by omega)]
  conv at hr =>
   rhs
   rw [hTe]
   simp only [jd.code,jd.rs,zSs,reduceIte,zk,zn,zo,zq,zK.v,h1,acX _ _ _ XK,Jk _ _ _ ahr,q1]
  rw [hTe] at hr
  rw [Bool.true_and]
  exact jd.runs hr (.inr rfl)
end Go.Proofs.Ytgggklfbhmlapaa
