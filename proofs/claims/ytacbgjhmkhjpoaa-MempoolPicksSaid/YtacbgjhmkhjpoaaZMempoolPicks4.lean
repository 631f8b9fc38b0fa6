/-
The law MempoolPicks returns true for every input, and leaves it as it was; no condition. Part 4 of 6 of the texts (put together by a program: own names are short, what isn't needed is left out).
-/
import Derived.Test.YtacbgjhmkhjpoaaZMempoolPicks3
import Derived.KernelRfl
import Derived.Test.YtacbgjhmkhjpoaaChecked
import Derived.Shelf.Spec.SlicesInsert
import Derived.Shelf.Spec.SlicesInsertGrow
import Derived.Lib.AppendZerosOnto
set_option linter.unusedVariables false
set_option linter.unusedSimpArgs false
set_option maxRecDepth 100000
open Go renaming undef → zh
open Go.Proofs.Try renaming prog → zi
namespace Go.Abs
open Go.RowKit
def Zo (P:Program) (call:FuncId→List Value→M Value):Prop:=∀ g args aargs S v S',call g args S=some (v,S')→∀ μ H ω,GI μ S H→L0 μ H args aargs→Dom μ H ω→(∀ r s,ω r=some s→s=.ext) →
 ∃ a H' μ' ω',lim P g aargs H=some (a,H')∧GI μ' S' H'∧Later μ H μ' H'∧Kept ω H ω' H'∧Dom μ' H' ω'∧VV μ' H' ω' (some (.res none)) v a
section
variable {P:Program} {call:FuncId→List Value→M Value} {μ:Mu} {ω:Nat→Option wB} {S S' H:zx} {T A:List Value}
theorem abA (hc:Zo P call) {g:FuncId} {args aargs:List Value} {v:Value} (hG:GI μ S H) (hT:TI μ H ω T A) (h:call g args S=some (v,S')) (ha:L0 μ H args aargs):Out μ ω H A T S' v (lim P g aargs H):=by
 obtain ⟨a,H',μ',ω',h1,h2,h3,h4,h5,h6⟩:=hc g args aargs S v S' h μ H (fun r=>(ω r).map fun _=>.ext) hG ha (fun r s hs=>by
  cases hr:ω r with
  | none=>simp [hr] at hs
  | some s0=>exact hT.dom r s0 hr) (fun r s hs=>by
  cases hr:ω r with
  | none=>simp [hr] at hs
  | some s0=>simp [hr] at hs;exact hs.symm)
 have kept:∀ r s,ω r=some s→ω' r=some .ext∧H'.get r=H.get r:=fun r s hs=>h4 r (by dsimp only;rw [hs];rfl)
 refine ⟨a,H',μ',fun r=>match ω' r with | some .ext=>ω r | some (.slot _ _)=>none | x=>x,h1,h2,h3,fun r hr=>?_,fun r s hs=>?_,hT.len,fun i=>?_,?_⟩
 ·
  obtain ⟨k1,k2⟩:=kept r _ hr
  exact ⟨by (try dsimp only);rw [k1];exact hr,k2⟩
 ·
  dsimp only at hs
  cases hr:ω' r with
  | none=>rw [hr] at hs;cases hs
  | some s0 =>
   have:=h5 r s0 hr
   exact this
 ·
  refine (hT.slots i).later h3 (K:=fun _=>True) (fun _ _ _ _ _=>trivial) (fun r s _ hr=>?_) (fun _ _=>trivial)
  obtain ⟨k1,k2⟩:=kept r s hr
  exact ⟨by (try dsimp only);rw [k1];exact hr,k2⟩
 ·
  refine h6.later (Later.refl _ _) (K:=fun s=>∃ j,s=.res j) (fun s i t ⟨j,hj⟩ ht=>by subst hj;cases j <;> cases ht;exact ⟨_,rfl⟩) (fun r s ⟨j,hj⟩ hr=>?_) (fun s hs=>by cases hs;exact ⟨_,rfl⟩)
  subst hj
  exact ⟨by (try dsimp only);rw [hr],rfl⟩
def xZ (t:Nat):wB→Option wB
 | .slot i j=>if i=t then some (.res j) else some (.slot i j)
 | s=>some s
def ZU (t k:Nat):wB→Option wB
 | .slot i (some j)=>if i=t∧j=k then some (.res none) else some (.slot i (some j))
 | s=>some s
theorem Xg {x:Operand} (hG:GI μ S H) (hT:TI μ H ω T A) (hx:yx x=true):Out μ ω H A (jQ T x) S (zJ T x) (some (zJ A x,H)):=by
 cases x with
 | const v=>exact Out.same hG hT (VV.jR hx)
 | global g=>cases hx
 | func f=>exact Out.same hG hT (hT.eval (x:=.func f) rfl)
 | tmp t =>
  refine ⟨_,H,μ,fun r=>(ω r).bind (xZ t),rfl,hG,Later.refl μ H,fun r hr=>⟨by dsimp only;rw [hr];rfl,rfl⟩,fun r s hs=>?_,by simp [jQ,yA,hT.len],fun i=>?_,?_⟩
  ·
   dsimp only at hs
   cases hr:ω r with
   | none=>rw [hr] at hs;cases hs
   | some s0=>exact hT.dom r s0 hr
  ·
   dsimp only [jQ,yA]
   rw [wO]
   by_cases hi:i=t
   ·
    subst hi
    by_cases hlt:i < T.length
    ·
     rw [if_pos ⟨rfl,hlt⟩]
     exact (hT.slots i).v0.at0
    ·
     rw [if_neg (fun h=>hlt h.2)]
     rw [List.getD_eq_getElem?_getD,List.getElem?_eq_none (Nat.le_of_not_lt hlt),List.getD_eq_getElem?_getD,List.getElem?_eq_none (by rw [← hT.len];omega)]
     exact .nores
   ·
    rw [if_neg (fun h=>hi h.1)]
    refine (hT.slots i).WV (fun _=>rfl) _ (fun s hs=>?_)
    cases hs
    refine ⟨_,rfl,by simp only [xZ];rw [if_neg hi],fun k t' ht=>?_⟩
    cases ht
    exact ⟨_,rfl,by simp only [xZ];rw [if_neg hi]⟩
  ·
   refine (hT.slots t).WV (fun _=>rfl) _ (fun s hs=>?_)
   cases hs
   refine ⟨_,rfl,by simp only [xZ,if_true],fun k t' ht=>?_⟩
   cases ht
   exact ⟨_,rfl,by simp only [xZ,if_true]⟩
theorem getD_modify (vs:Array Value) (i k:Nat) (f:Value→Value) (hf:f zh=zh):(vs.modify i f).getD k zh=if k=i then f (vs.getD k zh) else vs.getD k zh:=by
 rw [Array.getD_eq_getD_getElem?,Array.getD_eq_getD_getElem?,Array.getElem?_modify]
 by_cases h:i=k
 ·
  subst h
  rw [if_pos rfl,if_pos rfl]
  cases vs[i]? with
  | none=>exact hf.symm
  | some v=>rfl
 ·
  rw [if_neg h,if_neg (fun e=>h e.symm)]
theorem VV.part {ω':Nat→Option wB} {ℓ ℓ':Option wB} {v a:Value} (h:VV μ H ω ℓ v a) (hℓ:∀ s,ℓ=some s→∀ k,s.comp k=none):VV μ H ω' ℓ' (Go.Abs.qI v) a:=by
 by_cases ht:∃ x,v=.tuple x
 ·
  obtain ⟨x,rfl⟩:=ht
  show VV μ H ω' ℓ' (.tuple x) a
  cases h with
  | sg hs=>simp [Go.Abs.sg] at hs
  | nores=>exact .nores
  | tuple hx hh =>
   refine .tuple hx fun i=>?_
   have:=hh i
   cases ℓ with
   | none=>exact this.at0
   | some s =>
    have e:(some s).bind (·.comp i)=none:=hℓ s rfl i
    rw [e] at this
    exact this.at0
 ·
  have e:Go.Abs.dem v=Go.Abs.qI v:=by
   cases v <;> first | rfl | exact absurd ⟨_,rfl⟩ ht
  rw [← e]
  exact h.v0.at0
def Zp (T:List Value) (i:Nat):Operand→List Value
 | .tmp t=>T.set t (jT i (T.getD t zh))
 | _=>T
theorem QH {x:Operand} {i:Nat} {v:Value} (hG:GI μ S H) (hT:TI μ H ω T A) (hx:yx x=true) (h:zT (zJ T x) i S=some (v,S')) :
  Out μ ω H A (Zp T i x) S' v (zT (zJ A x) i H):=by
 cases x with
 | const w =>
  exfalso
  unfold zT at h
  split at h
  ·
   rename_i vs he
   simp only [zJ] at he
   subst he
   simp [yx,ground,Go.Abs.sg] at hx
  ·
   cases h
 | global g=>cases hx
 | func f=>simp [zJ,zT] at h
 | tmp t =>
  simp only [zJ,Zp] at h ⊢
  unfold zT at h
  split at h
  ·
   rename_i vs hvs
   split at h <;> first | (cases h;done) | skip
   rename_i w hw
   cases h
   have hs:=hT.slots t
   rw [hvs] at hs
   have hil:i < vs.size:=(Array.getElem?_eq_some_iff.1 hw).1
   have hlt:t < T.length:=by
    rcases Nat.lt_or_ge t T.length with h | h
    ·
     exact h
    ·
     rw [List.getD_eq_getElem?_getD,List.getElem?_eq_none h] at hvs
     cases hvs
     simp at hil
   generalize hA:A.getD t zh=at' at hs
   cases hs with
   | sg hs=>simp [Go.Abs.sg] at hs
   | nores=>simp at hil
   | @tuple _ _ y hxs hxx =>
    have hiy:i < y.size:=by rw [← hxs];exact hil
    have hrun:zT (.tuple y) i H=some (y[i],H):=by simp only [zT,Array.getElem?_eq_getElem hiy]
    rw [hrun]
    have hcomp:=hxx i
    rw [Array.getD_eq_getD_getElem?,hw,Array.getD_eq_getD_getElem?,Array.getElem?_eq_getElem hiy] at hcomp
    simp only [Option.getD_some] at hcomp
    refine ⟨_,H,μ,fun r=>(ω r).bind (ZU t i),rfl,hG,Later.refl μ H,fun r hr=>⟨by dsimp only;rw [hr];rfl,rfl⟩,fun r s hs=>?_,by simp [hT.len],fun k=>?_,?_⟩
    ·
     dsimp only at hs
     cases hr:ω r with
     | none=>rw [hr] at hs;cases hs
     | some s0=>exact hT.dom r s0 hr
    ·
     rw [wO]
     by_cases hk:k=t
     ·
      subst hk
      rw [if_pos ⟨rfl,hlt⟩,hA,hvs]
      simp only [jT]
      refine .tuple (by simpa using hxs) fun j=>?_
      rw [getD_modify _ _ _ _ rfl]
      by_cases hj:j=i
      ·
       subst hj
       rw [if_pos rfl]
       exact (hxx j).part (fun s hs k=>by cases hs;rfl)
      ·
       rw [if_neg hj]
       refine (hxx j).WV (fun _=>rfl) _ (fun s hs=>?_)
       cases hs
       refine ⟨_,rfl,by simp only [ZU];rw [if_neg (fun e=>hj e.2)],fun a b hb=>by cases hb⟩
     ·
      rw [if_neg (fun e=>hk e.1)]
      refine (hT.slots k).WV (fun _=>rfl) _ (fun s hs=>?_)
      cases hs
      refine ⟨_,rfl,rfl,fun a b hb=>?_⟩
      cases hb
      exact ⟨_,rfl,by simp only [ZU];rw [if_neg (fun e=>hk e.1)]⟩
    ·
     refine hcomp.WV (fun _=>rfl) _ (fun s hs=>?_)
     cases hs
     exact ⟨_,rfl,by simp [ZU],fun a b hb=>by cases hb⟩
  ·
   cases h
theorem adN (hT:TI μ H ω T A):∀ (xs:List Operand),xs.all yx=true→L0 μ H (xs.map fun x=>dem (zJ T x)) (xs.map (zJ A)):=by
 intro xs h
 exact LV.map fun x hx=>hT.eval (List.all_eq_true.1 h x hx)
theorem Jb {xs:List Operand} (hT:TI μ H ω T A) (h:xs.all yx=true) (hg:(xs.map (zJ T)).all ground=true):xs.map (zJ A)=xs.map (zJ T):=by
 apply List.map_congr_left
 intro x hx
 exact zW (hT.eval (List.all_eq_true.1 h x hx)) (List.all_eq_true.1 hg _ (List.mem_map.2 ⟨x,hx,rfl⟩))
theorem acn {o:Oper} (h:hands o=false) (hc:∀ c,o.op≠.call c):moved o T=T:=by
 unfold moved
 unfold hands at h
 split <;> first | rfl | (rename_i he;exact absurd he (hc _)) | (rename_i he;rw [he] at h;cases h)
theorem acd {fx:Fx} (hc:Zo P call) {o:Oper} {v:Value} (hG:GI μ S H) (hT:TI μ H ω T A) (h:wz P fx call T o S=some (v,S')):Out μ ω H A (moved o T) S' v (jH P (lim P) A o H):=by
 unfold wz at h
 split at h <;> first | (cases h;done) | skip
 rename_i hok
 unfold jH
 rw [if_pos hok]
 have hargs:o.op.operands.toList.all yx=true:=hok
 have hev:∀ x ∈ o.op.operands.toList,V0 μ H (dem (zJ T x)) (zJ A x):=fun x hx=>hT.eval (List.all_eq_true.1 hargs x hx)
 have hoka:∀ x ∈ o.op.operands.toList,yx x=true:=fun x hx=>List.all_eq_true.1 hargs x hx
 obtain ⟨dst,op,type,pos,after,guard⟩:=o
 by_cases hcall:∃ c,op=.call c
 ·
  obtain ⟨c,rfl⟩:=hcall
  dsimp only at h hev hoka hargs ⊢
  have hcargs:c.args.toList.all yx=true:=by
   rw [List.all_eq_true]
   intro x hx
   refine hoka x ?_
   simp only [Op.operands,Call.operands]
   cases c.callee <;> simp <;> first | exact .inr (by simpa using hx) | exact (by simpa using hx)
  cases hcal:c.callee with
  | value f =>
   rw [hcal] at h
   dsimp only at h ⊢
   have hf:=hev f (by simp [Op.operands,Call.operands,hcal])
   split at h <;> first | (cases h;done) | skip
   rename_i g first captured hfe
   rw [hfe] at hf
   have hf:V0 μ H (.func (.func g) first captured) (zJ A f):=hf
   generalize hfa:zJ A f=fa at hf
   cases hf with
   | sg hs=>simp [Go.Abs.sg] at hs
   | func _ hx hcs h1 h2 =>
    rename_i x' c'
    dsimp only
    have l1:L0 μ H first.toList x'.toList:=⟨by simpa using hx,fun i=>by rw [getD_toList,getD_toList];exact h1 i⟩
    have l2:L0 μ H captured.toList c'.toList:=⟨by simpa using hcs,fun i=>by rw [getD_toList,getD_toList];exact h2 i⟩
    have hm:moved ⟨dst,.call c,type,pos,after,guard⟩ T=T:=by simp only [moved,hcal]
    rw [hm]
    exact abA hc hG hT h ((l1.append (adN hT _ hcargs)).append l2)
  | invoke r m=>rw [hcal] at h;cases h
  | builtin b =>
   rw [hcal] at h
   dsimp only at h ⊢
   unfold kE at h
   unfold yY
   cases b <;> dsimp only at h ⊢ <;> first | (cases h;done) | skip
   case len =>
    split at h <;> first | (cases h;done) | skip
    rename_i t x0 ht ha
    obtain ⟨x,hx,rfl⟩:∃ x,c.args.toList=[x]∧zJ T x=x0:=by
     match hl:c.args.toList with
     | []=>rw [hl] at ha;cases ha
     | [y]=>rw [hl] at ha;simp at ha;exact ⟨y,rfl,ha⟩
     | y::z::w=>rw [hl] at ha;simp at ha
    have hm:moved ⟨dst,.call c,type,pos,after,guard⟩ T=T:=by simp only [moved,hcal]
    rw [hm,ht,hx]
    rw [hx] at hcargs
    obtain ⟨rfl,a,h1,h2⟩:=abj h (hT.eval (List.all_eq_true.1 hcargs x (by simp)))
    simp only [List.map_cons,List.map_nil]
    rw [h1]
    exact Out.same hG hT h2
   case append =>
    split at h <;> first | (cases h;done) | skip
    rename_i t tx s0 x0 ht ha
    obtain ⟨so,x,hx,rfl,rfl⟩:∃ so x,c.args.toList=[so,x]∧zJ T so=s0∧zJ T x=x0:=by
     match hl:c.args.toList with
     | []=>rw [hl] at ha;cases ha
     | [y]=>rw [hl] at ha;simp at ha
     | [y,z]=>rw [hl] at ha;simp at ha;exact ⟨y,z,rfl,ha.1,ha.2⟩
     | y::z::w::u=>rw [hl] at ha;simp at ha
    rw [hx] at hcargs
    have hso:=List.all_eq_true.1 hcargs so (by simp)
    have hm:moved ⟨dst,.call c,type,pos,after,guard⟩ T=jQ T so:=by
     simp only [moved,hcal,hx]
     cases so <;> rfl
    rw [hm,ht,hx]
    exact XV hG hT hso h (hT.eval (List.all_eq_true.1 hcargs x (by simp)))
   case copy =>
    split at h <;> first | (cases h;done) | skip
    rename_i t tx s0 x0 ht ha
    obtain ⟨so,x,hx,rfl,rfl⟩:∃ so x,c.args.toList=[so,x]∧zJ T so=s0∧zJ T x=x0:=by
     match hl:c.args.toList with
     | []=>rw [hl] at ha;cases ha
     | [y]=>rw [hl] at ha;simp at ha
     | [y,z]=>rw [hl] at ha;simp at ha;exact ⟨y,z,rfl,ha.1,ha.2⟩
     | y::z::w::u=>rw [hl] at ha;simp at ha
    rw [hx] at hcargs
    have hm:moved ⟨dst,.call c,type,pos,after,guard⟩ T=T:=by simp only [moved,hcal]
    rw [hm,ht,hx]
    exact abO hG hT h (hT.eval (List.all_eq_true.1 hcargs so (by simp))) (hT.eval (List.all_eq_true.1 hcargs x (by simp)))
   case clear =>
    split at h <;> first | (cases h;done) | skip
    rename_i t x0 ht ha
    obtain ⟨x,hx,rfl⟩:∃ x,c.args.toList=[x]∧zJ T x=x0:=by
     match hl:c.args.toList with
     | []=>rw [hl] at ha;cases ha
     | [y]=>rw [hl] at ha;simp at ha;exact ⟨y,rfl,ha⟩
     | y::z::w=>rw [hl] at ha;simp at ha
    have hm:moved ⟨dst,.call c,type,pos,after,guard⟩ T=T:=by simp only [moved,hcal]
    rw [hm,ht,hx]
    rw [hx] at hcargs
    exact Vw hG hT h (hT.eval (List.all_eq_true.1 hcargs x (by simp)))
   case min =>
    obtain ⟨rfl,hg,hga,hh⟩:=jK (H:=H) h
    have hm:moved ⟨dst,.call c,type,pos,after,guard⟩ T=T:=by simp only [moved,hcal]
    rw [hm,Jb hT hcargs hga,hh]
    exact Out.same hG hT (V0.ground hg)
   case max =>
    obtain ⟨rfl,hg,hga,hh⟩:=jK (H:=H) h
    have hm:moved ⟨dst,.call c,type,pos,after,guard⟩ T=T:=by simp only [moved,hcal]
    rw [hm,Jb hT hcargs hga,hh]
    exact Out.same hG hT (V0.ground hg)
 ·
  have hnc:∀ c,op≠.call c:=fun c hc=>hcall ⟨c,hc⟩
  have hV:vOp P fx (zJ T) ⟨dst,op,type,pos,after,guard⟩ S=some (v,S'):=by
   cases op <;> first | exact h | exact absurd rfl (hnc _)
  suffices hs:Out μ ω H A (moved ⟨dst,op,type,pos,after,guard⟩ T) S' v (aOp P (zJ A) ⟨dst,op,type,pos,after,guard⟩ H) by
   cases op <;> first | exact hs | exact absurd rfl (hnc _)
  by_cases hh:hands ⟨dst,op,type,pos,after,guard⟩=true
  ·
   cases op <;> first | (cases hh;done) | skip
   case move x =>
    cases hV
    have:=Xg hG hT (hoka x (by simp [Op.operands]))
    have hm:moved ⟨dst,.move x,type,pos,after,guard⟩ T=jQ T x:=by cases x <;> rfl
    rw [hm];exact this
   case assign x =>
    cases hV
    have:=Xg hG hT (hoka x (by simp [Op.operands]))
    have hm:moved ⟨dst,.assign x,type,pos,after,guard⟩ T=jQ T x:=by cases x <;> rfl
    rw [hm];exact this
   case extract x i =>
    have:=QH hG hT (hoka x (by simp [Op.operands])) hV
    have hm:moved ⟨dst,.extract x i,type,pos,after,guard⟩ T=(Zp T i x):=by cases x <;> rfl
    rw [hm];exact this
  ·
   have hh:hands ⟨dst,op,type,pos,after,guard⟩=false:=by simpa using hh
   rw [acn hh hnc]
   by_cases hch:Zb P ⟨dst,op,type,pos,after,guard⟩=false
   ·
    obtain ⟨rfl,a,h1,h2,h3⟩:=Qc hV hch hev (.inr hG) (.inr hG)
    rw [h1]
    exact Out.same hG hT (h3 hh)
   ·
    unfold vOp at hV
    unfold aOp
    cases op <;> dsimp only at hV hev ⊢ <;> first | (cases hV;done) | (exact absurd rfl hch) | (cases hh;done) | skip
    case alloc e=>exact abd hG hT hV
    case box x _=>exact adW hG hT hV (hev x (by simp [Op.operands]))
    case buildSlice t len parts _ =>
     have hps:=Qb (μ:=μ) (H:=H) (parts:=parts.toList) (ρ:=zJ T) (ρA:=zJ A) fun p hp=>hev p.2 (by simp [Op.operands];exact ⟨p.1,by simpa using hp⟩)
     split at hV
     ·
      exact YN hG hT hV hps
     ·
      exact JJ hG hT hV hps
    case makeMap t r _=>exact QM hG hT hV (fun h=>by cases r <;> simp at h ⊢)
    case mapUpdate t x k w _=>exact Yz hG hT hV (hev x (by simp [Op.operands])) (hev k (by simp [Op.operands])) (hev w (by simp [Op.operands]))
    case store a x _=>exact aah hG hT hV (hev a (by simp [Op.operands])) (hev x (by simp [Op.operands]))
    case makeSlice l c _ =>
     split at hV
     ·
      exact QW hG hT hV (hev l (by simp [Op.operands])) (hev c (by simp [Op.operands]))
     ·
      exact WO hG hT hV (hev l (by simp [Op.operands])) (hev c (by simp [Op.operands]))
    case convert dst' x _ =>
     have hd:∃ e,P.underlying dst'=some (.slice e):=by
      unfold Zb at hch
      dsimp only at hch
      split at hch
      ·
       exact ⟨_,by assumption⟩
      ·
       exact absurd rfl hch
     obtain ⟨e,hd⟩:=hd
     cases x with
     | tmp t=>exact Jf hG hT hV (hT.slots t) hd
     | const w=>exact Jf hG hT hV (VV.jR (ℓ:=none) (hoka (.const w) (by simp [Op.operands]))) hd
     | global g=>have:=hoka (.global g) (by simp [Op.operands]);cases this
     | func f=>exact Jf hG hT hV (ℓ:=none) ((hT.eval (x:=.func f) rfl).at0) hd
theorem aa9 {ops:Array Oper} (hT:TI μ H ω T A) (j:Nat):ynd ops T j=ynd ops A j:=by
 unfold ynd
 cases hd:(ops[j]?).bind (·.dst) with
 | none=>rfl
 | some d =>
  simp only [Option.bind_some]
  have:=hT.slots d
  have e:=hT.len
  by_cases hlt:d < T.length
  ·
   have hlt':d < A.length:=by rw [← e];exact hlt
   simp only [List.getD_eq_getElem?_getD,List.getElem?_eq_getElem hlt,List.getElem?_eq_getElem hlt',Option.getD_some] at this
   rw [List.getElem?_eq_getElem hlt,List.getElem?_eq_getElem hlt']
   generalize T[d]=u at *
   generalize A[d]=u' at *
   cases this <;> rfl
  ·
   have hlt':A.length≤d:=by rw [← e];exact Nat.le_of_not_lt hlt
   rw [List.getElem?_eq_none (Nat.le_of_not_lt hlt),List.getElem?_eq_none hlt']
theorem TI.moved (hT:TI μ H ω T A) (o:Oper):TI μ H ω (moved o T) A:=by
 have slot:∀ t,TI μ H ω (yA T t) A:=by
  intro t
  refine ⟨by simp [yA,hT.len],fun i=>?_,hT.dom,hT.nores⟩
  rw [yA,wO]
  split
  ·
   rename_i h;rw [h.1];exact (hT.slots t).dem
  ·
   exact hT.slots i
 unfold Go.Abs.moved
 split
 ·
  exact slot _
 ·
  exact slot _
 ·
  rename_i t i _
  refine ⟨by simp [hT.len],fun k=>?_,hT.dom,hT.nores⟩
  rw [wO]
  split
  ·
   rename_i h
   rw [h.1]
   have:=hT.slots t
   generalize T.getD t zh=w at this
   cases w with
   | tuple vs =>
    simp only [jT]
    generalize A.getD t zh=a at this
    cases this with
    | sg hs=>simp [Go.Abs.sg] at hs
    | nores=>rw [show (#[]:Array Value).modify i Go.Abs.qI=#[] by simp];exact .nores
    | @tuple _ _ y hxs hxx =>
     refine .tuple (by simpa using hxs) fun j=>?_
     rw [getD_modify _ _ _ _ rfl]
     by_cases hj:j=i
     ·
      subst hj
      rw [if_pos rfl]
      exact (hxx j).part (fun s hs k=>by cases hs;rfl)
     ·
      rw [if_neg hj];exact hxx j
   | _=>exact this
  ·
   exact hT.slots k
 ·
  split
  ·
   exact slot _
  ·
   exact hT
 ·
  exact hT
def After (μ:Mu) (ω:Nat→Option wB) (H:zx) (T':List Value) (S':zx) (R:Option (List Value×zx)):Prop :=
 ∃ A' H' μ' ω',R=some (A',H')∧GI μ' S' H'∧Later μ H μ' H'∧Kept ω H ω' H'∧TI μ' H' ω' T' A'
theorem KJ {fx:Fx} (hc:Zo P call) {o:Oper} {rest:List Oper} {v:Value} (hG:GI μ S H) (hT:TI μ H ω T A) (h:wz P fx call T o S=some (v,S')) :
  ∃ a H' μ' ω',jH P (lim P) A o H=some (a,H')∧GI μ' S' H'∧Later μ H μ' H'∧Kept ω H ω' H'∧TI μ' H' ω' (xw o rest T v) (vW A o.dst a):=by
 unfold xw
 split
 ·
  rename_i hl
  have hm:∃ x,o.op=.move x:=by
   unfold afj at hl
   split at hl
   ·
    rename_i x _ he _;exact ⟨x,he⟩
   ·
    cases hl
  obtain ⟨x,hx⟩:=hm
  unfold wz at h
  split at h <;> first | (cases h;done) | skip
  rename_i hok
  have hox:yx x=true:=List.all_eq_true.1 (show o.op.operands.toList.all yx=true from hok) x (by rw [hx];simp [Op.operands])
  rw [hx] at h
  dsimp only at h
  unfold vOp at h
  rw [hx] at h
  cases h
  have ha:jH P (lim P) A o H=some (zJ A x,H):=by
   unfold jH
   rw [if_pos hok,hx]
   dsimp only
   unfold aOp
   rw [hx]
   rfl
  rw [ha]
  exact (Out.same hG hT (hT.eval hox)).put o.dst
 ·
  exact (acd hc hG hT h).put o.dst
theorem ZA {o:Oper} {rest:List Oper} (hG:GI μ S H) (hT:TI μ H ω T A):∃ μ' ω',GI μ' S H∧Later μ H μ' H∧Kept ω H ω' H∧TI μ' H ω' (xw o rest T zh) (vW A o.dst zh):=by
 unfold xw
 split
 ·
  rw [show dem zh=zh from kX]
  obtain ⟨a,H1,μ1,ω1,h1,h2,h3,h4,h5⟩:=(Out.same hG hT (VV.zh)).put o.dst
  cases h1
  exact ⟨μ1,ω1,h2,h3,h4,h5⟩
 ·
  obtain ⟨a,H1,μ1,ω1,h1,h2,h3,h4,h5⟩:=(Out.same hG (hT.moved o) (VV.zh)).put o.dst
  cases h1
  exact ⟨μ1,ω1,h2,h3,h4,h5⟩
theorem adw {fx:Fx} (hc:Zo P call) {ops:Array Oper}:∀ (l:List Oper) (T T' A:List Value) (S S' H:zx) (μ:Mu) (ω:Nat→Option wB),jd P fx call ops l T S=some (T',S')→GI μ S H→TI μ H ω T A→After μ ω H T' S' (QC P (lim P) ops l A H):=by
 intro l
 induction l with
 | nil =>
  intro T T' A S S' H μ ω h hG hT
  simp only [jd,Option.some.injEq,Prod.mk.injEq] at h
  obtain ⟨rfl,rfl⟩:=h
  exact ⟨A,H,μ,ω,rfl,hG,Later.refl _ _,Kept.refl _ _,hT⟩
 | cons o l ih =>
  intro T T' A S S' H μ ω h hG hT
  have hy:(ynd ops T)=ynd ops A:=funext fun j=>aa9 hT j
  simp only [jd] at h
  simp only [QC,← hy]
  split at h
  ·
   rename_i hw
   split at h
   ·
    rename_i v S1 hs
    obtain ⟨a,H1,μ1,ω1,h1,h2,h3,h4,h5⟩:=KJ (rest:=l) hc hG hT hs
    obtain ⟨A2,H2,μ2,ω2,k1,k2,k3,k4,k5⟩:=ih _ _ _ _ _ _ _ _ h h2 h5
    refine ⟨A2,H2,μ2,ω2,?_,k2,h3.trans k3,h4.trans k4,k5⟩
    rw [if_pos hw,h1]
    exact k1
   ·
    cases h
  ·
   rename_i hw
   obtain ⟨μ1,ω1,h2,h3,h4,h5⟩:=ZA (o:=o) (rest:=l) hG hT
   obtain ⟨A2,H2,μ2,ω2,k1,k2,k3,k4,k5⟩:=ih _ _ _ _ _ _ _ _ h h2 h5
   refine ⟨A2,H2,μ2,ω2,?_,k2,h3.trans k3,h4.trans k4,k5⟩
   rw [if_neg hw]
   exact k1
end
end Go.Abs
namespace Go.Abs
open Go.RowKit
section
variable {P:Program} {call:FuncId→List Value→M Value} {μ μ2:Mu} {S S' G H H2:zx} {T A:List Value}
theorem kM.two {s:M Value} (hs:kM s) {a:Value} {G':zx} (h:s G=some (a,G')):∀ H,s H=some (a,H):=by
 obtain ⟨o,ho⟩:=hs
 rw [ho] at h
 cases o with
 | none=>cases h
 | some w =>
  simp only [Option.map_some,Option.some.injEq,Prod.mk.injEq] at h
  intro H
  rw [ho,h.1];rfl
theorem KA {t:TypeId} {ps:List (Nat×Value)}:kM (wW P t ps):=by
 refine ⟨(wW P t ps zx.empty).map (·.1),fun H=>?_⟩
 unfold wW
 split
 ·
  split
  ·
   split
   ·
    split
    ·
     split <;> rfl
    ·
     rfl
   ·
    split
    ·
     split <;> rfl
    ·
     rfl
   ·
    rfl
  ·
   rfl
 ·
  rfl
theorem JK {x:Value}:kM (qg x):=by
 refine ⟨(qg x zx.empty).map (·.1),fun H=>?_⟩
 unfold qg
 split <;> rfl
theorem QY {t:TypeId} {x i:Value}:kM (qK P t x i):=by
 unfold qK
 refine ⟨(qK P t x i zx.empty).map (·.1),fun H=>?_⟩
 unfold qK
 dsimp only
 split
 ·
  split
  ·
   split
   ·
    split <;> rfl
   ·
    rfl
  ·
   rfl
 ·
  obtain ⟨o,ho⟩:=wo (P:=P) _ _
  rw [ho,ho]
  cases o <;> rfl
 ·
  rfl
theorem abe {t:TypeId} {x:Value} (hx:∀ m,x≠.map m):kM (YT P t x):=by
 refine ⟨(YT P t x zx.empty).map (·.1),fun H=>?_⟩
 unfold YT
 split <;> first | rfl | exact absurd rfl (hx _)
theorem JC {d:Nat} {v:Value} (h:okq d v=true):okq d (dem v)=true:=by
 cases v with
 | iface k v=>cases d <;> rfl
 | tuple vs=>cases d <;> cases h
 | _=>exact h
theorem Jj:∀ (d:Nat) {v a:Value},okq d v=true→V0 μ H v a→Vs d a a=true:=by
 intro d
 induction d with
 | zero =>
  intro v a h hv
  cases hv <;> first | (cases h;done) | (simp [Vs];done) | skip
  rename_i hs
  cases v <;> first | (simp [Vs];done) | (simp [Go.Abs.sg] at hs;done) | skip
 | succ d ih =>
  intro v a h hv
  cases hv <;> first | (cases h;done) | (simp [Vs];done) | skip
  ·
   rename_i hs
   cases v <;> first | (simp [Vs];done) | (simp [Go.Abs.sg] at hs;done) | skip
  ·
   rename_i x x' hx hh
   unfold Vs
   simp only [decide_true,Bool.true_and]
   rw [List.all_eq_true]
   intro p hp
   obtain ⟨i,hi,he⟩:=List.mem_iff_getElem.1 hp
   simp only [List.length_zip,Nat.min_self] at hi
   rw [List.getElem_zip] at he
   subst he
   have hi':i < x'.size:=by simpa using hi
   have hi2:i < x.size:=by rw [hx];exact hi'
   have h2:=hh i
   rw [Array.getD_eq_getD_getElem?,Array.getElem?_eq_getElem hi2,Array.getD_eq_getD_getElem?,Array.getElem?_eq_getElem hi'] at h2
   have h3:okq d x[i]=true:=List.all_eq_true.1 (show x.toList.all (okq d)=true from h) _ (by simp)
   have:=ih h3 h2
   simpa using this
theorem KL (x:Value):ZF (dem x)=ZF x:=by cases x <;> rfl
theorem ac2 {fx:Fx} {o:Oper} {v:Value} (hdr:fx.dr=true) (h:wz P fx call T o S=some (v,S')) (hn:Zb P o=false) (hr:qh o=false) (ho:∀ x ∈ o.op.operands.toList,V0 μ G (dem (zJ T x)) (zJ A x)) :
  ∃ a,V0 μ G (dem v) a∧∀ H,aOp P (zJ A) o H=some (a,H)∧jH P (lim P) A o H=some (a,H):=by
 have hrm:yP o=false:=by
  unfold qh at hr
  unfold yP
  split <;> simp_all
 unfold wz at h
 split at h <;> first | (cases h;done) | skip
 rename_i hok
 obtain ⟨dst,op,type,pos,after,guard⟩:=o
 by_cases hcall:∃ c,op=.call c
 ·
  obtain ⟨c,rfl⟩:=hcall
  dsimp only at h ho
  unfold Zb at hn
  dsimp only at hn
  have hcargs:∀ x ∈ c.args.toList,V0 μ G (dem (zJ T x)) (zJ A x):=by
   intro x hx
   refine ho x ?_
   simp only [Op.operands,Call.operands]
   cases c.callee <;> simp <;> first | exact .inr (by simpa using hx) | exact (by simpa using hx)
  have step:∀ {b:Builtin} (a:Value),c.callee=.builtin b→(∀ H,yY P b c.argTypes type (c.args.toList.map (zJ A)) H=some (a,H))→∀ H,aOp P (zJ A) ⟨dst,.call c,type,pos,after,guard⟩ H=some (a,H)∧jH P (lim P) A ⟨dst,.call c,type,pos,after,guard⟩ H=some (a,H):=by
   intro b a hb hall H
   constructor
   ·
    unfold aOp;dsimp only;rw [hb];exact hall H
   ·
    unfold jH;rw [if_pos hok];dsimp only;rw [hb];exact hall H
  cases hcal:c.callee with
  | value f=>rw [hcal] at hn;cases hn
  | invoke r m=>rw [hcal] at hn;cases hn
  | builtin b =>
   rw [hcal] at h
   dsimp only at h
   unfold kE at h
   rw [hcal] at hn
   have gargs:(c.args.toList.map (zJ T)).all ground=true→c.args.toList.map (zJ A)=c.args.toList.map (zJ T):=by
    intro hg
    apply List.map_congr_left
    intro x hx
    exact zW (hcargs x hx) (List.all_eq_true.1 hg _ (List.mem_map.2 ⟨x,hx,rfl⟩))
   cases b <;> dsimp only at h hn <;> first | (cases h;done) | (cases hn;done) | skip
   case len =>
    split at h <;> first | (cases h;done) | skip
    rename_i t x0 ht ha
    obtain ⟨x,hx,rfl⟩:∃ x,c.args.toList=[x]∧zJ T x=x0:=by
     match hl:c.args.toList with
     | []=>rw [hl] at ha;cases ha
     | [y]=>rw [hl] at ha;simp at ha;exact ⟨y,rfl,ha⟩
     | y::z::w=>rw [hl] at ha;simp at ha
    have hxv:=hcargs x (by rw [hx];simp)
    obtain ⟨rfl,a,h1,h2⟩:=abj h hxv
    have hmap:∀ m,zJ A x≠.map m:=by
     intro m hm
     rw [hm] at hxv
     generalize hu:dem (zJ T x)=u at hxv
     have hum:∃ m',u=.map m':=by cases hxv <;> exact ⟨_,rfl⟩
     obtain ⟨m',rfl⟩:=hum
     have:zJ T x=.map m':=by
      cases hv:zJ T x <;> rw [hv] at hu <;> simp [dem,qI] at hu <;> rw [hu]
     rw [this] at h
     simp [kP] at h
    refine ⟨a,h2.dem,step a hcal fun H=>?_⟩
    unfold yY
    dsimp only
    rw [ht,hx]
    exact (abe hmap).two h1 H
   case min =>
    obtain ⟨rfl,hg,hga,hh⟩:=jK (H:=G) h
    refine ⟨v,(V0.ground hg).dem,step v hcal fun H=>?_⟩
    unfold yY
    dsimp only
    rw [gargs hga]
    exact (wo _ _).two hh H
   case max =>
    obtain ⟨rfl,hg,hga,hh⟩:=jK (H:=G) h
    refine ⟨v,(V0.ground hg).dem,step v hcal fun H=>?_⟩
    unfold yY
    dsimp only
    rw [gargs hga]
    exact (wo _ _).two hh H
 ·
  have hnc:∀ c,op≠.call c:=fun c hc=>hcall ⟨c,hc⟩
  have hV:vOp P fx (zJ T) ⟨dst,op,type,pos,after,guard⟩ S=some (v,S'):=by
   cases op <;> first | exact h | exact absurd rfl (hnc _)
  obtain ⟨rfl,a,h1,h2,h3⟩:=Qc (ρA:=zJ A) hV hn ho (.inl (Zm hrm)) (.inl hdr)
  have hA:∀ H,jH P (lim P) A ⟨dst,op,type,pos,after,guard⟩ H=aOp P (zJ A) ⟨dst,op,type,pos,after,guard⟩ H:=by
   intro H
   unfold jH
   rw [if_pos hok]
   cases op <;> first | rfl | exact absurd rfl (hnc _)
  refine ⟨a,h2,fun H=>?_⟩
  rw [hA]
  have key:aOp P (zJ A) ⟨dst,op,type,pos,after,guard⟩ H=some (a,H):=by
   have hf:kM (aOp P (zJ A) ⟨dst,op,type,pos,after,guard⟩):=by
    unfold Zb at hn
    unfold qh at hr
    unfold aOp
    unfold vOp at hV
    cases op <;> dsimp only at hn hr hV ⊢ <;> first | (cases hn;done) | (cases hr;done) | (cases hV;done) | skip
    ·
     exact Jw _
    ·
     exact Jw _
    ·
     exact XD _ _ _
    ·
     exact KA
    ·
     exact JK
    ·
     exact Qu _ _ _ _
    ·
     exact abL _ _
    ·
     exact Jw _
    ·
     exact Jv _ _ _
    ·
     exact QS _ _ _
    ·
     exact Jt _ _ _
    ·
     exact QY
    ·
     exact Ya _ _
   exact hf.two h1 H
  exact ⟨key,key⟩
theorem aaE {t:TypeId} {r o e:Nat} {l:List Value} {own own':Own} {a:Value} (hg:G.get r=some (.cells l own e)) (hg':H2.get r=some (.cells l own' e)) (h:wH P t (.pointer (some ⟨r,o,none⟩)) G=some (a,G)) :
  wH P t (.pointer (some ⟨r,o,none⟩)) H2=some (a,H2):=by
 simp only [wH,hg] at h
 simp only [wH,hg']
 (repeat' split at h) <;> first | (cases h;done) | skip
 all_goals simp_all
theorem VV.backed {v:Value} {r o n c:Nat} (h:V0 μ G v (.slice (some ⟨r,o,none⟩) n c)) (hv:ZF v=false):∃ l own e,r < G.next∧xY μ r∧G.get r=some (.cells l own e):=by
 cases h with
 | sg hs=>simp [Go.Abs.sg] at hs
 | slm hm=>simp [ZF] at hv
 | sl hr hp hg _ _ _=>exact ⟨_,_,_,hr,hp,hg⟩
theorem XM {x:Value} {n:Nat} {cs:List Value} (hx:∀ r o n c,x=.slice (some ⟨r,o,none⟩) n c→∃ l own own' e,G.get r=some (.cells l own e)∧H2.get r=some (.cells l own' e)) (h:wI x n G=some cs):wI x n H2=some cs:=by
 unfold wI at h ⊢
 split at h
 ·
  rename_i r o k c
  obtain ⟨l,own,own',e,hg,hg'⟩:=hx _ _ _ _ rfl
  rw [hg] at h
  rw [hg']
  exact h
 ·
  exact h
 ·
  exact h
 ·
  cases h
theorem VP {src dst:TypeId} {x a:Value} (hd:∀ e,P.underlying dst≠some (.slice e)) (hx:∀ r o n c,x=.slice (some ⟨r,o,none⟩) n c→∃ l own own' e,G.get r=some (.cells l own e)∧H2.get r=some (.cells l own' e)) (h:wG P src dst x G=some (a,G)) :
  wG P src dst x H2=some (a,H2):=by
 unfold wG at h ⊢
 split at h
 ·
  rename_i b n c
  (try dsimp only)
  split at h
  ·
   rename_i e hs hdd
   split at h <;> first | (cases h;done) | skip
   rename_i he
   split at h <;> first | (cases h;done) | skip
   rename_i cs hcs
   rw [XM hx hcs]
   (try dsimp only)
   split at h <;> first | (cases h;done) | skip
   rename_i bs hbs
   (try rw [hbs])
   cases h
   rfl
  ·
   rename_i e0 e hs hdd
   exact absurd hdd (hd e)
  ·
   cases h
 ·
  rename_i s
  (try dsimp only)
  split at h
  ·
   rename_i d e hs hdd
   exact absurd hdd (hd e)
  ·
   exact (wo _ _).two h H2
 ·
  exact (wo _ _).two h H2
theorem Vq {t:TypeId} {x a:Value} {lo hi:Option Value} (hx:∀ r o n c,x=.slice (some ⟨r,o,none⟩) n c→∃ l own own' e,G.get r=some (.cells l own e)∧H2.get r=some (.cells l own' e)) (h:yK P t x lo hi G=some (a,G)) :
  yK P t x lo hi H2=some (a,H2):=by
 unfold yK at h ⊢
 split at h
 ·
  rename_i s hu
  exact (wo _ _).two h H2
 ·
  rename_i e b n c hu
  (try dsimp only)
  split at h <;> first | (cases h;done) | skip
  rename_i size l hh hs hl hhi
  (try simp only [hs,hl,hhi])
  split at h <;> first | (cases h;done) | skip
  rename_i c0
  split at h <;> first | (cases h;done) | skip
  rename_i c1
  split at h <;> first | (cases h;done) | skip
  rename_i c2
  rw [if_pos c0,if_pos c1,if_pos c2]
  split at h
  ·
   split at h <;> first | (cases h;done) | skip
   rename_i hn
   cases h
   rw [if_pos hn]
  ·
   rename_i r o
   obtain ⟨l2,own,own',e2,hg,hg'⟩:=hx _ _ _ _ rfl
   rw [hg] at h
   rw [hg']
   dsimp only at h ⊢
   split at h <;> first | (cases h;done) | skip
   rename_i he
   rw [if_pos he]
   cases h
   rfl
  ·
   split at h <;> first | (cases h;done) | skip
   rename_i hn
   cases h
   rw [if_pos hn]
  ·
   cases h
 ·
  cases h
theorem Zn {t:TypeId} {r o:Nat} {a:Value} {G':zx} (hg:H2.get r=G.get r) (h:wH P t (.pointer (some ⟨r,o,none⟩)) G=some (a,G')):wH P t (.pointer (some ⟨r,o,none⟩)) H2=some (a,H2):=by
 simp only [wH] at h ⊢
 rw [hg]
 (repeat' split at h) <;> first | (cases h;done) | skip
 all_goals simp_all
theorem Qo {t:TypeId} {x k:Value} {ok:Bool} {a:Value} {G':zx} (hg:∀ r,x=.map (some r)→H2.get r=G.get r) (h:jO P t x k ok G=some (a,G')):jO P t x k ok H2=some (a,H2):=by
 have e:∀ H:zx,jO P t x k ok H=(jO P t x k ok H).map (fun r=>(r.1,H)):=by
  intro H
  unfold jO
  (try dsimp only)
  (repeat' split) <;> rfl
 have e2:(jO P t x k ok H2).map (·.1)=(jO P t x k ok G).map (·.1):=by
  cases x with
  | map b =>
   cases b with
   | none=>unfold jO;dsimp only;(repeat' split) <;> rfl
   | some r =>
    unfold jO
    dsimp only
    rw [hg r rfl]
    (repeat' split) <;> rfl
  | _=>unfold jO;(try dsimp only) <;> (try ((repeat' split) <;> rfl))
 rw [h] at e2
 rw [e H2]
 cases hh:jO P t x k ok H2 with
 | none=>rw [hh] at e2;cases e2
 | some w =>
  rw [hh] at e2
  simp only [Option.map_some,Option.some.injEq] at e2 ⊢
  rw [e2]
theorem adb {fx:Fx} {o:Oper} {v:Value} (hdr:fx.dr=true) (h:wz P fx call T o S=some (v,S')) (hn:Zb P o=false) (hm:qH (zJ T) o) (ho:∀ x ∈ o.op.operands.toList,V0 μ G (dem (zJ T x)) (zJ A x)) (hL:Later μ G μ2 H2) :
  ∃ a,V0 μ G (dem v) a∧aOp P (zJ A) o G=some (a,G)∧aOp P (zJ A) o H2=some (a,H2)∧jH P (lim P) A o G=some (a,G)∧jH P (lim P) A o H2=some (a,H2):=by
 by_cases hr:qh o=false
 ·
  obtain ⟨a,h1,h2⟩:=ac2 hdr h hn hr ho
  exact ⟨a,h1,(h2 G).1,(h2 H2).1,(h2 G).2,(h2 H2).2⟩
 ·
  unfold wz at h
  split at h <;> first | (cases h;done) | skip
  rename_i hok
  obtain ⟨dst,op,type,pos,after,guard⟩:=o
  unfold qh at hr
  cases op <;> dsimp only at h hr <;> first | (exact absurd rfl hr) | skip
  case load t addr =>
   obtain ⟨rfl,a,h1,h2,h3⟩:=Qc (ρA:=zJ A) h hn ho (.inl hm) (.inl hdr)
   have hA:∀ H,jH P (lim P) A ⟨dst,.load t addr,type,pos,after,guard⟩ H=aOp P (zJ A) ⟨dst,.load t addr,type,pos,after,guard⟩ H:=fun H=>by unfold jH;rw [if_pos hok]
   have key:aOp P (zJ A) ⟨dst,.load t addr,type,pos,after,guard⟩ H2=some (a,H2):=by
    have hx:=ho addr (by simp [Op.operands])
    have h:je P fx.nm t (zJ T addr) S'=some (v,S'):=h
    unfold aOp at h1 ⊢
    dsimp only at h1 ⊢
    unfold je at h
    split at h
    ·
     rename_i k cs he
     split at h <;> first | (cases h;done) | skip
     rename_i hk
     subst hk
     rw [he] at hx
     have hx:V0 μ G (.iface 3 (.agg cs)) (zJ A addr):=hx
     generalize hq:zJ A addr=q at hx h1 ⊢
     cases hx with
     | sg hs=>simp [Go.Abs.sg] at hs
     | ep hr hp hg hl hc =>
      obtain ⟨own',hg'⟩:=hL.cells _ _ _ _ hr hp hg
      exact aaE hg hg' h1
    ·
     rename_i ad he
     exact absurd he (hm ad)
    ·
     cases h
   exact ⟨a,h2,h1,key,by rw [hA];exact h1,by rw [hA];exact key⟩
  case convert src d x =>
   obtain ⟨rfl,a,h1,h2,h3⟩:=Qc (ρA:=zJ A) h hn ho (.inl hm) (.inl hdr)
   have hA:∀ H,jH P (lim P) A ⟨dst,.convert src d x,type,pos,after,guard⟩ H=aOp P (zJ A) ⟨dst,.convert src d x,type,pos,after,guard⟩ H:=fun H=>by unfold jH;rw [if_pos hok]
   have key:aOp P (zJ A) ⟨dst,.convert src d x,type,pos,after,guard⟩ H2=some (a,H2):=by
    have hx:=ho x (by simp [Op.operands])
    unfold aOp at h1 ⊢
    dsimp only at h1 ⊢
    refine VP (fun e he=>?_) (fun r o n c hq=>?_) h1
    ·
     unfold Zb at hn
     dsimp only at hn
     rw [he] at hn;cases hn
    ·
     rw [hq] at hx
     have hh:ZF (dem (zJ T x))=false:=by
      rw [KL]
      have h:qW P fx.hp fx.dr src d (zJ T x) S'=some (v,S'):=h
      unfold qW at h
      split at h
      ·
       first | (cases h;done) | (rw [hdr] at h;simp at h)
      ·
       rename_i hh;simpa using hh
     obtain ⟨l,own,e,hr,hp,hg⟩:=hx.backed hh
     obtain ⟨own',hg'⟩:=hL.cells _ _ _ _ hr hp hg
     exact ⟨l,own,own',e,hg,hg'⟩
   exact ⟨a,h2,h1,key,by rw [hA];exact h1,by rw [hA];exact key⟩
  case slice t x lo hi mx =>
   obtain ⟨rfl,a,h1,h2,h3⟩:=Qc (ρA:=zJ A) h hn ho (.inl hm) (.inl hdr)
   have hA:∀ H,jH P (lim P) A ⟨dst,.slice t x lo hi mx,type,pos,after,guard⟩ H=aOp P (zJ A) ⟨dst,.slice t x lo hi mx,type,pos,after,guard⟩ H:=fun H=>by unfold jH;rw [if_pos hok]
   have key:aOp P (zJ A) ⟨dst,.slice t x lo hi mx,type,pos,after,guard⟩ H2=some (a,H2):=by
    have hx:=ho x (by simp [Op.operands])
    unfold aOp at h1 ⊢
    cases mx with
    | some m=>cases h1
    | none =>
     dsimp only at h1 ⊢
     refine Vq (fun r o n c hq=>?_) h1
     rw [hq] at hx
     have hh:ZF (dem (zJ T x))=false:=by
      rw [KL]
      have h:wV P fx.dr t (zJ T x) (lo.map (zJ T)) (hi.map (zJ T)) S'=some (v,S'):=h
      unfold wV at h
      split at h
      ·
       first | (cases h;done) | (rw [hdr] at h;simp at h)
      ·
       rename_i hh;simpa using hh
     obtain ⟨l,own,e,hr,hp,hg⟩:=hx.backed hh
     obtain ⟨own',hg'⟩:=hL.cells _ _ _ _ hr hp hg
     exact ⟨l,own,own',e,hg,hg'⟩
   exact ⟨a,h2,h1,key,by rw [hA];exact h1,by rw [hA];exact key⟩
  case lookup t x k ok =>
   exact hm.elim
end
end Go.Abs
namespace Go.Abs
open Go.RowKit
structure Line (P : Program) (fx : Fx) (chk : List Nat) (call : FuncId → List Value → M Value) (ops : Array Oper) (k0 : Nat) (l : List Oper) (Ts As : Nat → List Value) (Ss Hs : Nat → zx) (μs : Nat → Mu) (ωs : Nat → Nat → Option wB) (vs zf : Nat → Value) : Prop where
  inv : ∀ k, k ≤ l.length → GI (μs k) (Ss k) (Hs k) ∧ TI (μs k) (Hs k) (ωs k) (Ts k) (As k)
  step : ∀ k o, l[k]? = some o → Later (μs k) (Hs k) (μs (k + 1)) (Hs (k + 1)) ∧ Kept (ωs k) (Hs k) (ωs (k + 1)) (Hs (k + 1)) ∧
    ((Region.wanted o (ynd ops (As k)) = true ∧ wz P fx call (Ts k) o (Ss k) = some (vs k, Ss (k + 1)) ∧ jH P (lim P) (As k) o (Hs k) = some (zf k, Hs (k + 1)) ∧
        Ts (k + 1) = xw o (l.drop (k + 1)) (Ts k) (vs k) ∧ As (k + 1) = vW (As k) o.dst (zf k) ∧ (chk.contains (k0 + k) = true → okq 3 (vs k) = true)) ∨
     (Region.wanted o (ynd ops (As k)) = false ∧ zf k = zh ∧ Ts (k + 1) = xw o (l.drop (k + 1)) (Ts k) zh ∧ As (k + 1) = vW (As k) o.dst zh ∧ Hs (k + 1) = Hs k))
section
variable {P:Program} {call:FuncId→List Value→M Value}
theorem line_of {fx : Fx} {chk : List Nat} {nl : List (Nat × Nat)} (hc : Zo P call) {ops : Array Oper} : ∀ (l : List Oper) (k0 : Nat) (hist : List (Value × zx)) (T T' A : List Value) (S S' H : zx) (μ : Mu) (ω : Nat → Option wB), jV P fx chk nl call ops k0 hist l T S = some (T', S') → GI μ S H → TI μ H ω T A →
    ∃ Ts As Ss Hs μs ωs vs zf tr, Line P fx chk call ops k0 l Ts As Ss Hs μs ωs vs zf ∧ Ts 0 = T ∧ As 0 = A ∧ Ss 0 = S ∧ Hs 0 = H ∧ μs 0 = μ ∧ ωs 0 = ω ∧ Ts l.length = T' ∧ Ss l.length = S' ∧
      yw P (lim P) ops l A H = some (tr, As l.length, Hs l.length) ∧ (∀ k, k < l.length → tr[k]? = some (As k, Hs k, zf k)) ∧ (∀ k, k ≤ l.length → (tr.map (·.2.1) ++ [Hs l.length])[k]? = some (Hs k)) ∧
      ∃ hs : List (Value × zx), hs.length = l.length ∧ (∀ k o, l[k]? = some o → hs[k]? = some (qj (Ts k) o, Ss k)) ∧ (nl.isEmpty = false → nl.all (Ql (hist ++ hs ++ [(zh, S')])) = true) := by
  intro l
  induction l with
  | nil =>
    intro k0 hist T T' A S S' H μ ω h hG hT
    simp only [jV] at h
    split at h <;> first | (cases h; done) | skip
    rename_i hst
    cases h
    refine ⟨fun _ => T, fun _ => A, fun _ => S, fun _ => H, fun _ => μ, fun _ => ω, fun _ => zh, fun _ => zh, [], ⟨fun k _ => ⟨hG, hT⟩, fun k o ho => by simp at ho⟩, rfl, rfl, rfl, rfl, rfl, rfl, rfl, rfl, rfl, fun k hk => by simp at hk, fun k hk => ?_, [], rfl, fun k o ho => by simp at ho, fun he => ?_⟩
    · have : k = 0 := by simpa using hk
      subst this
      rfl
    · simpa [qZ, he] using hst
  | cons o l ih =>
    intro k0 hist T T' A S S' H μ ω h hG hT
    have hy : (ynd ops T) = ynd ops A := funext fun j => aa9 hT j
    simp only [jV] at h
    have glue : ∀ (T1 A1 : List Value) (S1 H1 : zx) (μ1 : Mu) (ω1 : Nat → Option wB) (v a : Value), jV P fx chk nl call ops (k0 + 1) (qZ nl hist (qj T o) S) l T1 S1 = some (T', S') → GI μ1 S1 H1 → TI μ1 H1 ω1 T1 A1 → Later μ H μ1 H1 → Kept ω H ω1 H1 →
        ((Region.wanted o (ynd ops A) = true ∧ wz P fx call T o S = some (v, S1) ∧ jH P (lim P) A o H = some (a, H1) ∧ T1 = xw o l T v ∧ A1 = vW A o.dst a ∧ (chk.contains k0 = true → okq 3 v = true)) ∨
         (Region.wanted o (ynd ops A) = false ∧ a = zh ∧ T1 = xw o l T zh ∧ A1 = vW A o.dst zh ∧ H1 = H)) →
        (∀ tr A2 H2, yw P (lim P) ops l A1 H1 = some (tr, A2, H2) → yw P (lim P) ops (o :: l) A H = some ((A, H, a) :: tr, A2, H2)) →
        ∃ Ts As Ss Hs μs ωs vs zf tr, Line P fx chk call ops k0 (o :: l) Ts As Ss Hs μs ωs vs zf ∧ Ts 0 = T ∧ As 0 = A ∧ Ss 0 = S ∧ Hs 0 = H ∧ μs 0 = μ ∧ ωs 0 = ω ∧ Ts (o :: l).length = T' ∧ Ss (o :: l).length = S' ∧
          yw P (lim P) ops (o :: l) A H = some (tr, As (o :: l).length, Hs (o :: l).length) ∧ (∀ k, k < (o :: l).length → tr[k]? = some (As k, Hs k, zf k)) ∧ (∀ k, k ≤ (o :: l).length → (tr.map (·.2.1) ++ [Hs (o :: l).length])[k]? = some (Hs k)) ∧
          ∃ hs : List (Value × zx), hs.length = (o :: l).length ∧ (∀ k o', (o :: l)[k]? = some o' → hs[k]? = some (qj (Ts k) o', Ss k)) ∧ (nl.isEmpty = false → nl.all (Ql (hist ++ hs ++ [(zh, S')])) = true) := by
      intro T1 A1 S1 H1 μ1 ω1 v a hrest hG1 hT1 hL hK hstep htr
      obtain ⟨Ts, As, Ss, Hs, μs, ωs, vs, zf, tr, hline, e1, e2, e3, e4, e5, e6, e7, e8, e9, e10, e11, hs, e12, e13, e14⟩ := ih _ _ _ _ _ _ _ _ _ _ hrest hG1 hT1
      refine ⟨fun k => match k with | 0 => T | k + 1 => Ts k, fun k => match k with | 0 => A | k + 1 => As k, fun k => match k with | 0 => S | k + 1 => Ss k, fun k => match k with | 0 => H | k + 1 => Hs k,
        fun k => match k with | 0 => μ | k + 1 => μs k, fun k => match k with | 0 => ω | k + 1 => ωs k, fun k => match k with | 0 => v | k + 1 => vs k, fun k => match k with | 0 => a | k + 1 => zf k, (A, H, a) :: tr,
        ⟨fun k hk => ?_, fun k o' ho => ?_⟩, rfl, rfl, rfl, rfl, rfl, rfl, e7, e8, htr _ _ _ e9, fun k hk => ?_, fun k hk => ?_, (qj T o, S) :: hs, by simp [e12], fun k o' ho => ?_, fun he => ?_⟩
      · cases k with
        | zero => exact ⟨hG, hT⟩
        | succ k => exact hline.inv k (by simpa using hk)
      · cases k with
        | zero =>
          simp only [List.getElem?_cons_zero, Option.some.injEq] at ho
          subst ho
          dsimp only
          rw [e1, e2, e3, e4, e5, e6]
          exact ⟨hL, hK, hstep⟩
        | succ k =>
          have := hline.step k o' (by simpa using ho)
          rw [show k0 + 1 + k = k0 + (k + 1) by omega] at this
          exact this
      · cases k with
        | zero => rfl
        | succ k => simpa using e10 k (by simpa using hk)
      · cases k with
        | zero => rfl
        | succ k => simpa using e11 k (by simpa using hk)
      · cases k with
        | zero =>
          simp only [List.getElem?_cons_zero, Option.some.injEq] at ho
          subst ho
          rfl
        | succ k => simpa using e13 k o' (by simpa using ho)
      · have := e14 he
        rw [show qZ nl hist (qj T o) S = hist ++ [(qj T o, S)] by simp [qZ, he]] at this
        simpa using this
    split at h
    · rename_i hw
      split at h
      · rename_i v S1 hs
        split at h <;> first | (cases h; done) | skip
        rename_i hchk
        obtain ⟨a, H1, μ1, ω1, h1, h2, h3, h4, h5⟩ := KJ (rest := l) hc hG hT hs
        have hw' : Region.wanted o (ynd ops A) = true := by rw [← hy]; exact hw
        refine glue _ _ _ H1 μ1 ω1 v a h h2 h5 h3 h4 (.inl ⟨hw', hs, h1, rfl, rfl, fun hk => ?_⟩) (fun tr A2 H2 ht => ?_)
        · rw [hk] at hchk; simpa using hchk
        · simp only [yw, hw', if_true, h1, ht]
      · cases h
    · rename_i hw
      obtain ⟨μ1, ω1, h2, h3, h4, h5⟩ := ZA (o := o) (rest := l) hG hT
      have hw' : Region.wanted o (ynd ops A) = false := by rw [← hy]; simpa using hw
      refine glue _ _ _ H μ1 ω1 zh zh h h2 h5 h3 h4 (.inr ⟨hw', rfl, rfl, rfl, rfl⟩) (fun tr A2 H2 ht => ?_)
      simp only [yw, hw', ht]
      rfl
variable {fx:Fx} {chk:List Nat} {ops:Array Oper} {k0:Nat} {l:List Oper} {Ts As:Nat→List Value} {Ss Hs:Nat→zx} {μs:Nat→Mu} {ωs:Nat→Nat→Option wB} {vs zf:Nat→Value}
theorem Line.later (hl:Line P fx chk call ops k0 l Ts As Ss Hs μs ωs vs zf) {i:Nat}:∀ (d:Nat),i+d≤l.length→Later (μs i) (Hs i) (μs (i+d)) (Hs (i+d)):=by
 intro d
 induction d with
 | zero=>intro _;exact Later.refl _ _
 | succ d ih =>
  intro hd
  have ho:l[i+d]?=some l[i+d]:=List.getElem?_eq_getElem (by omega)
  exact (ih (by omega)).trans (hl.step (i+d) _ ho).1
theorem Line.kept (hl:Line P fx chk call ops k0 l Ts As Ss Hs μs ωs vs zf):∀ (d:Nat),d≤l.length→Kept (ωs 0) (Hs 0) (ωs d) (Hs d):=by
 intro d
 induction d with
 | zero=>intro _;exact Kept.refl _ _
 | succ d ih =>
  intro hd
  have ho:l[d]?=some l[d]:=List.getElem?_eq_getElem (by omega)
  exact (ih (by omega)).trans (hl.step d _ ho).2.1
theorem KH (i:Nat) (w:Value):dem (jT i w)=dem w:=by
 cases w with
 | tuple vs =>
  simp only [jT,dem]
  congr 1
  apply Array.ext (by simp)
  intro k h1 h2
  rw [Array.getElem_map,Array.getElem_map,Array.getElem_modify]
  split
  ·
   have:∀ v,qI (qI v)=qI v:=by
    intro v
    cases v with
    | iface k v =>
     simp only [qI]
     by_cases h:k=2
     ·
      rw [if_pos h,if_neg (by decide)]
     ·
      rw [if_neg h,if_neg h]
    | _=>rfl
   exact this _
  ·
   rfl
 | _=>rfl
theorem Y3 (o:Oper) (T:List Value) (t:Nat):dem ((moved o T).getD t zh)=dem (T.getD t zh):=by
 have slot:∀ t',dem ((yA T t').getD t zh)=dem (T.getD t zh):=by
  intro t'
  rw [yA,wO]
  split
  ·
   rename_i h;rw [h.1,Yp]
  ·
   rfl
 unfold moved
 split
 ·
  exact slot _
 ·
  exact slot _
 ·
  rw [wO]
  split
  ·
   rename_i h;rw [h.1,KH]
  ·
   rfl
 ·
  split
  ·
   exact slot _
  ·
   rfl
 ·
  rfl
theorem moved_length (o:Oper) (T:List Value):(moved o T).length=T.length:=by
 unfold moved
 split <;> first | simp [yA] | rfl | skip
 split <;> first | simp [yA] | rfl
theorem Qy {o:Oper} {rest:List Oper} {T:List Value} {v:Value} (hd:o.dst=none) (t:Nat):dem ((xw o rest T v).getD t zh)=dem (T.getD t zh):=by
 unfold xw
 rw [hd]
 split
 ·
  rfl
 ·
  exact Y3 o T t
theorem YO {o:Oper} {rest:List Oper} {T:List Value} {v:Value} {d:Nat} (hd:o.dst=some d) (t:Nat):dem ((xw o rest T v).getD t zh)=if t=d∧d < T.length then dem v else dem (T.getD t zh):=by
 unfold xw
 rw [hd]
 split
 ·
  simp only [vW]
  rw [wO]
  split
  ·
   exact Yp v
  ·
   rfl
 ·
  simp only [vW]
  rw [wO,moved_length]
  split
  ·
   rfl
  ·
   exact Y3 o T t
def Clear (μ:Mu) (G:zx) (bad:List Nat) (T A:List Value):Prop:=∀ t,bad.contains t=false→V0 μ G (dem (T.getD t zh)) (A.getD t zh)
theorem Clear.operands {μ:Mu} {G:zx} {bad:List Nat} {T A:List Value} (h:Clear μ G bad T A) {o:Oper} (hok:X3 o=true) (hc:yu bad o=true):∀ x ∈ o.op.operands.toList,V0 μ G (dem (zJ T x)) (zJ A x):=by
 intro x hx
 have h1:=List.all_eq_true.1 (show o.op.operands.toList.all yx=true from hok) x hx
 have h2:=List.all_eq_true.1 hc x hx
 cases x with
 | tmp t=>exact h t (by simpa using h2)
 | const v=>exact (VV.jR (μ:=μ) (H:=G) (ω:=W0) (ℓ:=none) h1).v0
 | global g=>cases h1
 | func f =>
  have:V0 μ G (.func (.func f) #[] #[]) (.func (.func f) #[] #[]):=.func _ rfl rfl (fun i=>by simpa using VV.zh) (fun i=>by simpa using VV.zh)
  exact this
theorem qM {T:List Value} {o:Oper} {S S':zx} {v:Value} (h:wz P fx call T o S=some (v,S')):X3 o=true:=by
 unfold wz at h
 split at h
 ·
  assumption
 ·
  cases h
theorem Vr {fx:Fx} {o:Oper} {T A:List Value} {v:Value} {S S' H:zx} {μ:Mu} (h:wz P fx call T o S=some (v,S')) (hnm:fx.nm=true) (hm:¬ qH (zJ T) o) (hG:GI μ S H) (ho:∀ x ∈ o.op.operands.toList,V0 μ H (dem (zJ T x)) (zJ A x)) :
  ground v=true∧∃ a,jH P (lim P) A o H=some (a,H)∧a=v:=by
 have hok:=qM h
 unfold wz at h
 rw [if_pos hok] at h
 obtain ⟨dst,op,type,pos,after,guard⟩:=o
 unfold qH at hm
 cases op <;> dsimp only at h hm <;> first | (exact absurd True.intro hm) | skip
 case load t a =>
  have h:je P fx.nm t (zJ T a) S=some (v,S'):=h
  obtain ⟨q,hq⟩:∃ q,zJ T a=.pointer q:=Classical.byContradiction fun hn=>hm fun q hq=>hn ⟨q,hq⟩
  obtain ⟨rfl,w,k1,k2⟩:=vM h (ho a (by simp [Op.operands])) (.inr hG)
  rw [hnm] at h
  have hgr:ground v=true:=by
   unfold je at h
   rw [hq] at h
   dsimp only at h
   split at h <;> first | (cases h;done) | skip
   ·
    split at h
    ·
     split at h <;> first | (cases h;done) | skip
     rename_i hg
     cases h
     exact hg
    ·
     rename_i hf;exact absurd rfl hf
   ·
    split at h
    ·
     split at h <;> first | (cases h;done) | skip
     rename_i hg
     cases h
     exact hg
    ·
     rename_i hf;exact absurd rfl hf
  refine ⟨hgr,w,?_,k2.yQ hgr⟩
  unfold jH
  rw [if_pos hok]
  exact k1
 case lookup t x k ok =>
  have h:Zu P fx.nm t (zJ T x) (zJ T k) ok S=some (v,S'):=h
  unfold Zu at h
  rw [hnm] at h
  simp at h
theorem Line.abI (hl:Line P fx chk call ops k0 l Ts As Ss Hs μs ωs vs zf) {j k:Nat} (hjk:j≤k) (hk:k≤l.length) {q r:Nat} {b:Bool} (hmq:μs j q=some (r,b)) {o:wC} (g1:(Ss j).get q=some o) (g2:o.alive=true) (g3:q ∉ (Ss k).log.take ((Ss k).log.length - (Ss j).log.length)):(Hs k).get r=(Hs j).get r:=by
 obtain ⟨hGj,_⟩:=hl.inv j (by omega)
 obtain ⟨hGk,_⟩:=hl.inv k hk
 obtain ⟨r0,_,g4,_⟩:=hGj.obj q o g1 g2
 rw [hmq] at g4
 cases g4
 have hL:=hl.later (i:=j) (k - j) (by omega)
 rw [show j+(k - j)=k by omega] at hL
 obtain ⟨new,n1,n2⟩:=hL.still
 rw [hGk.log,hGj.log] at n1
 rw [n1] at g3
 simp only [List.length_append,Nat.add_sub_cancel,List.take_left] at g3
 exact (n2 q r hmq g3).2
theorem XR {fx:Bool} {t:TypeId} {q o:Nat} {v:Value} {S S2 S':zx} (e:S2.get q=S.get q) (h:je P fx t (.pointer (some ⟨q,o,none⟩)) S=some (v,S')):je P fx t (.pointer (some ⟨q,o,none⟩)) S2=some (v,S2):=by
 unfold je at h ⊢
 dsimp only at h ⊢
 cases hl:wH P t (.pointer (some ⟨q,o,none⟩)) S with
 | none=>rw [hl] at h;cases h
 | some p =>
  obtain ⟨a,G⟩:=p
  rw [hl] at h
  rw [Zn e hl]
  cases a <;> dsimp only at h ⊢ <;> (repeat' split at h) <;> first | (cases h;done) | (cases h;simp_all;done) | skip
  all_goals (cases h;try simp_all)
theorem Line.X6 (hl:Line P fx chk call ops k0 l Ts As Ss Hs μs ωs vs zf) {j k:Nat} (hjk:j≤k) (hk:k≤l.length) {o:Oper} (hm:¬ qH (zJ (Ts k)) o) (hL:isLoad o=true) (hv:wz P fx call (Ts k) o (Ss k)=some (vs k,Ss (k+1))) (ha:jH P (lim P) (As k) o (Hs k)=some (zf k,Hs (k+1)))
  (hx0:∀ x ∈ o.op.operands.toList,V0 (μs j) (Hs j) (dem (zJ (Ts k) x)) (zJ (As k) x)) (s1:yC (qj (Ts k) o) (Ss j) (Ss k)=true) (s2:aa4 (qj (Ts k) o) (Ss j) (Ss k)=true):V0 (μs j) (Hs j) (dem (vs k)) (zf k):=by
 have hok:=qM hv
 unfold wz at hv
 rw [if_pos hok] at hv
 obtain ⟨dst,op,type,pos,after,guard⟩:=o
 unfold qH at hm
 cases op <;> first | (cases hL;done) | skip
 case load t a =>
  dsimp only at hm
  have hv:je P fx.nm t (zJ (Ts k) a) (Ss k)=some (vs k,Ss (k+1)):=hv
  obtain ⟨ad,hq⟩:∃ q,zJ (Ts k) a=.pointer q:=Classical.byContradiction fun hn=>hm fun q hq=>hn ⟨q,hq⟩
  have hx:=hx0 a (by simp [Op.operands])
  have hA:jH P (lim P) (As k) ⟨dst,.load t a,type,pos,after,guard⟩ (Hs k)=wH P t (zJ (As k) a) (Hs k):=by unfold jH;rw [if_pos hok];rfl
  rw [hA] at ha
  have s1:yC (zJ (Ts k) a) (Ss j) (Ss k)=true:=s1
  have s2:aa4 (zJ (Ts k) a) (Ss j) (Ss k)=true:=s2
  rw [hq] at hx hv s1 s2
  have hx:V0 (μs j) (Hs j) (.pointer ad) (zJ (As k) a):=hx
  generalize zJ (As k) a=pa at hx ha
  cases hx with
  | sg hs =>
   cases ad with
   | none=>simp [je,wH] at hv
   | some ad=>simp [Go.Abs.sg] at hs
  | @ptr _ q o r b hmq =>
   simp only [yC,Bool.and_eq_true,Bool.not_eq_true',List.contains_eq_mem,decide_eq_false_iff_not] at s1
   obtain ⟨h1,h3⟩:=s1
   split at h1 <;> first | (cases h1;done) | skip
   rename_i hsa
   have g:=hl.abI hjk hk hmq hsa rfl h3
   have e:(Ss j).get q=(Ss k).get q:=@of_decide_eq_true _ (Classical.propDecidable _) s2
   have k1:=Zn g.symm ha
   have hvj:=XR e hv
   obtain ⟨hGj,_⟩:=hl.inv j (by omega)
   obtain ⟨_,w,k2,k3⟩:=vM hvj (show V0 (μs j) (Hs j) (dem (.pointer (some ⟨q,o,none⟩))) _ from .ptr hmq) (.inr hGj)
   rw [k1] at k2
   cases k2
   exact k3.dem
theorem Line.clear (hdr:fx.dr=true) (hl:Line P fx chk call ops k0 l Ts As Ss Hs μs ωs vs zf) {j:Nat} (hj:j≤l.length) {cl:Nat→Bool} (hcl:∀ k o,j≤k→l[k]?=some o→isLoad o=true→cl k=true→yC (qj (Ts k) o) (Ss j) (Ss k)=true∧aa4 (qj (Ts k) o) (Ss j) (Ss k)=true):∀ (rest:List Oper) (bad:List Nat) (k:Nat),j≤k→l.drop k=rest→Clear (μs j) (Hs j) bad (Ts k) (As k) →
  ∀ d,d≤rest.length→Clear (μs j) (Hs j) ((aaN P fx.nm cl k rest bad).getD d []) (Ts (k+d)) (As (k+d)):=by
 intro rest
 induction rest with
 | nil =>
  intro bad k hjk hr hC d hd
  have:d=0:=by simpa using hd
  subst this
  exact hC
 | cons o rest ih =>
  intro bad k hjk hr hC d hd
  have hkl:k < l.length:=by
   have:=congrArg List.length hr
   simp at this;omega
  have ho:l[k]?=some o:=by
   have:=congrArg (·[0]?) hr
   simpa [List.getElem?_drop] using this
  cases d with
  | zero=>exact hC
  | succ d =>
   simp only [aaN,List.getD_cons_succ]
   rw [show k+(d+1)=k+1+d by omega]
   refine ih _ (k+1) (by omega) ?_ ?_ d (by simpa using hd)
   ·
    rw [← List.drop_drop,hr];rfl
   ·
    obtain ⟨hL,_,hor⟩:=hl.step k o ho
    obtain ⟨hG,hT⟩:=hl.inv k (by omega)
    have hlen:=hT.len
    intro t ht
    cases hd:o.dst with
    | none =>
     rw [hd] at ht
     rcases hor with ⟨_,_,_,e1,e2,_⟩ | ⟨_,_,e1,e2,_⟩
     ·
      rw [e1,Qy hd,e2,hd];exact hC t ht
     ·
      rw [e1,Qy hd,e2,hd];exact hC t ht
    | some dd =>
     rw [hd] at ht
     dsimp only at ht
     have htb:bad.contains t=false:=by
      split at ht
      ·
       simp only [List.contains_cons,Bool.or_eq_false_iff] at ht;exact ht.2
      ·
       exact ht
     rcases hor with ⟨hw,hv,ha,e1,e2,_⟩ | ⟨_,_,e1,e2,_⟩
     ·
      rw [e1,YO hd,e2,hd]
      simp only [vW]
      rw [wO,hlen]
      by_cases hc:t=dd∧dd < (As k).length
      ·
       rw [if_pos hc,if_pos hc]
       have hcond:¬ (Zb P o || !yu bad o || (yP o && !fx.nm && !(isLoad o && cl k)))=true:=by
        intro hh
        rw [if_pos hh] at ht
        simp [hc.1] at ht
       rw [Bool.not_eq_true,Bool.or_eq_false_iff,Bool.or_eq_false_iff] at hcond
       obtain ⟨⟨q1,q2⟩,q3⟩:=hcond
       have q2':yu bad o=true:=by simpa using q2
       have hLj:Later (μs j) (Hs j) (μs k) (Hs k):=by
        have:=hl.later (i:=j) (k - j) (by omega)
        rwa [show j+(k - j)=k by omega] at this
       by_cases hm:qH (zJ (Ts k)) o
       ·
        obtain ⟨a,h1,_,_,_,h5⟩:=adb hdr hv q1 hm (hC.operands (qM hv) q2') hLj
        rw [ha] at h5
        have e:zf k=a:=by simpa using congrArg (Option.map Prod.fst) h5
        subst e
        exact h1
       ·
        have hrm:yP o=true:=by
         cases hrm:yP o with
         | true=>rfl
         | false=>exact absurd (Zm hrm) hm
        by_cases hnm:fx.nm=true
        rotate_left
        ·
         rw [Bool.not_eq_true] at hnm
         rw [hrm,hnm] at q3
         have q4:isLoad o=true∧cl k=true:=by simpa using q3
         obtain ⟨s1,s2⟩:=hcl k o hjk ho q4.1 q4.2
         exact hl.X6 hjk (by omega) hm q4.1 hv ha (hC.operands (qM hv) q2') s1 s2
        obtain ⟨g1,a,g2,g3⟩:=Vr hv hnm hm hG (fun x hx=>hT.eval (List.all_eq_true.1 (show o.op.operands.toList.all yx=true from qM hv) x hx))
        rw [ha] at g2
        have e:zf k=a:=by simpa using congrArg (Option.map Prod.fst) g2
        subst e
        rw [g3,Wn g1]
        exact V0.ground g1
      ·
       rw [if_neg hc,if_neg hc]
       exact hC t htb
     ·
      rw [e1,YO hd,e2,hd]
      simp only [vW]
      rw [wO,hlen]
      by_cases hc:t=dd∧dd < (As k).length
      ·
       rw [if_pos hc,if_pos hc,show dem zh=zh from kX]
       exact .nores
      ·
       rw [if_neg hc,if_neg hc]
       exact hC t htb
theorem aat {hp0:Bool} (hc:Zo P call) {T T' A:List Value} {S S' H:zx} {μ:Mu} {ω:Nat→Option wB} (hd:qO P ops=true) (h:jV P ⟨hp0,!(checked P ops).isEmpty,fixed P ops⟩ (checked P ops) (again P ops) call ops 0 [] ops.toList T S=some (T',S')) (hG:GI μ S H) (hT:TI μ H ω T A) :
  After μ ω H T' S' (kK P (lim P) ops A H):=by
 obtain ⟨Ts,As,Ss,Hs,μs,ωs,vs,zf,tr,hline,rfl,rfl,rfl,rfl,rfl,rfl,rfl,rfl,e9,e10,e11,hs,e12,e13,e14⟩:=line_of hc _ _ _ _ _ _ _ _ _ _ _ h hG hT
 obtain ⟨hGn,hTn⟩:=hline.inv ops.toList.length (Nat.le_refl _)
 have hLn:=hline.later (i:=0) ops.toList.length (by omega)
 rw [Nat.zero_add] at hLn
 refine ⟨As ops.toList.length,Hs ops.toList.length,μs ops.toList.length,ωs ops.toList.length,?_,hGn,hLn,hline.kept _ (Nat.le_refl _),hTn⟩
 simp only [qO,vg,Bool.and_eq_true] at hd
 have hlen:ops.toList.length < 1000:=of_decide_eq_true hd.1
 refine abR hd.2.1 e9 fun p hp=>?_
 have hchk:(checked P ops).contains p.1=true:=by
  unfold checked
  simp only [List.contains_eq_mem,decide_eq_true_eq]
  exact List.mem_map.2 ⟨p,hp,rfl⟩
 have hdr:(Fx.mk hp0 (!(checked P ops).isEmpty) (fixed P ops)).dr=true:=by
  show (!(checked P ops).isEmpty)=true
  cases hl:checked P ops with
  | nil=>rw [hl] at hchk;cases hchk
  | cons a b=>rfl
 have hp2:=List.all_eq_true.1 hd.2.2 p hp
 have hp0:=hp
 unfold need at hp
 obtain ⟨i,hi,hp⟩:=List.mem_flatMap.1 hp
 obtain ⟨j,hj,hp⟩:=List.mem_filterMap.1 hp
 have hi:i < ops.toList.length:=List.mem_range.1 hi
 have hj:j < ops.toList.length:=List.mem_range.1 hj
 split at hp <;> first | (cases hp;done) | skip
 rename_i oi oj hoi hoj
 split at hp <;> first | (cases hp;done) | skip
 rename_i hcond
 cases hp
 simp only [Bool.and_eq_true,Bool.not_eq_true'] at hcond
 obtain ⟨⟨hni,hcj⟩,_⟩:=hcond
 dsimp only at hp2 hchk ⊢
 rw [hoi] at hp2
 dsimp only at hp2
 have hij:i≠j:=by
  intro e;subst e
  rw [hoi] at hoj;cases hoj
  rw [hni] at hcj;cases hcj
 have hGj:(tr.map (·.2.1)++[Hs ops.toList.length])[if j < i then j else j+1]?=some (Hs (if j < i then j else j+1)):=e11 _ (by split <;> omega)
 unfold JA
 rw [hoi,e10 i hi,hGj]
 dsimp only
 obtain ⟨_,_,hor⟩:=hline.step i oi hoi
 rcases hor with ⟨hw,hv,ha,heT,heA,hq⟩ | ⟨hw,_⟩
 ·
  rw [hw]
  simp only [Bool.not_true,Bool.false_or]
  obtain ⟨hGi,hTi⟩:=hline.inv i (by omega)
  have hops:∀ x ∈ oi.op.operands.toList,V0 (μs i) (Hs i) (dem (zJ (Ts i) x)) (zJ (As i) x):=fun x hx=>hTi.eval (List.all_eq_true.1 (show oi.op.operands.toList.all yx=true from qM hv) x hx)
  have hq3:okq 3 (vs i)=true:=hq (by rw [Nat.zero_add];exact hchk)
  have same:∃ G',aOp P (zJ (As i)) oi (Hs (if j < i then j else j+1))=some (zf i,G')∧Vs 3 (zf i) (zf i)=true:=by
   by_cases hm:qH (zJ (Ts i)) oi
   case neg =>
    have hrm:yP oi=true:=by
     cases hrm:yP oi with
     | true=>rfl
     | false=>exact absurd (Zm hrm) hm
    have hin:(i,j) ∈ again P ops:=List.mem_append_left _ (List.mem_filter.2 ⟨hp0,by dsimp only;rw [hoi];exact hrm⟩)
    have hne:(again P ops).isEmpty=false:=by
     cases hl:again P ops with
     | nil=>rw [hl] at hin;cases hin
     | cons a b=>rfl
    have hst:=List.all_eq_true.1 (e14 hne) _ hin
    rw [List.nil_append] at hst
    have hi1:(hs++[(zh,Ss ops.toList.length)])[i]?=some (qj (Ts i) oi,Ss i):=by
     rw [List.getElem?_append_left (by omega)];exact e13 i oi hoi
    have hj1:∃ p2,(hs++[(zh,Ss ops.toList.length)])[if j < i then j else j+1]?=some (p2,Ss (if j < i then j else j+1)):=by
     by_cases hjl:(if j < i then j else j+1) < ops.toList.length
     ·
      rw [List.getElem?_append_left (by omega)]
      exact ⟨_,e13 _ _ (List.getElem?_eq_getElem hjl)⟩
     ·
      have:(if j < i then j else j+1)=ops.toList.length:=by split at hjl <;> (rename_i hh;simp only [hh,if_true,if_false];omega)
      rw [this,List.getElem?_append_right (by omega),e12,Nat.sub_self]
      exact ⟨_,rfl⟩
    obtain ⟨p2,hj1⟩:=hj1
    unfold Ql at hst
    dsimp only at hst
    rw [if_pos (show i < 1000 by omega),hi1,hj1] at hst
    dsimp only at hst
    have obj:∀ q r b,μs i q=some (r,b)→(∀ Sa Sb,yC (qj (Ts i) oi) Sa Sb=true→(∃ o,Sa.get q=some o∧o.alive=true)∧q ∉ Sb.log.take (Sb.log.length - Sa.log.length))→(Hs (if j < i then j else j+1)).get r=(Hs i).get r:=by
     intro q r b hq hQ
     by_cases hji:j < i
     ·
      rw [if_pos hji] at hst ⊢
      rw [if_pos hji] at hst
      obtain ⟨⟨o1,g1,g2⟩,g3⟩:=hQ _ _ hst
      obtain ⟨hGj3,_⟩:=hline.inv j (by omega)
      obtain ⟨r0,_,g4,_⟩:=hGj3.obj q o1 g1 g2
      have hL:=hline.later (i:=j) (i - j) (by omega)
      rw [show j+(i - j)=i by omega] at hL
      obtain ⟨b',hb'⟩:=hL.mu q r0 true g4
      rw [hq] at hb'
      cases hb'
      obtain ⟨new,n1,n2⟩:=hL.still
      rw [hGj3.log,hGi.log] at n1
      rw [n1] at g3
      simp only [List.length_append,Nat.add_sub_cancel,List.take_left] at g3
      exact (n2 q r g4 g3).2.symm
     ·
      rw [if_neg hji] at hst ⊢
      rw [if_neg hji] at hst
      obtain ⟨⟨o1,g1,g2⟩,g3⟩:=hQ _ _ hst
      have hb:=hGi.at hq g1 g2
      subst hb
      have hL:=hline.later (i:=i) (j+1 - i) (by omega)
      rw [show i+(j+1 - i)=j+1 by omega] at hL
      obtain ⟨hGj3,_⟩:=hline.inv (j+1) (by omega)
      obtain ⟨new,n1,n2⟩:=hL.still
      rw [hGj3.log,hGi.log] at n1
      rw [n1] at g3
      simp only [List.length_append,Nat.add_sub_cancel,List.take_left] at g3
      exact (n2 q r hq g3).2
    clear hst hi1 hj1
    have hok:=qM hv
    have hvo:=hv
    unfold wz at hv
    rw [if_pos hok] at hv
    obtain ⟨dst,op,type,pos,after,guard⟩:=oi
    unfold qH at hm
    cases op <;> dsimp only at hv hm <;> first | (exact absurd True.intro hm) | skip
    case load t a =>
     have hv:je P (fixed P ops) t (zJ (Ts i) a) (Ss i)=some (vs i,Ss (i+1)):=hv
     obtain ⟨ad,hq⟩:∃ q,zJ (Ts i) a=.pointer q:=Classical.byContradiction fun hn=>hm fun q hq=>hn ⟨q,hq⟩
     have hx:=hops a (by simp [Op.operands])
     obtain ⟨_,w,k1,k2⟩:=vM hv hx (.inr hGi)
     have hA:jH P (lim P) (As i) ⟨dst,.load t a,type,pos,after,guard⟩ (Hs i)=wH P t (zJ (As i) a) (Hs i):=by unfold jH;rw [if_pos hok];rfl
     rw [hA,k1] at ha
     have e:w=zf i:=by simpa using congrArg (Option.map Prod.fst) ha
     subst e
     rw [hq] at hx
     have hx:V0 (μs i) (Hs i) (.pointer ad) (zJ (As i) a):=hx
     generalize hpa:zJ (As i) a=pa at hx k1
     have hres:wH P t pa (Hs (if j < i then j else j+1))=some (zf i,Hs (if j < i then j else j+1)):=by
      cases hx with
      | sg hs =>
       cases ad with
       | none=>simp [wH] at k1
       | some ad=>simp [Go.Abs.sg] at hs
      | @ptr _ q o r b hmq =>
       refine Zn (obj q r b hmq fun Sa Sb hQ=>?_) k1
       have hQ:yC (zJ (Ts i) a) Sa Sb=true:=hQ
       rw [hq] at hQ
       simp only [yC,Bool.and_eq_true,Bool.not_eq_true',List.contains_eq_mem,decide_eq_false_iff_not] at hQ
       refine ⟨?_,hQ.2⟩
       have h1:=hQ.1
       split at h1 <;> first | (cases h1;done) | skip
       rename_i hsa
       exact ⟨_,hsa,rfl⟩
     rw [← hpa] at hres
     exact ⟨_,hres,Jj 3 (JC hq3) k2.dem⟩
    case lookup t x k ok =>
     have hv:Zu P (fixed P ops) t (zJ (Ts i) x) (zJ (Ts i) k) ok (Ss i)=some (vs i,Ss (i+1)):=hv
     have hx:=hops x (by simp [Op.operands])
     obtain ⟨_,w,k1,k2⟩:=WC hv hx (hops k (by simp [Op.operands])) (.inr hGi)
     have hA:jH P (lim P) (As i) ⟨dst,.lookup t x k ok,type,pos,after,guard⟩ (Hs i)=jO P t (zJ (As i) x) (zJ (As i) k) ok (Hs i):=by unfold jH;rw [if_pos hok];rfl
     rw [hA,k1] at ha
     have e:w=zf i:=by simpa using congrArg (Option.map Prod.fst) ha
     subst e
     have hres:jO P t (zJ (As i) x) (zJ (As i) k) ok (Hs (if j < i then j else j+1))=some (zf i,Hs (if j < i then j else j+1)):=by
      refine Qo (fun r hr=>?_) k1
      rw [hr] at hx
      generalize hu:dem (zJ (Ts i) x)=u at hx
      have hum:∃ q b,u=.map (some q)∧μs i q=some (r,b):=by
       cases hx with
       | sg hs=>simp [Go.Abs.sg] at hs
       | map hmq=>exact ⟨_,_,rfl,hmq⟩
      obtain ⟨q,b,rfl,hmq⟩:=hum
      have hxe:zJ (Ts i) x=.map (some q):=by
       cases hvx:zJ (Ts i) x <;> rw [hvx] at hu <;> simp [dem,qI] at hu <;> rw [hu]
      refine obj q r b hmq fun Sa Sb hQ=>?_
      have hQ:yC (zJ (Ts i) x) Sa Sb=true:=hQ
      rw [hxe] at hQ
      simp only [yC,Bool.and_eq_true,Bool.not_eq_true',List.contains_eq_mem,decide_eq_false_iff_not] at hQ
      refine ⟨?_,hQ.2⟩
      have h1:=hQ.1
      split at h1 <;> first | (cases h1;done) | skip
      rename_i hsa
      exact ⟨_,hsa,rfl⟩
     exact ⟨_,hres,Jj 3 (JC hq3) k2.dem⟩
   by_cases hrd:qh oi=false
   ·
    obtain ⟨a,h1,h2⟩:=ac2 hdr hv hni hrd hops
    have h3:=(h2 (Hs i)).2
    rw [ha] at h3
    have e:zf i=a:=by simpa using congrArg (Option.map Prod.fst) h3
    subst e
    exact ⟨_,(h2 _).1,Jj 3 (JC hq3) h1⟩
   ·
    have hrd:qh oi=true:=by simpa using hrd
    by_cases hlt:i < j
    ·
     rw [if_neg (by omega)]
     have hL:=hline.later (i:=i) (j+1 - i) (by omega)
     rw [show i+(j+1 - i)=j+1 by omega] at hL
     obtain ⟨a,h1,_,h3,h4,_⟩:=adb hdr hv hni hm hops hL
     rw [ha] at h4
     have e:zf i=a:=by simpa using congrArg (Option.map Prod.fst) h4
     subst e
     exact ⟨_,h3,Jj 3 (JC hq3) h1⟩
    ·
     rw [if_pos (by omega)]
     rw [hrd] at hp2
     have hcl:yu ((aaN P (fixed P ops) (fun k=>Vl P ops && (Jc P ops).contains (k,j)) j (ops.toList.drop j) []).getD (i - j) []) oi=true:=by
      simpa [hlt] using hp2
     obtain ⟨hGj2,hTj⟩:=hline.inv j (by omega)
     have hC0:Clear (μs j) (Hs j) [] (Ts j) (As j):=fun t _=>(hTj.slots t).v0
     have hld:∀ k o,j≤k→ops.toList[k]?=some o→isLoad o=true→(Vl P ops && (Jc P ops).contains (k,j))=true→yC (qj (Ts k) o) (Ss j) (Ss k)=true∧aa4 (qj (Ts k) o) (Ss j) (Ss k)=true:=by
      intro k o hjk hok hld hck
      rw [Bool.and_eq_true] at hck
      obtain ⟨hcm,hin⟩:=hck
      have hin:(k,j) ∈ Jc P ops:=by simpa using hin
      have hkj:k≠j:=fun e=>by
       subst e
       rw [hoj] at hok
       cases hok
       obtain ⟨dst,op,type,pos,after,guard⟩:=oj
       cases op <;> first | (cases hld;done) | (cases hcj;done)
      have hjk:j < k:=by omega
      have hkn:k < ops.toList.length:=(List.getElem?_eq_some_iff.1 hok).1
      have h1:(k,j) ∈ again P ops:=List.mem_append_left _ hin
      have h2:(k+1000,j) ∈ again P ops:=List.mem_append_right _ (by
       rw [if_pos hcm]
       exact List.mem_map.2 ⟨(k,j),List.mem_filter.2 ⟨hin,decide_eq_true hjk⟩,rfl⟩)
      have hne:(again P ops).isEmpty=false:=by
       cases hl:again P ops with
       | nil=>rw [hl] at h1;cases h1
       | cons a b=>rfl
      have t1:=List.all_eq_true.1 (e14 hne) _ h1
      have t2:=List.all_eq_true.1 (e14 hne) _ h2
      rw [List.nil_append] at t1 t2
      have hk1:(hs++[(zh,Ss ops.toList.length)])[k]?=some (qj (Ts k) o,Ss k):=by
       rw [List.getElem?_append_left (by omega)];exact e13 k o hok
      have hj1:(hs++[(zh,Ss ops.toList.length)])[j]?=some (qj (Ts j) oj,Ss j):=by
       rw [List.getElem?_append_left (by omega)];exact e13 j oj hoj
      unfold Ql at t1 t2
      dsimp only at t1 t2
      rw [if_pos (show k < 1000 by omega),if_pos hjk,hk1,hj1] at t1
      rw [if_neg (show ¬ k+1000 < 1000 by omega),Nat.add_sub_cancel,hk1,hj1] at t2
      dsimp only at t1 t2
      rw [if_pos hjk] at t1
      exact ⟨t1,t2⟩
     have hC:=hline.clear hdr (j:=j) (by omega) (cl:=fun k=>Vl P ops && (Jc P ops).contains (k,j)) hld _ [] j (Nat.le_refl _) rfl hC0 (i - j) (by rw [List.length_drop];omega)
     rw [show j+(i - j)=i by omega] at hC
     have hL:=hline.later (i:=j) (i - j) (by omega)
     rw [show j+(i - j)=i by omega] at hL
     obtain ⟨a,h1,h2,_,_,h5⟩:=adb hdr hv hni hm (hC.operands (qM hv) hcl) hL
     rw [ha] at h5
     have e:zf i=a:=by simpa using congrArg (Option.map Prod.fst) h5
     subst e
     exact ⟨_,h2,Jj 3 (JC hq3) h1⟩
  obtain ⟨G',h1,h2⟩:=same
  unfold recheck
  rw [h1]
  exact h2
 ·
  rw [hw]
  rfl
end
end Go.Abs
namespace Go.Abs
open Go.RowKit
section
variable {P:Program} {call:FuncId→List Value→M Value}
def acY (μ:Mu) (ω:Nat→Option wB) (H:zx) (e:AEx) (T':List Value) (S':zx) (R:St):Prop :=
 ∃ A' H' μ' ω',R=some (e,A',H')∧GI μ' S' H'∧Later μ H μ' H'∧Kept ω H ω' H'∧TI μ' H' ω' T' A'
theorem abp {hp:Bool} (hc:Zo P call) (fuel:Nat):∀ (c:Code) (T T' A:List Value) (S S' H:zx) (μ:Mu) (ω:Nat→Option wB) (e:AEx),yI P hp call fuel c T S=some (e,T',S')→GI μ S H→TI μ H ω T A→acY μ ω H e T' S' (wu P c A H):=by
 intro c
 induction c with
 | skip =>
  intro T T' A S S' H μ ω e h hG hT
  simp only [yI,Option.some.injEq,Prod.mk.injEq] at h
  obtain ⟨rfl,rfl,rfl⟩:=h
  exact ⟨A,H,μ,ω,rfl,hG,Later.refl _ _,Kept.refl _ _,hT⟩
 | exit id =>
  intro T T' A S S' H μ ω e h hG hT
  simp only [yI,Option.some.injEq,Prod.mk.injEq] at h
  obtain ⟨rfl,rfl,rfl⟩:=h
  exact ⟨A,H,μ,ω,rfl,hG,Later.refl _ _,Kept.refl _ _,hT⟩
 | ret =>
  intro T T' A S S' H μ ω e h hG hT
  simp only [yI,Option.some.injEq,Prod.mk.injEq] at h
  obtain ⟨rfl,rfl,rfl⟩:=h
  exact ⟨A,H,μ,ω,rfl,hG,Later.refl _ _,Kept.refl _ _,hT⟩
 | region i ops d =>
  intro T T' A S S' H μ ω e h hG hT
  cases d with
  | false =>
   simp only [yI] at h
   split at h <;> first | (cases h;done) | skip
   rename_i T1 S1 ho
   cases h
   obtain ⟨A',H',μ',ω',h1,h2,h3,h4,h5⟩:=adw hc _ _ _ _ _ _ _ _ _ ho hG hT
   exact ⟨A',H',μ',ω',by simp only [wu,h1],h2,h3,h4,h5⟩
  | true =>
   simp only [yI] at h
   split at h <;> first | (cases h;done) | skip
   rename_i hd
   split at h <;> first | (cases h;done) | skip
   rename_i T1 S1 ho
   cases h
   obtain ⟨A',H',μ',ω',h1,h2,h3,h4,h5⟩:=aat hc hd ho hG hT
   exact ⟨A',H',μ',ω',by simp only [wu,h1],h2,h3,h4,h5⟩
 | seq x y ihx ihy =>
  intro T T' A S S' H μ ω e h hG hT
  simp only [yI] at h
  split at h
  ·
   rename_i T1 S1 hx
   obtain ⟨A1,H1,μ1,ω1,h1,h2,h3,h4,h5⟩:=ihx _ _ _ _ _ _ _ _ _ hx hG hT
   obtain ⟨A2,H2,μ2,ω2,k1,k2,k3,k4,k5⟩:=ihy _ _ _ _ _ _ _ _ _ h h2 h5
   exact ⟨A2,H2,μ2,ω2,by simp only [wu,h1];exact k1,k2,h3.trans k3,h4.trans k4,k5⟩
  ·
   rename_i hne
   obtain ⟨A1,H1,μ1,ω1,h1,h2,h3,h4,h5⟩:=ihx _ _ _ _ _ _ _ _ _ h hG hT
   refine ⟨A1,H1,μ1,ω1,?_,h2,h3,h4,h5⟩
   simp only [wu,h1]
   cases e with
   | normal=>exact absurd h (hne _ _)
   | exit id=>rfl
   | ret=>rfl
 | cond c x y ihx ihy =>
  intro T T' A S S' H μ ω e h hG hT
  simp only [yI] at h
  split at h <;> first | (cases h;done) | skip
  rename_i hok
  have hv:=hT.eval hok
  split at h
  ·
   rename_i hb
   have:zJ A c=.bool true:=zW hv (by rw [hb];rfl) |>.trans hb
   obtain ⟨A1,H1,μ1,ω1,h1,h2,h3,h4,h5⟩:=ihx _ _ _ _ _ _ _ _ _ h hG hT
   exact ⟨A1,H1,μ1,ω1,by simp only [wu,hok,if_true,this];exact h1,h2,h3,h4,h5⟩
  ·
   rename_i hb
   have:zJ A c=.bool false:=zW hv (by rw [hb];rfl) |>.trans hb
   obtain ⟨A1,H1,μ1,ω1,h1,h2,h3,h4,h5⟩:=ihy _ _ _ _ _ _ _ _ _ h hG hT
   exact ⟨A1,H1,μ1,ω1,by simp only [wu,hok,if_true,this];exact h1,h2,h3,h4,h5⟩
  ·
   cases h
 | block id c ih =>
  intro T T' A S S' H μ ω e h hG hT
  simp only [yI] at h
  split at h
  ·
   rename_i id' T1 S1 hx
   obtain ⟨A1,H1,μ1,ω1,h1,h2,h3,h4,h5⟩:=ih _ _ _ _ _ _ _ _ _ hx hG hT
   by_cases hid:id'=id
   ·
    rw [if_pos hid] at h
    cases h
    exact ⟨A1,H1,μ1,ω1,by simp only [wu,h1,if_pos hid],h2,h3,h4,h5⟩
   ·
    rw [if_neg hid] at h
    cases h
    exact ⟨A1,H1,μ1,ω1,by simp only [wu,h1,if_neg hid],h2,h3,h4,h5⟩
  ·
   rename_i hne
   obtain ⟨A1,H1,μ1,ω1,h1,h2,h3,h4,h5⟩:=ih _ _ _ _ _ _ _ _ _ h hG hT
   refine ⟨A1,H1,μ1,ω1,?_,h2,h3,h4,h5⟩
   simp only [wu,h1]
   cases e with
   | normal=>rfl
   | exit id'=>exact absurd h (hne _ _ _)
   | ret=>rfl
 | loop c ih =>
  have key:∀ (n:Nat) (T T' A:List Value) (S S' H:zx) (μ:Mu) (ω:Nat→Option wB) (e:AEx),yD n (yI P hp call fuel c) T S=some (e,T',S')→GI μ S H→TI μ H ω T A→acY μ ω H e T' S' (wP (wu P c) A H):=by
   intro n
   induction n with
   | zero=>intro T T' A S S' H μ ω e h;cases h
   | succ n ihn =>
    intro T T' A S S' H μ ω e h hG hT
    simp only [yD] at h
    split at h
    ·
     rename_i T1 S1 hx
     obtain ⟨A1,H1,μ1,ω1,h1,h2,h3,h4,h5⟩:=ih _ _ _ _ _ _ _ _ _ hx hG hT
     obtain ⟨A2,H2,μ2,ω2,k1,k2,k3,k4,k5⟩:=ihn _ _ _ _ _ _ _ _ _ h h2 h5
     exact ⟨A2,H2,μ2,ω2,by rw [jo h1];exact k1,k2,h3.trans k3,h4.trans k4,k5⟩
    ·
     rename_i hne
     obtain ⟨A1,H1,μ1,ω1,h1,h2,h3,h4,h5⟩:=ih _ _ _ _ _ _ _ _ _ h hG hT
     exact ⟨A1,H1,μ1,ω1,jr h1 (fun he=>by subst he;exact hne _ _ h),h2,h3,h4,h5⟩
  intro T T' A S S' H μ ω e h hG hT
  simp only [yI] at h
  obtain ⟨A1,H1,μ1,ω1,h1,h2⟩:=key fuel _ _ _ _ _ _ _ _ _ h hG hT
  exact ⟨A1,H1,μ1,ω1,by simp only [wu];exact h1,h2⟩
 | _=>intro T T' A S S' H μ ω e h;simp only [yI] at h;cases h
theorem VV.aeI {μ:Mu} {H:zx} {ω ω':Nat→Option wB} {f:wB→Option wB} (hω:∀ r,ω' r=(ω r).bind f) {s s':wB} (hs:f s=some s') {v a:Value} (h:VV μ H ω (some s) v a) (hv:yZ v=true):VV μ H ω' (some s') v a:=by
 cases h with
 | sg h=>exact .sg h
 | ptr h=>exact .ptr h
 | map h=>exact .map h
 | slm h=>exact .slm h
 | slE=>exact .slE
 | sl hr hp hg hl hl' hc=>exact .sl hr hp hg hl hl' (fun i hi=>(hc i hi).at0)
 | so h hr hp hg hl hl' hc=>exact .so (by rw [hω,h];exact hs) hr hp hg hl hl' (fun i hi=>(hc i hi).at0)
 | ep hr hp hg hl hc=>exact .ep hr hp hg hl (fun i hi=>(hc i hi).at0)
 | func fn hx hc h1 h2=>exact .func fn hx hc (fun i=>(h1 i).at0) (fun i=>(h2 i).at0)
 | agg hx hh=>exact .agg hx (fun i=>(hh i).at0)
 | nores=>exact .nores
 | @tuple _ x x' hx hh =>
  have h0:x.size=0:=by simpa [yZ] using hv
  have e1:x=#[]:=Array.eq_empty_of_size_eq_zero h0
  have e2:x'=#[]:=Array.eq_empty_of_size_eq_zero (by rw [← hx];exact h0)
  subst e1 e2
  exact .nores
def place (rs:List ResultVar):wB→Option wB
 | .ext=>some .ext
 | .res _=>none
 | .slot i j=>match rs with
  | [.tmp t]=>if i=t then some (.res j) else none
  | _=>match j with
   | none=>(rs.findIdx? (abX i)).map fun k=>.res (some k)
   | some _=>none
theorem X0 {rs:List ResultVar} {i:Nat} (h:∀ t,rs≠[.tmp t]):place rs (.slot i none)=(rs.findIdx? (abX i)).map fun k=>.res (some k):=by
 match rs,h with
 | [],_=>rfl
 | [.tmp t],h=>exact absurd rfl (h t)
 | [.cell _ _],_=>rfl
 | .tmp _::_::_,_=>rfl
 | .cell _ _::_::_,_=>rfl
theorem KD {μ:Mu} {ω:Nat→Option wB} {S H:zx} {T A:List Value} (hG:GI μ S H) (hT:TI μ H ω T A):∀ (l:List ResultVar) (vs:List Value),zH P T S l=some vs →
  ∃ zf,qP P A H l=some zf∧vs.length=l.length∧zf.length=l.length∧∀ i:Nat,match (l[i]?:Option ResultVar) with
   | some (.tmp t)=>vs.getD i zh=T.getD t zh∧zf.getD i zh=A.getD t zh
   | _=>V0 μ H (vs.getD i zh) (zf.getD i zh):=by
 intro l
 induction l with
 | nil =>
  intro vs h
  simp only [zH,Option.some.injEq] at h
  subst h
  exact ⟨[],rfl,rfl,rfl,fun i=>by simpa using VV.zh⟩
 | cons x l ih =>
  intro vs h
  cases x with
  | tmp t =>
   simp only [zH] at h
   split at h <;> first | (cases h;done) | skip
   rename_i vs' hr
   cases h
   obtain ⟨zf,h1,h2,h3,h4⟩:=ih _ hr
   refine ⟨A.getD t zh::zf,by simp only [qP,h1],by simp [h2],by simp [h3],fun i=>?_⟩
   cases i with
   | zero=>exact ⟨rfl,rfl⟩
   | succ i=>simpa using h4 i
  | cell a t =>
   simp only [zH] at h
   split at h <;> first | (cases h;done) | skip
   rename_i v S1 vs' hl hr
   cases h
   obtain ⟨zf,h1,h2,h3,h4⟩:=ih _ hr
   obtain ⟨_,w,k1,k2⟩:=vM hl (hT.slots a).v0 (.inr hG)
   refine ⟨w::zf,by simp only [qP,k1,h1],by simp [h2],by simp [h3],fun i=>?_⟩
   cases i with
   | zero=>exact k2
   | succ i=>simpa using h4 i
theorem ac9 {μ:Mu} {ω:Nat→Option wB} {S S' H:zx} {T A:List Value} {fn:Func} {v:Value} (hG:GI μ S H) (hT:TI μ H ω T A) (h:abn P fn T S=some (v,S')) :
  S'=S∧∃ a,ab7 P fn A H=some (a,H)∧VV μ H (fun r=>(ω r).bind (place fn.results.toList)) (some (.res none)) v a:=by
 unfold abn at h
 split at h <;> first | (cases h;done) | skip
 rename_i vs hvs
 split at h <;> first | (cases h;done) | skip
 rename_i hok
 obtain ⟨zf,h1,h2,h3,h4⟩:=KD hG hT _ _ hvs
 generalize hrs:fn.results.toList=rs at *
 split at h
 ·
  rename_i v1
  cases h
  obtain ⟨a,rfl⟩:∃ a,zf=[a]:=by
   match zf,h3.trans h2.symm with
   | [a],_=>exact ⟨a,rfl⟩
  refine ⟨rfl,a,by simp only [ab7,hrs,h1],?_⟩
  match rs,h2 with
  | [x],_ =>
   have:=h4 0
   cases x with
   | tmp t =>
    simp only [List.getElem?_cons_zero,List.getD_cons_zero] at this
    obtain ⟨rfl,rfl⟩:=this
    refine (hT.slots t).WV (fun _=>rfl) _ (fun s hs=>?_)
    cases hs
    refine ⟨_,rfl,by simp only [place,if_true],fun k t' ht=>?_⟩
    cases ht
    exact ⟨_,rfl,by simp only [place,if_true]⟩
   | cell b t=>exact (show V0 μ H v a from this).at0
 ·
  rename_i hne
  split at h <;> first | (cases h;done) | skip
  rename_i hnt
  cases h
  refine ⟨rfl,.tuple zf.toArray,?_,.tuple (by simp [h2,h3]) fun i=>?_⟩
  ·
   simp only [ab7,hrs,h1]
   match zf,vs,h3.trans h2.symm,hne with
   | [],_,_,_=>rfl
   | [a],[v],_,hne=>exact absurd rfl (hne v)
   | a::b::c,_,_,_=>rfl
  ·
   have e1:vs.toArray.getD i zh=vs.getD i zh:=by rw [← getD_toList,List.toList_toArray]
   have e2:zf.toArray.getD i zh=zf.getD i zh:=by rw [← getD_toList,List.toList_toArray]
   rw [e1,e2]
   have h5:=h4 i
   cases hx:rs[i]? with
   | none=>rw [hx] at h5;exact (show V0 μ H _ _ from h5).at0
   | some x =>
    rw [hx] at h5
    cases x with
    | cell b t=>exact (show V0 μ H _ _ from h5).at0
    | tmp t =>
     dsimp only at h5
     have hi:i < rs.length:=(List.getElem?_eq_some_iff.1 hx).1
     have hid:rs.findIdx? (abX t)=some i:=by
      have:=List.all_eq_true.1 hok i (List.mem_range.2 hi)
      rw [hx] at this
      simpa using this
     have hnt2:yZ (T.getD t zh)=true:=by
      rw [← h5.1,List.getD_eq_getElem?_getD,List.getElem?_eq_getElem (by omega)]
      exact List.all_eq_true.1 hnt _ (List.getElem_mem _)
     rw [h5.1,h5.2]
     refine (hT.slots t).aeI (fun _=>rfl) (s':=.res (some i)) ?_ hnt2
     have hne1:∀ t',rs≠[.tmp t']:=by
      intro t' e
      rw [e] at h2
      match vs,h2 with
      | [v],_=>exact hne v rfl
     rw [X0 hne1,hid];rfl
def ab6 (P:Program) (O:Ora):Prop:=∀ f q,O.fn f=some q→Zo P (fun g args=>if g=f then q args else fun _=>none)
theorem adk {s t:wB} {i:Nat} (h:s.comp i=some t):t≠.ext:=by
 cases s with
 | ext=>cases h
 | slot a b=>cases b <;> first | (cases h;exact fun h=>by cases h) | cases h
 | res b=>cases b <;> first | (cases h;exact fun h=>by cases h) | cases h
theorem VV.yU {μ μ':Mu} {H:zx} {ω ω':Nat→Option wB} {es:List Nat} (hp:∀ r l own e,H.get r=some (.cells l own e)→e ∉ es→xY μ r→xY μ' r) (hω:∀ r s,s≠.ext→ω r=some s→ω' r=some s)
  {ℓ:Option wB} {v a:Value} (h:VV μ H ω ℓ v a):∀ d,Go.Abs.yU es d v=true→(∀ s,ℓ=some s→s≠.ext)→VV μ' H ω' ℓ v a:=by
 induction h with
 | sg h=>exact fun _ _ _=>.sg h
 | ptr h=>intro d hc;cases d <;> simp [Go.Abs.yU] at hc
 | map h=>intro d hc;cases d <;> simp [Go.Abs.yU] at hc
 | slm h=>intro d hc;cases d <;> simp [Go.Abs.yU] at hc
 | slE=>exact fun _ _ _=>.slE
 | @sl ℓ e n r o cs l own hr hpr hg hl hn hc ih =>
  intro d hcl _
  cases d with
  | zero=>cases hcl
  | succ d =>
   have hv:Go.Abs.yU es (d+1) (.iface 1 (.iface e (.iface n (.agg cs))))=(!es.contains e && cs.toList.all (Go.Abs.yU es d)):=rfl
   rw [hv,Bool.and_eq_true] at hcl
   have he:e ∉ es:=by simpa using hcl.1
   refine .sl hr (hp _ _ _ _ hg he hpr) hg hl hn (fun i hi=>ih i hi d ?_ (fun s hs=>by cases hs))
   rw [List.getD_eq_getElem?_getD,List.getElem?_eq_getElem (by omega)]
   exact List.all_eq_true.1 hcl.2 _ (List.getElem_mem _)
 | @so s e n r cs l anc hw hr hpr hg hl hn hc ih =>
  intro d hcl hs
  cases d with
  | zero=>cases hcl
  | succ d =>
   have hv:Go.Abs.yU es (d+1) (.iface 2 (.iface e (.iface n (.agg cs))))=(!es.contains e && cs.toList.all (Go.Abs.yU es d)):=rfl
   rw [hv,Bool.and_eq_true] at hcl
   have he:e ∉ es:=by simpa using hcl.1
   refine .so (hω _ _ (hs _ rfl) hw) hr (hp _ _ _ _ hg he hpr) hg hl hn (fun i hi=>ih i hi d ?_ (fun s hs=>by cases hs))
   rw [List.getD_eq_getElem?_getD,List.getElem?_eq_getElem (by omega)]
   exact List.all_eq_true.1 hcl.2 _ (List.getElem_mem _)
 | ep hr hpr hg hl hc ih =>
  intro d hcl
  cases d with
  | zero=>cases hcl
  | succ d=>simp [Go.Abs.yU,vSl] at hcl
 | func fn hx hc h1 h2=>intro d hc;cases d <;> simp [Go.Abs.yU] at hc
 | @agg ℓ x x' hx hh ih =>
  intro d hcl _
  cases d with
  | zero=>cases hcl
  | succ d =>
   have hcl:x.toList.all (Go.Abs.yU es d)=true:=hcl
   refine .agg hx (fun i=>?_)
   by_cases hi:i < x.size
   ·
    refine ih i d ?_ (fun s hs=>by cases hs)
    rw [Array.getD_eq_getD_getElem?,Array.getElem?_eq_getElem hi]
    exact List.all_eq_true.1 hcl _ (by simp)
   ·
    rw [Array.getD_eq_getD_getElem?,Array.getElem?_eq_none (Nat.le_of_not_lt hi),Array.getD_eq_getD_getElem?,Array.getElem?_eq_none (by omega)]
    exact .nores
 | nores=>exact fun _ _ _=>.nores
 | @tuple ℓ x x' hx hh ih =>
  intro d hcl hs
  cases d with
  | zero=>cases hcl
  | succ d =>
   have hcl:x.toList.all (Go.Abs.yU es d)=true:=hcl
   refine .tuple hx (fun i=>?_)
   by_cases hi:i < x.size
   ·
    refine ih i d ?_ (fun s hb=>?_)
    ·
     rw [Array.getD_eq_getD_getElem?,Array.getElem?_eq_getElem hi]
     exact List.all_eq_true.1 hcl _ (by simp)
    ·
     cases ℓ with
     | none=>cases hb
     | some s0=>exact adk (s:=s0) hb
   ·
    rw [Array.getD_eq_getD_getElem?,Array.getElem?_eq_none (Nat.le_of_not_lt hi),Array.getD_eq_getD_getElem?,Array.getElem?_eq_none (by omega)]
    exact .nores
open Classical in
noncomputable def ae3 (μ:Mu) (ω:Nat→Option wB):Nat→Option wB:=fun r=>if ∃ q,μ q=some (r,true) then none else ω r
open Classical in
noncomputable def W9 (μ μ1:Mu) (ω:Nat→Option wB):Nat→Option wB:=fun r=>if ∃ q,μ q=some (r,true)∧¬ μ1 q=some (r,true) then some .ext else ω r
theorem abE {call:FuncId→List Value→M Value} (hc:Zo P call) {hps:FuncId→Bool} {hp:Bool}:Zo P (jU hps hp call):=by
 cases hp with
 | false=>exact hc
 | true =>
  intro g args aargs S v S' h μ H ω hG hA hD hE
  unfold jU at h
  dsimp only at h
  split at h
  ·
   exact hc g args aargs S v S' h μ H ω hG hA hD hE
  ·
   split at h <;> first | (cases h;done) | skip
   rename_i m S1 hf
   obtain ⟨μ1,h1,h2,h3,hsz⟩:=Qq _ _ _ _ _ _ hf hG hA
   split at h <;> first | (cases h;done) | skip
   rename_i r0 hr0
   obtain ⟨v0,S2⟩:=r0
   simp only [Option.some.injEq] at h
   unfold Qd at h
   dsimp only at h
   split at h
   ·
    rename_i hb
    cases h
    simp only [Bool.and_eq_true,beq_iff_eq] at hb
    obtain ⟨⟨_,hgr⟩,hlog⟩:=hb
    have hlent:∀ q r,μ q=some (r,true)→¬ μ1 q=some (r,true)→r < H.next∧xY μ1 r:=fun q r hq hn =>
     ⟨hG.lt q r _ hq,fun q' hq'=>by
      rcases h2.new q' r hq' with h5 | h5
      ·
       have:=hG.inj q q' r hq h5
       subst this
       exact hn hq'
      ·
       have:=hG.lt q r _ hq;omega,by rw [h2.hid];exact hG.vis q r hq⟩
    have hDL:Dom μ1 H (W9 μ μ1 ω):=fun r s hs=>by
     unfold W9 at hs
     split at hs
     ·
      rename_i hx
      obtain ⟨q,hq,hn⟩:=hx
      exact hlent q r hq hn
     ·
      exact ⟨(hD r s hs).1,h2.priv (hD r s hs).1 (hD r s hs).2⟩
    have hEL:∀ r s,W9 μ μ1 ω r=some s→s=.ext:=fun r s hs=>by
     unfold W9 at hs
     split at hs
     ·
      cases hs;rfl
     ·
      exact hE r s hs
    obtain ⟨a,H',μ',ω',k1,k2,k3,k4,k5,k6⟩:=hc g m aargs S1 v S2 hr0 μ1 H (W9 μ μ1 ω) h1 h3 hDL hEL
    have hsame:∀ q r,μ q=some (r,true)→H'.get r=H.get r:=fun q r hq=>by
     by_cases hn:μ1 q=some (r,true)
     ·
      obtain ⟨new,e1,e2⟩:=k3.still
      have:new=[]:=by
       rw [k2.log,h1.log,hlog] at e1
       exact List.append_cancel_right (bs:=S1.log) (by rw [← e1];rfl)
      subst this
      exact (e2 q r hn (by simp)).2
     ·
      exact (k4 r (by unfold W9;rw [if_pos ⟨q,hq,hn⟩])).2
    have hL:Later μ H μ H':=⟨fun _ _ b h=>⟨b,h⟩,k3.next,fun _ _ h=>.inl h,rfl,fun r hr hh=>k3.same r hr (by rw [h2.hid];exact hh),⟨[],rfl,fun q r hq _=>⟨hq,hsame q r hq⟩⟩,
     fun r l own e hr hp hg=>k3.cells r l own e hr (h2.priv hr hp) hg⟩
    rcases Bool.or_eq_true _ _ |>.mp hgr with hgr | hgr
    ·
     refine ⟨a,H',μ,ω,k1,hG.later hL rfl hsame,hL,fun r hr=>⟨hr,(k4 r ?_).2⟩,fun r s hs=>⟨Nat.lt_of_lt_of_le (hD r s hs).1 k3.next,(hD r s hs).2⟩,?_⟩
     ·
      unfold W9
      split
      ·
       rfl
      ·
       exact hr
     ·
      rw [VV.yQ hgr k6]
      exact VV.jR hgr
    ·
     have hpr:∀ r l own e,H'.get r=some (.cells l own e)→e ∉ ad4 S args→xY μ' r→xY μ r:=fun r l own e hg he hp=>by
      refine ⟨fun q hq=>?_,by rw [← h2.hid,← k3.hid];exact hp.2⟩
      rcases hsz q r hq with hn | ⟨l1,own1,e1,he1,hg1⟩
      ·
       obtain ⟨new,e1,e2⟩:=k3.still
       have:new=[]:=by
        rw [k2.log,h1.log,hlog] at e1
        exact List.append_cancel_right (bs:=S1.log) (by rw [← e1];rfl)
       subst this
       exact hp.1 q (e2 q r hn (by simp)).1
      ·
       rw [hsame q r hq,hg1] at hg
       cases hg
       exact he he1
     have hno:∀ r s,ω r=some s→¬ ∃ q,μ q=some (r,true):=fun r s hs ⟨q,hq⟩=>(hD r s hs).2.1 q hq
     have hst:∀ r,(∃ q,μ q=some (r,true))→∀ s,ω' r=some s→s=.ext:=fun r ⟨q,hq⟩ s hs=>by
      by_cases hn:μ1 q=some (r,true)
      ·
       exfalso
       obtain ⟨new,e1,e2⟩:=k3.still
       have:new=[]:=by
        rw [k2.log,h1.log,hlog] at e1
        exact List.append_cancel_right (bs:=S1.log) (by rw [← e1];rfl)
       subst this
       exact (k5 r s hs).2.1 q (e2 q r hn (by simp)).1
      ·
       have:=(k4 r (by unfold W9;rw [if_pos ⟨q,hq,hn⟩])).1
       rw [hs] at this
       cases this
       rfl
     refine ⟨a,H',μ,ae3 μ ω',k1,hG.later hL rfl hsame,hL,fun r hr=>?_,fun r s hs=>?_,?_⟩
     ·
      have hnr:=hno r _ hr
      unfold ae3
      rw [if_neg hnr]
      refine k4 r ?_
      unfold W9
      rw [if_neg (fun ⟨q,hq,_⟩=>hnr ⟨q,hq⟩)]
      exact hr
     ·
      unfold ae3 at hs
      split at hs
      ·
       cases hs
      ·
       rename_i hnr
       exact ⟨(k5 r s hs).1,fun q hq=>hnr ⟨q,hq⟩,by rw [← h2.hid,← k3.hid];exact (k5 r s hs).2.2⟩
     ·
      refine k6.yU hpr (fun r s hne hs=>?_) 16 hgr (fun s hs=>by cases hs;exact fun h=>by cases h)
      unfold ae3
      rw [if_neg (fun hx=>hne (hst r hx s hs))]
      exact hs
   ·
    cases h
    obtain ⟨a,H',μ',ω',k1,k2,k3,k4,k5,k6⟩:=hc g m aargs S1 v S' hr0 μ1 H ω h1 h3 (fun r s hs=>⟨(hD r s hs).1,h2.priv (hD r s hs).1 (hD r s hs).2⟩) hE
    exact ⟨a,H',μ',ω',k1,k2,h2.trans k3,k4,k5,k6⟩
theorem VV.clean {μ μ':Mu} {H:zx} {ω:Nat→Option wB} (hp:∀ r,xY μ r→xY μ' r) {ℓ:Option wB} {v a:Value} (h:VV μ H ω ℓ v a):∀ d,ji d v=true→VV μ' H ω ℓ v a:=by
 induction h with
 | sg h=>exact fun _ _=>.sg h
 | ptr h=>intro d hc;cases d <;> simp [ji] at hc
 | map h=>intro d hc;cases d <;> simp [ji] at hc
 | slm h=>intro d hc;cases d <;> simp [ji] at hc
 | slE=>exact fun _ _=>.slE
 | sl hr hpr hg hl hn hc ih =>
  intro d hcl
  obtain ⟨d,rfl⟩:∃ k,d=k+4:=by
   match d,hcl with
   | 0,h=>cases h
   | 1,h=>simp [ji] at h
   | 2,h=>simp [ji] at h
   | 3,h=>simp [ji] at h
   | k+4,_=>exact ⟨k,rfl⟩
  simp only [ji] at hcl
  refine .sl hr (hp _ hpr) hg hl hn (fun i hi=>ih i hi d ?_)
  rw [List.getD_eq_getElem?_getD,List.getElem?_eq_getElem (by omega)]
  exact List.all_eq_true.1 hcl _ (List.getElem_mem _)
 | so hω hr hpr hg hl hn hc ih =>
  intro d hcl
  obtain ⟨d,rfl⟩:∃ k,d=k+4:=by
   match d,hcl with
   | 0,h=>cases h
   | 1,h=>simp [ji] at h
   | 2,h=>simp [ji] at h
   | 3,h=>simp [ji] at h
   | k+4,_=>exact ⟨k,rfl⟩
  simp only [ji] at hcl
  refine .so hω hr (hp _ hpr) hg hl hn (fun i hi=>ih i hi d ?_)
  rw [List.getD_eq_getElem?_getD,List.getElem?_eq_getElem (by omega)]
  exact List.all_eq_true.1 hcl _ (List.getElem_mem _)
 | ep hr hpr hg hl hc ih =>
  intro d hcl
  obtain ⟨d,rfl⟩:∃ k,d=k+2:=by
   match d,hcl with
   | 0,h=>cases h
   | 1,h=>simp [ji] at h
   | k+2,_=>exact ⟨k,rfl⟩
  simp only [ji] at hcl
  refine .ep hr (hp _ hpr) hg hl (fun i hi=>ih i hi d ?_)
  rw [List.getD_eq_getElem?_getD,List.getElem?_eq_getElem hi]
  exact List.all_eq_true.1 hcl _ (List.getElem_mem _)
 | func fn hx hc h1 h2=>intro d hc;cases d <;> simp [ji] at hc
 | @agg ℓ x x' hx hh ih =>
  intro d hcl
  obtain ⟨d,rfl⟩:∃ k,d=k+1:=by
   match d,hcl with
   | 0,h=>cases h
   | k+1,_=>exact ⟨k,rfl⟩
  simp only [ji] at hcl
  refine .agg hx (fun i=>?_)
  by_cases hi:i < x.size
  ·
   refine ih i d ?_
   rw [Array.getD_eq_getD_getElem?,Array.getElem?_eq_getElem hi]
   exact List.all_eq_true.1 hcl _ (by simp)
  ·
   rw [Array.getD_eq_getD_getElem?,Array.getElem?_eq_none (Nat.le_of_not_lt hi),Array.getD_eq_getD_getElem?,Array.getElem?_eq_none (by omega)]
   exact .nores
 | nores=>exact fun _ _=>.nores
 | @tuple ℓ x x' hx hh ih =>
  intro d hcl
  obtain ⟨d,rfl⟩:∃ k,d=k+1:=by
   match d,hcl with
   | 0,h=>cases h
   | k+1,_=>exact ⟨k,rfl⟩
  simp only [ji] at hcl
  refine .tuple hx (fun i=>?_)
  by_cases hi:i < x.size
  ·
   refine ih i d ?_
   rw [Array.getD_eq_getD_getElem?,Array.getElem?_eq_getElem hi]
   exact List.all_eq_true.1 hcl _ (by simp)
  ·
   rw [Array.getD_eq_getD_getElem?,Array.getElem?_eq_none (Nat.le_of_not_lt hi),Array.getD_eq_getD_getElem?,Array.getElem?_eq_none (by omega)]
   exact .nores
theorem VV.lower {μ μ' : Mu} {S H : zx} {ω : Nat → Option wB} (hG : GI μ S H) (hp : ∀ r, xY μ r → xY μ' r) (hq : ∀ q r, μ q = some (r, true) → xY μ' r) {ℓ : Option wB} {v a : Value} (h : VV μ H ω ℓ v a) :
    ∀ d d', ji d (jF S d' v) = true → VV μ' H ω ℓ (jF S d' v) a := by
  induction h with
  | sg h =>
    intro d d' hc
    rename_i v
    have e : jF S d' v = v := by
      cases d' with
      | zero => rfl
      | succ d' => cases v <;> first | rfl | (simp [Go.Abs.sg] at h; done) | skip
                   rename_i a n c
                   cases a <;> first | rfl | (simp [Go.Abs.sg] at h; done)
    rw [e]; exact .sg h
  | ptr h => intro d d' hc; cases d' <;> cases d <;> simp [jF, ji] at hc
  | map h => intro d d' hc; cases d' <;> cases d <;> simp [jF, ji] at hc
  | @slm ℓ r o r' b n hm =>
    intro d d' hc
    cases d' with
    | zero => cases d <;> simp [jF, ji] at hc
    | succ d' =>
      by_cases ho : o = 0
      · subst ho
        cases hg : S.get r with
        | none => rw [show jF S (d' + 1) (.slice (some ⟨r, 0, none⟩) n n) = .slice (some ⟨r, 0, none⟩) n n by simp only [jF, hg]] at hc; cases d <;> simp [ji] at hc
        | some ob =>
          cases ob with
          | map es c => rw [show jF S (d' + 1) (.slice (some ⟨r, 0, none⟩) n n) = .slice (some ⟨r, 0, none⟩) n n by simp only [jF, hg]] at hc; cases d <;> simp [ji] at hc
          | dead => rw [show jF S (d' + 1) (.slice (some ⟨r, 0, none⟩) n n) = .slice (some ⟨r, 0, none⟩) n n by simp only [jF, hg]] at hc; cases d <;> simp [ji] at hc
          | cells cs own e =>
            by_cases hle : n * e ≤ cs.length
            · have e1 : jF S (d' + 1) (.slice (some ⟨r, 0, none⟩) n n) = SL 1 e n (cs.take (n * e)) := by simp only [jF, hg, hle, and_self, if_true]
              rw [e1] at hc ⊢
              obtain ⟨r2, cs', own', _, hm', hg', hl⟩ := hG.cells hg
              rw [hm] at hm'; cases hm'
              have hlen := hl.1
              refine .sl (o := 0) (hG.lt r r' _ hm) (hq r r' hm) hg' (by omega) (by simp; omega) fun i hi => ?_
              have hv : VV μ H W0 none (cs.getD i Go.undef) (cs'.getD i Go.undef) := hl.2 i
              have e2 : (cs.take (n * e)).toArray.toList.getD i Go.undef = cs.getD i Go.undef := by
                rw [List.toList_toArray, List.getD_eq_getElem?_getD, List.getElem?_take, if_pos hi, ← List.getD_eq_getElem?_getD]
              rw [e2, Nat.zero_add]
              obtain ⟨d, rfl⟩ : ∃ k, d = k + 4 := by
                match d, hc with
                | 0, h => cases h
                | 1, h => simp [SL, ji] at h
                | 2, h => simp [SL, ji] at h
                | 3, h => simp [SL, ji] at h
                | k + 4, _ => exact ⟨k, rfl⟩
              simp only [SL, ji, List.toList_toArray] at hc
              have hci : ji d (cs.getD i Go.undef) = true := by
                have h2 : i < cs.length := by omega
                rw [List.getD_eq_getElem?_getD, List.getElem?_eq_getElem h2, Option.getD_some]
                exact List.all_eq_true.1 hc _ (by rw [List.mem_take_iff_getElem]; exact ⟨i, by omega, rfl⟩)
              exact (hv.clean hp d hci).at0
            · rw [show jF S (d' + 1) (.slice (some ⟨r, 0, none⟩) n n) = .slice (some ⟨r, 0, none⟩) n n by simp only [jF, hg, hle, and_false, if_false]] at hc; cases d <;> simp [ji] at hc
      · rw [show jF S (d' + 1) (.slice (some ⟨r, o, none⟩) n n) = .slice (some ⟨r, o, none⟩) n n by
          simp only [jF]
          split
          · rename_i h; simp only [Value.slice.injEq, Option.some.injEq, Addr.mk.injEq] at h; exact absurd h.1.2.1 ho
          · rename_i h; cases h
          · rename_i h; cases h
          · rfl] at hc
        cases d <;> simp [ji] at hc
  | slE => intro d d' _; cases d' <;> exact .slE
  | sl hr hpr hg hl hn hc ih => intro d d' hcl; cases d' <;> exact (VV.sl hr hpr hg hl hn hc).clean hp d hcl
  | so hω hr hpr hg hl hn hc ih => intro d d' hcl; cases d' <;> exact (VV.so hω hr hpr hg hl hn hc).clean hp d hcl
  | ep hr hpr hg hl hc ih => intro d d' hcl; cases d' <;> exact (VV.ep hr hpr hg hl hc).clean hp d hcl
  | func fn hx hc h1 h2 => intro d d' hcl; cases d' <;> cases d <;> simp [jF, ji] at hcl
  | @agg ℓ x x' hx hh ih =>
    intro d d' hcl
    cases d' with
    | zero => exact (VV.agg hx hh).clean hp d hcl
    | succ d' =>
      have e : jF S (d' + 1) (.agg x) = .agg (x.map (jF S d')) := rfl
      rw [e] at hcl ⊢
      cases d with
      | zero => cases hcl
      | succ d =>
        simp only [ji] at hcl
        refine .agg (by simpa using hx) fun i => ?_
        by_cases hi : i < x.size
        · have e2 : (x.map (jF S d')).getD i Go.undef = jF S d' (x.getD i Go.undef) := by simp [Array.getD_eq_getD_getElem?, Array.getElem?_eq_getElem hi]
          rw [e2]
          refine ih i d d' ?_
          refine List.all_eq_true.1 hcl _ ?_
          simp only [Array.toList_map, List.mem_map]
          exact ⟨x[i], by simp, by rw [Array.getD_eq_getD_getElem?, Array.getElem?_eq_getElem hi]; rfl⟩
        · rw [Array.getD_eq_getD_getElem?, Array.getElem?_eq_none (by simpa using Nat.le_of_not_lt hi), Array.getD_eq_getD_getElem?, Array.getElem?_eq_none (by omega)]
          exact .nores
  | nores =>
    intro d d' hcl
    cases d' with
    | zero => exact .nores
    | succ d' => rw [show jF S (d' + 1) (.tuple #[]) = .tuple #[] by simp [jF]]; exact .nores
  | @tuple ℓ x x' hx hh ih =>
    intro d d' hcl
    cases d' with
    | zero => exact (VV.tuple hx hh).clean hp d hcl
    | succ d' =>
      have e : jF S (d' + 1) (.tuple x) = .tuple (x.map (jF S d')) := rfl
      rw [e] at hcl ⊢
      cases d with
      | zero => cases hcl
      | succ d =>
        simp only [ji] at hcl
        refine .tuple (by simpa using hx) fun i => ?_
        by_cases hi : i < x.size
        · have e2 : (x.map (jF S d')).getD i Go.undef = jF S d' (x.getD i Go.undef) := by simp [Array.getD_eq_getD_getElem?, Array.getElem?_eq_getElem hi]
          rw [e2]
          refine ih i d d' ?_
          refine List.all_eq_true.1 hcl _ ?_
          simp only [Array.toList_map, List.mem_map]
          exact ⟨x[i], by simp, by rw [Array.getD_eq_getD_getElem?, Array.getElem?_eq_getElem hi]; rfl⟩
        · rw [Array.getD_eq_getD_getElem?, Array.getElem?_eq_none (by simpa using Nat.le_of_not_lt hi), Array.getD_eq_getD_getElem?, Array.getElem?_eq_none (by omega)]
          exact .nores
open Classical in
noncomputable def kT (μ:Mu):Mu:=⟨fun _=>none,fun r=>μ.hid r || decide (∃ q,μ q=some (r,true)),[]⟩
theorem Jd {μ:Mu} {r:Nat} (h:xY μ r):xY (kT μ) r:=⟨fun q hq=>(by cases hq),by
 simp only [kT,h.2,Bool.false_or,decide_eq_false_iff_not]
 rintro ⟨q,hq⟩
 exact h.1 q hq⟩
theorem VF {μ:Mu} {r:Nat} (h:(kT μ).hid r=false):xY μ r:=by
 simp only [kT,Bool.or_eq_false_iff,decide_eq_false_iff_not] at h
 exact ⟨fun q hq=>h.2 ⟨q,hq⟩,h.1⟩
def ae5 (P:Program) (g:FuncId) (args:List Value) (run:M Value):Prop:=∀ aargs S v S',run S=some (v,S')→∀ μ H ω,GI μ S H→L0 μ H args aargs→Dom μ H ω→(∀ r s,ω r=some s→s=.ext) →
 ∃ a H' μ' ω',lim P g aargs H=some (a,H')∧GI μ' S' H'∧Later μ H μ' H'∧Kept ω H ω' H'∧Dom μ' H' ω'∧VV μ' H' ω' (some (.res none)) v a
theorem ach {g:FuncId} {args:List Value} {run:M Value} (hr:ae5 P g args run):ae5 P g args (ab8 run args):=by
 intro aargs S v S' h μ H ω hG hA hD hE
 unfold ab8 at h
 split at h <;> first | (cases h;done) | skip
 rename_i hca
 split at h <;> first | (cases h;done) | skip
 rename_i w S1 hrun
 split at h <;> first | (cases h;done) | skip
 rename_i hcw
 cases h
 have hG0:GI (kT μ) zx.empty H:=⟨fun q o h=>(by cases h),fun q q' r h=>(by cases h),fun q r b h=>(by cases h),fun q _=>rfl,fun q r h=>(by cases h),fun r h=>by
  simp only [kT,Bool.or_eq_true,decide_eq_true_eq] at h
  rcases h with h | ⟨q,hq⟩
  ·
   exact hG.hlt r h
  ·
   exact hG.lt q r _ hq,rfl,fun q cs anc e h=>(by cases h)⟩
 have hA0:L0 (kT μ) H args aargs:=⟨hA.1,fun i=>by
  by_cases hi:i < args.length
  ·
   refine (hA.2 i).clean (fun r h=>Jd h) 16 ?_
   rw [List.getD_eq_getElem?_getD,List.getElem?_eq_getElem hi]
   exact List.all_eq_true.1 hca _ (List.getElem_mem _)
  ·
   rw [List.getD_eq_getElem?_getD,List.getElem?_eq_none (Nat.le_of_not_lt hi),List.getD_eq_getElem?_getD,List.getElem?_eq_none (by rw [← hA.1];omega)]
   exact .nores⟩
 obtain ⟨a,H1,μ1,ω1,k1,k2,k3,k4,k5,k6⟩:=hr aargs _ _ _ hrun (kT μ) H ω hG0 hA0 (fun r s h=>⟨(hD r s h).1,Jd (hD r s h).2⟩) hE
 have hp1:∀ r,xY μ1 r→xY μ r:=fun r h=>VF (by rw [← k3.hid];exact h.2)
 have hL:Later μ H μ H1:=⟨fun _ _ b h=>⟨b,h⟩,k3.next,fun _ _ h=>.inl h,rfl,fun r hr hh=>k3.same r hr (by simp only [kT,hh,Bool.true_or]),⟨[],rfl,fun q r hq _=>⟨hq,k3.same r (hG.lt q r _ hq) (by
  simp only [kT,Bool.or_eq_true,decide_eq_true_eq]
  exact .inr ⟨q,hq⟩)⟩⟩,fun r l own e hr hp hg=>k3.cells r l own e hr (Jd hp) hg⟩
 have hq1:∀ q r,μ1 q=some (r,true)→xY μ r:=fun q r h=>by
  rcases k3.new q r h with h5 | h5
  ·
   cases h5
  ·
   exact ⟨fun q' hq'=>by have:=hG.lt q' r _ hq';omega,by
    cases hh:μ.hid r with
    | false=>rfl
    | true=>have:=hG.hlt r hh;omega⟩
 refine ⟨a,H1,μ,ω1,k1,?_,hL,k4,fun r s h=>⟨(k5 r s h).1,hp1 r (k5 r s h).2⟩,k6.lower k2 hp1 hq1 16 16 hcw⟩
 exact hG.later hL rfl fun q r hq=>k3.same r (hG.lt q r _ hq) (by
  simp only [kT,Bool.or_eq_true,decide_eq_true_eq]
  exact .inr ⟨q,hq⟩)
theorem abx {O:Ora} (hO:ab6 P O):∀ n,Zo P (kN P O n):=by
 intro n
 induction n with
 | zero=>intro g args aargs S v S' h;cases h
 | succ n ih =>
  intro g args aargs S v S' h μ H ω hG hA hD hE
  simp only [kN] at h
  cases ho:O.fn g with
  | some q =>
   rw [ho] at h
   exact hO g q ho g args aargs S v S' (by simpa using h) μ H ω hG hA hD hE
  | none =>
   rw [ho] at h
   dsimp only at h
   cases hf:P.funcs[g]? with
   | none=>rw [hf] at h;cases h
   | some fn =>
    rw [hf] at h
    dsimp only at h
    split at h <;> first | (cases h;done) | skip
    rename_i hn
    cases hb:fn.body with
    | none=>rw [hb] at h;cases h
    | some c =>
     rw [hb] at h
     dsimp only at h
     have hrun:ae5 P g args (ac5 P (O.hp g) (jU O.hp (O.hp g) (kN P O n)) n fn c args):=by
      intro aargs S v S' h μ H ω hG hA hD hE
      have hT0:TI μ H ω (args++List.replicate (fn.ntmps - args.length) zh) (aargs++List.replicate (fn.ntmps - aargs.length) zh):=by
       have hl:L0 μ H (args++List.replicate (fn.ntmps - args.length) zh) (aargs++List.replicate (fn.ntmps - aargs.length) zh):=by
        refine hA.append (VL.ofRange (by rw [hA.1]) fun i hi=>?_)
        have hi2:i < fn.ntmps - args.length:=by simpa using hi
        rw [List.getD_eq_getElem?_getD,List.getElem?_replicate,if_pos hi2,List.getD_eq_getElem?_getD,List.getElem?_replicate,if_pos (by rw [← hA.1];exact hi2)]
        exact .nores
       exact ⟨hl.1,fun i=>(hl.2 i).at0,hD,fun r j hr=>by have:=hE r _ hr;cases this⟩
      have fin:∀ (e:AEx) (T1:List Value) (S1:zx),(e=.normal∨e=.ret)→yI P (O.hp g) (jU O.hp (O.hp g) (kN P O n)) n c (args++List.replicate (fn.ntmps - args.length) zh) S=some (e,T1,S1)→abn P fn T1 S1=some (v,S') →
        ∃ a H' μ' ω',lim P g aargs H=some (a,H')∧GI μ' S' H'∧Later μ H μ' H'∧Kept ω H ω' H'∧Dom μ' H' ω'∧VV μ' H' ω' (some (.res none)) v a:=by
       intro e T1 S1 he hcode hres
       obtain ⟨A1,H1,μ1,ω1,h1,h2,h3,h4,h5⟩:=abp (abE ih) n c _ _ _ _ _ _ _ _ _ hcode hG hT0
       obtain ⟨rfl,a,k1,k2⟩:=ac9 (P:=P) h2 h5 hres
       refine ⟨a,H1,μ1,fun r=>(ω1 r).bind (place fn.results.toList),abt hf hn hb h1 he k1,h2,h3,fun r hr=>?_,fun r s hs=>?_,k2⟩
       ·
        obtain ⟨q1,q2⟩:=h4 r hr
        exact ⟨by simp [q1,place],q2⟩
       ·
        cases hr:ω1 r with
        | none=>simp [hr] at hs
        | some s0=>exact h5.dom r s0 hr
      unfold ac5 at h
      split at h
      ·
       rename_i T1 S1 hx;exact fin .normal _ _ (.inl rfl) hx h
      ·
       rename_i T1 S1 hx;exact fin .ret _ _ (.inr rfl) hx h
      ·
       cases h
     split at h
     ·
      exact ach hrun aargs S v S' h μ H ω hG hA hD hE
     ·
      exact hrun aargs S v S' h μ H ω hG hA hD hE
end
end Go.Abs
namespace Go.Abs
open Go.RowKit
open Classical
noncomputable def zO (P:Program) (O:Ora) (g:FuncId) (args:List Value):M Value:=fun S =>
 if h:∃ r,∃ k0,∀ k,k0≤k→kN P O k g args S=some r then some (Classical.choose h) else none
section
variable {P:Program} {O:Ora}
theorem JE {g:FuncId} {args:List Value} {S:zx} {r:Value×zx} (h:zO P O g args S=some r):∃ k0,∀ k,k0≤k→kN P O k g args S=some r:=by
 unfold zO at h
 split at h
 ·
  rename_i hx
  have:=Classical.choose_spec hx
  cases h
  exact this
 ·
  cases h
theorem Kv {g:FuncId} {args:List Value} {S:zx} {r:Value×zx} (h:∃ k0,∀ k,k0≤k→kN P O k g args S=some r):zO P O g args S=some r:=by
 have hx:∃ r,∃ k0,∀ k,k0≤k→kN P O k g args S=some r:=⟨r,h⟩
 unfold zO
 rw [dif_pos hx]
 obtain ⟨k0,h0⟩:=h
 obtain ⟨k1,h1⟩:=Classical.choose_spec hx
 have e0:=h0 (max k0 k1) (Nat.le_max_left _ _)
 have e1:=h1 (max k0 k1) (Nat.le_max_right _ _)
 rw [e0] at e1
 exact e1.symm
theorem adP (hO:ab6 P O):Zo P (zO P O):=by
 intro g args aargs S v S' h
 obtain ⟨k,hk⟩:=JE h
 exact abx hO k g args aargs S v S' (hk k (Nat.le_refl k))
theorem abw {g:FuncId} {args:List Value} {q:List Value→M Value} (h:O.fn g=some q) (S:zx):zO P O g args S=q args S:=by
 cases hq:q args S with
 | some r =>
  refine Kv ⟨1,fun k hk=>?_⟩
  obtain ⟨k,rfl⟩:∃ i,k=i+1:=⟨k - 1,by omega⟩
  simp only [kN,h,hq]
 | none =>
  cases hv:zO P O g args S with
  | none=>rfl
  | some r =>
   obtain ⟨k,hk⟩:=JE hv
   have:=hk (k+1) (by omega)
   simp only [kN,h,hq] at this
   cases this
def aeb (c:FuncId→List Value→M Value) (ck:Nat→FuncId→List Value→M Value):Prop:=∀ g args S r,c g args S=some r→∃ k0,∀ k,k0≤k→ck k g args S=some r
theorem Qh:aeb (zO P O) (fun k=>kN P O k):=fun g args S r h=>JE h
theorem J7 {c:FuncId→List Value→M Value} {ck:Nat→FuncId→List Value→M Value} (hl:aeb c ck) {hps:FuncId→Bool} {hp:Bool}:aeb (jU hps hp c) (fun k=>jU hps hp (ck k)):=by
 cases hp with
 | false=>exact hl
 | true =>
  intro g args S r h
  unfold jU at h
  dsimp only at h
  split at h
  ·
   rename_i hg
   obtain ⟨k0,h0⟩:=hl _ _ _ _ h
   exact ⟨k0,fun k hk=>by unfold jU;dsimp only;rw [if_pos hg];exact h0 k hk⟩
  ·
   rename_i hg
   split at h <;> first | (cases h;done) | skip
   rename_i m S1 hf
   split at h <;> first | (cases h;done) | skip
   rename_i r0 hr0
   obtain ⟨k0,h0⟩:=hl _ _ _ _ hr0
   exact ⟨k0,fun k hk=>by unfold jU;dsimp only;rw [if_neg hg,hf];dsimp only;rw [h0 k hk];exact h⟩
section
variable {c:FuncId→List Value→M Value} {ck:Nat→FuncId→List Value→M Value}
theorem Y7 (hl:aeb c ck) {fx:Fx} {T:List Value} {o:Oper} {S:zx} {r:Value×zx} (h:wz P fx c T o S=some r):∃ k0,∀ k,k0≤k→wz P fx (ck k) T o S=some r:=by
 unfold wz at h
 split at h
 ·
  rename_i hok
  split at h
  ·
   rename_i q0 hop
   split at h
   ·
    rename_i f hf
    split at h
    ·
     rename_i g first captured hev
     obtain ⟨k0,hk⟩:=hl _ _ _ _ h
     refine ⟨k0,fun k hkk=>?_⟩
     unfold wz
     rw [if_pos hok]
     simp only [hop,hf,hev]
     exact hk k hkk
    ·
     cases h
   ·
    rename_i b hb
    refine ⟨0,fun k _=>?_⟩
    unfold wz
    rw [if_pos hok]
    simp only [hop,hb]
    exact h
   ·
    cases h
  ·
   rename_i hop
   refine ⟨0,fun k _=>?_⟩
   unfold wz
   rw [if_pos hok]
   split
   ·
    rename_i q0 hc;exact absurd hc (hop q0)
   ·
    exact h
 ·
  cases h
theorem aby (hl:aeb c ck) {fx:Fx} {ops:Array Oper}:∀ (l:List Oper) (T:List Value) (S:zx) (r:List Value×zx),jd P fx c ops l T S=some r→∃ k0,∀ k,k0≤k→jd P fx (ck k) ops l T S=some r:=by
 intro l
 induction l with
 | nil=>intro T S r h;exact ⟨0,fun k _=>h⟩
 | cons o l ih =>
  intro T S r h
  simp only [jd] at h
  split at h
  ·
   rename_i hw
   split at h
   ·
    rename_i v S' hs
    obtain ⟨k1,h1⟩:=Y7 hl hs
    obtain ⟨k2,h2⟩:=ih _ _ _ h
    refine ⟨max k1 k2,fun k hk=>?_⟩
    simp only [jd,hw,if_true,h1 k (by omega)]
    exact h2 k (by omega)
   ·
    cases h
  ·
   rename_i hw
   obtain ⟨k2,h2⟩:=ih _ _ _ h
   refine ⟨k2,fun k hk=>?_⟩
   simp only [jd,hw,if_false]
   exact h2 k hk
theorem aao (hl:aeb c ck) {fx:Fx} {chk:List Nat} {nl:List (Nat×Nat)} {ops:Array Oper}:∀ (l:List Oper) (i:Nat) (hist:List (Value×zx)) (T:List Value) (S:zx) (r:List Value×zx),jV P fx chk nl c ops i hist l T S=some r→∃ k0,∀ k,k0≤k→jV P fx chk nl (ck k) ops i hist l T S=some r:=by
 intro l
 induction l with
 | nil=>intro i hist T S r h;exact ⟨0,fun k _=>h⟩
 | cons o l ih =>
  intro i hist T S r h
  simp only [jV] at h
  split at h
  ·
   rename_i hw
   split at h
   ·
    rename_i v S' hs
    split at h
    ·
     rename_i hq
     obtain ⟨k1,h1⟩:=Y7 hl hs
     obtain ⟨k2,h2⟩:=ih _ _ _ _ _ h
     refine ⟨max k1 k2,fun k hk=>?_⟩
     simp only [jV,hw,if_true,h1 k (by omega),hq]
     exact h2 k (by omega)
    ·
     cases h
   ·
    cases h
  ·
   rename_i hw
   obtain ⟨k2,h2⟩:=ih _ _ _ _ _ h
   refine ⟨k2,fun k hk=>?_⟩
   simp only [jV,hw,if_false]
   exact h2 k hk
end
noncomputable def zD (P:Program) (O:Ora) (hp:Bool):Code→List Value→zx→St
 | .skip,T,H=>some (.normal,T,H)
 | .region _ ops false,T,H=>match jd P ⟨hp,false,false⟩ (jU O.hp hp (zO P O)) ops ops.toList T H with
  | some (T1,H1)=>some (.normal,T1,H1)
  | none=>none
 | .region _ ops true,T,H=>if qO P ops then match jV P ⟨hp,!(checked P ops).isEmpty,fixed P ops⟩ (checked P ops) (again P ops) (jU O.hp hp (zO P O)) ops 0 [] ops.toList T H with
  | some (T1,H1)=>some (.normal,T1,H1)
  | none=>none
  else none
 | .seq x y,T,H=>match zD P O hp x T H with
  | some (.normal,T1,H1)=>zD P O hp y T1 H1
  | r=>r
 | .cond c x y,T,H=>if yx c then
   match zJ T c with
   | .bool true=>zD P O hp x T H
   | .bool false=>zD P O hp y T H
   | _=>none
  else none
 | .block id c,T,H=>match zD P O hp c T H with
  | some (.exit id',T1,H1)=>if id'=id then some (.normal,T1,H1) else some (.exit id',T1,H1)
  | r=>r
 | .loop c,T,H=>wP (zD P O hp c) T H
 | .exit id,T,H=>some (.exit id,T,H)
 | .ret,T,H=>some (.ret,T,H)
 | _,_,_=>none
theorem Wv {hp:Bool}:∀ (c:Code) (T:List Value) (H:zx) (r),zD P O hp c T H=some r→∃ k0,∀ k fuel,k0≤k→k0≤fuel→yI P hp (jU O.hp hp (kN P O k)) fuel c T H=some r:=by
 intro c
 induction c with
 | skip=>intro T H r h;exact ⟨0,fun k fuel _ _=>h⟩
 | region i ops d =>
  intro T H r h
  cases d with
  | false =>
   simp only [zD] at h
   split at h
   ·
    rename_i T1 H1 ho
    obtain ⟨k0,h0⟩:=aby (J7 Qh) _ _ _ _ ho
    exact ⟨k0,fun k fuel hk _=>by simp only [yI,h0 k hk];exact h⟩
   ·
    cases h
  | true =>
   simp only [zD] at h
   split at h
   ·
    rename_i hd
    split at h
    ·
     rename_i T1 H1 ho
     obtain ⟨k0,h0⟩:=aao (J7 Qh) _ _ _ _ _ _ ho
     exact ⟨k0,fun k fuel hk _=>by simp only [yI,hd,if_true,h0 k hk];exact h⟩
    ·
     cases h
   ·
    cases h
 | seq x y ihx ihy =>
  intro T H r h
  simp only [zD] at h
  split at h
  ·
   rename_i T1 H1 hx
   obtain ⟨k1,h1⟩:=ihx _ _ _ hx
   obtain ⟨k2,h2⟩:=ihy _ _ _ h
   exact ⟨max k1 k2,fun k fuel hk hf=>by simp only [yI,h1 k fuel (by omega) (by omega)];exact h2 k fuel (by omega) (by omega)⟩
  ·
   rename_i hne
   obtain ⟨k1,h1⟩:=ihx _ _ _ h
   refine ⟨k1,fun k fuel hk hf=>?_⟩
   simp only [yI,h1 k fuel hk hf]
   split
   ·
    rename_i T1 H1 he;exact absurd (h.trans he) (hne T1 H1)
   ·
    rfl
 | cond c x y ihx ihy =>
  intro T H r h
  simp only [zD] at h
  split at h
  ·
   rename_i hok
   split at h
   ·
    rename_i hb
    obtain ⟨k1,h1⟩:=ihx _ _ _ h
    exact ⟨k1,fun k fuel hk hf=>by simp only [yI,hok,if_true,hb];exact h1 k fuel hk hf⟩
   ·
    rename_i hb
    obtain ⟨k1,h1⟩:=ihy _ _ _ h
    exact ⟨k1,fun k fuel hk hf=>by simp only [yI,hok,if_true,hb];exact h1 k fuel hk hf⟩
   ·
    cases h
  ·
   cases h
 | block id c ih =>
  intro T H r h
  simp only [zD] at h
  split at h
  ·
   rename_i id' T1 H1 hc
   obtain ⟨k1,h1⟩:=ih _ _ _ hc
   exact ⟨k1,fun k fuel hk hf=>by simp only [yI,h1 k fuel hk hf];exact h⟩
  ·
   rename_i hne
   obtain ⟨k1,h1⟩:=ih _ _ _ h
   refine ⟨k1,fun k fuel hk hf=>?_⟩
   simp only [yI,h1 k fuel hk hf]
   split
   ·
    rename_i id' T1 H1 he;exact absurd (h.trans he) (hne id' T1 H1)
   ·
    rfl
 | loop c ih =>
  intro T H r h
  simp only [zD] at h
  obtain ⟨n,hn⟩:=xu h
  have key:∀ (n:Nat) (T:List Value) (H:zx),yD n (zD P O hp c) T H=some r→∃ k0,∀ k fuel,k0≤k→k0≤fuel→∀ j,n≤j→yD j (yI P hp (jU O.hp hp (kN P O k)) fuel c) T H=some r:=by
   intro n
   induction n with
   | zero=>intro T H h;cases h
   | succ n ihn =>
    intro T H h
    simp only [yD] at h
    split at h
    ·
     rename_i T1 H1 hf
     obtain ⟨k1,h1⟩:=ih _ _ _ hf
     obtain ⟨k2,h2⟩:=ihn _ _ h
     refine ⟨max k1 k2,fun k fuel hk hfu j hj=>?_⟩
     obtain ⟨j,rfl⟩:∃ i,j=i+1:=⟨j - 1,by omega⟩
     simp only [yD,h1 k fuel (by omega) (by omega)]
     exact h2 k fuel (by omega) (by omega) j (by omega)
    ·
     rename_i hne
     obtain ⟨k1,h1⟩:=ih _ _ _ h
     refine ⟨k1,fun k fuel hk hfu j hj=>?_⟩
     obtain ⟨j,rfl⟩:∃ i,j=i+1:=⟨j - 1,by omega⟩
     simp only [yD,h1 k fuel hk hfu]
     split
     ·
      rename_i T1 H1 he;exact absurd (h.trans he) (hne T1 H1)
     ·
      rfl
  obtain ⟨k0,h0⟩:=key n T H hn
  exact ⟨max k0 n,fun k fuel hk hf=>by simp only [yI];exact h0 k fuel (by omega) (by omega) fuel (by omega)⟩
 | exit id=>intro T H r h;exact ⟨0,fun k fuel _ _=>h⟩
 | ret=>intro T H r h;exact ⟨0,fun k fuel _ _=>h⟩
 | _=>intro T H r h;simp only [zD] at h;cases h
theorem jA {f:FuncId} {fn:Func} {c:Code} {args:List Value} {H H1 H':zx} {e:AEx} {T:List Value} {v:Value} (ho:O.fn f=none) (hpu:O.pu f=false) (hf:P.funcs[f]?=some fn) (hn:acz fn=true) (hb:fn.body=some c)
  (h:zD P O (O.hp f) c (args++List.replicate (fn.ntmps - args.length) zh) H=some (e,T,H1)) (he:e=.normal∨e=.ret) (hres:abn P fn T H1=some (v,H')):zO P O f args H=some (v,H'):=by
 obtain ⟨k0,h0⟩:=Wv _ _ _ _ h
 refine Kv ⟨k0+1,fun k hk=>?_⟩
 obtain ⟨k,rfl⟩:∃ i,k=i+1:=⟨k - 1,by omega⟩
 simp only [kN,ho,hf,if_pos hn,hb,hpu,Bool.false_eq_true,if_false,ac5,h0 k k (by omega) (by omega)]
 rcases he with rfl | rfl <;> exact hres
theorem XJ {f:FuncId} {fn:Func} {c:Code} {args:List Value} {S H1 H':zx} {e:AEx} {T:List Value} {v:Value} (ho:O.fn f=none) (hpu:O.pu f=true) (hf:P.funcs[f]?=some fn) (hn:acz fn=true) (hb:fn.body=some c)
  (h:zD P O (O.hp f) c (args++List.replicate (fn.ntmps - args.length) zh) zx.empty=some (e,T,H1)) (he:e=.normal∨e=.ret) (hres:abn P fn T H1=some (v,H')) (hca:args.all (ji 16)=true) (hcv:ji 16 (jF H' 16 v)=true):zO P O f args S=some (jF H' 16 v,S):=by
 obtain ⟨k0,h0⟩:=Wv _ _ _ _ h
 refine Kv ⟨k0+1,fun k hk=>?_⟩
 obtain ⟨k,rfl⟩:∃ i,k=i+1:=⟨k - 1,by omega⟩
 have hr:ac5 P (O.hp f) (jU O.hp (O.hp f) (kN P O k)) k fn c args zx.empty=some (v,H'):=by
  simp only [ac5,h0 k k (by omega) (by omega)]
  rcases he with rfl | rfl <;> exact hres
 simp only [kN,ho,hf,if_pos hn,hb,hpu,if_true,ab8,if_pos hca,hr,if_pos hcv]
theorem Y4 (S:zx):∀ (d d':Nat) (v:Value),ji d v=true→jF S d' v=v:=by
 intro d
 induction d with
 | zero=>intro d' v h;cases h
 | succ d ih =>
  intro d' v h
  cases d' with
  | zero=>rfl
  | succ d' =>
   cases v with
   | agg cs =>
    simp only [ji] at h
    show Value.agg (cs.map (jF S d'))=.agg cs
    congr 1
    apply Array.ext (by simp)
    intro i h1 h2
    rw [Array.getElem_map]
    exact ih d' _ (List.all_eq_true.1 h _ (by simp))
   | tuple cs =>
    simp only [ji] at h
    show Value.tuple (cs.map (jF S d'))=.tuple cs
    congr 1
    apply Array.ext (by simp)
    intro i h1 h2
    rw [Array.getElem_map]
    exact ih d' _ (List.all_eq_true.1 h _ (by simp))
   | slice a n c =>
    cases a with
    | none=>rfl
    | some a=>simp [ji] at h
   | _=>rfl
theorem Jk {f:FuncId} {fn:Func} {c:Code} {args:List Value} {S H1 H':zx} {e:AEx} {T:List Value} {v:Value} (ho:O.fn f=none) (hpu:O.pu f=true) (hf:P.funcs[f]?=some fn) (hn:acz fn=true) (hb:fn.body=some c)
  (h:zD P O (O.hp f) c (args++List.replicate (fn.ntmps - args.length) zh) zx.empty=some (e,T,H1)) (he:e=.normal∨e=.ret) (hres:abn P fn T H1=some (v,H')) (hca:args.all (ji 16)=true) (hcv:ji 16 v=true):zO P O f args S=some (v,S):=by
 have e1:=Y4 H' 16 16 v hcv
 have:=XJ (S:=S) ho hpu hf hn hb h he hres hca (by rw [e1];exact hcv)
 rwa [e1] at this
def Ty.ZW:(t:Ty)→t.Val→List Value
 | .int k,n=>[.int k n]
 | .bool,b=>[.bool b]
 | .str,s=>[.string s]
 | .slc _ e,l=>match l with
  | none=>[.slice none 0 0]
  | some l=>[SL 1 e.sz l.length (l.flatMap e.ZW)]
 | .pair a b,(x,y)=>a.ZW x++b.ZW y
 | .unit,_=>[]
theorem Ty.Ky:∀ (t:Ty) (x:t.Val),(t.ZW x).length=t.sz:=by
 intro t
 induction t with
 | pair a b iha ihb=>rintro ⟨x,y⟩;simp [Ty.ZW,Ty.sz,iha,ihb]
 | slc bytes e ih=>intro x;cases x <;> rfl
 | _=>intro x;rfl
theorem ZE {e:Ty} (l:List e.Val):(l.flatMap e.ZW).length=l.length * e.sz:=by
 induction l with
 | nil=>simp
 | cons x l ih=>simp [List.flatMap_cons,Ty.Ky,ih,Nat.add_mul];omega
def M0:Mu:=⟨fun _=>none,fun _=>false,[]⟩
theorem GI.none {H:zx}:GI M0 zx.empty H:=⟨(fun q o h=>by cases h),(fun q q' r h=>by cases h),(fun q r b h=>by cases h),(fun q _=>rfl),(fun q r h=>by cases h),(fun r h=>by cases h),rfl,(fun q cs anc e h=>by cases h)⟩
theorem Ty.Yf:∀ (t:Ty) (x:t.Val) (H:zx),Later M0 H M0 (t.place x H).2∧L0 M0 (t.place x H).2 (t.ZW x) (t.place x H).1:=by
 intro t
 induction t with
 | int k=>intro x H;exact ⟨Later.refl _ _,VL.cons (.sg rfl) VL.nil⟩
 | bool=>intro x H;exact ⟨Later.refl _ _,VL.cons (.sg rfl) VL.nil⟩
 | str=>intro x H;exact ⟨Later.refl _ _,VL.cons (.sg rfl) VL.nil⟩
 | unit=>intro x H;exact ⟨Later.refl _ _,VL.nil⟩
 | pair a b iha ihb =>
  rintro ⟨x,y⟩ H
  obtain ⟨h1,h2⟩:=iha x H
  obtain ⟨h3,h4⟩:=ihb y (a.place x H).2
  exact ⟨h1.trans h3,(h2.later h3).append h4⟩
 | slc bytes e ih =>
  intro x H
  match x with
  | none=>exact ⟨Later.refl _ _,VL.cons (.sg rfl) VL.nil⟩
  | some []=>exact ⟨Later.refl _ _,VL.cons (.slE (e:=e.sz)) VL.nil⟩
  | some (x::l) =>
   have key:∀ (l:List e.Val) (H:zx),Later M0 H M0 (jL e.place l H).2∧L0 M0 (jL e.place l H).2 (l.flatMap e.ZW) (jL e.place l H).1:=by
    intro l
    induction l with
    | nil=>intro H;exact ⟨Later.refl _ _,VL.nil⟩
    | cons x l ihl =>
     intro H
     obtain ⟨h1,h2⟩:=ih x H
     obtain ⟨h3,h4⟩:=ihl (e.place x H).2
     exact ⟨h1.trans h3,(h2.later h3).append h4⟩
   obtain ⟨h1,h2⟩:=key (x::l) H
   have hL:Later M0 (jL e.place (x::l) H).2 M0 ((jL e.place (x::l) H).2.push (.cells (jL e.place (x::l) H).1 .ro e.sz)):=JX (fun q r h=>by cases h) _
   refine ⟨h1.trans hL,VL.cons ?_ VL.nil⟩
   have hlen:(jL e.place (x::l) H).1.length=(l.length+1) * e.sz:=by rw [← h2.1,ZE];rfl
   show V0 M0 ((jL e.place (x::l) H).2.push (.cells (jL e.place (x::l) H).1 .ro e.sz)) (SL 1 e.sz (l.length+1) ((x::l).flatMap e.ZW)) (.slice (some ⟨(jL e.place (x::l) H).2.next,0,none⟩) (l.length+1) (l.length+1))
   refine VV.sl (o:=0) (l:=(jL e.place (x::l) H).1) (own:=.ro) (by simp) ⟨fun q h=>(by cases h),rfl⟩ (by rw [zx.zU,if_pos rfl]) (by omega) (by rw [List.toList_toArray,ZE];rfl) (fun i hi=>?_)
   rw [Nat.zero_add,List.toList_toArray]
   exact (h2.2 i).qJ hL
def Args.ZW:(l:List (Bool×Ty))→Args l→List Value
 | [],_=>[]
 | (b,c)::l,(x,xs)=>kZ b (c.ZW x)::Args.ZW l xs
theorem abP {H:zx} {b:Bool} {cs cs':List Value} (h:L0 M0 H cs cs'):V0 M0 H (kZ b cs) (kZ b cs'):=by
 unfold kZ
 split
 ·
  exact ZX h
 ·
  rw [xq,xq];exact h.2 0
theorem Args.Yf:∀ (l:List (Bool×Ty)) (x:Args l) (H:zx),Later M0 H M0 (Args.place l x H).2∧L0 M0 (Args.place l x H).2 (Args.ZW l x) (Args.place l x H).1:=by
 intro l
 induction l with
 | nil=>intro x H;exact ⟨Later.refl _ _,VL.nil⟩
 | cons p l ih =>
  obtain ⟨b,c⟩:=p
  rintro ⟨x,xs⟩ H
  obtain ⟨h1,h2⟩:=c.Yf x H
  obtain ⟨h3,h4⟩:=ih xs (c.place x H).2
  exact ⟨h1.trans h3,VL.cons ((abP h2).qJ h3) h4⟩
theorem QO (hO:ab6 P O) {f:FuncId} {codes:List (Bool×Ty)} {x:Args codes} {S':zx} (h:zO P O f (Args.ZW codes x) zx.empty=some (.bool true,S')) :
  ∃ k,(qN P k f (Args.place codes x zx.empty).1 (Args.place codes x zx.empty).2).map (·.1)=some (.bool true):=by
 obtain ⟨h1,h2⟩:=Args.Yf codes x zx.empty
 obtain ⟨a,H',μ',ω',k1,k2,k3,k4,k5,k6⟩:=adP hO f _ _ _ _ _ h M0 _ W0 GI.none h2 (fun r s hs=>by cases hs) (fun r s hs=>by cases hs)
 have:a=.bool true:=zW (k6.v0) rfl
 subst this
 exact XQ k1
end
end Go.Abs
namespace Go.Abs
open Go.RowKit
section
variable {R:Type} {P:Program} {O:Ora} {fx:Fx} {hp nm:Bool} {chk:List Nat} {call:FuncId→List Value→M Value} {ops:Array Oper}
def okC (v:Value) (r:Option R):Option R:=if okq 3 v=true then r else none
@[simp] theorem Xl (b:Bool) (r:Option R):okC (.bool b) r=r:=Eq.trans rfl rfl
@[simp] theorem VY (k:IntKind) (n:Int) (r:Option R):okC (.int k n) r=r:=Eq.trans rfl rfl
@[simp] theorem JV (s:ByteArray) (r:Option R):okC (.string s) r=r:=Eq.trans rfl rfl
@[simp] theorem Qj (a:Option Addr) (n c:Nat) (r:Option R):okC (.slice a n c) r=r:=Eq.trans rfl rfl
@[simp] theorem Qp (k:Nat) (v:Value) (r:Option R):okC (.iface k v) r=r:=Eq.trans rfl rfl
@[simp] theorem adU (a:Option Addr) (r:Option R):okC (.pointer a) r=r:=Eq.trans rfl rfl
def gdC (v:Value) (b:Bool) (s:M Value) (S:zx) (K:Value→zx→Option R):Option R :=
 if (vb v == some b)=true then andThen (s S) (fun v S1=>okC v (K v S1)) else K zh S
@[simp] theorem acQ (s:M Value) (H:zx) (K:Value→zx→Option R):gdC (.bool true) true s H K=andThen (s H) (fun v S1=>okC v (K v S1)):=Eq.trans rfl rfl
@[simp] theorem acC (s:M Value) (H:zx) (K:Value→zx→Option R):gdC (.bool false) false s H K=andThen (s H) (fun v S1=>okC v (K v S1)):=Eq.trans rfl rfl
@[simp] theorem acp (s:M Value) (H:zx) (K:Value→zx→Option R):gdC (.bool true) false s H K=K zh H:=Eq.trans rfl rfl
@[simp] theorem ac0 (s:M Value) (H:zx) (K:Value→zx→Option R):gdC (.bool false) true s H K=K zh H:=Eq.trans rfl rfl
@[simp] theorem acw (s:M Value) (b:Bool) (H:zx) (K:Value→zx→Option R):gdC zh b s H K=K zh H:=Eq.trans rfl rfl
abbrev ZH {α:Type} (a:α):Type:=Unit
def zS (s:Option (Value×zx)) (K:Value→zx→Option R) (p:ZH K):Option R:=andThen s K
def gdK (v:Value) (b:Bool) (s:M Value) (S:zx) (K:Value→zx→Option R) (p:ZH K):Option R:=gd v b s S K
def aeV (v:Value) (b:Bool) (s:M Value) (S:zx) (K:Value→zx→Option R) (p:ZH K):Option R:=gdC v b s S K
def okK (v:Value) (r:Option R) (p:ZH r):Option R:=okC v r
@[simp] theorem QA (v:Value) (H:zx) (K:Value→zx→Option R) (p:ZH K):zS (some (v,H)) K p=K v H:=Eq.trans rfl rfl
@[simp] theorem acH (s:M Value) (H:zx) (K:Value→zx→Option R) (p:ZH K):gdK (.bool true) true s H K p=zS (s H) K p:=Eq.trans rfl rfl
@[simp] theorem acr (s:M Value) (H:zx) (K:Value→zx→Option R) (p:ZH K):gdK (.bool false) false s H K p=zS (s H) K p:=Eq.trans rfl rfl
@[simp] theorem acP (s:M Value) (H:zx) (K:Value→zx→Option R) (p:ZH K):gdK (.bool true) false s H K p=K zh H:=Eq.trans rfl rfl
@[simp] theorem ac1 (s:M Value) (H:zx) (K:Value→zx→Option R) (p:ZH K):gdK (.bool false) true s H K p=K zh H:=Eq.trans rfl rfl
@[simp] theorem acR (s:M Value) (b:Bool) (H:zx) (K:Value→zx→Option R) (p:ZH K):gdK zh b s H K p=K zh H:=Eq.trans rfl rfl
@[simp] theorem aaS (s:M Value) (H:zx) (K:Value→zx→Option R) (p:ZH K):aeV (.bool true) true s H K p=zS (s H) (fun v S1=>okK v (K v S1) ()) ():=Eq.trans rfl rfl
@[simp] theorem aaA (s:M Value) (H:zx) (K:Value→zx→Option R) (p:ZH K):aeV (.bool false) false s H K p=zS (s H) (fun v S1=>okK v (K v S1) ()) ():=Eq.trans rfl rfl
@[simp] theorem abl (s:M Value) (H:zx) (K:Value→zx→Option R) (p:ZH K):aeV (.bool true) false s H K p=K zh H:=Eq.trans rfl rfl
@[simp] theorem aa2 (s:M Value) (H:zx) (K:Value→zx→Option R) (p:ZH K):aeV (.bool false) true s H K p=K zh H:=Eq.trans rfl rfl
@[simp] theorem Vu (s:M Value) (b:Bool) (H:zx) (K:Value→zx→Option R) (p:ZH K):aeV zh b s H K p=K zh H:=Eq.trans rfl rfl
@[simp] theorem KI (b:Bool) (r:Option R) (p:ZH r):okK (.bool b) r p=r:=Eq.trans rfl rfl
@[simp] theorem VQ (k:IntKind) (n:Int) (r:Option R) (p:ZH r):okK (.int k n) r p=r:=Eq.trans rfl rfl
@[simp] theorem WI (s:ByteArray) (r:Option R) (p:ZH r):okK (.string s) r p=r:=Eq.trans rfl rfl
@[simp] theorem Qe (a:Option Addr) (n c:Nat) (r:Option R) (p:ZH r):okK (.slice a n c) r p=r:=Eq.trans rfl rfl
@[simp] theorem Z5 (a:Option Addr) (r:Option R) (p:ZH r):okK (.pointer a) r p=r:=Eq.trans rfl rfl
theorem aax {l rest:List Oper} {o:Oper} {T:List Value} {T1:Value→List Value} {S:zx} {v:Value} {r:Option (List Value×zx)} (hl:l=o::rest) (hg:o.guard=none) (hm:∀ v,xw o rest T v=T1 v)
  (hs:wz P fx call T o S=some (v,S)) (hK:jd P fx call ops rest (T1 v) S=r):jd P fx call ops l T S=r:=by
 subst hl
 simp only [jd,Region.wanted,hg,if_true,hs,hm]
 exact hK
theorem adu {l rest:List Oper} {o:Oper} {T:List Value} {T1:Value→List Value} {S:zx} {s:Option (Value×zx)} {K:Value→zx→Option (List Value×zx)} (hl:l=o::rest) (hg:o.guard=none) (hm:∀ v,xw o rest T v=T1 v)
  (hs:wz P fx call T o S=s) (hK:∀ v S1,jd P fx call ops rest (T1 v) S1=K v S1):jd P fx call ops l T S=zS s K ():=by
 show _=andThen s K
 subst hl hs
 simp only [jd,Region.wanted,hg,if_true,hm,hK]
 rfl
theorem ad1 {l rest:List Oper} {o:Oper} {T:List Value} {T1:Value→List Value} {S:zx} {j:Nat} {b:Bool} {g:Value} {s:M Value} {K:Value→zx→Option (List Value×zx)} (hl:l=o::rest) (hg:o.guard=some (j,b)) (hm:∀ v,xw o rest T v=T1 v)
  (hy:ynd ops T j=vb g) (hs:wz P fx call T o S=s S) (hK:∀ v S1,jd P fx call ops rest (T1 v) S1=K v S1):jd P fx call ops l T S=gdK g b s S K ():=by
 show _=gd g b s S K
 subst hl
 simp only [jd,Region.wanted,hg,hy,hs,hm,hK,gd]
 rfl
theorem abr {l rest:List Oper} {o:Oper} {T:List Value} {T1:Value→List Value} {S:zx} {k:Nat} {s:Option (Value×zx)} {K:Value→zx→Option (List Value×zx)} (hc:chk.contains k=false) (hl:l=o::rest) (hg:o.guard=none) (hm:∀ v,xw o rest T v=T1 v)
  (hs:wz P fx call T o S=s) (hK:∀ v S1,jV P fx chk [] call ops (k+1) [] rest (T1 v) S1=K v S1):jV P fx chk [] call ops k [] l T S=zS s K ():=by
 show _=andThen s K
 subst hl hs
 simp only [jV,qZ,List.isEmpty_nil,if_true,Region.wanted,hg,if_true,hm,hK,hc,Bool.not_false,Bool.true_or]
 rfl
theorem Vo {l rest:List Oper} {o:Oper} {T:List Value} {T1:Value→List Value} {S:zx} {k:Nat} {v:Value} {r:Option (List Value×zx)} (hc:chk.contains k=false) (hl:l=o::rest) (hg:o.guard=none) (hm:∀ v,xw o rest T v=T1 v)
  (hs:wz P fx call T o S=some (v,S)) (hK:jV P fx chk [] call ops (k+1) [] rest (T1 v) S=r):jV P fx chk [] call ops k [] l T S=r:=by
 subst hl
 simp only [jV,qZ,List.isEmpty_nil,if_true,Region.wanted,hg,if_true,hs,hm,hc,Bool.not_false,Bool.true_or]
 exact hK
theorem abG {l rest:List Oper} {o:Oper} {T:List Value} {T1:Value→List Value} {S:zx} {k:Nat} {s:Option (Value×zx)} {K:Value→zx→Option (List Value×zx)} (hc:chk.contains k=false) {x:Nat×Nat} {nl:List (Nat×Nat)} {hist:List (Value×zx)} {pe:Value} (hpe:qj T o=pe) (hl:l=o::rest) (hg:o.guard=none) (hm:∀ v,xw o rest T v=T1 v)
  (hs:wz P fx call T o S=s) (hK:∀ v S1,jV P fx chk (x::nl) call ops (k+1) (hist++[(pe,S)]) rest (T1 v) S1=K v S1):jV P fx chk (x::nl) call ops k hist l T S=zS s K ():=by
 show _=andThen s K
 subst hl hs
 simp only [jV,qZ,List.isEmpty_cons,Bool.false_eq_true,if_false,hpe,Region.wanted,hg,if_true,hm,hK,hc,Bool.not_false,Bool.true_or]
 rfl
theorem VI {l rest:List Oper} {o:Oper} {T:List Value} {T1:Value→List Value} {S:zx} {k:Nat} {s:Option (Value×zx)} {K:Value→zx→Option (List Value×zx)} (hc:chk.contains k=true) {x:Nat×Nat} {nl:List (Nat×Nat)} {hist:List (Value×zx)} {pe:Value} (hpe:qj T o=pe) (hl:l=o::rest) (hg:o.guard=none) (hm:∀ v,xw o rest T v=T1 v)
  (hs:wz P fx call T o S=s) (hK:∀ v S1,jV P fx chk (x::nl) call ops (k+1) (hist++[(pe,S)]) rest (T1 v) S1=K v S1):jV P fx chk (x::nl) call ops k hist l T S=zS s (fun v S1=>okK v (K v S1) ()) ():=by
 show _=andThen s (fun v S1=>okC v (K v S1))
 subst hl hs
 simp only [jV,qZ,List.isEmpty_cons,Bool.false_eq_true,if_false,hpe,Region.wanted,hg,if_true,hm,hK,hc,Bool.not_true,Bool.false_or]
 rfl
theorem XY {l rest:List Oper} {o:Oper} {T:List Value} {T1:Value→List Value} {S:zx} {k:Nat} {v:Value} {r:Option (List Value×zx)} (hc:chk.contains k=false) {x:Nat×Nat} {nl:List (Nat×Nat)} {hist:List (Value×zx)} {pe:Value} (hpe:qj T o=pe) (hl:l=o::rest) (hg:o.guard=none) (hm:∀ v,xw o rest T v=T1 v)
  (hs:wz P fx call T o S=some (v,S)) (hK:jV P fx chk (x::nl) call ops (k+1) (hist++[(pe,S)]) rest (T1 v) S=r):jV P fx chk (x::nl) call ops k hist l T S=r:=by
 subst hl
 simp only [jV,qZ,List.isEmpty_cons,Bool.false_eq_true,if_false,hpe,Region.wanted,hg,if_true,hs,hm,hc,Bool.not_false,Bool.true_or]
 exact hK
theorem KC {l rest:List Oper} {o:Oper} {T:List Value} {T1:Value→List Value} {S:zx} {k:Nat} {v:Value} {r:Option (List Value×zx)} (hc:chk.contains k=true) {x:Nat×Nat} {nl:List (Nat×Nat)} {hist:List (Value×zx)} {pe:Value} (hpe:qj T o=pe) (hl:l=o::rest) (hg:o.guard=none) (hm:∀ v,xw o rest T v=T1 v)
  (hs:wz P fx call T o S=some (v,S)) (hK:jV P fx chk (x::nl) call ops (k+1) (hist++[(pe,S)]) rest (T1 v) S=r):jV P fx chk (x::nl) call ops k hist l T S=okK v r ():=by
 show _=okC v r
 subst hl
 simp only [jV,qZ,List.isEmpty_cons,Bool.false_eq_true,if_false,hpe,Region.wanted,hg,if_true,hs,hm,hc,Bool.not_true,Bool.false_or]
 rw [← hK]
 rfl
def ckK (c:Bool) (r:Option R) (p:ZH r):Option R:=if c then r else none
@[simp] theorem Xx (r:Option R) (p:ZH r):ckK true r p=r:=Eq.trans rfl rfl
noncomputable def adT (P:Program) (O:Ora) (hp:Bool) (v:Value) (x y:Code) (T:List Value) (S:zx):St:=abB v (zD P O hp x T S) (zD P O hp y T S)
@[simp] theorem J8 (x y:Code) (T:List Value) (S:zx):adT P O hp (.bool true) x y T S=zD P O hp x T S:=Eq.trans rfl rfl
@[simp] theorem Jp (x y:Code) (T:List Value) (S:zx):adT P O hp (.bool false) x y T S=zD P O hp y T S:=Eq.trans rfl rfl
@[simp] theorem Jh (T:List Value) (H:zx):zD P O hp .skip T H=some (.normal,T,H):=Eq.trans rfl rfl
@[simp] theorem JR (T:List Value) (H:zx):zD P O hp .ret T H=some (.ret,T,H):=Eq.trans rfl rfl
@[simp] theorem Z8 (i:Nat) (T:List Value) (H:zx):zD P O hp (.exit i) T H=some (.exit i,T,H):=Eq.trans rfl rfl
@[simp] theorem vJ (i:Nat) (ops:Array Oper) (T:List Value) (H:zx):zD P O false (.region i ops false) T H=QN (jd P ⟨false,false,false⟩ (zO P O) ops ops.toList T H):=Eq.trans rfl rfl
@[simp] theorem xI (i:Nat) (ops:Array Oper) (T:List Value) (H:zx):zD P O true (.region i ops false) T H=QN (jd P ⟨true,false,false⟩ (jU O.hp true (zO P O)) ops ops.toList T H):=Eq.trans rfl rfl
theorem Zy {i:Nat} {ops:Array Oper} (hd:qO P ops=true) (hf:fixed P ops=nm) (hc:checked P ops=chk) {nl:List (Nat×Nat)} (hn:again P ops=nl) (T:List Value) (H:zx):zD P O false (.region i ops true) T H=QN (jV P ⟨false,!chk.isEmpty,nm⟩ chk nl (zO P O) ops 0 [] ops.toList T H):=by
 subst hf hc hn
 simp only [zD,hd,if_true,jU]
 rfl
theorem vG {i:Nat} {ops:Array Oper} (hd:qO P ops=true) (hf:fixed P ops=nm) (hc:checked P ops=chk) {nl:List (Nat×Nat)} (hn:again P ops=nl) (T:List Value) (H:zx):zD P O true (.region i ops true) T H=QN (jV P ⟨true,!chk.isEmpty,nm⟩ chk nl (jU O.hp true (zO P O)) ops 0 [] ops.toList T H):=by
 subst hf hc hn
 simp only [zD,hd,if_true]
 rfl
@[simp] theorem JY (x y:Code) (T:List Value) (H:zx):zD P O hp (.seq x y) T H=aeK (zD P O hp x T H) (zD P O hp y):=Eq.trans rfl rfl
@[simp] theorem ZJ (i:Nat) (c:Code) (T:List Value) (H:zx):zD P O hp (.block i c) T H=Y0 i (zD P O hp c T H):=Eq.trans rfl rfl
@[simp] theorem JB (c:Code) (T:List Value) (H:zx):zD P O hp (.loop c) T H=wP (zD P O hp c) T H:=Eq.trans rfl rfl
@[simp] theorem Z4 (t:Tmp) (x y:Code) (T:List Value) (H:zx):zD P O hp (.cond (.tmp t) x y) T H=adT P O hp (T.getD t zh) x y T H:=by
 simp only [zD,yx,if_true,zJ]
 rfl
@[simp] theorem Qr:dem zh=zh:=kX
@[simp] theorem aas (k:IntKind) (n:Int):dem (.int k n)=.int k n:=Eq.trans rfl rfl
@[simp] theorem Xu (b:Bool):dem (.bool b)=.bool b:=Eq.trans rfl rfl
@[simp] theorem WB (s:ByteArray):dem (.string s)=.string s:=Eq.trans rfl rfl
@[simp] theorem VX:dem (.slice none 0 0)=.slice none 0 0:=Eq.trans rfl rfl
@[simp] theorem aak (x:Array Value):dem (.agg x)=.agg x:=Eq.trans rfl rfl
@[simp] theorem yc (f:Fn) (x c:Array Value):dem (.func f x c)=.func f x c:=Eq.trans rfl rfl
@[simp] theorem xR (a:Option Addr):dem (.pointer a)=.pointer a:=Eq.trans rfl rfl
@[simp] theorem ae7 (e n:Nat) (cs:List Value):dem (SL 1 e n cs)=SL 1 e n cs:=Eq.trans rfl rfl
@[simp] theorem afe (e n:Nat) (cs:List Value):dem (SL 2 e n cs)=SL 1 e n cs:=Eq.trans rfl rfl
@[simp] theorem acs (k e n:Nat) (cs:List Value) (r:Option R) (p:ZH r):okK (SL k e n cs) r p=r:=Eq.trans rfl rfl
@[simp] theorem acN (cs:List Value) (r:Option R) (p:ZH r):okK (EP cs) r p=r:=Eq.trans rfl rfl
@[simp] theorem afm (k e n:Nat) (cs:List Value) (r:Option R):okC (SL k e n cs) r=r:=Eq.trans rfl rfl
@[simp] theorem acV (cs:List Value) (r:Option R):okC (EP cs) r=r:=Eq.trans rfl rfl
def sv (k e n:Nat) (cs:List Value):Value:=if k=0 then .slice none 0 0 else SL k e n cs
structure Okv (k n:Nat) (cs:List Value):Prop where
 le:k≤2
 nil:k=0→n=0∧cs=[]
theorem sv0 {e n:Nat} {cs:List Value}:sv 0 e n cs=.slice none 0 0:=rfl
theorem sv1 {e n:Nat} {cs:List Value}:sv 1 e n cs=SL 1 e n cs:=rfl
theorem sv2 {e n:Nat} {cs:List Value}:sv 2 e n cs=SL 2 e n cs:=rfl
@[simp] theorem abb (k e n:Nat) (cs:List Value):dem (sv k e n cs)=sv (if k=2 then 1 else k) e n cs:=by
 unfold sv
 by_cases h0:k=0
 ·
  subst h0;rfl
 ·
  by_cases h2:k=2
  ·
   subst h2;rfl
  ·
   rw [if_neg h0,if_neg h2,if_neg h0]
   simp only [SL,dem,qI,if_neg h2]
@[simp] theorem YX (k e n:Nat) (cs:List Value) (r:Option R):okC (sv k e n cs) r=r:=by
 unfold sv;split <;> rfl
@[simp] theorem acW (k e n:Nat) (cs:List Value) (r:Option R) (p:ZH r):okK (sv k e n cs) r p=r:=YX k e n cs r
theorem acF {k e n:Nat} {cs:List Value} (h:Okv k n cs):∃ e',vSl (sv k e n cs)=some (e',n,cs)∧(e'=e∨n=0∧cs=[]):=by
 unfold sv
 by_cases h0:k=0
 ·
  obtain ⟨rfl,rfl⟩:=h.nil h0
  rw [if_pos h0]
  exact ⟨0,rfl,.inr ⟨rfl,rfl⟩⟩
 ·
  rw [if_neg h0]
  have:k=1∨k=2:=by have:=h.le;omega
  exact ⟨e,by simp [SL,vSl,this],.inl rfl⟩
theorem adv {t te:TypeId} {k e n:Nat} {cs:List Value} {S:zx} (ht:P.underlying t=some (.slice te)) (h:Okv k n cs):kP P t (sv k e n cs) S=some (goInt n,S):=by
 by_cases h0:k=0
 ·
  obtain ⟨rfl,rfl⟩:=h.nil h0
  subst h0
  simp only [sv0,kP,YT,ht]
 ·
  obtain ⟨e',h1,_⟩:=acF (e:=e) h
  simp only [sv,if_neg h0] at h1 ⊢
  simp only [SL] at h1 ⊢
  simp only [kP,ht,h1]
theorem WQ {t te:TypeId} {k e n:Nat} {cs:List Value} {S:zx} {ki:IntKind} {i:Int} (ht:P.underlying t=some (.slice te)) (he:qp P te=some e) (h:Okv k n cs) (h0:0≤i) (hi:i < n) :
  zV P t (sv k e n cs) (.int ki i) S=some (EP ((cs.drop (i.toNat * e)).take e),S):=by
 have hk:k≠0:=fun e=>by have:=(h.nil e).1;omega
 have hk2:k=1∨k=2:=by have:=h.le;omega
 have h1:vSl (SL k e n cs)=some (e,n,cs):=by simp [SL,vSl,hk2]
 simp only [sv,if_neg hk]
 simp only [SL] at h1 ⊢
 simp only [zV,ht,h1,he,if_true]
 rw [if_pos ⟨h0,hi⟩]
@[simp] theorem aaK {t:TypeId} {v:Value} {S:zx} (ht:yS P t=some false):je P nm t (EP [v]) S=some (v,S):=by
 simp [EP,je,ht]
theorem Qx {t:TypeId} {n:Nat} {cs:List Value} {S:zx} (ht:yS P t=some true) (hn:qp P t=some n) (hc:cs.length=n):je P nm t (EP cs) S=some (.agg cs.toArray,S):=by
 simp only [EP,je,ht,hn,if_true,List.toList_toArray]
 rw [if_pos (by omega),← hc,List.take_length]
@[simp] theorem YA (k e n:Nat) (cs:List Value):ZF (sv k e n cs)=false:=by unfold sv;split <;> rfl
@[simp] theorem Zt (dr:Bool) (t:TypeId) (k e n:Nat) (cs:List Value) (lo hi:Option Value) (S:zx):wV P dr t (sv k e n cs) lo hi S=WA P t (sv k e n cs) lo hi S:=by
 unfold wV;rw [YA];rfl
@[simp] theorem xJ (dr:Bool) (t:TypeId) (s:ByteArray) (lo hi:Option Value) (S:zx):wV P dr t (.string s) lo hi S=WA P t (.string s) lo hi S:=Eq.trans rfl rfl
@[simp] theorem Jz (hp dr:Bool) (src dst:TypeId) (k e n:Nat) (cs:List Value) (S:zx):qW P hp dr src dst (sv k e n cs) S=Z7 P src dst (sv k e n cs) S:=by
 unfold qW
 rw [YA]
 have:∀ s,sv k e n cs≠.string s:=by intro s;unfold sv;split <;> (intro h;cases h)
 cases hp <;> simp only [Bool.false_eq_true,if_false] <;> (split <;> first | rfl | (rename_i h;exact absurd h (this _)) | skip)
@[simp] theorem WG (hp dr:Bool) (src dst:TypeId) (k:IntKind) (n:Int) (S:zx):qW P hp dr src dst (.int k n) S=Z7 P src dst (.int k n) S:=by cases hp <;> rfl
@[simp] theorem vO (dr:Bool) (src dst:TypeId) (s:ByteArray) (S:zx):qW P false dr src dst (.string s) S=Z7 P src dst (.string s) S:=Eq.trans rfl rfl
@[simp] theorem xE (dr:Bool) (src dst:TypeId) (s:ByteArray) (S:zx):qW P true dr src dst (.string s) S=wG P src dst (.string s) S:=Eq.trans rfl rfl
theorem XE {t te tx tex:TypeId} {k e n j m bytes:Nat} {cs ds:List Value} {z:Value} {S:zx} (ht:P.underlying t=some (.slice te)) (he:qp P te=some e) (hz:zeroOf P te=some z) (hzs:z.cells.size=e) (hb:bytesOf P te=some bytes) (hp:0 < e)
  (htx:P.underlying tx=some (.slice tex)) (h:Okv k n cs) (hk:k≠1) (hx:Okv j m ds) (hn:cs.length=n * e) (hm:ds.length=m * e) (h1:cs.all (·.oneCell')=true) (h2:ds.all (·.oneCell')=true) (hl:(n+m) * bytes≤140737488355328) (hmax:n+m≤4611686018427387903) :
  qo P t tx (sv k e n cs) (sv j e m ds) S=some (sv (if k=0∧m=0 then 0 else 2) e (n+m) (cs++ds),S):=by
 have hel:wM P t=some te:=by simp only [wM,ht]
 have hsrc:aei P tx e (sv j e m ds)=some (m,ds):=by
  obtain ⟨e',q1,q2⟩:=acF (e:=e) hx
  have hns:∀ s,sv j e m ds≠.string s:=by intro s;unfold sv;split <;> (intro h;cases h)
  have hcond:m=0∨e'=e:=q2.elim .inr fun h=>.inl h.1
  unfold aei
  split
  ·
   rename_i s hs;exact absurd hs (hns s)
  ·
   simp only [htx,q1,if_pos hcond,if_pos hm,h2,if_true]
 have hsrc:ZY P tx e (sv j e m ds) S=some (m,ds):=by
  unfold ZY
  rw [YA]
  exact hsrc
 by_cases hk0:k=0
 ·
  obtain ⟨rfl,rfl⟩:=h.nil hk0
  subst hk0
  simp only [sv0,qo,yh,hel,he,hz,hb,if_pos hp,if_pos hzs,hsrc]
  by_cases hm0:m=0
  ·
   subst hm0
   simp [sv0]
  ·
   rw [Nat.zero_add] at hl hmax
   rw [if_neg hm0,if_pos hl,if_pos hmax,if_neg Bool.false_ne_true,if_neg (fun h=>hm0 h.2),sv2,Nat.zero_add,List.nil_append]
 ·
  have hk2:k=2:=by have:=h.le;omega
  subst hk2
  rw [if_neg (fun h=>hk0 h.1)]
  have h1':cs.toArray.toList.all (·.oneCell')=true:=by simpa using h1
  simp only [sv2,SL,qo,yh,hel,he,hz,hb,if_pos hp,if_pos hzs,hsrc,if_true,if_pos hl,if_pos hmax,h1']
@[simp] theorem Xd (op:BinOp) (t:TypeId) (k k':IntKind) (a b:Int) (S:zx):wR P op t (.int k a) (.int k' b) S=xK P op t (.int k a) (.int k' b) S:=Eq.trans rfl rfl
@[simp] theorem Jl (op:BinOp) (t:TypeId) (a b:ByteArray) (S:zx):wR P op t (.string a) (.string b) S=xK P op t (.string a) (.string b) S:=Eq.trans rfl rfl
@[simp] theorem YU (op:BinOp) (t:TypeId) (a b:Bool) (S:zx):wR P op t (.bool a) (.bool b) S=xK P op t (.bool a) (.bool b) S:=Eq.trans rfl rfl
@[simp] theorem Xr (op:BinOp) (t:TypeId) (a b:Array Value) (S:zx):wR P op t (.agg a) (.agg b) S=xK P op t (.agg a) (.agg b) S:=Eq.trans rfl rfl
@[simp] theorem WE (b:Bool) (x y:Value) (S:zx):kW (.bool b) x y S=some (if b then dem x else dem y,S):=Eq.trans rfl rfl
@[simp] theorem Y2 {src dst:TypeId} (k:IntKind) (n:Int) (S:zx):Z7 P src dst (.int k n) S=wG P src dst (.int k n) S:=Eq.trans rfl rfl
@[simp] theorem xC (vs:List Value) (i:Nat) (S:zx):zT (.tuple vs.toArray) i S=(vs[i]?).map (·,S):=by
 simp only [zT,List.getElem?_toArray]
 cases vs[i]? <;> rfl
end
end Go.Abs
namespace Go.Abs
theorem jG {P:Program} {fn:Func} {a:Value} {T:List Value} {S:zx} (h:zH P T S fn.results.toList=some [a]) (hn:aeA fn.results.toList=true):abn P fn T S=some (a,S):=by
 unfold abn
 rw [h]
 dsimp only
 rw [if_pos hn]
@[simp] theorem acK (k:IntKind) (n:Int):yZ (.int k n)=true:=rfl
@[simp] theorem acg (b:Bool):yZ (.bool b)=true:=rfl
@[simp] theorem QV (k e n:Nat) (cs:List Value):yZ (sv k e n cs)=true:=by unfold sv;split <;> rfl
@[simp] theorem acu (x:Array Value):yZ (.agg x)=true:=rfl
@[simp] theorem abm (a:Option Addr) (n c:Nat):yZ (.slice a n c)=true:=rfl
end Go.Abs
namespace Go.Abs
open Go.RowKit
def vs {α:Type} (f:α→List Value) (e k:Nat) (l:List α):Value:=sv k e l.length (l.flatMap f)
structure Okl {α:Type} (k:Nat) (l:List α):Prop where
 le:k≤2
 nil:k=0→l=[]
theorem Okl.own {α:Type} {l:List α}:Okl 2 l:=⟨Nat.le_refl 2,(fun h=>by cases h)⟩
theorem Okl.read {α:Type} {l:List α}:Okl 1 l:=⟨by omega,(fun h=>by cases h)⟩
theorem Okl.none {α:Type}:Okl 0 ([]:List α):=⟨by omega,fun _=>rfl⟩
theorem Okl.dem {α:Type} {k:Nat} {l:List α} (h:Okl k l):Okl (if k=2 then 1 else k) l:=⟨by have:=h.le;split <;> omega,fun hk=>h.nil (by split at hk <;> omega)⟩
def cb (b:UInt8):List Value:=[.int .u8 b.toNat]
def ci (n:Int):List Value:=[.int .i64 n]
section
variable {R α:Type} {P:Program} {f:α→List Value} {e k j:Nat} {l m:List α} {t te tx tex:TypeId} {S:zx}
theorem Okl.okv (h:Okl k l):Okv k l.length (l.flatMap f):=⟨h.le,fun h0=>by rw [h.nil h0];exact ⟨rfl,rfl⟩⟩
theorem jI (hf:∀ x,(f x).length=e) (l:List α):(l.flatMap f).length=l.length * e:=by
 induction l with
 | nil=>simp
 | cons x l ih=>simp only [List.flatMap_cons,List.length_append,hf,ih,List.length_cons,Nat.add_mul];omega
theorem ZG (hf:∀ x,(f x).length=e) (l:List α):∀ (i:Nat),(l.flatMap f).drop (i * e)=(l.drop i).flatMap f:=by
 induction l with
 | nil=>intro i;simp
 | cons x l ih =>
  intro i
  cases i with
  | zero=>simp
  | succ i =>
   rw [List.flatMap_cons,List.drop_succ_cons,← ih i,List.drop_append,List.drop_eq_nil_of_le (by rw [hf,Nat.add_mul];omega),List.nil_append,hf]
   congr 1
   rw [Nat.add_mul];omega
theorem Zz (hf:∀ x,(f x).length=e) (l:List α):∀ (i:Nat),(l.flatMap f).take (i * e)=(l.take i).flatMap f:=by
 induction l with
 | nil=>intro i;simp
 | cons x l ih =>
  intro i
  cases i with
  | zero=>simp
  | succ i =>
   rw [List.flatMap_cons,List.take_succ_cons,List.flatMap_cons,← ih i,List.take_append,List.take_of_length_le (by rw [hf,Nat.add_mul];omega),hf]
   congr 2
   rw [Nat.add_mul];omega
@[simp] theorem Vy:dem (vs f e k l)=vs f e (if k=2 then 1 else k) l:=abb _ _ _ _
@[simp] theorem acE (r:Option R):okC (vs f e k l) r=r:=YX _ _ _ _ _
@[simp] theorem acS (r:Option R) (p:ZH r):okK (vs f e k l) r p=r:=YX _ _ _ _ _
@[simp] theorem ae4:ZF (vs f e k l)=false:=YA _ _ _ _
@[simp] theorem J4 (dr:Bool) (lo hi:Option Value):wV P dr t (vs f e k l) lo hi S=WA P t (vs f e k l) lo hi S:=Zt _ _ _ _ _ _ _ _ _
@[simp] theorem YK (hp dr:Bool) (src dst:TypeId):qW P hp dr src dst (vs f e k l) S=Z7 P src dst (vs f e k l) S:=Jz _ _ _ _ _ _ _ _ _
@[simp] theorem adQ:yZ (vs f e k l)=true:=QV _ _ _ _
theorem aaD (ht:P.underlying t=some (.slice te)) (h:Okl k l):kP P t (vs f e k l) S=some (goInt l.length,S):=adv ht h.okv
theorem adz {ki:IntKind} {i:Int} (ht:P.underlying t=some (.slice te)) (he:qp P te=some e) (hf:∀ x,(f x).length=e) (h:Okl k l) (h0:0≤i) (hi:i < l.length) :
  zV P t (vs f e k l) (.int ki i) S=some (EP (f (l[i.toNat]'(by omega))),S):=by
 unfold vs
 rw [WQ ht he h.okv h0 hi,ZG hf]
 have hlt:i.toNat < l.length:=by omega
 have:=Zz hf (l.drop i.toNat) 1
 rw [Nat.one_mul] at this
 rw [this,List.drop_eq_getElem_cons hlt,List.take_succ_cons,List.take_zero,List.flatMap_cons,List.flatMap_nil,List.append_nil]
theorem YS {bytes:Nat} {z:Value} (ht:P.underlying t=some (.slice te)) (he:qp P te=some e) (hz:zeroOf P te=some z) (hzs:z.cells.size=e) (hb:bytesOf P te=some bytes) (hp:0 < e) (htx:P.underlying tx=some (.slice tex))
  (hf:∀ x,(f x).length=e) (h1:∀ x,(f x).all (·.oneCell')=true) (h:Okl k l) (hk:k≠1) (hm:Okl j m) (hl:(l.length+m.length) * bytes≤140737488355328) (hmax:l.length+m.length≤4611686018427387903) :
  qo P t tx (vs f e k l) (vs f e j m) S=some (vs f e (if k=0∧m.length=0 then 0 else 2) (l++m),S):=by
 have hone:∀ l:List α,(l.flatMap f).all (·.oneCell')=true:=by
  intro l
  rw [List.all_flatMap,List.all_eq_true]
  exact fun x _=>h1 x
 unfold vs
 rw [XE ht he hz hzs hb hp htx h.okv hk hm.okv (jI hf l) (jI hf m) (hone l) (hone m) hl hmax,List.flatMap_append,List.length_append]
theorem acy (x:Int):(ci x).length=1:=rfl
theorem aew (x:Int):(ci x).all (·.oneCell')=true:=rfl
theorem zY {v:Value} {i j:Nat} {S:zx} (h:j≠i):zT (jT j v) i S=zT v i S:=by
 cases v with
 | tuple vs=>simp only [jT,zT,Array.getElem?_modify,if_neg h]
 | _=>rfl
theorem abk {v:Value} {S:zx}:zT (jT 0 v) 1 S=zT v 1 S:=zY (by decide)
theorem VW {v:Value} {S:zx}:zT (jT 0 v) 2 S=zT v 2 S:=zY (by decide)
theorem aaq {v:Value} {S:zx}:zT (jT 1 v) 2 S=zT v 2 S:=zY (by decide)
theorem abh {v:Value} {S:zx}:zT (jT 0 v) 3 S=zT v 3 S:=zY (by decide)
theorem aaX {v:Value} {S:zx}:zT (jT 1 v) 3 S=zT v 3 S:=zY (by decide)
theorem aa7 {v:Value} {S:zx}:zT (jT 2 v) 3 S=zT v 3 S:=zY (by decide)
theorem VU {v:Value} {S:zx}:zT (jT 0 v) 4 S=zT v 4 S:=zY (by decide)
theorem aaj {v:Value} {S:zx}:zT (jT 1 v) 4 S=zT v 4 S:=zY (by decide)
theorem aaM {v:Value} {S:zx}:zT (jT 2 v) 4 S=zT v 4 S:=zY (by decide)
theorem aaI {v:Value} {S:zx}:zT (jT 3 v) 4 S=zT v 4 S:=zY (by decide)
theorem aaR {v:Value} {S:zx}:zT (jT 0 v) 5 S=zT v 5 S:=zY (by decide)
theorem VK {v:Value} {S:zx}:zT (jT 1 v) 5 S=zT v 5 S:=zY (by decide)
theorem aaT {v:Value} {S:zx}:zT (jT 2 v) 5 S=zT v 5 S:=zY (by decide)
theorem aaw {v:Value} {S:zx}:zT (jT 3 v) 5 S=zT v 5 S:=zY (by decide)
theorem aaO {v:Value} {S:zx}:zT (jT 4 v) 5 S=zT v 5 S:=zY (by decide)
abbrev iz (k:Nat) (l:List Int):Value:=vs ci 1 k l
end
end Go.Abs
namespace Go.Abs
open Go.RowKit
section
variable {P:Program} {O:Ora} {c d:FuncId→List Value→M Value}
end
end Go.Abs
namespace Go.Abs
open Go.RowKit
theorem adC (x:(Ty.slc 8 (.int .i64)).Val) (hg:(Ty.slc 8 (.int .i64)).Good x):∃ k l,Okl k l∧k≠2∧(Ty.slc 8 (.int .i64)).ZW x=[iz k l]∧l.length≤17592186043904∧∀ n ∈ l,-9223372036854775808≤n∧n < 9223372036854775808:=by
 match x,hg with
 | none,_=>exact ⟨0,[],Okl.none,by decide,rfl,by simp,fun n h=>by cases h⟩
 | some xs,hg =>
  obtain ⟨h1,h2,h3⟩:=hg
  refine ⟨1,(xs:List Int),Okl.read,by decide,rfl,?_,fun n hn=>?_⟩
  ·
   have:List.length (α:=Int) xs * 8≤140737488351232:=h1
   show List.length (α:=Int) xs≤17592186043904
   omega
  ·
   have hw:=h3 n hn
   simp [Ty.Good,Lit.wf,IntKind.min,IntKind.max,IntKind.signed,IntKind.bits] at hw
   omega
theorem acJ {n:Int} (h:(Lit.int .i64 n).wf=true):-9223372036854775808≤n∧n < 9223372036854775808:=by
 simp [Lit.wf,IntKind.min,IntKind.max,IntKind.signed,IntKind.bits] at h
 omega
theorem afl {P:Program} {hp:Bool} {ts:Array TypeId} {ty:TypeId} {k:IntKind} {a b:Int} {S:zx}:kE P hp .min ts ty [.int k a,.int k b] S=some (.int k (if b < a then b else a),S):=by
 show jD P [.int k a,.int k b] (Builtin.min_ ts ty #[.int k a,.int k b]) S=_
 exact jk rfl rfl rfl
theorem afu {P:Program} {hp:Bool} {ts:Array TypeId} {ty:TypeId} {k:IntKind} {a b:Int} {S:zx}:kE P hp .max ts ty [.int k a,.int k b] S=some (.int k (if b > a then b else a),S):=by
 show jD P [.int k a,.int k b] (Builtin.max_ ts ty #[.int k a,.int k b]) S=_
 exact jk rfl rfl rfl
def xB (call:FuncId→List Value→M Value) (g:FuncId) (args:List Value):M Value:=fun S=>match yM args S with
 | some (m,S1)=>match call g m S1 with
  | some r=>some (Qd S S1 args r)
  | none=>none
 | none=>none
theorem J3 {x:Value} {S:zx} (h:ZF x=false):qQ x S=some (x,S):=by
 unfold qQ
 split <;> first | rfl | (simp [ZF] at h)
theorem Ws:∀ {l:List Value} {S:zx},l.all (fun x=>!ZF x)=true→qU l S=some (l,S)
 | [],S,_=>rfl
 | x::l,S,h=>by
  rw [List.all_cons,Bool.and_eq_true] at h
  have h1:ZF x=false:=by simpa using h.1
  simp only [qU,J3 h1,Ws h.2]
theorem Vj {x:Value} {S:zx} (h:Zw x=false):kV x S=some (x,S):=by
 unfold kV
 split
 ·
  rename_i cs
  have h1:cs.toList.all (fun x=>!ZF x)=true:=by
   rw [List.all_eq_true]
   intro y hy
   have:cs.toList.any ZF=false:=h
   rw [List.any_eq_false] at this
   simpa using this y hy
  rw [Ws h1]
 ·
  rename_i hne
  refine J3 ?_
  cases x <;> first | rfl | exact h | (exact absurd rfl (hne _))
theorem xW:∀ {l:List Value} {S:zx},l.all (fun x=>!Zw x)=true→yM l S=some (l,S)
 | [],S,_=>rfl
 | x::l,S,h=>by
  rw [List.all_cons,Bool.and_eq_true] at h
  have h1:Zw x=false:=by simpa using h.1
  simp only [yM,Vj h1,xW h.2]
theorem Xq {call:FuncId→List Value→M Value} {g:FuncId} {args:List Value} {S:zx} (h:args.all (fun x=>!Zw x)=true):xB call g args S=call g args S:=by
 have hn:args.any Zw=false:=by
  rw [List.any_eq_false];intro x hx
  have:=List.all_eq_true.1 h x hx
  simpa using this
 unfold xB;rw [xW h]
 dsimp only
 cases call g args S with
 | none=>rfl
 | some r=>dsimp only;rw [Qd,hn];rfl
theorem Zh {call:FuncId→List Value→M Value} {g:FuncId} {args m:List Value} {S S1 S2:zx} {v:Value} (h:yM args S=some (m,S1)) (hc:call g m S1=some (v,S2)) (ha:args.any Zw=true) (hv:ground v=true) (hl:S2.log=S1.log):xB call g args S=some (v,S):=by
 unfold xB;rw [h]
 dsimp only
 rw [hc]
 dsimp only
 rw [Qd,ha,hv,hl,beq_self_eq_true]
 rfl
theorem Vh {q o n e:Nat} {cs:List Value} {anc:List Nat} {S:zx} (hg:S.get q=some (.cells cs (.own anc) e)) (hl:o+n * e≤cs.length):qQ (.slice (some ⟨q,o,none⟩) n n) S=some (SL 1 e n ((cs.drop o).take (n * e)),S.set q .dead):=by
 unfold qQ;dsimp only;rw [hg];dsimp only;rw [if_pos rfl,if_pos hl]
end Go.Abs
namespace Go.Abs
open Go.RowKit
section
variable {P:Program} {μ μ1:Mu} {S S1 H H1:zx} {ω ω1:Nat→Option wB}
structure Ext (S S1:zx):Prop where
 next:S.next≤S1.next
 get:∀ k,k < S.next→S1.get k=S.get k
 log:∃ new,S1.log=new++S.log∧∀ k ∈ new,S.next≤k
theorem Ext.refl (S:zx):Ext S S:=⟨Nat.le_refl _,fun _ _=>rfl,[],rfl,fun k h=>by cases h⟩
theorem Ext.trans {S2:zx} (h:Ext S S1) (k:Ext S1 S2):Ext S S2:=⟨Nat.le_trans h.1 k.1,fun q hq=>(k.2 q (Nat.lt_of_lt_of_le hq h.1)).trans (h.2 q hq),by
 obtain ⟨n1,e1,f1⟩:=h.log
 obtain ⟨n2,e2,f2⟩:=k.log
 refine ⟨n2++n1,by rw [e2,e1,List.append_assoc],fun q hq=>?_⟩
 rcases List.mem_append.1 hq with hq | hq
 ·
  exact Nat.le_trans h.1 (f2 q hq)
 ·
  exact f1 q hq⟩
theorem Ext.push (S:zx) (o:wC):Ext S (S.push o):=⟨by simp,fun k hk=>by rw [zx.zU,if_neg (by omega)],[],rfl,fun k h=>by cases h⟩
theorem Ext.set {S S1:zx} (h:Ext S S1) {r:Nat} (hr:S.next≤r) (o:wC):Ext S (S1.set r o):=⟨by simpa using h.1,fun k hk=>by rw [zx.jg,if_neg (by omega)];exact h.2 k hk,by
 obtain ⟨n1,e1,f1⟩:=h.log
 refine ⟨r::n1,by rw [zx.WR,e1];rfl,fun q hq=>?_⟩
 rcases List.mem_cons.1 hq with rfl | hq
 ·
  exact hr
 ·
  exact f1 q hq⟩
inductive Lower (S:zx) (v1:Value) (S1:zx):Value→Prop
 | same (h:ground v1=true):Lower S v1 S1 v1
 | own {r n e:Nat} {cs:List Value} (hv:v1=.slice (some ⟨r,0,none⟩) n n) (hr:S.next≤r) (hg:S1.get r=some (.cells cs (.own []) e)) (hn:cs.length=n * e) (hs:cs.all sg=true):Lower S v1 S1 (SL 2 e n cs)
end
end Go.Abs
namespace Go.Abs
open Go.RowKit
section
variable {P:Program} {S:zx} {t te tx tex:TypeId} {q o n c e i r:Nat} {cs:List Value} {own:Own} {anc:List Nat} {v x:Value} {hp:Bool}
theorem wJ (a:Addr) (S:zx):jS (.pointer (some a)) S=some (.pointer (some a),S):=Eq.trans rfl rfl
theorem Yk (h:S.get q=some (.cells cs own e)) (ha:yS P t=some false) (hv:cs[o]?=some v) (hn:∀ l,v≠.agg l):je P false t (.pointer (some ⟨q,o,none⟩)) S=some (dem v,S):=by
 unfold je
 simp only [Bool.false_eq_true,if_false]
 have:wH P t (.pointer (some ⟨q,o,none⟩)) S=some (v,S):=by simp only [wH,h,ha,hv]
 rw [this]
 split
 ·
  rename_i l S2 he;cases he;exact absurd rfl (hn _)
 ·
  rename_i v2 S2 _ he;cases he;rfl
 ·
  rename_i he;cases he
theorem yN {k:IntKind} {m:Int} (h:S.get q=some (.cells cs own e)) (ha:yS P t=some false) (hv:cs[o]?=some (.int k m)):je P false t (.pointer (some ⟨q,o,none⟩)) S=some (.int k m,S) :=
 Yk h ha hv (fun l h=>by cases h)
theorem xP {a:Option Addr} {n c:Nat} (h:S.get q=some (.cells cs own e)) (ha:yS P t=some false) (hv:cs[o]?=some (.slice a n c)):je P false t (.pointer (some ⟨q,o,none⟩)) S=some (.slice a n c,S) :=
 Yk h ha hv (fun l h=>by cases h)
theorem Xy (h:S.get q=some (.cells cs own e)) (ha:yS P t=some true) (hs:qp P t=some n) (hle:o+n≤cs.length):je P false t (.pointer (some ⟨q,o,none⟩)) S=some (.agg (((cs.drop o).take n).toArray.map qI),S):=by
 unfold je
 simp only [Bool.false_eq_true,if_false]
 have:wH P t (.pointer (some ⟨q,o,none⟩)) S=some (.agg ((cs.drop o).take n).toArray,S):=by simp only [wH,h,ha,hs,if_pos hle]
 rw [this]
theorem kS (h:S.get q=some (.cells cs (.own anc) e)) (hs:qp P t=some n) (hx:x.cells.size=n) (h1:x.cells.toList.all (·.oneCell')=true) (hle:o+n≤cs.length) :
  qm P t (.pointer (some ⟨q,o,none⟩)) x S=some (zh,(S.kills anc).set q (.cells (splice cs o x.cells.toList) (.own []) e)):=by
 simp only [qm,xM,h,hs,if_pos hx,if_pos h1,if_pos hle]
theorem QT {k:IntKind} {j:Int} {sz:Nat} (ht:P.underlying t=some (.slice te)) (hs:qp P te=some sz) (h0:0≤j) (hj:j < n):zV P t (.slice (some ⟨q,o,none⟩) n c) (.int k j) S=some (.pointer (some ⟨q,o+j.toNat * sz,none⟩),S):=by
 simp only [zV,jC,ht,hs]
 rw [if_pos ⟨h0,hj⟩]
theorem Jr (ht:P.underlying t=some (.slice te)) (a:Option Addr) (n c:Nat) (S:zx):kP P t (.slice a n c) S=some (goInt n,S):=by
 simp only [kP,YT,ht]
theorem Jy {lo hi:Option Value} {l h:Int} {dr:Bool} (hd:dr=false) (hg:S.get q=some (.cells cs own e)) (ht:P.underlying t=some (.slice te)) (hs:qp P te=some e) (hl:qV 0 lo=some l) (hh:qV n hi=some h) (h0:0≤l) (h1:l≤h) (h2:h≤n) :
  wV P dr t (.slice (some ⟨q,o,none⟩) n c) lo hi S=some (.slice (some ⟨q,o+l.toNat * e,none⟩) (h.toNat - l.toNat) (h.toNat - l.toNat),S):=by
 subst hd
 simp only [wV,ZF,if_true,Bool.false_eq_true,if_false,yK,ht,hs,hl,hh,if_pos h0,if_pos h1,if_pos h2,hg]
theorem VN {m:Nat} (htx:P.underlying tx=some (.slice tex)) (hg:S.get q=some (.cells cs own i)) (hm:o+m * e≤cs.length) (h2:((cs.drop o).take (m * e)).all (·.oneCell')=true):ZY P tx e (.slice (some ⟨q,o,none⟩) m c) S=some (m,(cs.drop o).take (m * e)):=by
 simp only [ZY,ZF,if_true,wQ,htx,wI,hg]
 rw [if_pos hm]
 dsimp only
 rw [if_pos h2]
theorem XU {bytes k:Nat} {z:Value} {news:List Value} (hel:P.underlying t=some (.slice te)) (he:qp P te=some e) (hz:zeroOf P te=some z) (hzs:z.cells.size=e) (hb:bytesOf P te=some bytes) (hpos:0 < e) (hsrc:ZY P tx e x S=some (k,news))
  (hg:S.get q=some (.cells cs (.own anc) e)) (hle:o+n * e≤cs.length) (hmax:(n+k) * bytes≤140737488355328) (hmax2:n+k≤4611686018427387903) (h1:((cs.drop o).take (n * e)).all (·.oneCell')=true) :
  yh P hp t tx (.slice (some ⟨q,o,none⟩) n c) x S=some (.slice (some ⟨S.next,0,none⟩) (n+k) (n+k),
   if o+n * e=cs.length then (S.set q (.cells cs .ro e)).push (.cells ((cs.drop o).take (n * e)++news) (.own (if n * e=0 then [] else q::anc)) e)
   else ((S.kills anc).set q .dead).push (.cells ((cs.drop o).take (n * e)++news) (.own []) e)):=by
 have hel2:wM P t=some te:=by simp only [wM,hel]
 simp only [yh,hel2,he,hz,hb,if_pos hpos,if_pos hzs,hsrc,hg,if_true,if_pos hle,if_pos hmax,if_pos hmax2,if_pos h1,wU]
 by_cases h:o+n * e=cs.length
 ·
  rw [if_pos h,if_pos h]
 ·
  rw [if_neg h,if_neg h]
theorem X7 {bytes k:Nat} {z:Value} {news:List Value} (hel:P.underlying t=some (.slice te)) (he:qp P te=some e) (hz:zeroOf P te=some z) (hzs:z.cells.size=e) (hb:bytesOf P te=some bytes) (hpos:0 < e) (hsrc:ZY P tx e x S=some (k,news))
  (hmax:k * bytes≤140737488355328) (hmax2:k≤4611686018427387903) :
  yh P true t tx (.slice none 0 0) x S=some (if k=0 then .slice none 0 0 else .slice (some ⟨S.next,0,none⟩) k k,if k=0 then S else S.push (.cells news (.own []) e)):=by
 have hel2:wM P t=some te:=by simp only [wM,hel]
 simp only [yh,hel2,he,hz,hb,if_pos hpos,if_pos hzs,hsrc,if_pos hmax,if_pos hmax2,if_true]
 by_cases h:k=0
 ·
  rw [if_pos h,if_pos h,if_pos h]
 ·
  rw [if_neg h,if_neg h,if_neg h]
end
theorem vZ {x:Array Value}:(Value.agg x).cells=x:=rfl
@[simp] theorem YQ (a:Option Addr) (n c:Nat):dem (.slice a n c)=.slice a n c:=Eq.trans rfl rfl
@[simp] theorem VD (a:Option Nat):dem (.map a)=.map a:=Eq.trans rfl rfl
theorem wrap_i64 {n:Int} (h0:-9223372036854775808≤n) (h:n < 9223372036854775808):IntKind.i64.wrap n=n:=by
 simp [IntKind.wrap,IntKind.bits,IntKind.signed]
 split <;> omega
theorem JG {l pre suf:List Int} {n:Int} (hl:l=pre++n::suf) (h:Int.toNat (pre.length:Int) < l.length):l[Int.toNat (pre.length:Int)]=n:=by
 subst hl;simp
theorem acZ {α:Type} {l pre suf:List α} {n:α} (hl:l=pre++n::suf) (h:Int.toNat (pre.length:Int) < l.length):l[Int.toNat (pre.length:Int)]=n:=by
 subst hl;simp
theorem afv (k:Nat):(if (if k=2 then 1 else k)=2 then 1 else if k=2 then 1 else k)=if k=2 then 1 else k:=by split <;> simp_all
theorem ads (k:Nat):(if k=2 then 1 else k)≠2:=by split <;> omega
theorem ZB (Sa Sb:zx):yC zh Sa Sb=true:=rfl
theorem YZ (cs:List Value) (Sa Sb:zx):yC (EP cs) Sa Sb=true:=rfl
theorem Jm {q o e:Nat} {cs:List Value} {own:Own} {S:zx} (h:S.get q=some (.cells cs own e)):yC (.pointer (some ⟨q,o,none⟩)) S S=true:=by
 simp only [yC,h,Nat.sub_self,List.take_zero,List.contains_nil,Bool.not_false,Bool.and_self]
theorem X8 {q o e:Nat} {cs:List Value} {own:Own} {S S1:zx} (h:S.get q=some (.cells cs own e)) (hq:q < S.next) (hE:Ext S S1):yC (.pointer (some ⟨q,o,none⟩)) S S1=true:=by
 obtain ⟨new,h1,h2⟩:=hE.log
 simp only [yC,h,h1,List.length_append,Nat.add_sub_cancel,List.take_left,Bool.true_and,Bool.not_eq_true',List.contains_eq_mem,decide_eq_false_iff_not]
 intro hm
 have:=h2 q hm
 omega
end Go.Abs
namespace Go.Abs
open Go.RowKit
section
variable {P:Program} {fx:Fx} {chk:List Nat} {call:FuncId→List Value→M Value} {ops:Array Oper}
theorem sP (f:Func) (i n:Nat) {l:List Oper} {T:List Value} {T1:Value→List Value} {S:zx} {v:Value} {r:Option (List Value×zx)} (hK:jd P fx call ops ((reg f i).toList.drop (n+1)) (T1 v) S=r) (hl:l=(opAt f i n)::((reg f i).toList.drop (n+1)):=by kernel_rfl) (hg:(opAt f i n).guard=none:=by kernel_rfl) (hm:∀ v,xw (opAt f i n) ((reg f i).toList.drop (n+1)) T v=T1 v:=by exact fun _=>rfl) (hs:wz P fx call T (opAt f i n) S=some (v,S):=by kernel_rfl):jd P fx call ops l T S=r :=
 aax hl hg hm hs hK
theorem sD (f:Func) (i n:Nat) {l:List Oper} {T:List Value} {T1:Value→List Value} {S:zx} {s:Option (Value×zx)} {K:Value→zx→Option (List Value×zx)} (hK:∀ v S1,jd P fx call ops ((reg f i).toList.drop (n+1)) (T1 v) S1=K v S1) (hl:l=(opAt f i n)::((reg f i).toList.drop (n+1)):=by kernel_rfl) (hg:(opAt f i n).guard=none:=by kernel_rfl) (hm:∀ v,xw (opAt f i n) ((reg f i).toList.drop (n+1)) T v=T1 v:=by exact fun _=>rfl) (hs:wz P fx call T (opAt f i n) S=s:=by kernel_rfl):jd P fx call ops l T S=zS s K () :=
 adu hl hg hm hs hK
theorem sG (f:Func) (i n:Nat) {l:List Oper} {T:List Value} {T1:Value→List Value} {S:zx} {j:Nat} {b:Bool} {g:Value} {s:M Value} {K:Value→zx→Option (List Value×zx)} (hK:∀ v S1,jd P fx call ops ((reg f i).toList.drop (n+1)) (T1 v) S1=K v S1) (hl:l=(opAt f i n)::((reg f i).toList.drop (n+1)):=by kernel_rfl) (hg:(opAt f i n).guard=some (j,b):=by kernel_rfl) (hm:∀ v,xw (opAt f i n) ((reg f i).toList.drop (n+1)) T v=T1 v:=by exact fun _=>rfl) (hy:ynd ops T j=vb g:=by kernel_rfl) (hs:wz P fx call T (opAt f i n) S=s S:=by kernel_rfl):jd P fx call ops l T S=gdK g b s S K () :=
 ad1 hl hg hm hy hs hK
theorem tD (f:Func) (i n:Nat) {l:List Oper} {T:List Value} {T1:Value→List Value} {S:zx} {k:Nat} {s:Option (Value×zx)} {K:Value→zx→Option (List Value×zx)} (hK:∀ v S1,jV P fx chk [] call ops (k+1) [] ((reg f i).toList.drop (n+1)) (T1 v) S1=K v S1) (hc:chk.contains k=false:=by kernel_rfl) (hl:l=(opAt f i n)::((reg f i).toList.drop (n+1)):=by kernel_rfl) (hg:(opAt f i n).guard=none:=by kernel_rfl) (hm:∀ v,xw (opAt f i n) ((reg f i).toList.drop (n+1)) T v=T1 v:=by exact fun _=>rfl) (hs:wz P fx call T (opAt f i n) S=s:=by kernel_rfl):jV P fx chk [] call ops k [] l T S=zS s K () :=
 abr hc hl hg hm hs hK
theorem tP (f:Func) (i n:Nat) {l:List Oper} {T:List Value} {T1:Value→List Value} {S:zx} {k:Nat} {v:Value} {r:Option (List Value×zx)} (hK:jV P fx chk [] call ops (k+1) [] ((reg f i).toList.drop (n+1)) (T1 v) S=r) (hc:chk.contains k=false:=by kernel_rfl) (hl:l=(opAt f i n)::((reg f i).toList.drop (n+1)):=by kernel_rfl) (hg:(opAt f i n).guard=none:=by kernel_rfl) (hm:∀ v,xw (opAt f i n) ((reg f i).toList.drop (n+1)) T v=T1 v:=by exact fun _=>rfl) (hs:wz P fx call T (opAt f i n) S=some (v,S):=by kernel_rfl):jV P fx chk [] call ops k [] l T S=r :=
 Vo hc hl hg hm hs hK
theorem uD (f:Func) (i n:Nat) {l:List Oper} {T:List Value} {T1:Value→List Value} {S:zx} {k:Nat} {s:Option (Value×zx)} {K:Value→zx→Option (List Value×zx)} {x:Nat×Nat} {nl:List (Nat×Nat)} {hist:List (Value×zx)} {pe:Value} (hK:∀ v S1,jV P fx chk (x::nl) call ops (k+1) (hist++[(pe,S)]) ((reg f i).toList.drop (n+1)) (T1 v) S1=K v S1) (hc:chk.contains k=false:=by kernel_rfl) (hpe:qj T (opAt f i n)=pe:=by kernel_rfl) (hl:l=(opAt f i n)::((reg f i).toList.drop (n+1)):=by kernel_rfl) (hg:(opAt f i n).guard=none:=by kernel_rfl) (hm:∀ v,xw (opAt f i n) ((reg f i).toList.drop (n+1)) T v=T1 v:=by exact fun _=>rfl) (hs:wz P fx call T (opAt f i n) S=s:=by kernel_rfl):jV P fx chk (x::nl) call ops k hist l T S=zS s K () :=
 abG hc hpe hl hg hm hs hK
theorem uDC (f:Func) (i n:Nat) {l:List Oper} {T:List Value} {T1:Value→List Value} {S:zx} {k:Nat} {s:Option (Value×zx)} {K:Value→zx→Option (List Value×zx)} {x:Nat×Nat} {nl:List (Nat×Nat)} {hist:List (Value×zx)} {pe:Value} (hK:∀ v S1,jV P fx chk (x::nl) call ops (k+1) (hist++[(pe,S)]) ((reg f i).toList.drop (n+1)) (T1 v) S1=K v S1) (hc:chk.contains k=true:=by kernel_rfl) (hpe:qj T (opAt f i n)=pe:=by kernel_rfl) (hl:l=(opAt f i n)::((reg f i).toList.drop (n+1)):=by kernel_rfl) (hg:(opAt f i n).guard=none:=by kernel_rfl) (hm:∀ v,xw (opAt f i n) ((reg f i).toList.drop (n+1)) T v=T1 v:=by exact fun _=>rfl) (hs:wz P fx call T (opAt f i n) S=s:=by kernel_rfl):jV P fx chk (x::nl) call ops k hist l T S=zS s (fun v S1=>okK v (K v S1) ()) () :=
 VI hc hpe hl hg hm hs hK
theorem uP (f:Func) (i n:Nat) {l:List Oper} {T:List Value} {T1:Value→List Value} {S:zx} {k:Nat} {v:Value} {r:Option (List Value×zx)} {x:Nat×Nat} {nl:List (Nat×Nat)} {hist:List (Value×zx)} {pe:Value} (hK:jV P fx chk (x::nl) call ops (k+1) (hist++[(pe,S)]) ((reg f i).toList.drop (n+1)) (T1 v) S=r) (hc:chk.contains k=false:=by kernel_rfl) (hpe:qj T (opAt f i n)=pe:=by kernel_rfl) (hl:l=(opAt f i n)::((reg f i).toList.drop (n+1)):=by kernel_rfl) (hg:(opAt f i n).guard=none:=by kernel_rfl) (hm:∀ v,xw (opAt f i n) ((reg f i).toList.drop (n+1)) T v=T1 v:=by exact fun _=>rfl) (hs:wz P fx call T (opAt f i n) S=some (v,S):=by kernel_rfl):jV P fx chk (x::nl) call ops k hist l T S=r :=
 XY hc hpe hl hg hm hs hK
theorem uPC (f:Func) (i n:Nat) {l:List Oper} {T:List Value} {T1:Value→List Value} {S:zx} {k:Nat} {v:Value} {r:Option (List Value×zx)} {x:Nat×Nat} {nl:List (Nat×Nat)} {hist:List (Value×zx)} {pe:Value} (hK:jV P fx chk (x::nl) call ops (k+1) (hist++[(pe,S)]) ((reg f i).toList.drop (n+1)) (T1 v) S=r) (hc:chk.contains k=true:=by kernel_rfl) (hpe:qj T (opAt f i n)=pe:=by kernel_rfl) (hl:l=(opAt f i n)::((reg f i).toList.drop (n+1)):=by kernel_rfl) (hg:(opAt f i n).guard=none:=by kernel_rfl) (hm:∀ v,xw (opAt f i n) ((reg f i).toList.drop (n+1)) T v=T1 v:=by exact fun _=>rfl) (hs:wz P fx call T (opAt f i n) S=some (v,S):=by kernel_rfl):jV P fx chk (x::nl) call ops k hist l T S=okK v r () :=
 KC hc hpe hl hg hm hs hK
end
end Go.Abs
namespace Go.Proofs.Ytacbgjhmkhjpoaa
open Go.Abs
theorem aeT:qp zi 3=some 1:=by kernel_rfl
theorem ae6:bytesOf zi 3=some 8:=by kernel_rfl
theorem afd:zeroOf zi 3=(some (Value.int IntKind.i64 0)):=by kernel_rfl
theorem ZP:yS zi 3=some false:=by kernel_rfl
theorem jc:zi.underlying 23=some (TypeDesc.slice 30):=by kernel_rfl
theorem Zx:qp zi 23=some 1:=by kernel_rfl
theorem yX:yS zi 23=some false:=by kernel_rfl
theorem abD:zi.underlying 30=some (TypeDesc.struct #[{ name:= "ID",type:=3,offset:=0,embedded:=false,tag:= "",pkgPath:= "",byteOffset:=0 },{ name:= "Fee",type:=3,offset:=1,embedded:=false,tag:= "",pkgPath:= "",byteOffset:=8 }]):=by kernel_rfl
theorem jq:qp zi 30=some 2:=by kernel_rfl
theorem abC:bytesOf zi 30=some 16:=by kernel_rfl
theorem KO:zeroOf zi 30=(some (Value.agg #[(Value.int IntKind.i64 0),(Value.int IntKind.i64 0)])):=by kernel_rfl
theorem vF:yS zi 30=some true:=by kernel_rfl
theorem Yo:zi.underlying 38=some (TypeDesc.slice 3):=by kernel_rfl
theorem adn:yS zi 38=some false:=by kernel_rfl
theorem jJ (q o:Nat) (S:zx):zQ zi 30 (.pointer (some ⟨q,o,none⟩)) 0 S=some (.pointer (some ⟨q,o+0,none⟩),S):=by kernel_rfl
theorem kG (q o:Nat) (S:zx):zQ zi 30 (.pointer (some ⟨q,o,none⟩)) 1 S=some (.pointer (some ⟨q,o+1,none⟩),S):=by kernel_rfl
theorem jB (q o:Nat) (S:zx):zQ zi 49 (.pointer (some ⟨q,o,none⟩)) 0 S=some (.pointer (some ⟨q,o+0,none⟩),S):=by kernel_rfl
theorem qG {fx:Bool} {x0 x1:Value} {S:zx}:je zi fx 30 (EP [x0,x1]) S=some (.agg [x0,x1].toArray,S):=Qx vF jq rfl
theorem Jq {q:Nat} {x0 x1:Value} {own:Own} {e:Nat} {S:zx} (h:S.get q=some (.cells [x0,x1] own e)):je zi false 30 (.pointer (some ⟨q,0,none⟩)) S=some (.agg [qI x0,qI x1].toArray,S):=(Xy (o:=0) h vF jq (by simp)).trans (by simp)
theorem WZ (S:zx):jw zi 23 0 [] S=some (sv 2 2 0 [],S):=by kernel_rfl
theorem XF (S:zx):jw zi 38 0 [] S=some (sv 2 1 0 [],S):=by kernel_rfl
theorem XW (x0:Int) (S:zx):jw zi 38 1 [(0,.int IntKind.i64 x0)] S=some (sv 2 1 1 [.int IntKind.i64 x0],S):=by kernel_rfl
theorem XI (x0 x1:Int) (S:zx):jw zi 38 2 [(0,.int IntKind.i64 x0),(1,.int IntKind.i64 x1)] S=some (sv 2 1 2 [.int IntKind.i64 x0,.int IntKind.i64 x1],S):=by kernel_rfl
theorem Xj {k:Nat} {l:List Int} {S:zx} (h:Okl k l):kP zi 38 (iz k l) S=some (goInt l.length,S):=aaD Yo h
theorem adq {k:Nat} {l:List Int} {S:zx} {ki:IntKind} {i:Int} (h:Okl k l) (h0:0≤i) (hi:i < l.length):zV zi 38 (iz k l) (.int ki i) S=some (EP [.int .i64 (l[i.toNat]'(by omega))],S):=adz Yo aeT acy h h0 hi
theorem xQ {fx:Bool} {v:Value} {S:zx}:je zi fx 3 (EP [v]) S=some (v,S):=aaK ZP
theorem aag {k:Nat} {l:List Int} {S:zx} {j:Nat} {m:List Int} (h:Okl k l) (hk:k≠1) (hm:Okl j m) (hl:l.length+m.length≤17592186044416):qo zi 38 38 (iz k l) (iz j m) S=some (iz (if k=0∧m.length=0 then 0 else 2) (l++m),S):=YS Yo aeT afd rfl ae6 (by omega) Yo acy aew h hk hm (by omega) (by omega)
theorem wk:type_of% (afz @JY (afz @vJ (afz @ZJ (afz @Jh (afz @JR (afz @Z8 (afz @Z4 (afz @JB (afz @ZI (afz @Qk (afz @Ju (afz @Y8 (afz @KY (afz @vk (afz @J6 (afz @JD (afz @J8 (afz @Jp (afz @QA (afz @acH (afz @acr (afz @acP (afz @ac1 (afz @acR (afz @aaS (afz @aaA (afz @abl (afz @aa2 (afz @Vu (afz @Xx (afz @ZB (afz @YZ (afz @Bool.and_true (afz @Bool.true_and (afz @Bool.and_self (afz @KI (afz @VQ (afz @WI (afz @Qe (afz @Z5 (afz @acs (afz @acN (afz @acW (afz @acS (afz @aeF (afz @aem (afz @aeu (afz @ael (afz @aeC (afz @acQ (afz @acC (afz @acp (afz @ac0 (afz @acw (afz @aac (afz @WE (afz @Bool.false_eq_true (afz @Xl (afz @VY (afz @JV (afz @Qj (afz @Qp (afz @acE (afz @YX (afz @acV (afz @Qr (afz @aas (afz @Xu (afz @WB (afz @VX (afz @aak (afz @yc (afz @xR (afz @YQ (afz @VD (afz @Vy (afz @abb (afz @Yp (afz @Xd (afz @Jl (afz @YU (afz @Y2 (afz @WG (afz @vO (afz @xE (afz @Jz (afz @YK (afz @Zt (afz @J4 (afz @xJ (afz @xI (afz @xC (afz @Xh (afz @Xc (afz @KN (afz @Xp (afz @Xk (afz @KZ (afz @XA (afz @Xm (afz @Xt (afz @Vt (afz @Bool.not_true (afz @Bool.not_false (afz @Bool.true_eq_false (afz @decide_true (afz @decide_false (afz @abk (afz @VW (afz @aaq (afz @abh (afz @aaX (afz @aa7 (afz @VU (afz @aaj (afz @aaM (afz @aaI (afz @aaR (afz @VK (afz @aaT (afz @aaw (@aaO)))))))))))))))))))))))))))))))))))))))))))))))))))))))))))))))))))))))))))))))))))))))))))))))))))))))))))))))))))))))))):=afz @JY (afz @vJ (afz @ZJ (afz @Jh (afz @JR (afz @Z8 (afz @Z4 (afz @JB (afz @ZI (afz @Qk (afz @Ju (afz @Y8 (afz @KY (afz @vk (afz @J6 (afz @JD (afz @J8 (afz @Jp (afz @QA (afz @acH (afz @acr (afz @acP (afz @ac1 (afz @acR (afz @aaS (afz @aaA (afz @abl (afz @aa2 (afz @Vu (afz @Xx (afz @ZB (afz @YZ (afz @Bool.and_true (afz @Bool.true_and (afz @Bool.and_self (afz @KI (afz @VQ (afz @WI (afz @Qe (afz @Z5 (afz @acs (afz @acN (afz @acW (afz @acS (afz @aeF (afz @aem (afz @aeu (afz @ael (afz @aeC (afz @acQ (afz @acC (afz @acp (afz @ac0 (afz @acw (afz @aac (afz @WE (afz @Bool.false_eq_true (afz @Xl (afz @VY (afz @JV (afz @Qj (afz @Qp (afz @acE (afz @YX (afz @acV (afz @Qr (afz @aas (afz @Xu (afz @WB (afz @VX (afz @aak (afz @yc (afz @xR (afz @YQ (afz @VD (afz @Vy (afz @abb (afz @Yp (afz @Xd (afz @Jl (afz @YU (afz @Y2 (afz @WG (afz @vO (afz @xE (afz @Jz (afz @YK (afz @Zt (afz @J4 (afz @xJ (afz @xI (afz @xC (afz @Xh (afz @Xc (afz @KN (afz @Xp (afz @Xk (afz @KZ (afz @XA (afz @Xm (afz @Xt (afz @Vt (afz @Bool.not_true (afz @Bool.not_false (afz @Bool.true_eq_false (afz @decide_true (afz @decide_false (afz @abk (afz @VW (afz @aaq (afz @abh (afz @aaX (afz @aa7 (afz @VU (afz @aaj (afz @aaM (afz @aaI (afz @aaR (afz @VK (afz @aaT (afz @aaw (@aaO)))))))))))))))))))))))))))))))))))))))))))))))))))))))))))))))))))))))))))))))))))))))))))))))))))))))))))))))))))))))))
theorem zSs:type_of% (afz wk (afz (@List.getD_cons_succ Value) (afz (@List.getD_cons_zero Value) (afz @if_true.{1} (afz @if_false.{1} (afz (@List.getElem?_cons_succ Value) (afz (@List.getElem?_cons_zero Value) (afz @Option.map_some.{0,0} @eq_self.{1})))))))):=afz wk (afz (@List.getD_cons_succ Value) (afz (@List.getD_cons_zero Value) (afz @if_true.{1} (afz @if_false.{1} (afz (@List.getElem?_cons_succ Value) (afz (@List.getElem?_cons_zero Value) (afz @Option.map_some.{0,0} @eq_self.{1})))))))
end Go.Proofs.Ytacbgjhmkhjpoaa
namespace Go.Abs
open Go.RowKit
section
theorem qR (b:Nat) (vs:List Value):∀ (o:Nat) (w:World),(w.setCells b o vs).drawn=w.drawn:=by
 induction vs with
 | nil=>intro o w;rfl
 | cons v r ih=>intro o w;rw [World.setCells,ih];rfl
theorem abu {w1 w2:World} (h1:w1.os=w2.os) (h2:w1.tape=w2.tape) (h3:w1.output=w2.output) (h4:w1.drawn=w2.drawn) (h5:w1.heap.size=w2.heap.size) (h6:∀ k:Nat,w1.heap[k]?=w2.heap[k]?):w1=w2:=by
 cases w1;cases w2
 simp only at *
 subst h1 h2 h3 h4
 congr
 exact Array.ext_getElem? h6
theorem JF {w:World} {b o:Nat} {cc:Array Value} {e:TypeId} {fr:Nat×Nat} (hb:w.heap[b]?=some (.cells cc e fr)) {pre vs suf:List Value} (hpre:∀ j v,pre[j]?=some v→cc[o+j]?=some v) (hle:o+(pre.length+vs.length+suf.length)≤cc.size) :
  (w.setCells b (o+(pre.length+vs.length)) suf).setCells b (o+pre.length) vs=w.setCells b o (pre++(vs++suf)):=by
 obtain ⟨a1,a2,a3,a4⟩:=yj b suf (o+(pre.length+vs.length)) w
 obtain ⟨b1,b2,b3,b4⟩:=yj b vs (o+pre.length) (w.setCells b (o+(pre.length+vs.length)) suf)
 obtain ⟨c1,c2,c3,c4⟩:=yj b (pre++(vs++suf)) o w
 refine abu (by rw [b1,a1,c1]) (by rw [b2,a2,c2]) (by rw [b3,a3,c3]) (by rw [qR,qR,qR]) (by rw [b4,a4,c4]) fun k=>?_
 by_cases hk:k=b
 ·
  subst hk
  rw [jY _ _ _ _ _ _ _ (jY _ _ _ _ _ _ _ hb),jY _ _ _ _ _ _ _ hb]
  congr 2
  refine Array.ext_getElem? fun n=>?_
  rw [qx,qx,qx,yB]
  simp only [List.length_append]
  by_cases h1:o≤n∧n < o+(pre.length+(vs.length+suf.length))
  ·
   rw [if_pos (show o≤n∧n < o+(pre.length+(vs.length+suf.length))∧n < cc.size by omega)]
   by_cases h2:n < o+pre.length
   ·
    rw [if_neg (by omega),if_neg (by omega),List.getElem?_append_left (by omega)]
    have hlt:n - o < pre.length:=by omega
    have:=hpre (n - o) _ (List.getElem?_eq_getElem hlt)
    rw [show o+(n - o)=n by omega] at this
    rw [this,List.getElem?_eq_getElem hlt]
   ·
    rw [List.getElem?_append_right (by omega)]
    by_cases h3:n < o+pre.length+vs.length
    ·
     rw [if_pos (by omega),List.getElem?_append_left (by omega)]
     congr 1;omega
    ·
     rw [if_neg (by omega),if_pos (by omega),List.getElem?_append_right (by omega)]
     congr 1;omega
  ·
   rw [if_neg (by omega),if_neg (by omega),if_neg (by omega)]
 ·
  rw [jm _ _ _ _ _ hk,jm _ _ _ _ _ hk,jm _ _ _ _ _ hk]
end
section
variable {P:Program}
theorem yL (w:World) {dT sT ty elem:TypeId} {b o dLen dCap e:Nat} {a:Addr} {sLen sCap:Nat} {cs:List Value}
  (hu:P.underlying dT=some (.slice elem)) (hs:qp P elem=some e) (hn:cs.length=Nat.min sLen dLen * e)
  (hsrc:∀ j v,cs[j]?=some v→w.cell? (a.add j)=some v) (hc:∀ j,j < cs.length→(w.cell? ⟨b,o+j,none⟩).isSome=true) (hf:∀ j,j < cs.length→w.frozen? ⟨b,o+j,none⟩=false) (h1:∀ v ∈ cs,v.oneCell'=true) :
  (Builtin.copy_ #[dT,sT] ty #[.slice (some ⟨b,o,none⟩) dLen dCap,.slice (some a) sLen sCap]).run P w=.ok (goInt (Nat.min sLen dLen)) (w.setCells b o cs):=by
 have hl:=run_loadCells_list (P:=P) w a cs hsrc
 have hst:=run_storeCells_cells (P:=P) b o cs 0 w (by simpa using hc) (by simpa using hf) h1
 simp only [Nat.add_zero] at hst
 rw [hn] at hl
 simp [Builtin.copy_,run_underlying hu,Builtin.lenOf,wE hs,Builtin.firstCells,hl,hst]
end
section
variable {P:Program} {B:Base} {w0:World} {m:Mp} {H:zx} {w:World}
theorem Rel.inserted {r:Nat} {L:Loc} {cs all all':List Value} {size o:Nat} {anc:List Nat} (hr:Rel B w0 m H w) (hm:m r=some L) (hg:H.get r=some (.cells cs (.own anc) size)) (ho:o≤cs.length) (hx:LR m all all') (hl:L.shift+o+all.length≤L.lim) :
  w.there L.blk (L.shift+o) all'.length∧Rel B w0 (m.add H.next ⟨L.blk,L.shift+o,L.lim,size⟩) (((H.kills anc).set r .dead).push (.cells all (.own []) size)) (w.setCells L.blk (L.shift+o) all'):=by
 have h:=hr.moved (o:=o) (n:=0) (anc:=[]) (G:=(H.kills anc).set r .dead) hm hg (.inr ⟨rfl,rfl⟩) ho hx hl
 simpa using h
end
section
variable {P:Program} {B:Base} {w0:World} {m:Mp} {H:zx} {w w1:World}
theorem Rel.less {G:zx} (hr:Rel B w0 m G w) (hn:H.next=G.next) (hg:∀ r o,H.get r=some o→o=.dead∨G.get r=some o):Rel B w0 m H w:=by
 refine ⟨hr.below,hr.base,fun r L o hm ho=>?_,hr.lt,fun r L o hm ho hw=>?_,fun r r' L L' o o' hne h1 h2 g1 g2 hw ha hb=>?_,fun r h=>hr.fresh r (by rw [← hn];exact h),hr.keep,hr.far,hr.Xn fun r cs a e ho=>?_⟩
 ·
  rcases hg r o ho with rfl | h
  ·
   exact True.intro
  ·
   exact hr.obj r L o hm h
 ·
  rcases hg r o ho with rfl | h
  ·
   cases hw
  ·
   exact hr.own r L o hm h hw
 ·
  rcases hg r o g1 with rfl | k1
  ·
   cases hw
  ·
   rcases hg r' o' g2 with rfl | k2
   ·
    cases ha
   ·
    exact hr.apart r r' L L' o o' hne h1 h2 k1 k2 hw ha hb
 ·
  rcases hg r _ ho with h | h
  ·
   cases h
  ·
   exact ⟨_,_,h⟩
theorem yG.aeR {b:Obj} (h:yG w w1 b):yG w w1.drew b:=⟨h.os,h.tape,h.output,h.size,h.old,h.new⟩
theorem yG.put {cc:Array Value} {e:TypeId} {fr:Nat×Nat} (h:yG w w1 (.cells cc e fr)) (o:Nat) (vs:List Value):yG w (w1.setCells w.heap.size o vs) (.cells (aaf cc o vs) e fr):=by
 obtain ⟨r1,r2,r3,r4⟩:=yj w.heap.size vs o w1
 exact ⟨r1.trans h.os,r2.trans h.tape,r3.trans h.output,r4.trans h.size,fun k hk=>by rw [jm _ _ _ _ _ (by omega)];exact h.old k hk,jY _ _ _ _ _ _ _ h.new⟩
theorem QD {pre vs suf:List Value} {row:Array Value} (hp:∀ (j:Nat) (v:Value),pre[j]?=some v→row[j]?=some v) (hl:pre.length+vs.length+suf.length≤row.size) :
  ∃ tail:List Value,aaf (aaf row pre.length vs) (pre.length+vs.length) suf=(pre++(vs++suf)++tail).toArray∧tail.length=row.size - (pre.length+vs.length+suf.length):=by
 refine ⟨row.toList.drop (pre.length+vs.length+suf.length),?_,by simp⟩
 refine Array.ext_getElem? fun n=>?_
 rw [qx,qx,yB]
 simp only [List.getElem?_toArray]
 by_cases h1:n < pre.length
 ·
  rw [if_neg (by omega),if_neg (by omega),List.append_assoc,List.getElem?_append_left h1,List.getElem?_eq_getElem h1]
  exact hp n _ (List.getElem?_eq_getElem h1)
 ·
  by_cases h2:n < pre.length+vs.length
  ·
   rw [if_neg (by omega),if_pos (by omega),List.append_assoc,List.getElem?_append_right (by omega),List.append_assoc,List.getElem?_append_left (by omega)]
  ·
   by_cases h3:n < pre.length+vs.length+suf.length
   ·
    rw [if_pos (by omega),List.append_assoc,List.getElem?_append_right (by omega),List.append_assoc,List.getElem?_append_right (by omega),List.getElem?_append_left (by omega)]
    congr 1;omega
   ·
    rw [if_neg (by omega),if_neg (by omega),List.append_assoc,List.getElem?_append_right (by omega),List.append_assoc,List.getElem?_append_right (by omega),List.getElem?_append_right (by omega),List.getElem?_drop]
    rw [← Array.getElem?_toList]
    congr 1;omega
theorem LR.three {a b c:Value} {l:List Value} (h:LR m [a,b,c] l):∃ a' b' c',l=[a',b',c']∧VR m a a'∧VR m b b'∧VR m c c':=by
 have hl:=h.1
 match l,hl with
 | [x,y,z],_=>exact ⟨x,y,z,rfl,h.head,h.tail.head,h.tail.tail.head⟩
end
end Go.Abs
namespace Go.Proofs.Ytacbgjhmkhjpoaa
open Go.Abs Go.Proofs Go.RowKit Go.Lib
set_option maxHeartbeats 4000000 in
theorem YR (b off n c i vb voff m vc:Nat) (cs vs:List Value) (w:World) (hi:i < n) (hm:0 < m) (hroom:n+m≤c) (hnm:n+m≤4611686018427387903) (hdis:vb=b→voff+m * 2≤off∨off+(n+m) * 2≤voff)
  (hcl:cs.length=n * 2) (hvl:vs.length=m * 2)
  (hcs:∀ j v,cs[j]?=some v→w.cell? ⟨b,off+j,none⟩=some v) (hsp:∀ j,j < (n+m) * 2→(w.cell? ⟨b,off+j,none⟩).isSome=true) (hfz:∀ j,j < (n+m) * 2→w.frozen? ⟨b,off+j,none⟩=false)
  (hvs:∀ j v,vs[j]?=some v→w.cell? ⟨vb,voff+j,none⟩=some v) (h1c:∀ v ∈ cs,v.oneCell'=true) (h1v:∀ v ∈ vs,v.oneCell'=true)
  (hov:∀ cb,(callFunc 34 #[.slice (some ⟨vb,voff,none⟩) m vc,.slice (some ⟨b,off+(i+m) * 2,none⟩) (n+m - (i+m)) cb]).run zi w=.ok (.value (.bool false)) w) :
  Calls zi 28 #[.slice (some ⟨b,off,none⟩) n c,.int .i64 i,.slice (some ⟨vb,voff,none⟩) m vc] w fun e w' =>
   e=.returned (.slice (some ⟨b,off,none⟩) (n+m) c)∧w'=(w.drew.setCells b (off+(i+m) * 2) (cs.drop (i * 2))).setCells b (off+i * 2) vs:=by
 have hz1:¬ ((m:Int)=0):=by omega
 have hz2:¬ ((i:Int)=(n:Int)):=by omega
 have hw1:IntKind.i64.wrap ((i:Int)+(m:Int))=(i:Int)+(m:Int):=by rw [IntKind.wrap_i64];omega
 have hw2:IntKind.i64.wrap ((n:Int)+(m:Int))=(n:Int)+(m:Int):=by rw [IntKind.wrap_i64];omega
 have hb1:(0:Int)≤(i:Int)+(m:Int):=by omega
 have hin:i≤n:=by omega
 have htn:((i:Int)+(m:Int)).toNat=i+m:=by omega
 have hb2:¬ (c=i+m):=by omega
 have hb3:(i:Int)≤(n:Int)+(m:Int):=by omega
 have hb4:¬ (c=i):=by omega
 have hdl:(cs.drop (i * 2)).length=(n - i) * 2:=by rw [List.length_drop,hcl];omega
 have hm1:Nat.min (n+m - i) (n+m - (i+m))=n - i:=by simp only [Nat.min_def];split <;> omega
 have hcp1:∀ ty dc sc,(Builtin.copy_ #[23,23] ty #[.slice (some ⟨b,off+(i+m) * 2,none⟩) (n+m - (i+m)) dc,.slice (some ⟨b,off+i * 2,none⟩) (n+m - i) sc]).run zi w.drew=.ok (goInt (n - i:Nat)) (w.drew.setCells b (off+(i+m) * 2) (cs.drop (i * 2))):=fun ty dc sc=>by
  rw [← hm1]
  exact yL w.drew jc jq (by rw [hdl,hm1])
   (fun j v hj=>by rw [Addr.add_lit,Nat.add_assoc];exact hcs (i * 2+j) v (by rwa [List.getElem?_drop] at hj))
   (fun j hj=>by rw [Nat.add_assoc];exact hsp _ (by omega)) (fun j hj=>by rw [Nat.add_assoc];exact hfz _ (by omega)) (fun v hv=>h1c v (List.mem_of_mem_drop hv))
 obtain ⟨W1,hW1⟩:∃ W1,W1=w.drew.setCells b (off+(i+m) * 2) (cs.drop (i * 2)):=⟨_,rfl⟩
 have hsp1:∀ k,k < (n+m) * 2→(W1.cell? ⟨b,off+k,none⟩).isSome=true:=fun k hk=>by
  rw [hW1]
  exact isSome_setCells b _ _ _ (fun j hj=>by rw [Nat.add_assoc];exact hsp _ (by omega)) _ (hsp k hk)
 have hm2:Nat.min m (n+m - i)=m:=by simp only [Nat.min_def];split <;> omega
 have hcp2:∀ (W:World),(∀ x,W.cell? x=W1.cell? x)→(∀ x,W.frozen? x=W1.frozen? x)→∀ ty dc,(Builtin.copy_ #[23,23] ty #[.slice (some ⟨b,off+i * 2,none⟩) (n+m - i) dc,.slice (some ⟨vb,voff,none⟩) m vc]).run zi W=.ok (goInt (m:Nat)) (W.setCells b (off+i * 2) vs):=fun W hWc hWf ty dc=>by
  have h:=yL (P:=zi) W (dT:=23) (sT:=23) (ty:=ty) (b:=b) (o:=off+i * 2) (dLen:=n+m - i) (dCap:=dc) (e:=2) (a:=⟨vb,voff,none⟩) (sLen:=m) (sCap:=vc) (cs:=vs) jc jq (by rw [hvl,hm2])
   (fun j v hj=>by
    have hj2:j < m * 2:=by rw [← hvl];exact (List.getElem?_eq_some_iff.1 hj).1
    rw [Addr.add_lit,hWc,hW1,World.cell?_setCells_out b _ _ _ _ (fun h _=>by have:=hdis h;rw [hdl];dsimp only;omega)]
    exact hvs j v hj)
   (fun j hj=>by rw [hWc,Nat.add_assoc];exact hsp1 _ (by omega)) (fun j hj=>by rw [hWf,hW1,World.frozen?_setCells,Nat.add_assoc];exact hfz _ (by omega)) h1v
  rw [hm2] at h
  exact h
 rw [← hW1] at hcp1
 have mixed:zi.follows .mixedOrders=true:=by kernel_rfl
 go_enter Try.func28,Try.ntmps28
 go_wp2_with (simp only [hov])
 go_region_law_o (refine step_copy_runI rfl _ _ 23 23 rfl _ _ (by simp [Act.eval,Act.put]) (by simp [Act.eval,Act.put]) (hcp1 _ _ _) ?_)
 go_wp2_with (at_builtin;refine wpList_copy_runI _ rfl _ _ 23 23 rfl _ _ rfl rfl (hcp2 _ (fun _=>rfl) (fun _=>rfl) _ _) ?_)
 go_ret
 first | exact ⟨rfl,rfl⟩ | exact ⟨rfl,by rw [hW1]⟩
section
variable {P:Program}
theorem JQ (w:World) {o:Oper} {a:Act} {K:Act→World→Prop} {Q:Exit→Act→World→Prop} (d s:Operand) (t t':TypeId)
  (ho:o.op=.call { callee:=.builtin .append,args:=#[d,s],argTypes:=#[t,t'] }) (v u:Value) (hd:a.eval d=v) (hs:a.eval s=u) {v':Value} {w':World}
  (hr:(Builtin.append_ #[t,t'] o.type #[v,u]).run P w=.ok v' w') (h:K (a.put o.dst v') w'):o.wp P a w K Q:=by
 unfold Oper.wp execOp
 simp only [ho,resolve,invoke,builtin,Sem.run_bind,Sem.run_pure,Result.andThen_ok,List.map_toArray,List.map_cons,List.map_nil,hd,hs,hr]
 exact h
theorem yT (w:World) {ops:Array Oper} {rest:List Oper} {o:Oper} {a:Act} {Q:Exit→Act→World→Prop} (hgd:o.guard=none) (d s:Operand) (t t':TypeId)
  (ho:o.op=.call { callee:=.builtin .append,args:=#[d,s],argTypes:=#[t,t'] }) (v u:Value) (hd:a.eval d=v) (hs:a.eval s=u) {v':Value} {w':World}
  (hr:(Builtin.append_ #[t,t'] o.type #[v,u]).run P w=.ok v' w') (h:wpList P ops Q rest (a.put o.dst v') w'):wpList P ops Q (o::rest) a w :=
 wpList_plain hgd fun _ hK=>JQ w d s t t' ho v u hd hs hr (hK _ _ h)
end
set_option maxHeartbeats 4000000 in
theorem Wp (base:Option Addr) (n c m vc:Nat) (vb:Option Addr) (w w':World) (v':Value) (hm:0 < m) (hnc:n≤c)
  (hr:∀ ty,(Builtin.append_ #[23,23] ty #[.slice base n c,.slice vb m vc]).run zi w=.ok v' w') :
  Calls zi 28 #[.slice base n c,.int .i64 n,.slice vb m vc] w fun e w2=>e=.returned v'∧w2=w':=by
 have hz1:¬ ((m:Int)=0):=by omega
 have mixed:zi.follows .mixedOrders=true:=by kernel_rfl
 cases base with
 | none =>
  go_enter Try.func28,Try.ntmps28
  go_wp2_with (at_builtin;refine yT _ rfl _ _ 23 23 rfl _ _ rfl rfl (hr _) ?_)
  go_ret
  exact ⟨rfl,rfl⟩
 | some a =>
  go_enter Try.func28,Try.ntmps28
  go_wp2_with (at_builtin;refine yT _ rfl _ _ 23 23 rfl _ _ rfl rfl (hr _) ?_)
  all_goals (go_ret;exact ⟨rfl,rfl⟩)
set_option maxHeartbeats 4000000 in
theorem Q7 (b off n c i vb voff m vc N G:Nat) (cs vs:List Value) (w W1:World) (hi:i < n) (hm:0 < m) (hnc:n≤c) (hroom:c < n+m) (hG63:G≤9223372036854775807) (hGn:n+m≤G)
  (hcl:cs.length=n * 2) (hvl:vs.length=m * 2) (h1c:∀ v ∈ cs,v.oneCell'=true) (h1v:∀ v ∈ vs,v.oneCell'=true)
  (hrz:∀ ty,(Builtin.append_ #[23,3] ty #[.slice (some ⟨b,off,none⟩) i c,.int .i64 ((n:Int)+(m:Int) - (i:Int))]).run zi w=.ok (.slice (some ⟨N,0,none⟩) (n+m) G) W1)
  (hN:∀ j,j < (n+m) * 2→(W1.cell? ⟨N,j,none⟩).isSome=true) (hNf:∀ j,W1.frozen? ⟨N,j,none⟩=false)
  (hcs:∀ j v,cs[j]?=some v→W1.cell? ⟨b,off+j,none⟩=some v) (hvs:∀ j v,vs[j]?=some v→W1.cell? ⟨vb,voff+j,none⟩=some v) (hbN:b≠N) (hvN:vb≠N) :
  Calls zi 28 #[.slice (some ⟨b,off,none⟩) n c,.int .i64 i,.slice (some ⟨vb,voff,none⟩) m vc] w fun e w' =>
   e=.returned (.slice (some ⟨N,0,none⟩) (n+m) G)∧w'=((W1.setCells N (i * 2) vs).drew).setCells N ((i+m) * 2) (cs.drop (i * 2)):=by
 have hz1:¬ ((m:Int)=0):=by omega
 have hz2:¬ ((i:Int)=(n:Int)):=by omega
 have hz3:(c:Int) < (n:Int)+(m:Int):=by omega
 have hw1:IntKind.i64.wrap ((i:Int)+(m:Int))=(i:Int)+(m:Int):=by rw [IntKind.wrap_i64];omega
 have hw2:IntKind.i64.wrap ((n:Int)+(m:Int))=(n:Int)+(m:Int):=by rw [IntKind.wrap_i64];omega
 have hw3:IntKind.i64.wrap ((n:Int)+(m:Int) - (i:Int))=(n:Int)+(m:Int) - (i:Int):=by rw [IntKind.wrap_i64];omega
 have hb1:(0:Int)≤(i:Int)+(m:Int):=by omega
 have hin:i≤n:=by omega
 have htn:((i:Int)+(m:Int)).toNat=i+m:=by omega
 have hb3:(i:Int)≤(n:Int):=by omega
 have hGi:¬ (G=i):=by omega
 have hGim:¬ (G=i+m):=by omega
 have hci:¬ (c=i):=by omega
 have hdl:(cs.drop (i * 2)).length=(n - i) * 2:=by rw [List.length_drop,hcl];omega
 have hm1:Nat.min (n - i) (n+m - (i+m))=n - i:=by simp only [Nat.min_def];split <;> omega
 have hm2:Nat.min m (n+m - i)=m:=by simp only [Nat.min_def];split <;> omega
 have hcpA:∀ ty dc,(Builtin.copy_ #[23,23] ty #[.slice (some ⟨N,i * 2,none⟩) (n+m - i) dc,.slice (some ⟨vb,voff,none⟩) m vc]).run zi W1=.ok (goInt (m:Nat)) (W1.setCells N (i * 2) vs):=fun ty dc=>by
  have h:=yL (P:=zi) W1 (dT:=23) (sT:=23) (ty:=ty) (b:=N) (o:=i * 2) (dLen:=n+m - i) (dCap:=dc) (e:=2) (a:=⟨vb,voff,none⟩) (sLen:=m) (sCap:=vc) (cs:=vs) jc jq (by rw [hvl,hm2])
   (fun j v hj=>by rw [Addr.add_lit];exact hvs j v hj) (fun j hj=>hN _ (by omega)) (fun j hj=>hNf _) h1v
  rw [hm2] at h
  exact h
 have hcpB:∀ (W:World),(∀ x,W.cell? x=(W1.setCells N (i * 2) vs).cell? x)→(∀ x,W.frozen? x=(W1.setCells N (i * 2) vs).frozen? x)→∀ ty dc sc,(Builtin.copy_ #[23,23] ty #[.slice (some ⟨N,(i+m) * 2,none⟩) (n+m - (i+m)) dc,.slice (some ⟨b,off+i * 2,none⟩) (n - i) sc]).run zi W=.ok (goInt (n - i:Nat)) (W.setCells N ((i+m) * 2) (cs.drop (i * 2))):=fun W hWc hWf ty dc sc=>by
  have h:=yL (P:=zi) W (dT:=23) (sT:=23) (ty:=ty) (b:=N) (o:=(i+m) * 2) (dLen:=n+m - (i+m)) (dCap:=dc) (e:=2) (a:=⟨b,off+i * 2,none⟩) (sLen:=n - i) (sCap:=sc) (cs:=cs.drop (i * 2)) jc jq (by rw [hdl,hm1])
   (fun j v hj=>by
    rw [Addr.add_lit,hWc,World.cell?_setCells_out _ _ _ _ _ (fun h _=>absurd h hbN),Nat.add_assoc]
    exact hcs (i * 2+j) v (by rwa [List.getElem?_drop] at hj))
   (fun j hj=>by rw [hWc];simpa using isSome_setCells N vs (i * 2) W1 (fun t ht=>by exact hN _ (by omega)) _ (hN _ (by omega)))
   (fun j hj=>by rw [hWf,World.frozen?_setCells];exact hNf _) (fun v hv=>h1c v (List.mem_of_mem_drop hv))
  rw [hm1] at h
  exact h
 have mixed:zi.follows .mixedOrders=true:=by kernel_rfl
 go_enter Try.func28,Try.ntmps28
 go_wp2_with (first
  | (at_builtin;refine yT _ rfl _ _ _ _ rfl _ _ rfl rfl (hrz _) ?_)
  | (at_builtin;refine wpList_copy_runI _ rfl _ _ 23 23 rfl _ _ rfl rfl (hcpA _ _) ?_))
 go_region_law_o (refine step_copy_runI rfl _ _ 23 23 rfl (.slice (some ⟨N,(i+m) * 2,none⟩) (n+m - (i+m)) (G - (i+m))) (.slice (some ⟨b,off+i * 2,none⟩) (n - i) (c - i)) (by simp [Act.eval,Act.put]) (by simp [Act.eval,Act.put]) (hcpB ((W1.setCells N (i * 2) vs).drew) (fun _=>rfl) (fun _=>rfl) 3 (G - (i+m)) (c - i)) ?_)
 go_wp2
 go_ret
 exact ⟨rfl,rfl⟩
end Go.Proofs.Ytacbgjhmkhjpoaa
namespace Go.Proofs.Ytacbgjhmkhjpoaa
open Go.Abs Go.Proofs Go.RowKit Go.Lib
theorem Zl {P:Program} (w:World) (tS tR e:TypeId) (ht:P.underlying tS=some (.slice e)) (size:Nat) (hz:∀ w,(Go.sizeOf e).run P w=.ok size w) (b oa la ca ob lb cb:Nat) (hd:oa+la * size≤ob∨ob+lb * size≤oa) :
  (Extern.SlicesOverlaps.overlaps #[tS,tS] #[tR] #[.slice (some ⟨b,oa,none⟩) la ca,.slice (some ⟨b,ob,none⟩) lb cb]).run P w=.ok (.bool false) w:=by
 have hf:(decide (oa < ob+lb * size) && decide (ob < oa+la * size))=false:=by
  rcases hd with h | h
  ·
   rw [decide_eq_false (show ¬ ob < oa+la * size by omega),Bool.and_false]
  ·
   rw [decide_eq_false (show ¬ oa < ob+lb * size by omega),Bool.false_and]
 have hb:(b != b)=false:=by simp
 have hu:=run_underlying ht
 change Sem.run P (bind (underlying tS) _) w=_
 rw [Sem.run_bind,hu]
 change Sem.run P (bind (sizeOf e) _) w=_
 rw [Sem.run_bind,hz]
 change Sem.run P (if la=0∨lb=0∨size=0 then _ else _) w=_
 by_cases h0:la=0∨lb=0∨size=0
 ·
  rw [if_pos h0];rfl
 ·
  rw [if_neg h0]
  simp [hb,hf]
  try omega
section
variable {B:Base} {w0:World} {m:Mp} {H:zx} {w:World}
theorem Kz:wM zi 23=some 30:=by kernel_rfl
theorem YE:∃ z,zeroOf zi 30=some z∧z.cells.size=2∧z.cells.toList.all (·.oneCell')=true:=⟨_,rfl,by kernel_rfl,by kernel_rfl⟩
theorem ZT:bytesOf zi 30=some 16:=by kernel_rfl
theorem acB {vr vo k kc:Nat} {vcs:List Value} {own:Own} (hv:H.get vr=some (.cells vcs own 2)) (h1:vo+k * 2≤vcs.length) (h2:((vcs.drop vo).take (k * 2)).all (·.oneCell')=true) :
  wQ zi 23 2 (.slice (some ⟨vr,vo,none⟩) k kc) H=some (k,(vcs.drop vo).take (k * 2)):=by
 simp only [wQ,jc,wI,hv,if_pos h1,if_pos h2]
theorem adF {vr vo k kc:Nat} {vcs:List Value} {own:Own} (hv:H.get vr=some (.cells vcs own 2)) (h1:vo+k * 2≤vcs.length) (h2:((vcs.drop vo).take (k * 2)).all (·.oneCell')=true) (hk:0 < k) (hb:k≤1048576) :
  wS zi 23 23 (.slice none 0 0) (.slice (some ⟨vr,vo,none⟩) k kc) H=some (.slice (some ⟨H.next,0,none⟩) k k,H.push (.cells ((vcs.drop vo).take (k * 2)) (.own []) 2)):=by
 obtain ⟨z,z1,z2,_⟩:=YE
 simp only [wS,Kz,jq,z1,ZT,acB hv h1 h2,z2,if_true,show (0:Nat) < 2 from by decide,if_neg (show ¬ k=0 by omega),if_pos (show k * 16≤140737488355328 by omega),if_pos (show k≤4611686018427387903 by omega)]
theorem abq {vr vo k kc r o n c:Nat} {vcs cs:List Value} {own:Own} {anc:List Nat} (hv:H.get vr=some (.cells vcs own 2)) (h1:vo+k * 2≤vcs.length) (h2:((vcs.drop vo).take (k * 2)).all (·.oneCell')=true) (hb:n+k≤1048576)
  (hg:H.get r=some (.cells cs (.own anc) 2)) (h3:o+n * 2≤cs.length) (h4:((cs.drop o).take (n * 2)).all (·.oneCell')=true) :
  ∃ (G:zx) (anc':List Nat),Go.Abs.Left H r anc cs (o+n * 2) (n * 2) 2 G anc'∧wS zi 23 23 (.slice (some ⟨r,o,none⟩) n c) (.slice (some ⟨vr,vo,none⟩) k kc) H=some (.slice (some ⟨H.next,0,none⟩) (n+k) (n+k),G.push (.cells ((cs.drop o).take (n * 2)++(vcs.drop vo).take (k * 2)) (.own anc') 2)):=by
 obtain ⟨z,z1,z2,_⟩:=YE
 obtain ⟨G,anc',hap⟩:∃ G anc',wU H r (.own anc) cs (o+n * 2) (n * 2) 2=some (G,anc'):=by
  unfold wU
  dsimp only
  split <;> exact ⟨_,_,rfl⟩
 obtain ⟨anc0,e,hL⟩:=Ze hap
 cases e
 refine ⟨G,anc',hL,?_⟩
 simp only [wS,Kz,jq,z1,ZT,acB hv h1 h2,z2,if_true,show (0:Nat) < 2 from by decide,hg,if_pos h3,if_pos (show (n+k) * 16≤140737488355328 by omega),if_pos (show n+k≤4611686018427387903 by omega),if_pos h4,hap]
theorem aeO {v va vc b o n c r r':Nat} {L L':Go.Abs.Loc} {cs cs':List Value} {own:List Nat} {anc:List Nat} (hr:Rel B w0 m H w) (hne:r≠r') (h1:m r=some L) (h2:m r'=some L') (g1:H.get r=some (.cells cs (.own anc) 2)) (g2:H.get r'=some (.cells cs' (.own own) 2))
  (hc':0 < cs'.length) (hc1:0 < cs.length) (hb:b=L.blk) (ho:L.shift≤o) (hl:o+n * 2≤L.lim) (hv:L'.shift≤va) (hvl:va+v * 2≤L'.lim) :
  (callFunc 34 #[.slice (some ⟨L'.blk,va,none⟩) v vc,.slice (some ⟨b,o,none⟩) n c]).run zi w=.ok (.value (.bool false)) w:=by
 have hz:∀ w,(Go.sizeOf 30).run zi w=.ok 2 w:=fun w=>wE jq w
 have hap:=hr.apart r r' L L' _ _ hne h1 h2 g1 g2 rfl rfl
 have e1:wC.lo (.cells cs (.own anc) 2) r' (.cells cs' (.own own) 2)=0:=by simp [wC.lo,wC.owns,Own.owns]
 have e2:wC.hi L'.shift L'.lim (.cells cs' (.own own) 2)=L'.lim:=rfl
 rw [e1,e2] at hap
 obtain ⟨_,cc,e,fr,hbk,k1,k2,k3,k4⟩:=hr.obj r L _ h1 g1
 obtain ⟨_,cc',e',fr',hbk',k1',k2',k3',k4'⟩:=hr.obj r' L' _ h2 g2
 have key:(Extern.SlicesOverlaps.overlaps #[23,23] #[4] #[.slice (some ⟨L'.blk,va,none⟩) v vc,.slice (some ⟨b,o,none⟩) n c]).run zi w=.ok (.bool false) w:=by
  subst hb
  by_cases hbb:L'.blk=L.blk
  ·
   rw [hbb]
   exact Zl w _ _ _ jc 2 hz _ _ _ _ _ _ _ (by have:=hap hbb.symm;omega)
  ·
   have f':fr'.1=fr'.2:=by
    rcases k4' rfl with h | ⟨_,h⟩
    ·
     exact h
    ·
     cases h
   have nofr:∀ x,w.frozen? ⟨L'.blk,x,none⟩=false:=fun x=>by
    simp only [World.frozen?,hbk']
    obtain ⟨a,b⟩:=fr'
    dsimp only at f' ⊢
    subst f'
    simp only [Bool.and_eq_false_iff,decide_eq_false_iff_not]
    omega
   exact run_overlaps_apart w _ _ _ jc 2 hz ⟨L'.blk,va,none⟩ ⟨L.blk,o,none⟩ v vc n c hbb e' e cc'.size cc.size (by simp [World.shape?,hbk']) (by simp [World.shape?,hbk]) (by omega) (nofr _) (nofr _)
 rw [run_callFunc_extern Try.func34 (by kernel_rfl) (by kernel_rfl) (by kernel_rfl) (e:=Extern.SlicesOverlaps.overlaps #[23,23] #[4]) (by kernel_rfl),key]
 rfl
end
section
variable {B:Base} {w0:World} {m:Mp} {H:zx} {w:World}
abbrev YB (B:Base) (w0:World) (m:Mp) (H':zx) (v:Value):Ending→World→Prop:=fun e w'=>∃ v' m',e=.returned v'∧VR m' v v'∧m.le m'∧Rel B w0 m' H' w'
abbrev qF (X V:List Value) (i:Nat):List Value:=X.take (i * 2)++(V++X.drop (i * 2))
theorem aaG {r o n c i vr vo k vc:Nat} {L Lv:Go.Abs.Loc} {cs vcs:List Value} {anc vanc:List Nat} (hr:Rel B w0 m H w) (hm:m r=some L) (hg:H.get r=some (.cells cs (.own anc) 2)) (hvm:m vr=some Lv) (hv:H.get vr=some (.cells vcs (.own vanc) 2)) (hne:r≠vr)
  (hi:i < n) (hk:0 < k) (hl:L.shift+o+c * L.esz≤L.lim) (hroom:n+k≤c) (hle:o+n * 2≤cs.length) (h1:((cs.drop o).take (n * 2)).all (·.oneCell')=true) (hvl:vo+k * 2≤vcs.length) (hkc:k≤vc) (hvlim:Lv.shift+vo+vc * Lv.esz≤Lv.lim) (h2:((vcs.drop vo).take (k * 2)).all (·.oneCell')=true) (hb:n+k≤1048576) :
  Calls zi 28 #[.slice (some ⟨L.blk,L.shift+o,none⟩) n c,.int .i64 i,.slice (some ⟨Lv.blk,Lv.shift+vo,none⟩) k vc] w
   (YB B w0 m (((H.kills anc).set r .dead).push (.cells (qF ((cs.drop o).take (n * 2)) ((vcs.drop vo).take (k * 2)) i) (.own []) 2)) (.slice (some ⟨H.next,0,none⟩) (n+k) (n+k))):=by
 have hL:L.esz=2:=(hr.obj r L _ hm hg).1
 have hLv:Lv.esz=2:=(hr.obj vr Lv _ hvm hv).1
 rw [hL] at hl;rw [hLv] at hvlim
 obtain ⟨olds,ho1,ho2⟩:=hr.range hm hg hle
 obtain ⟨news,hn1,hn2⟩:=hr.range hvm hv hvl
 have hol:olds.length=n * 2:=by rw [← ho1.1];simp;omega
 have hnl:news.length=k * 2:=by rw [← hn1.1];simp;omega
 have hall:LR m (qF ((cs.drop o).take (n * 2)) ((vcs.drop vo).take (k * 2)) i) (qF olds news i):=(ho1.take _).append (hn1.append (ho1.drop _))
 have hlen':(qF olds news i).length=(n+k) * 2:=by simp only [qF,List.length_append,List.length_take,List.length_drop,hol,hnl];omega
 have hlen:(qF ((cs.drop o).take (n * 2)) ((vcs.drop vo).take (k * 2)) i).length=(n+k) * 2:=by rw [hall.1];exact hlen'
 obtain ⟨ht,hrel⟩:=hr.drew.inserted (o:=o) hm hg (by omega) hall (by rw [hlen];omega)
 rw [hlen'] at ht
 obtain ⟨_,cc,e,fr,hbk,k1,k2,k3,k4⟩:=hr.obj r L _ hm hg
 have hap:=hr.apart r vr L Lv _ _ hne hm hvm hg hv rfl rfl
 have e1:wC.lo (.cells cs (.own anc) 2) vr (.cells vcs (.own vanc) 2)=0:=by simp [wC.lo,wC.owns,Own.owns]
 have e2:wC.hi Lv.shift Lv.lim (.cells vcs (.own vanc) 2)=Lv.lim:=rfl
 rw [e1,e2] at hap
 have hpl:(olds.take (i * 2)).length=i * 2:=by rw [List.length_take,hol];omega
 have hset:=JF (w:=w.drew) (b:=L.blk) (o:=L.shift+o) hbk (pre:=olds.take (i * 2)) (vs:=news) (suf:=olds.drop (i * 2))
  (fun j v hj=>by
   rw [List.getElem?_take] at hj
   split at hj
   ·
    have:=ho2 j v hj
    rw [kR hbk] at this
    exact this
   ·
    cases hj)
  (by rw [hpl,hnl,List.length_drop,hol];omega)
 rw [hpl,hnl,← Nat.add_mul] at hset
 refine (YR L.blk (L.shift+o) n c i Lv.blk (Lv.shift+vo) k vc olds news w hi hk hroom (by omega) (fun e=>by have:=hap e.symm;omega) hol hnl ho2 (fun j hj=>(ht j hj).1) (fun j hj=>(ht j hj).2) hn2 (Go.Abs.kQ ho1 h1) (Go.Abs.kQ hn1 h2)
  (fun cb=>aeO hr hne hm hvm hg hv (by omega) (by omega) rfl (by omega) (by omega) (by omega) (by omega))).mono ?_
 rintro e' w' ⟨rfl,rfl⟩
 refine ⟨_,_,rfl,VR.slice (o:=0) (Mp.add_same m H.next ⟨L.blk,L.shift+o,L.lim,2⟩) hroom (by dsimp only;omega),Mp.yR (hr.fresh _ (Nat.le_refl _)),?_⟩
 rw [hset]
 exact hrel
theorem abN {r o n c i vr vo k vc:Nat} {L Lv:Go.Abs.Loc} {cs vcs:List Value} {anc vanc:List Nat} (hr:Rel B w0 m H w) (hm:m r=some L) (hg:H.get r=some (.cells cs (.own anc) 2)) (hvm:m vr=some Lv) (hv:H.get vr=some (.cells vcs (.own vanc) 2))
  (hi:i < n) (hk:0 < k) (hnc:n≤c) (hroom:c < n+k) (hle:o+n * 2≤cs.length) (h1:((cs.drop o).take (n * 2)).all (·.oneCell')=true) (hvl:vo+k * 2≤vcs.length) (h2:((vcs.drop vo).take (k * 2)).all (·.oneCell')=true) (hb:n+k≤1048576) :
  Calls zi 28 #[.slice (some ⟨L.blk,L.shift+o,none⟩) n c,.int .i64 i,.slice (some ⟨Lv.blk,Lv.shift+vo,none⟩) k vc] w
   (YB B w0 m (((H.kills anc).set r .dead).push (.cells (qF ((cs.drop o).take (n * 2)) ((vcs.drop vo).take (k * 2)) i) (.own []) 2)) (.slice (some ⟨H.next,0,none⟩) (n+k) (n+k))):=by
 obtain ⟨olds,ho1,ho2⟩:=hr.range hm hg hle
 obtain ⟨news,hn1,hn2⟩:=hr.range hvm hv hvl
 have hol:olds.length=n * 2:=by rw [← ho1.1];simp;omega
 have hnl:news.length=k * 2:=by rw [← hn1.1];simp;omega
 have hall:LR m (qF ((cs.drop o).take (n * 2)) ((vcs.drop vo).take (k * 2)) i) (qF olds news i):=(ho1.take _).append (hn1.append (ho1.drop _))
 have hpl:(olds.take (i * 2)).length=i * 2:=by rw [List.length_take,hol];omega
 obtain ⟨z,z1,z2,z3⟩:=YE
 obtain ⟨ti,hti,htz⟩:=kH z1
 have hts:ti.size=2:=by have:=jq;simpa [qp,hti] using this
 have htb:ti.bytes=16:=by have:=ZT;simpa [Go.Abs.bytesOf,hti] using this
 have hbw:=hr.lt r L hm
 have hvw:=hr.lt vr Lv hvm
 have hik:i+(n+k - i)=n+k:=by omega
 have hkk:(n:Int)+(k:Int) - (i:Int)=((n+k - i:Nat):Int):=by omega
 obtain ⟨G,hG⟩:∃ G,G=grownCap w (n+k) c 30:=⟨_,rfl⟩
 have hGn:n+k≤G:=by rw [hG];exact grownCap_ge w _ _ _
 have hG63:G≤9223372036854775807:=by
  have:=grownCap_le_maxLen w (n+k) c 30 (by unfold maxLen;omega)
  rw [← hG] at this
  unfold maxLen at this
  omega
 obtain ⟨ROW,hROW⟩:∃ ROW:Array Value,ROW=(olds.take (i * 2)).toArray++Builtin.zeroCells z.cells (n+k - i)++Builtin.zeroCells z.cells (G - (n+k)):=⟨_,rfl⟩
 have hRl:ROW.size=G * 2:=by
  rw [hROW,Array.size_append,Array.size_append,size_zeroCells,size_zeroCells,z2]
  simp only [List.size_toArray,hpl]
  omega
 have hold:(Builtin.firstCells ti.size i (.slice (some ⟨L.blk,L.shift+o,none⟩) i c)).run zi w.drew=.ok (olds.take (i * 2)).toArray w.drew:=by
  rw [hts]
  exact run_firstCells_some w.drew 2 i ⟨L.blk,L.shift+o,none⟩ i c (olds.take (i * 2)) hpl (fun j v hj=>by
   rw [Addr.add_lit]
   rw [List.getElem?_take] at hj
   split at hj
   ·
    exact ho2 j v hj
   ·
    cases hj)
 have hrz:∀ ty,(Builtin.append_ #[23,3] ty #[.slice (some ⟨L.blk,L.shift+o,none⟩) i c,.int .i64 ((n:Int)+(k:Int) - (i:Int))]).run zi w=.ok (.slice (some ⟨w.heap.size,0,none⟩) (n+k) G) (w.drew.alloc (.cells ROW 30)):=fun ty=>by
  have h:=Lib.run_append_grow_zeros w 23 3 ty 30 ti z .i64 .i64 jc (by kernel_rfl) hti htz (some ⟨L.blk,L.shift+o,none⟩) i c (olds.take (i * 2)) hold (n+k - i) (by omega) (by omega) (by omega) (by omega) (by rw [htb];omega)
   (by rw [htb];exact growslice_fits (by omega) (by omega))
  rw [hik,← hG] at h
  rw [hkk,hROW]
  exact h
 have hg1:yG w (w.drew.alloc (.cells ROW 30)) (.cells ROW 30 (0,0)):=yG.da w _
 obtain ⟨W1,hW1⟩:∃ W1,W1=w.drew.alloc (.cells ROW 30):=⟨_,rfl⟩
 rw [← hW1] at hrz hg1
 have oldc:∀ b x,b < w.heap.size→W1.cell? ⟨b,x,none⟩=w.cell? ⟨b,x,none⟩:=fun b x hb=>by rw [hW1];exact World.cell?_alloc_past (w:=w.drew) _ b x hb
 obtain ⟨tail,ht1,ht2⟩:=QD (pre:=olds.take (i * 2)) (vs:=news) (suf:=olds.drop (i * 2)) (row:=ROW)
  (fun j v hj=>by
   have hjl:j < i * 2:=by have:=(List.getElem?_eq_some_iff.1 hj).1;rw [hpl] at this;exact this
   rw [hROW,Array.append_assoc,Array.getElem?_append_left (by simp [hpl];omega)]
   simpa using hj)
  (by rw [hRl,hpl,hnl,List.length_drop,hol];omega)
 have hg2:=((hg1.put (i * 2) news).aeR).put ((i+k) * 2) (olds.drop (i * 2))
 rw [hpl,hnl,← Nat.add_mul] at ht1
 rw [ht1] at hg2
 have hK:Rel B w0 m ((H.kills anc).set r .dead) w:=hr.less (by simp) fun x ob hx=>by
  rw [zx.jg,zx.wY] at hx
  split at hx
  ·
   cases hx;exact .inl rfl
  ·
   split at hx
   ·
    cases hx;exact .inl rfl
   ·
    exact .inr hx
 refine (Q7 L.blk (L.shift+o) n c i Lv.blk (Lv.shift+vo) k vc w.heap.size G olds news w W1 hi hk hnc hroom hG63 hGn hol hnl (Go.Abs.kQ ho1 h1) (Go.Abs.kQ hn1 h2) hrz
  (fun j hj=>by rw [kR hg1.new,Array.getElem?_eq_getElem (by omega)];rfl) (fun j=>Z9 hg1.new (by simp)) (fun j v hj=>by rw [oldc _ _ hbw];exact ho2 j v hj) (fun j v hj=>by rw [oldc _ _ hvw];exact hn2 j v hj) (by omega) (by omega)).mono ?_
 rintro e' w' ⟨rfl,rfl⟩
 obtain ⟨L2,l1,l2,l3,l4,hrel⟩:=hK.new (own:=.own []) (esz:=2) hall hg2 (.inl rfl)
 have hn:((H.kills anc).set r .dead).next=H.next:=by simp
 rw [hn] at hrel
 have hlen':(qF olds news i).length=(n+k) * 2:=by simp only [qF,List.length_append,List.length_take,List.length_drop,hol,hnl];omega
 refine ⟨_,m.add H.next L2,rfl,?_,Mp.yR (hr.fresh _ (Nat.le_refl _)),hrel⟩
 have:=VR.kJ (n:=n+k) (c:=G) (Mp.add_same m H.next L2) l2 hGn (by
  rw [l4,l3,hlen',ht2,hRl,hpl,hnl,List.length_drop,hol]
  omega)
 rw [l1] at this
 exact this
end
section
variable {B:Base} {w0:World} {m:Mp} {H:zx} {w:World}
theorem Vm {X V:List Value} {n:Nat} (h:X.length=n * 2):qF X V n=X++V:=by
 unfold qF
 rw [← h,List.take_length,List.drop_length,List.append_nil]
theorem abT {r o n vr vo k kc vc:Nat} {Lv:Go.Abs.Loc} {cs vcs:List Value} {anc vanc:List Nat} {s':Value} {c0:Nat} (hr:Rel B w0 m H w) (hs:VR m (.slice (some ⟨r,o,none⟩) n c0) s') (hg:H.get r=some (.cells cs (.own anc) 2)) (hx:VR m (.slice (some ⟨vr,vo,none⟩) k kc) (.slice (some ⟨Lv.blk,Lv.shift+vo,none⟩) k vc)) (hv:H.get vr=some (.cells vcs (.own vanc) 2))
  (hk:0 < k) (hle:o+n * 2≤cs.length) (h1:((cs.drop o).take (n * 2)).all (·.oneCell')=true) (hvl:vo+k * 2≤vcs.length) (h2:((vcs.drop vo).take (k * 2)).all (·.oneCell')=true) (hb:n+k≤1048576) :
  Calls zi 28 #[s',.int .i64 n,.slice (some ⟨Lv.blk,Lv.shift+vo,none⟩) k vc] w
   (YB B w0 m (((H.kills anc).set r .dead).push (.cells (qF ((cs.drop o).take (n * 2)) ((vcs.drop vo).take (k * 2)) n) (.own []) 2)) (.slice (some ⟨H.next,0,none⟩) (n+k) (n+k))):=by
 obtain ⟨G,anc',hX,happ⟩:=abq (c:=c0) (kc:=kc) hv hvl h2 hb hg hle h1
 have hsim:=fun ty=>Zk (ty:=ty) hr happ hs hx
 obtain ⟨v',w',m',hrun,hvr,hm',hrel⟩:=hsim 23
 have hrun':∀ ty,(Builtin.append_ #[23,23] ty #[s',.slice (some ⟨Lv.blk,Lv.shift+vo,none⟩) k vc]).run zi w=.ok v' w':=fun ty=>hrun
 have hs'e:∃ base c,s'=.slice base n c∧n≤c:=by
  cases hs with
  | slice hm h1 h2=>exact ⟨_,_,rfl,h1⟩
  | slice0 hm h1 ha=>exact ⟨_,_,rfl,Nat.le_refl _⟩
 obtain ⟨base,c,rfl,hnc⟩:=hs'e
 refine (Wp base n c k vc _ w w' v' hk hnc hrun').mono ?_
 rintro e' w2 ⟨rfl,rfl⟩
 have hmL:∃ L,m' H.next=some L:=by
  generalize n+k=N at hvr
  generalize H.next=q at hvr ⊢
  cases hvr with
  | slice hm h1 h2=>exact ⟨_,hm⟩
  | slice0 hm h1 ha=>exact ⟨_,hm⟩
 obtain ⟨L,hmL⟩:=hmL
 have hnG:=hX.next
 have hget:(G.push (.cells ((cs.drop o).take (n * 2)++(vcs.drop vo).take (k * 2)) (.own anc') 2)).get H.next=some (.cells ((cs.drop o).take (n * 2)++(vcs.drop vo).take (k * 2)) (.own anc') 2):=by
  rw [zx.zU,if_pos hnG.symm]
 have hst:=(hrel.store (o:=0) hmL hget LR.nil (by simp)).2
 have hfin:Rel B w0 m' (((H.kills anc).set r .dead).push (.cells (qF ((cs.drop o).take (n * 2)) ((vcs.drop vo).take (k * 2)) n) (.own []) 2)) w2:=by
  refine Rel.less (G:=_) hst (by simp [hnG]) fun x ob hx=>?_
  rw [zx.zU] at hx
  rw [zx.jg,zx.wY,zx.zU,hnG]
  simp only [zx.kF,zx.qA] at hx
  split at hx
  ·
   rename_i e1
   rw [if_pos e1]
   right
   rw [← hx,Vm (by simp;omega)]
   simp [splice]
  ·
   rename_i e1
   rw [zx.jg,zx.wY] at hx
   rw [if_neg e1,if_neg e1]
   split at hx
   ·
    cases hx;exact .inl rfl
   ·
    rename_i e2
    split at hx
    ·
     cases hx;exact .inl rfl
    ·
     rename_i e3
     right
     have hna:x ∉ anc':=by
      rcases hX with ⟨_,_,ha⟩ | ⟨_,ha⟩
      ·
       rw [ha]
       split
       ·
        simp
       ·
        simp [e2,e3]
      ·
       rw [ha];simp
     rw [if_neg hna]
     rcases hX with ⟨_,hGe,_⟩ | ⟨hGe,_⟩
     ·
      rw [hGe,zx.jg,if_neg e2];exact hx
     ·
      rw [hGe,zx.jg,if_neg e2,zx.wY,if_neg e3];exact hx
 exact ⟨_,m',rfl,hvr,hm',hfin⟩
theorem abZ {vr vo k kc vc:Nat} {Lv:Go.Abs.Loc} {vcs:List Value} {vanc:List Nat} (hr:Rel B w0 m H w) (hx:VR m (.slice (some ⟨vr,vo,none⟩) k kc) (.slice (some ⟨Lv.blk,Lv.shift+vo,none⟩) k vc)) (hv:H.get vr=some (.cells vcs (.own vanc) 2))
  (hk:0 < k) (hvl:vo+k * 2≤vcs.length) (h2:((vcs.drop vo).take (k * 2)).all (·.oneCell')=true) (hb:k≤1048576) :
  Calls zi 28 #[.slice none 0 0,.int .i64 (0:Nat),.slice (some ⟨Lv.blk,Lv.shift+vo,none⟩) k vc] w
   (YB B w0 m (H.push (.cells ((vcs.drop vo).take (k * 2)) (.own []) 2)) (.slice (some ⟨H.next,0,none⟩) k k)):=by
 have happ:=adF (kc:=kc) hv hvl h2 hk hb
 obtain ⟨v',w',m',hrun,hvr,hm',hrel⟩:=Zk (ty:=23) hr happ .sliceNil hx
 have hrun':∀ ty,(Builtin.append_ #[23,23] ty #[.slice none 0 0,.slice (some ⟨Lv.blk,Lv.shift+vo,none⟩) k vc]).run zi w=.ok v' w':=fun ty=>hrun
 refine (Wp none 0 0 k vc _ w w' v' hk (Nat.le_refl _) hrun').mono ?_
 rintro e' w2 ⟨rfl,rfl⟩
 exact ⟨_,m',rfl,hvr,hm',hrel⟩
end
theorem aci:Prim zi 28:=by
 intro B w0 g args H v H' h m w args' hl hr
 dsimp only at h
 split at h
 case isFalse=>cases h
 case isTrue hg =>
 subst hg
 refine ⟨?_,?_⟩
 ·
  have hne:(Try.f28.name == "runtime.NumGoroutine")=false:=by decide
  have hnn:Try.f28.body.isNone=false:=rfl
  simp only [callFunc,Sem.run_bind,run_program,Result.andThen_ok,Try.func28,hne,hnn,Bool.false_eq_true,if_false,Sem.run_pure]
 ·
  unfold QB at h
  split at h <;> first | (cases h;done) | skip
  rename_i sb n c0 i vr vo k kc
  obtain ⟨s',i',x',rfl,hs,hi',hx⟩:=hl.three
  cases hi'
  split at h <;> first | (cases h;done) | skip
  rename_i vcs vanc hv
  split at h <;> first | (cases h;done) | skip
  rename_i hcond
  obtain ⟨k0,k1,k2,k3,k4,k5⟩:=hcond
  obtain ⟨j,rfl⟩:∃ j:Nat,i=j:=⟨i.toNat,by omega⟩
  rw [Int.toNat_natCast] at k3
  have hx0:=hx
  cases hx with
  | slice0=>omega
  | @slice _ _ Lv _ vc hvm hvn hvlim =>
  show Calls zi 28 #[s',.int .i64 j,.slice (some ⟨Lv.blk,Lv.shift+vo,none⟩) k vc] w _
  split at h
  ·
   split at h <;> first | (cases h;done) | skip
   rename_i hn0
   subst hn0
   cases h
   have hj:j=0:=by omega
   subst hj
   cases hs
   exact abZ hr hx0 hv k0 k1 k5 (by omega)
  ·
   rename_i r o
   split at h <;> first | (cases h;done) | skip
   rename_i cs anc hg
   split at h <;> first | (cases h;done) | skip
   rename_i hcond2
   obtain ⟨q1,q2,q3⟩:=hcond2
   cases h
   rw [Int.toNat_natCast]
   by_cases hjn:j=n
   ·
    subst hjn
    exact abT hr hs hg hx0 hv k0 q2 q3 k1 k5 k4
   ·
    cases hs with
    | slice0=>omega
    | @slice _ _ L _ c hm hnc hlim =>
     by_cases hroom:n+k≤c
     ·
      exact aaG hr hm hg hvm hv q1 (by omega) k0 hlim hroom q2 q3 k1 hvn hvlim k5 k4
     ·
      exact abN hr hm hg hvm hv (by omega) k0 hnc (by omega) q2 q3 k1 k5 k4
  ·
   cases h
end Go.Proofs.Ytacbgjhmkhjpoaa
namespace Go.Proofs.Ytacbgjhmkhjpoaa
open Go.Abs Go.RowKit
theorem ado {args:List Value} {H:zx} {r:Value×zx} (h:QB args H=some r):lim zi 28 args H=some r:=by
 have hn:acz Try.f28=false:=by decide
 refine ac3 ⟨1,fun k hk=>?_⟩
 obtain ⟨k,rfl⟩:∃ i,k=i+1:=⟨k - 1,by omega⟩
 simp only [qN,Try.func28,hn,Bool.false_eq_true,if_false,adx,if_pos aci,h]
theorem aeW:Zo zi (fun g args=>if g=28 then QB args else fun _=>none):=by
 intro g args aargs S v S' h μ H ω hG hA hD hE
 dsimp only at h
 split at h
 case isFalse=>cases h
 case isTrue hg =>
 subst hg
 have hT:TI μ H ω [] []:=⟨rfl,fun i=>by simpa using VV.zh,hD,fun r j hr=>by have:=hE r _ hr;cases this⟩
 have fin:∀ {a:Value} {H':zx} {μ':Mu} {ω':Nat→Option wB},QB aargs H=some (a,H')→Upd μ ω H [] [] μ' ω' S' H'→V0 μ' H' v a→∃ a H' μ' ω',lim zi 28 aargs H=some (a,H')∧GI μ' S' H'∧Later μ H μ' H'∧Kept ω H ω' H'∧Dom μ' H' ω'∧VV μ' H' ω' (some (.res none)) v a :=
  fun k1 k2 k3=>⟨_,_,_,_,ado k1,k2.gi,k2.later,k2.kept,k2.ti.dom,k3.at0⟩
 unfold QB at h
 split at h <;> first | (cases h;done) | skip
 rename_i sb n c0 i vq vo k kc
 obtain ⟨sa,ia,xa,rfl⟩:∃ a b c,aargs=[a,b,c]:=by
  have hl:=hA.1
  match aargs,hl with
  | [x,y,z],_=>exact ⟨x,y,z,rfl⟩
 have hs:=hA.head
 have hi:=hA.tail.head
 have hx:=hA.tail.tail.head
 have e1:=VV.yQ (by rfl) hi
 subst e1
 split at h <;> first | (cases h;done) | skip
 rename_i vcs vanc hv
 split at h <;> first | (cases h;done) | skip
 rename_i hcond
 obtain ⟨k0,k1,k2,k3,k4,k5⟩:=hcond
 obtain ⟨vr,vcs',vown',w1,w2,w3,w4⟩:=hG.cells hv
 cases vown' with
 | ro=>exact w1.elim
 | own vanc' =>
 have hV:L0 μ H ((vcs.drop vo).take (k * 2)) ((vcs'.drop vo).take (k * 2)):=(w4.drop vo).take _
 have k5':=VL.one hV k5
 have hax:xa=.slice (some ⟨vr,vo,none⟩) k kc:=by
  cases hx with
  | sg hs=>simp [Go.Abs.sg] at hs
  | slm hm=>rw [w2] at hm;cases hm;rfl
 subst hax
 have k1':vo+k * 2≤vcs'.length:=by rw [← w4.1];exact k1
 split at h
 ·
  split at h <;> first | (cases h;done) | skip
  rename_i hn0
  subst hn0
  cases h
  have has:sa=.slice none 0 c0:=by
   cases hs with
   | sg hs=>rfl
  subst has
  have hq:QB [.slice none 0 c0,.int .i64 i,.slice (some ⟨vr,vo,none⟩) k kc] H=some (.slice (some ⟨H.next,0,none⟩) k k,H.push (.cells ((vcs'.drop vo).take (k * 2)) (.own []) 2)):=by
   simp only [QB,w3]
   rw [if_pos ⟨k0,k1',k2,k3,k4,k5'⟩]
   rfl
  exact fin hq (ql hG hT hV) (.slm yJ)
 ·
  rename_i q o
  split at h <;> first | (cases h;done) | skip
  rename_i cs anc hg
  split at h <;> first | (cases h;done) | skip
  rename_i hcond2
  obtain ⟨q1,q2,q3⟩:=hcond2
  cases h
  obtain ⟨r,cs',own',u1,u2,u3,u4⟩:=hG.cells hg
  cases own' with
  | ro=>exact u1.elim
  | own anc' =>
  have hX:L0 μ H ((cs.drop o).take (n * 2)) ((cs'.drop o).take (n * 2)):=(u4.drop o).take _
  have has:sa=.slice (some ⟨r,o,none⟩) n c0:=by
   cases hs with
   | sg hs=>simp [Go.Abs.sg] at hs
   | slm hm=>rw [u2] at hm;cases hm;rfl
  subst has
  have hne:r≠vr:=fun e=>q1 (hG.inj q vq r u2 (by rw [e];exact w2))
  have hq:QB [.slice (some ⟨r,o,none⟩) n c0,.int .i64 i,.slice (some ⟨vr,vo,none⟩) k kc] H=some (.slice (some ⟨H.next,0,none⟩) (n+k) (n+k),((H.kills anc').set r .dead).push (.cells (((cs'.drop o).take (n * 2)).take (i.toNat * 2)++((vcs'.drop vo).take (k * 2)++((cs'.drop o).take (n * 2)).drop (i.toNat * 2))) (.own []) 2)):=by
   simp only [QB,w3]
   rw [if_pos ⟨k0,k1',k2,k3,k4,k5'⟩]
   simp only [u3]
   rw [if_pos ⟨hne,by rw [← u4.1];exact q2,VL.one hX q3⟩]
  have U1:=Zi (o:=.dead) (o':=.dead) hG hT u2 u1 (fun _ _ _ ha=>by cases ha) (fun _ _ _ h=>by cases h)
  have U2:=ql (e:=2) U1.gi U1.ti (((hX.take (i.toNat * 2)).append (hV.append (hX.drop (i.toNat * 2)))).later U1.later)
  have hnS:((S.kills anc).set q .dead).next=S.next:=by simp
  have hnH:((H.kills anc').set r .dead).next=H.next:=by simp
  rw [hnS,hnH] at U2
  exact fin hq (U1.trans U2) (.slm yJ)
 ·
  cases h
end Go.Proofs.Ytacbgjhmkhjpoaa
namespace Go.Proofs.Ytacbgjhmkhjpoaa
open Go.Abs
def O:Ora:=⟨fun f=>if f=28 then some QB else none,fun f=>([12,28,30]:List Nat).contains f,fun f=>([13,14,19,20,22,27]:List Nat).contains f⟩
theorem aeY:ab6 zi O:=by
 intro f q h
 simp only [O] at h
 split at h
 ·
  rename_i hf;subst hf;cases h;exact aeW
 ·
  cases h
end Go.Proofs.Ytacbgjhmkhjpoaa
