/-
The law MempoolBest returns true for every input, and leaves it as it was; no condition. Part 4 of 5 of the texts (put together by a program: own names are short, what isn't needed is left out).
-/
import Derived.Test.YtacbgjhmkhjpoaaZMempoolBest3
import Derived.KernelRfl
import Derived.Test.YtacbgjhmkhjpoaaChecked
import Derived.Shelf.Spec.SlicesInsert
import Derived.Shelf.Spec.SlicesInsertGrow
import Derived.Lib.AppendZerosOnto
set_option linter.unusedVariables false
set_option linter.unusedSimpArgs false
set_option maxRecDepth 100000
open Go renaming undef → zh
open Go.Proofs.Try renaming prog → zi
namespace Go.Abs
open Go.RowKit
def Zh (P:Program) (call:FuncId→List Value→M Value):Prop:=∀ g args aargs S v S',call g args S=some (v,S')→∀ μ H ω,GI μ S H→L0 μ H args aargs→Dom μ H ω→(∀ r s,ω r=some s→s=.ext) →
 ∃ a H' μ' ω',lim P g aargs H=some (a,H')∧GI μ' S' H'∧Later μ H μ' H'∧Kept ω H ω' H'∧Dom μ' H' ω'∧VV μ' H' ω' (some (.res none)) v a
section
variable {P:Program} {call:FuncId→List Value→M Value} {μ:Mu} {ω:Nat→Option wo} {S S' H:zx} {T A:List Value}
theorem abB (hc:Zh P call) {g:FuncId} {args aargs:List Value} {v:Value} (hG:GI μ S H) (hT:TI μ H ω T A) (h:call g args S=some (v,S')) (ha:L0 μ H args aargs):Out μ ω H A T S' v (lim P g aargs H):=by
 obtain ⟨a,H',μ',ω',h1,h2,h3,h4,h5,h6⟩:=hc g args aargs S v S' h μ H (fun r=>(ω r).map fun _=>.ext) hG ha (fun r s hs=>by
  cases hr:ω r with
  | none=>simp [hr] at hs
  | some s0=>exact hT.dom r s0 hr) (fun r s hs=>by
  cases hr:ω r with
  | none=>simp [hr] at hs
  | some s0=>simp [hr] at hs;exact hs.symm)
 have kept:∀ r s,ω r=some s→ω' r=some .ext∧H'.get r=H.get r:=fun r s hs=>h4 r (by dsimp only;rw [hs];rfl)
 refine ⟨a,H',μ',fun r=>match ω' r with | some .ext=>ω r | some (.slot _ _)=>none | x=>x,h1,h2,h3,fun r hr=>?_,fun r s hs=>?_,hT.len,fun i=>?_,?_⟩
 ·
  obtain ⟨k1,k2⟩:=kept r _ hr
  exact ⟨by (try dsimp only);rw [k1];exact hr,k2⟩
 ·
  dsimp only at hs
  cases hr:ω' r with
  | none=>rw [hr] at hs;cases hs
  | some s0 =>
   have:=h5 r s0 hr
   exact this
 ·
  refine (hT.slots i).later h3 (K:=fun _=>True) (fun _ _ _ _ _=>trivial) (fun r s _ hr=>?_) (fun _ _=>trivial)
  obtain ⟨k1,k2⟩:=kept r s hr
  exact ⟨by (try dsimp only);rw [k1];exact hr,k2⟩
 ·
  refine h6.later (Later.refl _ _) (K:=fun s=>∃ j,s=.res j) (fun s i t ⟨j,hj⟩ ht=>by subst hj;cases j <;> cases ht;exact ⟨_,rfl⟩) (fun r s ⟨j,hj⟩ hr=>?_) (fun s hs=>by cases hs;exact ⟨_,rfl⟩)
  subst hj
  exact ⟨by (try dsimp only);rw [hr],rfl⟩
def vP (t:Nat):wo→Option wo
 | .slot i j=>if i=t then some (.res j) else some (.slot i j)
 | s=>some s
def ZI (t k:Nat):wo→Option wo
 | .slot i (some j)=>if i=t∧j=k then some (.res none) else some (.slot i (some j))
 | s=>some s
theorem KF {x:Operand} (hG:GI μ S H) (hT:TI μ H ω T A) (hx:yh x=true):Out μ ω H A (jJ T x) S (zJ T x) (some (zJ A x,H)):=by
 cases x with
 | const v=>exact Out.same hG hT (VV.jL hx)
 | global g=>cases hx
 | func f=>exact Out.same hG hT (hT.eval (x:=.func f) rfl)
 | tmp t =>
  refine ⟨_,H,μ,fun r=>(ω r).bind (vP t),rfl,hG,Later.refl μ H,fun r hr=>⟨by dsimp only;rw [hr];rfl,rfl⟩,fun r s hs=>?_,by simp [jJ,yj,hT.len],fun i=>?_,?_⟩
  ·
   dsimp only at hs
   cases hr:ω r with
   | none=>rw [hr] at hs;cases hs
   | some s0=>exact hT.dom r s0 hr
  ·
   dsimp only [jJ,yj]
   rw [wK]
   by_cases hi:i=t
   ·
    subst hi
    by_cases hlt:i < T.length
    ·
     rw [if_pos ⟨rfl,hlt⟩]
     exact (hT.slots i).v0.at0
    ·
     rw [if_neg (fun h=>hlt h.2)]
     rw [List.getD_eq_getElem?_getD,List.getElem?_eq_none (Nat.le_of_not_lt hlt),List.getD_eq_getElem?_getD,List.getElem?_eq_none (by rw [← hT.len];omega)]
     exact .nores
   ·
    rw [if_neg (fun h=>hi h.1)]
    refine (hT.slots i).WB (fun _=>rfl) _ (fun s hs=>?_)
    cases hs
    refine ⟨_,rfl,by simp only [vP];rw [if_neg hi],fun k t' ht=>?_⟩
    cases ht
    exact ⟨_,rfl,by simp only [vP];rw [if_neg hi]⟩
  ·
   refine (hT.slots t).WB (fun _=>rfl) _ (fun s hs=>?_)
   cases hs
   refine ⟨_,rfl,by simp only [vP,if_true],fun k t' ht=>?_⟩
   cases ht
   exact ⟨_,rfl,by simp only [vP,if_true]⟩
theorem getD_modify (vs:Array Value) (i k:Nat) (f:Value→Value) (hf:f zh=zh):(vs.modify i f).getD k zh=if k=i then f (vs.getD k zh) else vs.getD k zh:=by
 rw [Array.getD_eq_getD_getElem?,Array.getD_eq_getD_getElem?,Array.getElem?_modify]
 by_cases h:i=k
 ·
  subst h
  rw [if_pos rfl,if_pos rfl]
  cases vs[i]? with
  | none=>exact hf.symm
  | some v=>rfl
 ·
  rw [if_neg h,if_neg (fun e=>h e.symm)]
theorem VV.part {ω':Nat→Option wo} {ℓ ℓ':Option wo} {v a:Value} (h:VV μ H ω ℓ v a) (hℓ:∀ s,ℓ=some s→∀ k,s.comp k=none):VV μ H ω' ℓ' (Go.Abs.qA v) a:=by
 by_cases ht:∃ x,v=.tuple x
 ·
  obtain ⟨x,rfl⟩:=ht
  show VV μ H ω' ℓ' (.tuple x) a
  cases h with
  | sg hs=>simp [Go.Abs.sg] at hs
  | nores=>exact .nores
  | tuple hx hh =>
   refine .tuple hx fun i=>?_
   have:=hh i
   cases ℓ with
   | none=>exact this.at0
   | some s =>
    have e:(some s).bind (·.comp i)=none:=hℓ s rfl i
    rw [e] at this
    exact this.at0
 ·
  have e:Go.Abs.dem v=Go.Abs.qA v:=by
   cases v <;> first | rfl | exact absurd ⟨_,rfl⟩ ht
  rw [← e]
  exact h.v0.at0
def Zb (T:List Value) (i:Nat):Operand→List Value
 | .tmp t=>T.set t (jP i (T.getD t zh))
 | _=>T
theorem QC {x:Operand} {i:Nat} {v:Value} (hG:GI μ S H) (hT:TI μ H ω T A) (hx:yh x=true) (h:zO (zJ T x) i S=some (v,S')) :
  Out μ ω H A (Zb T i x) S' v (zO (zJ A x) i H):=by
 cases x with
 | const w =>
  exfalso
  unfold zO at h
  split at h
  ·
   rename_i vs he
   simp only [zJ] at he
   subst he
   simp [yh,ground,Go.Abs.sg] at hx
  ·
   cases h
 | global g=>cases hx
 | func f=>simp [zJ,zO] at h
 | tmp t =>
  simp only [zJ,Zb] at h ⊢
  unfold zO at h
  split at h
  ·
   rename_i vs hvs
   split at h <;> first | (cases h;done) | skip
   rename_i w hw
   cases h
   have hs:=hT.slots t
   rw [hvs] at hs
   have hil:i < vs.size:=(Array.getElem?_eq_some_iff.1 hw).1
   have hlt:t < T.length:=by
    rcases Nat.lt_or_ge t T.length with h | h
    ·
     exact h
    ·
     rw [List.getD_eq_getElem?_getD,List.getElem?_eq_none h] at hvs
     cases hvs
     simp at hil
   generalize hA:A.getD t zh=at' at hs
   cases hs with
   | sg hs=>simp [Go.Abs.sg] at hs
   | nores=>simp at hil
   | @tuple _ _ y hxs hxx =>
    have hiy:i < y.size:=by rw [← hxs];exact hil
    have hrun:zO (.tuple y) i H=some (y[i],H):=by simp only [zO,Array.getElem?_eq_getElem hiy]
    rw [hrun]
    have hcomp:=hxx i
    rw [Array.getD_eq_getD_getElem?,hw,Array.getD_eq_getD_getElem?,Array.getElem?_eq_getElem hiy] at hcomp
    simp only [Option.getD_some] at hcomp
    refine ⟨_,H,μ,fun r=>(ω r).bind (ZI t i),rfl,hG,Later.refl μ H,fun r hr=>⟨by dsimp only;rw [hr];rfl,rfl⟩,fun r s hs=>?_,by simp [hT.len],fun k=>?_,?_⟩
    ·
     dsimp only at hs
     cases hr:ω r with
     | none=>rw [hr] at hs;cases hs
     | some s0=>exact hT.dom r s0 hr
    ·
     rw [wK]
     by_cases hk:k=t
     ·
      subst hk
      rw [if_pos ⟨rfl,hlt⟩,hA,hvs]
      simp only [jP]
      refine .tuple (by simpa using hxs) fun j=>?_
      rw [getD_modify _ _ _ _ rfl]
      by_cases hj:j=i
      ·
       subst hj
       rw [if_pos rfl]
       exact (hxx j).part (fun s hs k=>by cases hs;rfl)
      ·
       rw [if_neg hj]
       refine (hxx j).WB (fun _=>rfl) _ (fun s hs=>?_)
       cases hs
       refine ⟨_,rfl,by simp only [ZI];rw [if_neg (fun e=>hj e.2)],fun a b hb=>by cases hb⟩
     ·
      rw [if_neg (fun e=>hk e.1)]
      refine (hT.slots k).WB (fun _=>rfl) _ (fun s hs=>?_)
      cases hs
      refine ⟨_,rfl,rfl,fun a b hb=>?_⟩
      cases hb
      exact ⟨_,rfl,by simp only [ZI];rw [if_neg (fun e=>hk e.1)]⟩
    ·
     refine hcomp.WB (fun _=>rfl) _ (fun s hs=>?_)
     cases hs
     exact ⟨_,rfl,by simp [ZI],fun a b hb=>by cases hb⟩
  ·
   cases h
theorem adg (hT:TI μ H ω T A):∀ (xs:List Operand),xs.all yh=true→L0 μ H (xs.map fun x=>dem (zJ T x)) (xs.map (zJ A)):=by
 intro xs h
 exact LV.map fun x hx=>hT.eval (List.all_eq_true.1 h x hx)
theorem Jc {xs:List Operand} (hT:TI μ H ω T A) (h:xs.all yh=true) (hg:(xs.map (zJ T)).all ground=true):xs.map (zJ A)=xs.map (zJ T):=by
 apply List.map_congr_left
 intro x hx
 exact zT (hT.eval (List.all_eq_true.1 h x hx)) (List.all_eq_true.1 hg _ (List.mem_map.2 ⟨x,hx,rfl⟩))
theorem aaV {o:Oper} (h:hands o=false) (hc:∀ c,o.op≠.call c):moved o T=T:=by
 unfold moved
 unfold hands at h
 split <;> first | rfl | (rename_i he;exact absurd he (hc _)) | (rename_i he;rw [he] at h;cases h)
theorem aaS {fx:Fx} (hc:Zh P call) {o:Oper} {v:Value} (hG:GI μ S H) (hT:TI μ H ω T A) (h:jR P fx call T o S=some (v,S')):Out μ ω H A (moved o T) S' v (jA P (lim P) A o H):=by
 unfold jR at h
 split at h <;> first | (cases h;done) | skip
 rename_i hok
 unfold jA
 rw [if_pos hok]
 have hargs:o.op.operands.toList.all yh=true:=hok
 have hev:∀ x ∈ o.op.operands.toList,V0 μ H (dem (zJ T x)) (zJ A x):=fun x hx=>hT.eval (List.all_eq_true.1 hargs x hx)
 have hoka:∀ x ∈ o.op.operands.toList,yh x=true:=fun x hx=>List.all_eq_true.1 hargs x hx
 obtain ⟨dst,op,type,pos,after,guard⟩:=o
 by_cases hcall:∃ c,op=.call c
 ·
  obtain ⟨c,rfl⟩:=hcall
  dsimp only at h hev hoka hargs ⊢
  have hcargs:c.args.toList.all yh=true:=by
   rw [List.all_eq_true]
   intro x hx
   refine hoka x ?_
   simp only [Op.operands,Call.operands]
   cases c.callee <;> simp <;> first | exact .inr (by simpa using hx) | exact (by simpa using hx)
  cases hcal:c.callee with
  | value f =>
   rw [hcal] at h
   dsimp only at h ⊢
   have hf:=hev f (by simp [Op.operands,Call.operands,hcal])
   split at h <;> first | (cases h;done) | skip
   rename_i g first captured hfe
   rw [hfe] at hf
   have hf:V0 μ H (.func (.func g) first captured) (zJ A f):=hf
   generalize hfa:zJ A f=fa at hf
   cases hf with
   | sg hs=>simp [Go.Abs.sg] at hs
   | func _ hx hcs h1 h2 =>
    rename_i x' c'
    dsimp only
    have l1:L0 μ H first.toList x'.toList:=⟨by simpa using hx,fun i=>by rw [getD_toList,getD_toList];exact h1 i⟩
    have l2:L0 μ H captured.toList c'.toList:=⟨by simpa using hcs,fun i=>by rw [getD_toList,getD_toList];exact h2 i⟩
    have hm:moved ⟨dst,.call c,type,pos,after,guard⟩ T=T:=by simp only [moved,hcal]
    rw [hm]
    exact abB hc hG hT h ((l1.append (adg hT _ hcargs)).append l2)
  | invoke r m=>rw [hcal] at h;cases h
  | builtin b =>
   rw [hcal] at h
   dsimp only at h ⊢
   unfold kV at h
   unfold yV
   cases b <;> dsimp only at h ⊢ <;> first | (cases h;done) | skip
   case len =>
    split at h <;> first | (cases h;done) | skip
    rename_i t x0 ht ha
    obtain ⟨x,hx,rfl⟩:∃ x,c.args.toList=[x]∧zJ T x=x0:=by
     match hl:c.args.toList with
     | []=>rw [hl] at ha;cases ha
     | [y]=>rw [hl] at ha;simp at ha;exact ⟨y,rfl,ha⟩
     | y::z::w=>rw [hl] at ha;simp at ha
    have hm:moved ⟨dst,.call c,type,pos,after,guard⟩ T=T:=by simp only [moved,hcal]
    rw [hm,ht,hx]
    rw [hx] at hcargs
    obtain ⟨rfl,a,h1,h2⟩:=aaI h (hT.eval (List.all_eq_true.1 hcargs x (by simp)))
    simp only [List.map_cons,List.map_nil]
    rw [h1]
    exact Out.same hG hT h2
   case append =>
    split at h <;> first | (cases h;done) | skip
    rename_i t tx s0 x0 ht ha
    obtain ⟨so,x,hx,rfl,rfl⟩:∃ so x,c.args.toList=[so,x]∧zJ T so=s0∧zJ T x=x0:=by
     match hl:c.args.toList with
     | []=>rw [hl] at ha;cases ha
     | [y]=>rw [hl] at ha;simp at ha
     | [y,z]=>rw [hl] at ha;simp at ha;exact ⟨y,z,rfl,ha.1,ha.2⟩
     | y::z::w::u=>rw [hl] at ha;simp at ha
    rw [hx] at hcargs
    have hso:=List.all_eq_true.1 hcargs so (by simp)
    have hm:moved ⟨dst,.call c,type,pos,after,guard⟩ T=jJ T so:=by
     simp only [moved,hcal,hx]
     cases so <;> rfl
    rw [hm,ht,hx]
    exact Xf hG hT hso h (hT.eval (List.all_eq_true.1 hcargs x (by simp)))
   case copy =>
    split at h <;> first | (cases h;done) | skip
    rename_i t tx s0 x0 ht ha
    obtain ⟨so,x,hx,rfl,rfl⟩:∃ so x,c.args.toList=[so,x]∧zJ T so=s0∧zJ T x=x0:=by
     match hl:c.args.toList with
     | []=>rw [hl] at ha;cases ha
     | [y]=>rw [hl] at ha;simp at ha
     | [y,z]=>rw [hl] at ha;simp at ha;exact ⟨y,z,rfl,ha.1,ha.2⟩
     | y::z::w::u=>rw [hl] at ha;simp at ha
    rw [hx] at hcargs
    have hm:moved ⟨dst,.call c,type,pos,after,guard⟩ T=T:=by simp only [moved,hcal]
    rw [hm,ht,hx]
    exact aaP hG hT h (hT.eval (List.all_eq_true.1 hcargs so (by simp))) (hT.eval (List.all_eq_true.1 hcargs x (by simp)))
   case clear =>
    split at h <;> first | (cases h;done) | skip
    rename_i t x0 ht ha
    obtain ⟨x,hx,rfl⟩:∃ x,c.args.toList=[x]∧zJ T x=x0:=by
     match hl:c.args.toList with
     | []=>rw [hl] at ha;cases ha
     | [y]=>rw [hl] at ha;simp at ha;exact ⟨y,rfl,ha⟩
     | y::z::w=>rw [hl] at ha;simp at ha
    have hm:moved ⟨dst,.call c,type,pos,after,guard⟩ T=T:=by simp only [moved,hcal]
    rw [hm,ht,hx]
    rw [hx] at hcargs
    exact VU hG hT h (hT.eval (List.all_eq_true.1 hcargs x (by simp)))
   case min =>
    obtain ⟨rfl,hg,hga,hh⟩:=jy (H:=H) h
    have hm:moved ⟨dst,.call c,type,pos,after,guard⟩ T=T:=by simp only [moved,hcal]
    rw [hm,Jc hT hcargs hga,hh]
    exact Out.same hG hT (V0.ground hg)
   case max =>
    obtain ⟨rfl,hg,hga,hh⟩:=jy (H:=H) h
    have hm:moved ⟨dst,.call c,type,pos,after,guard⟩ T=T:=by simp only [moved,hcal]
    rw [hm,Jc hT hcargs hga,hh]
    exact Out.same hG hT (V0.ground hg)
 ·
  have hnc:∀ c,op≠.call c:=fun c hc=>hcall ⟨c,hc⟩
  have hV:vOp P fx (zJ T) ⟨dst,op,type,pos,after,guard⟩ S=some (v,S'):=by
   cases op <;> first | exact h | exact absurd rfl (hnc _)
  suffices hs:Out μ ω H A (moved ⟨dst,op,type,pos,after,guard⟩ T) S' v (aOp P (zJ A) ⟨dst,op,type,pos,after,guard⟩ H) by
   cases op <;> first | exact hs | exact absurd rfl (hnc _)
  by_cases hh:hands ⟨dst,op,type,pos,after,guard⟩=true
  ·
   cases op <;> first | (cases hh;done) | skip
   case move x =>
    cases hV
    have:=KF hG hT (hoka x (by simp [Op.operands]))
    have hm:moved ⟨dst,.move x,type,pos,after,guard⟩ T=jJ T x:=by cases x <;> rfl
    rw [hm];exact this
   case assign x =>
    cases hV
    have:=KF hG hT (hoka x (by simp [Op.operands]))
    have hm:moved ⟨dst,.assign x,type,pos,after,guard⟩ T=jJ T x:=by cases x <;> rfl
    rw [hm];exact this
   case extract x i =>
    have:=QC hG hT (hoka x (by simp [Op.operands])) hV
    have hm:moved ⟨dst,.extract x i,type,pos,after,guard⟩ T=(Zb T i x):=by cases x <;> rfl
    rw [hm];exact this
  ·
   have hh:hands ⟨dst,op,type,pos,after,guard⟩=false:=by simpa using hh
   rw [aaV hh hnc]
   by_cases hch:vO P ⟨dst,op,type,pos,after,guard⟩=false
   ·
    obtain ⟨rfl,a,h1,h2,h3⟩:=Qd hV hch hev (.inr hG) (.inr hG)
    rw [h1]
    exact Out.same hG hT (h3 hh)
   ·
    unfold vOp at hV
    unfold aOp
    cases op <;> dsimp only at hV hev ⊢ <;> first | (cases hV;done) | (exact absurd rfl hch) | (cases hh;done) | skip
    case alloc e=>exact Vk hG hT hV
    case box x _=>exact acN hG hT hV (hev x (by simp [Op.operands]))
    case buildSlice t len parts _ =>
     have hps:=Y1 (μ:=μ) (H:=H) (parts:=parts.toList) (ρ:=zJ T) (ρA:=zJ A) fun p hp=>hev p.2 (by simp [Op.operands];exact ⟨p.1,by simpa using hp⟩)
     split at hV
     ·
      exact Y5 hG hT hV hps
     ·
      exact Jz hG hT hV hps
    case makeMap t r _=>exact QK hG hT hV (fun h=>by cases r <;> simp at h ⊢)
    case mapUpdate t x k w _=>exact Wx hG hT hV (hev x (by simp [Op.operands])) (hev k (by simp [Op.operands])) (hev w (by simp [Op.operands]))
    case store a x _=>exact aaH hG hT hV (hev a (by simp [Op.operands])) (hev x (by simp [Op.operands]))
    case makeSlice l c _ =>
     split at hV
     ·
      exact Qq hG hT hV (hev l (by simp [Op.operands])) (hev c (by simp [Op.operands]))
     ·
      exact Yd hG hT hV (hev l (by simp [Op.operands])) (hev c (by simp [Op.operands]))
    case convert dst' x _ =>
     have hd:∃ e,P.underlying dst'=some (.slice e):=by
      unfold vO at hch
      dsimp only at hch
      split at hch
      ·
       exact ⟨_,by assumption⟩
      ·
       exact absurd rfl hch
     obtain ⟨e,hd⟩:=hd
     cases x with
     | tmp t=>exact Z4 hG hT hV (hT.slots t) hd
     | const w=>exact Z4 hG hT hV (VV.jL (ℓ:=none) (hoka (.const w) (by simp [Op.operands]))) hd
     | global g=>have:=hoka (.global g) (by simp [Op.operands]);cases this
     | func f=>exact Z4 hG hT hV (ℓ:=none) ((hT.eval (x:=.func f) rfl).at0) hd
theorem Vh {ops:Array Oper} (hT:TI μ H ω T A) (j:Nat):ynd ops T j=ynd ops A j:=by
 unfold ynd
 cases hd:(ops[j]?).bind (·.dst) with
 | none=>rfl
 | some d =>
  simp only [Option.bind_some]
  have:=hT.slots d
  have e:=hT.len
  by_cases hlt:d < T.length
  ·
   have hlt':d < A.length:=by rw [← e];exact hlt
   simp only [List.getD_eq_getElem?_getD,List.getElem?_eq_getElem hlt,List.getElem?_eq_getElem hlt',Option.getD_some] at this
   rw [List.getElem?_eq_getElem hlt,List.getElem?_eq_getElem hlt']
   generalize T[d]=u at *
   generalize A[d]=u' at *
   cases this <;> rfl
  ·
   have hlt':A.length≤d:=by rw [← e];exact Nat.le_of_not_lt hlt
   rw [List.getElem?_eq_none (Nat.le_of_not_lt hlt),List.getElem?_eq_none hlt']
theorem TI.moved (hT:TI μ H ω T A) (o:Oper):TI μ H ω (moved o T) A:=by
 have slot:∀ t,TI μ H ω (yj T t) A:=by
  intro t
  refine ⟨by simp [yj,hT.len],fun i=>?_,hT.dom,hT.nores⟩
  rw [yj,wK]
  split
  ·
   rename_i h;rw [h.1];exact (hT.slots t).dem
  ·
   exact hT.slots i
 unfold Go.Abs.moved
 split
 ·
  exact slot _
 ·
  exact slot _
 ·
  rename_i t i _
  refine ⟨by simp [hT.len],fun k=>?_,hT.dom,hT.nores⟩
  rw [wK]
  split
  ·
   rename_i h
   rw [h.1]
   have:=hT.slots t
   generalize T.getD t zh=w at this
   cases w with
   | tuple vs =>
    simp only [jP]
    generalize A.getD t zh=a at this
    cases this with
    | sg hs=>simp [Go.Abs.sg] at hs
    | nores=>rw [show (#[]:Array Value).modify i Go.Abs.qA=#[] by simp];exact .nores
    | @tuple _ _ y hxs hxx =>
     refine .tuple (by simpa using hxs) fun j=>?_
     rw [getD_modify _ _ _ _ rfl]
     by_cases hj:j=i
     ·
      subst hj
      rw [if_pos rfl]
      exact (hxx j).part (fun s hs k=>by cases hs;rfl)
     ·
      rw [if_neg hj];exact hxx j
   | _=>exact this
  ·
   exact hT.slots k
 ·
  split
  ·
   exact slot _
  ·
   exact hT
 ·
  exact hT
def After (μ:Mu) (ω:Nat→Option wo) (H:zx) (T':List Value) (S':zx) (R:Option (List Value×zx)):Prop :=
 ∃ A' H' μ' ω',R=some (A',H')∧GI μ' S' H'∧Later μ H μ' H'∧Kept ω H ω' H'∧TI μ' H' ω' T' A'
theorem Kv {fx:Fx} (hc:Zh P call) {o:Oper} {rest:List Oper} {v:Value} (hG:GI μ S H) (hT:TI μ H ω T A) (h:jR P fx call T o S=some (v,S')) :
  ∃ a H' μ' ω',jA P (lim P) A o H=some (a,H')∧GI μ' S' H'∧Later μ H μ' H'∧Kept ω H ω' H'∧TI μ' H' ω' (kF o rest T v) (vG A o.dst a):=by
 unfold kF
 split
 ·
  rename_i hl
  have hm:∃ x,o.op=.move x:=by
   unfold aeK at hl
   split at hl
   ·
    rename_i x _ he _;exact ⟨x,he⟩
   ·
    cases hl
  obtain ⟨x,hx⟩:=hm
  unfold jR at h
  split at h <;> first | (cases h;done) | skip
  rename_i hok
  have hox:yh x=true:=List.all_eq_true.1 (show o.op.operands.toList.all yh=true from hok) x (by rw [hx];simp [Op.operands])
  rw [hx] at h
  dsimp only at h
  unfold vOp at h
  rw [hx] at h
  cases h
  have ha:jA P (lim P) A o H=some (zJ A x,H):=by
   unfold jA
   rw [if_pos hok,hx]
   dsimp only
   unfold aOp
   rw [hx]
   rfl
  rw [ha]
  exact (Out.same hG hT (hT.eval hox)).put o.dst
 ·
  exact (aaS hc hG hT h).put o.dst
theorem ZC {o:Oper} {rest:List Oper} (hG:GI μ S H) (hT:TI μ H ω T A):∃ μ' ω',GI μ' S H∧Later μ H μ' H∧Kept ω H ω' H∧TI μ' H ω' (kF o rest T zh) (vG A o.dst zh):=by
 unfold kF
 split
 ·
  rw [show dem zh=zh from kH]
  obtain ⟨a,H1,μ1,ω1,h1,h2,h3,h4,h5⟩:=(Out.same hG hT (VV.zh)).put o.dst
  cases h1
  exact ⟨μ1,ω1,h2,h3,h4,h5⟩
 ·
  obtain ⟨a,H1,μ1,ω1,h1,h2,h3,h4,h5⟩:=(Out.same hG (hT.moved o) (VV.zh)).put o.dst
  cases h1
  exact ⟨μ1,ω1,h2,h3,h4,h5⟩
theorem ac0 {fx:Fx} (hc:Zh P call) {ops:Array Oper}:∀ (l:List Oper) (T T' A:List Value) (S S' H:zx) (μ:Mu) (ω:Nat→Option wo),jg P fx call ops l T S=some (T',S')→GI μ S H→TI μ H ω T A→After μ ω H T' S' (Qe P (lim P) ops l A H):=by
 intro l
 induction l with
 | nil =>
  intro T T' A S S' H μ ω h hG hT
  simp only [jg,Option.some.injEq,Prod.mk.injEq] at h
  obtain ⟨rfl,rfl⟩:=h
  exact ⟨A,H,μ,ω,rfl,hG,Later.refl _ _,Kept.refl _ _,hT⟩
 | cons o l ih =>
  intro T T' A S S' H μ ω h hG hT
  have hy:(ynd ops T)=ynd ops A:=funext fun j=>Vh hT j
  simp only [jg] at h
  simp only [Qe,← hy]
  split at h
  ·
   rename_i hw
   split at h
   ·
    rename_i v S1 hs
    obtain ⟨a,H1,μ1,ω1,h1,h2,h3,h4,h5⟩:=Kv (rest:=l) hc hG hT hs
    obtain ⟨A2,H2,μ2,ω2,k1,k2,k3,k4,k5⟩:=ih _ _ _ _ _ _ _ _ h h2 h5
    refine ⟨A2,H2,μ2,ω2,?_,k2,h3.trans k3,h4.trans k4,k5⟩
    rw [if_pos hw,h1]
    exact k1
   ·
    cases h
  ·
   rename_i hw
   obtain ⟨μ1,ω1,h2,h3,h4,h5⟩:=ZC (o:=o) (rest:=l) hG hT
   obtain ⟨A2,H2,μ2,ω2,k1,k2,k3,k4,k5⟩:=ih _ _ _ _ _ _ _ _ h h2 h5
   refine ⟨A2,H2,μ2,ω2,?_,k2,h3.trans k3,h4.trans k4,k5⟩
   rw [if_neg hw]
   exact k1
end
end Go.Abs
namespace Go.Abs
open Go.RowKit
section
variable {P:Program} {call:FuncId→List Value→M Value} {μ μ2:Mu} {S S' G H H2:zx} {T A:List Value}
theorem kD.two {s:M Value} (hs:kD s) {a:Value} {G':zx} (h:s G=some (a,G')):∀ H,s H=some (a,H):=by
 obtain ⟨o,ho⟩:=hs
 rw [ho] at h
 cases o with
 | none=>cases h
 | some w =>
  simp only [Option.map_some,Option.some.injEq,Prod.mk.injEq] at h
  intro H
  rw [ho,h.1];rfl
theorem Qz {t:TypeId} {ps:List (Nat×Value)}:kD (wS P t ps):=by
 refine ⟨(wS P t ps zx.empty).map (·.1),fun H=>?_⟩
 unfold wS
 split
 ·
  split
  ·
   split
   ·
    split
    ·
     split <;> rfl
    ·
     rfl
   ·
    split
    ·
     split <;> rfl
    ·
     rfl
   ·
    rfl
  ·
   rfl
 ·
  rfl
theorem Jw {x:Value}:kD (yZ x):=by
 refine ⟨(yZ x zx.empty).map (·.1),fun H=>?_⟩
 unfold yZ
 split <;> rfl
theorem QS {t:TypeId} {x i:Value}:kD (qF P t x i):=by
 unfold qF
 refine ⟨(qF P t x i zx.empty).map (·.1),fun H=>?_⟩
 unfold qF
 dsimp only
 split
 ·
  split
  ·
   split
   ·
    split <;> rfl
   ·
    rfl
  ·
   rfl
 ·
  obtain ⟨o,ho⟩:=jU (P:=P) _ _
  rw [ho,ho]
  cases o <;> rfl
 ·
  rfl
theorem aag {t:TypeId} {x:Value} (hx:∀ m,x≠.map m):kD (YZ P t x):=by
 refine ⟨(YZ P t x zx.empty).map (·.1),fun H=>?_⟩
 unfold YZ
 split <;> first | rfl | exact absurd rfl (hx _)
theorem ZY {d:Nat} {v:Value} (h:okq d v=true):okq d (dem v)=true:=by
 cases v with
 | iface k v=>cases d <;> rfl
 | tuple vs=>cases d <;> cases h
 | _=>exact h
theorem Jm:∀ (d:Nat) {v a:Value},okq d v=true→V0 μ H v a→XU d a a=true:=by
 intro d
 induction d with
 | zero =>
  intro v a h hv
  cases hv <;> first | (cases h;done) | (simp [XU];done) | skip
  rename_i hs
  cases v <;> first | (simp [XU];done) | (simp [Go.Abs.sg] at hs;done) | skip
 | succ d ih =>
  intro v a h hv
  cases hv <;> first | (cases h;done) | (simp [XU];done) | skip
  ·
   rename_i hs
   cases v <;> first | (simp [XU];done) | (simp [Go.Abs.sg] at hs;done) | skip
  ·
   rename_i x x' hx hh
   unfold XU
   simp only [decide_true,Bool.true_and]
   rw [List.all_eq_true]
   intro p hp
   obtain ⟨i,hi,he⟩:=List.mem_iff_getElem.1 hp
   simp only [List.length_zip,Nat.min_self] at hi
   rw [List.getElem_zip] at he
   subst he
   have hi':i < x'.size:=by simpa using hi
   have hi2:i < x.size:=by rw [hx];exact hi'
   have h2:=hh i
   rw [Array.getD_eq_getD_getElem?,Array.getElem?_eq_getElem hi2,Array.getD_eq_getD_getElem?,Array.getElem?_eq_getElem hi'] at h2
   have h3:okq d x[i]=true:=List.all_eq_true.1 (show x.toList.all (okq d)=true from h) _ (by simp)
   have:=ih h3 h2
   simpa using this
theorem KR (x:Value):ZF (dem x)=ZF x:=by cases x <;> rfl
theorem abN {fx:Fx} {o:Oper} {v:Value} (hdr:fx.dr=true) (h:jR P fx call T o S=some (v,S')) (hn:vO P o=false) (hr:yY o=false) (ho:∀ x ∈ o.op.operands.toList,V0 μ G (dem (zJ T x)) (zJ A x)) :
  ∃ a,V0 μ G (dem v) a∧∀ H,aOp P (zJ A) o H=some (a,H)∧jA P (lim P) A o H=some (a,H):=by
 have hrm:yO o=false:=by
  unfold yY at hr
  unfold yO
  split <;> simp_all
 unfold jR at h
 split at h <;> first | (cases h;done) | skip
 rename_i hok
 obtain ⟨dst,op,type,pos,after,guard⟩:=o
 by_cases hcall:∃ c,op=.call c
 ·
  obtain ⟨c,rfl⟩:=hcall
  dsimp only at h ho
  unfold vO at hn
  dsimp only at hn
  have hcargs:∀ x ∈ c.args.toList,V0 μ G (dem (zJ T x)) (zJ A x):=by
   intro x hx
   refine ho x ?_
   simp only [Op.operands,Call.operands]
   cases c.callee <;> simp <;> first | exact .inr (by simpa using hx) | exact (by simpa using hx)
  have step:∀ {b:Builtin} (a:Value),c.callee=.builtin b→(∀ H,yV P b c.argTypes type (c.args.toList.map (zJ A)) H=some (a,H))→∀ H,aOp P (zJ A) ⟨dst,.call c,type,pos,after,guard⟩ H=some (a,H)∧jA P (lim P) A ⟨dst,.call c,type,pos,after,guard⟩ H=some (a,H):=by
   intro b a hb hall H
   constructor
   ·
    unfold aOp;dsimp only;rw [hb];exact hall H
   ·
    unfold jA;rw [if_pos hok];dsimp only;rw [hb];exact hall H
  cases hcal:c.callee with
  | value f=>rw [hcal] at hn;cases hn
  | invoke r m=>rw [hcal] at hn;cases hn
  | builtin b =>
   rw [hcal] at h
   dsimp only at h
   unfold kV at h
   rw [hcal] at hn
   have gargs:(c.args.toList.map (zJ T)).all ground=true→c.args.toList.map (zJ A)=c.args.toList.map (zJ T):=by
    intro hg
    apply List.map_congr_left
    intro x hx
    exact zT (hcargs x hx) (List.all_eq_true.1 hg _ (List.mem_map.2 ⟨x,hx,rfl⟩))
   cases b <;> dsimp only at h hn <;> first | (cases h;done) | (cases hn;done) | skip
   case len =>
    split at h <;> first | (cases h;done) | skip
    rename_i t x0 ht ha
    obtain ⟨x,hx,rfl⟩:∃ x,c.args.toList=[x]∧zJ T x=x0:=by
     match hl:c.args.toList with
     | []=>rw [hl] at ha;cases ha
     | [y]=>rw [hl] at ha;simp at ha;exact ⟨y,rfl,ha⟩
     | y::z::w=>rw [hl] at ha;simp at ha
    have hxv:=hcargs x (by rw [hx];simp)
    obtain ⟨rfl,a,h1,h2⟩:=aaI h hxv
    have hmap:∀ m,zJ A x≠.map m:=by
     intro m hm
     rw [hm] at hxv
     generalize hu:dem (zJ T x)=u at hxv
     have hum:∃ m',u=.map m':=by cases hxv <;> exact ⟨_,rfl⟩
     obtain ⟨m',rfl⟩:=hum
     have:zJ T x=.map m':=by
      cases hv:zJ T x <;> rw [hv] at hu <;> simp [dem,qA] at hu <;> rw [hu]
     rw [this] at h
     simp [vg] at h
    refine ⟨a,h2.dem,step a hcal fun H=>?_⟩
    unfold yV
    dsimp only
    rw [ht,hx]
    exact (aag hmap).two h1 H
   case min =>
    obtain ⟨rfl,hg,hga,hh⟩:=jy (H:=G) h
    refine ⟨v,(V0.ground hg).dem,step v hcal fun H=>?_⟩
    unfold yV
    dsimp only
    rw [gargs hga]
    exact (jU _ _).two hh H
   case max =>
    obtain ⟨rfl,hg,hga,hh⟩:=jy (H:=G) h
    refine ⟨v,(V0.ground hg).dem,step v hcal fun H=>?_⟩
    unfold yV
    dsimp only
    rw [gargs hga]
    exact (jU _ _).two hh H
 ·
  have hnc:∀ c,op≠.call c:=fun c hc=>hcall ⟨c,hc⟩
  have hV:vOp P fx (zJ T) ⟨dst,op,type,pos,after,guard⟩ S=some (v,S'):=by
   cases op <;> first | exact h | exact absurd rfl (hnc _)
  obtain ⟨rfl,a,h1,h2,h3⟩:=Qd (ρA:=zJ A) hV hn ho (.inl (Ze hrm)) (.inl hdr)
  have hA:∀ H,jA P (lim P) A ⟨dst,op,type,pos,after,guard⟩ H=aOp P (zJ A) ⟨dst,op,type,pos,after,guard⟩ H:=by
   intro H
   unfold jA
   rw [if_pos hok]
   cases op <;> first | rfl | exact absurd rfl (hnc _)
  refine ⟨a,h2,fun H=>?_⟩
  rw [hA]
  have key:aOp P (zJ A) ⟨dst,op,type,pos,after,guard⟩ H=some (a,H):=by
   have hf:kD (aOp P (zJ A) ⟨dst,op,type,pos,after,guard⟩):=by
    unfold vO at hn
    unfold yY at hr
    unfold aOp
    unfold vOp at hV
    cases op <;> dsimp only at hn hr hV ⊢ <;> first | (cases hn;done) | (cases hr;done) | (cases hV;done) | skip
    ·
     exact Jh _
    ·
     exact Jh _
    ·
     exact XD _ _ _
    ·
     exact Qz
    ·
     exact Jw
    ·
     exact Y2 _ _ _ _
    ·
     exact abo _ _
    ·
     exact Jh _
    ·
     exact ZV _ _ _
    ·
     exact QL _ _ _
    ·
     exact Jb _ _ _
    ·
     exact QS
    ·
     exact WJ _ _
   exact hf.two h1 H
  exact ⟨key,key⟩
theorem aaw {t:TypeId} {r o e:Nat} {l:List Value} {own own':Own} {a:Value} (hg:G.get r=some (.cells l own e)) (hg':H2.get r=some (.cells l own' e)) (h:wC P t (.pointer (some ⟨r,o,none⟩)) G=some (a,G)) :
  wC P t (.pointer (some ⟨r,o,none⟩)) H2=some (a,H2):=by
 simp only [wC,hg] at h
 simp only [wC,hg']
 (repeat' split at h) <;> first | (cases h;done) | skip
 all_goals simp_all
theorem VV.backed {v:Value} {r o n c:Nat} (h:V0 μ G v (.slice (some ⟨r,o,none⟩) n c)) (hv:ZF v=false):∃ l own e,r < G.next∧xO μ r∧G.get r=some (.cells l own e):=by
 cases h with
 | sg hs=>simp [Go.Abs.sg] at hs
 | slm hm=>simp [ZF] at hv
 | sl hr hp hg _ _ _=>exact ⟨_,_,_,hr,hp,hg⟩
theorem XJ {x:Value} {n:Nat} {cs:List Value} (hx:∀ r o n c,x=.slice (some ⟨r,o,none⟩) n c→∃ l own own' e,G.get r=some (.cells l own e)∧H2.get r=some (.cells l own' e)) (h:wF x n G=some cs):wF x n H2=some cs:=by
 unfold wF at h ⊢
 split at h
 ·
  rename_i r o k c
  obtain ⟨l,own,own',e,hg,hg'⟩:=hx _ _ _ _ rfl
  rw [hg] at h
  rw [hg']
  exact h
 ·
  exact h
 ·
  exact h
 ·
  cases h
theorem aac {src dst:TypeId} {x a:Value} (hd:∀ e,P.underlying dst≠some (.slice e)) (hx:∀ r o n c,x=.slice (some ⟨r,o,none⟩) n c→∃ l own own' e,G.get r=some (.cells l own e)∧H2.get r=some (.cells l own' e)) (h:wB P src dst x G=some (a,G)) :
  wB P src dst x H2=some (a,H2):=by
 unfold wB at h ⊢
 split at h
 ·
  rename_i b n c
  (try dsimp only)
  split at h
  ·
   rename_i e hs hdd
   split at h <;> first | (cases h;done) | skip
   rename_i he
   split at h <;> first | (cases h;done) | skip
   rename_i cs hcs
   rw [XJ hx hcs]
   (try dsimp only)
   split at h <;> first | (cases h;done) | skip
   rename_i bs hbs
   (try rw [hbs])
   cases h
   rfl
  ·
   rename_i e0 e hs hdd
   exact absurd hdd (hd e)
  ·
   cases h
 ·
  rename_i s
  (try dsimp only)
  split at h
  ·
   rename_i d e hs hdd
   exact absurd hdd (hd e)
  ·
   exact (jU _ _).two h H2
 ·
  exact (jU _ _).two h H2
theorem Xg {t:TypeId} {x a:Value} {lo hi:Option Value} (hx:∀ r o n c,x=.slice (some ⟨r,o,none⟩) n c→∃ l own own' e,G.get r=some (.cells l own e)∧H2.get r=some (.cells l own' e)) (h:yI P t x lo hi G=some (a,G)) :
  yI P t x lo hi H2=some (a,H2):=by
 unfold yI at h ⊢
 split at h
 ·
  rename_i s hu
  exact (jU _ _).two h H2
 ·
  rename_i e b n c hu
  (try dsimp only)
  split at h <;> first | (cases h;done) | skip
  rename_i size l hh hs hl hhi
  (try simp only [hs,hl,hhi])
  split at h <;> first | (cases h;done) | skip
  rename_i c0
  split at h <;> first | (cases h;done) | skip
  rename_i c1
  split at h <;> first | (cases h;done) | skip
  rename_i c2
  rw [if_pos c0,if_pos c1,if_pos c2]
  split at h
  ·
   split at h <;> first | (cases h;done) | skip
   rename_i hn
   cases h
   rw [if_pos hn]
  ·
   rename_i r o
   obtain ⟨l2,own,own',e2,hg,hg'⟩:=hx _ _ _ _ rfl
   rw [hg] at h
   rw [hg']
   dsimp only at h ⊢
   split at h <;> first | (cases h;done) | skip
   rename_i he
   rw [if_pos he]
   cases h
   rfl
  ·
   split at h <;> first | (cases h;done) | skip
   rename_i hn
   cases h
   rw [if_pos hn]
  ·
   cases h
 ·
  cases h
theorem Zp {t:TypeId} {r o:Nat} {a:Value} {G':zx} (hg:H2.get r=G.get r) (h:wC P t (.pointer (some ⟨r,o,none⟩)) G=some (a,G')):wC P t (.pointer (some ⟨r,o,none⟩)) H2=some (a,H2):=by
 simp only [wC] at h ⊢
 rw [hg]
 (repeat' split at h) <;> first | (cases h;done) | skip
 all_goals simp_all
theorem YK {t:TypeId} {x k:Value} {ok:Bool} {a:Value} {G':zx} (hg:∀ r,x=.map (some r)→H2.get r=G.get r) (h:jI P t x k ok G=some (a,G')):jI P t x k ok H2=some (a,H2):=by
 have e:∀ H:zx,jI P t x k ok H=(jI P t x k ok H).map (fun r=>(r.1,H)):=by
  intro H
  unfold jI
  (try dsimp only)
  (repeat' split) <;> rfl
 have e2:(jI P t x k ok H2).map (·.1)=(jI P t x k ok G).map (·.1):=by
  cases x with
  | map b =>
   cases b with
   | none=>unfold jI;dsimp only;(repeat' split) <;> rfl
   | some r =>
    unfold jI
    dsimp only
    rw [hg r rfl]
    (repeat' split) <;> rfl
  | _=>unfold jI;(try dsimp only) <;> (try ((repeat' split) <;> rfl))
 rw [h] at e2
 rw [e H2]
 cases hh:jI P t x k ok H2 with
 | none=>rw [hh] at e2;cases e2
 | some w =>
  rw [hh] at e2
  simp only [Option.map_some,Option.some.injEq] at e2 ⊢
  rw [e2]
theorem acT {fx:Fx} {o:Oper} {v:Value} (hdr:fx.dr=true) (h:jR P fx call T o S=some (v,S')) (hn:vO P o=false) (hm:qp (zJ T) o) (ho:∀ x ∈ o.op.operands.toList,V0 μ G (dem (zJ T x)) (zJ A x)) (hL:Later μ G μ2 H2) :
  ∃ a,V0 μ G (dem v) a∧aOp P (zJ A) o G=some (a,G)∧aOp P (zJ A) o H2=some (a,H2)∧jA P (lim P) A o G=some (a,G)∧jA P (lim P) A o H2=some (a,H2):=by
 by_cases hr:yY o=false
 ·
  obtain ⟨a,h1,h2⟩:=abN hdr h hn hr ho
  exact ⟨a,h1,(h2 G).1,(h2 H2).1,(h2 G).2,(h2 H2).2⟩
 ·
  unfold jR at h
  split at h <;> first | (cases h;done) | skip
  rename_i hok
  obtain ⟨dst,op,type,pos,after,guard⟩:=o
  unfold yY at hr
  cases op <;> dsimp only at h hr <;> first | (exact absurd rfl hr) | skip
  case load t addr =>
   obtain ⟨rfl,a,h1,h2,h3⟩:=Qd (ρA:=zJ A) h hn ho (.inl hm) (.inl hdr)
   have hA:∀ H,jA P (lim P) A ⟨dst,.load t addr,type,pos,after,guard⟩ H=aOp P (zJ A) ⟨dst,.load t addr,type,pos,after,guard⟩ H:=fun H=>by unfold jA;rw [if_pos hok]
   have key:aOp P (zJ A) ⟨dst,.load t addr,type,pos,after,guard⟩ H2=some (a,H2):=by
    have hx:=ho addr (by simp [Op.operands])
    have h:jd P fx.nm t (zJ T addr) S'=some (v,S'):=h
    unfold aOp at h1 ⊢
    dsimp only at h1 ⊢
    unfold jd at h
    split at h
    ·
     rename_i k cs he
     split at h <;> first | (cases h;done) | skip
     rename_i hk
     subst hk
     rw [he] at hx
     have hx:V0 μ G (.iface 3 (.agg cs)) (zJ A addr):=hx
     generalize hq:zJ A addr=q at hx h1 ⊢
     cases hx with
     | sg hs=>simp [Go.Abs.sg] at hs
     | ep hr hp hg hl hc =>
      obtain ⟨own',hg'⟩:=hL.cells _ _ _ _ hr hp hg
      exact aaw hg hg' h1
    ·
     rename_i ad he
     exact absurd he (hm ad)
    ·
     cases h
   exact ⟨a,h2,h1,key,by rw [hA];exact h1,by rw [hA];exact key⟩
  case convert src d x =>
   obtain ⟨rfl,a,h1,h2,h3⟩:=Qd (ρA:=zJ A) h hn ho (.inl hm) (.inl hdr)
   have hA:∀ H,jA P (lim P) A ⟨dst,.convert src d x,type,pos,after,guard⟩ H=aOp P (zJ A) ⟨dst,.convert src d x,type,pos,after,guard⟩ H:=fun H=>by unfold jA;rw [if_pos hok]
   have key:aOp P (zJ A) ⟨dst,.convert src d x,type,pos,after,guard⟩ H2=some (a,H2):=by
    have hx:=ho x (by simp [Op.operands])
    unfold aOp at h1 ⊢
    dsimp only at h1 ⊢
    refine aac (fun e he=>?_) (fun r o n c hq=>?_) h1
    ·
     unfold vO at hn
     dsimp only at hn
     rw [he] at hn;cases hn
    ·
     rw [hq] at hx
     have hh:ZF (dem (zJ T x))=false:=by
      rw [KR]
      have h:qP P fx.hp fx.dr src d (zJ T x) S'=some (v,S'):=h
      unfold qP at h
      split at h
      ·
       first | (cases h;done) | (rw [hdr] at h;simp at h)
      ·
       rename_i hh;simpa using hh
     obtain ⟨l,own,e,hr,hp,hg⟩:=hx.backed hh
     obtain ⟨own',hg'⟩:=hL.cells _ _ _ _ hr hp hg
     exact ⟨l,own,own',e,hg,hg'⟩
   exact ⟨a,h2,h1,key,by rw [hA];exact h1,by rw [hA];exact key⟩
  case slice t x lo hi mx =>
   obtain ⟨rfl,a,h1,h2,h3⟩:=Qd (ρA:=zJ A) h hn ho (.inl hm) (.inl hdr)
   have hA:∀ H,jA P (lim P) A ⟨dst,.slice t x lo hi mx,type,pos,after,guard⟩ H=aOp P (zJ A) ⟨dst,.slice t x lo hi mx,type,pos,after,guard⟩ H:=fun H=>by unfold jA;rw [if_pos hok]
   have key:aOp P (zJ A) ⟨dst,.slice t x lo hi mx,type,pos,after,guard⟩ H2=some (a,H2):=by
    have hx:=ho x (by simp [Op.operands])
    unfold aOp at h1 ⊢
    cases mx with
    | some m=>cases h1
    | none =>
     dsimp only at h1 ⊢
     refine Xg (fun r o n c hq=>?_) h1
     rw [hq] at hx
     have hh:ZF (dem (zJ T x))=false:=by
      rw [KR]
      have h:yS P fx.dr t (zJ T x) (lo.map (zJ T)) (hi.map (zJ T)) S'=some (v,S'):=h
      unfold yS at h
      split at h
      ·
       first | (cases h;done) | (rw [hdr] at h;simp at h)
      ·
       rename_i hh;simpa using hh
     obtain ⟨l,own,e,hr,hp,hg⟩:=hx.backed hh
     obtain ⟨own',hg'⟩:=hL.cells _ _ _ _ hr hp hg
     exact ⟨l,own,own',e,hg,hg'⟩
   exact ⟨a,h2,h1,key,by rw [hA];exact h1,by rw [hA];exact key⟩
  case lookup t x k ok =>
   exact hm.elim
end
end Go.Abs
namespace Go.Abs
open Go.RowKit
structure Line (P : Program) (fx : Fx) (chk : List Nat) (call : FuncId → List Value → M Value) (ops : Array Oper) (k0 : Nat) (l : List Oper) (Ts As : Nat → List Value) (Ss Hs : Nat → zx) (μs : Nat → Mu) (ωs : Nat → Nat → Option wo) (vs zf : Nat → Value) : Prop where
  inv : ∀ k, k ≤ l.length → GI (μs k) (Ss k) (Hs k) ∧ TI (μs k) (Hs k) (ωs k) (Ts k) (As k)
  step : ∀ k o, l[k]? = some o → Later (μs k) (Hs k) (μs (k + 1)) (Hs (k + 1)) ∧ Kept (ωs k) (Hs k) (ωs (k + 1)) (Hs (k + 1)) ∧
    ((Region.wanted o (ynd ops (As k)) = true ∧ jR P fx call (Ts k) o (Ss k) = some (vs k, Ss (k + 1)) ∧ jA P (lim P) (As k) o (Hs k) = some (zf k, Hs (k + 1)) ∧
        Ts (k + 1) = kF o (l.drop (k + 1)) (Ts k) (vs k) ∧ As (k + 1) = vG (As k) o.dst (zf k) ∧ (chk.contains (k0 + k) = true → okq 3 (vs k) = true)) ∨
     (Region.wanted o (ynd ops (As k)) = false ∧ zf k = zh ∧ Ts (k + 1) = kF o (l.drop (k + 1)) (Ts k) zh ∧ As (k + 1) = vG (As k) o.dst zh ∧ Hs (k + 1) = Hs k))
section
variable {P:Program} {call:FuncId→List Value→M Value}
theorem line_of {fx : Fx} {chk : List Nat} {nl : List (Nat × Nat)} (hc : Zh P call) {ops : Array Oper} : ∀ (l : List Oper) (k0 : Nat) (hist : List (Value × zx)) (T T' A : List Value) (S S' H : zx) (μ : Mu) (ω : Nat → Option wo), jK P fx chk nl call ops k0 hist l T S = some (T', S') → GI μ S H → TI μ H ω T A →
    ∃ Ts As Ss Hs μs ωs vs zf tr, Line P fx chk call ops k0 l Ts As Ss Hs μs ωs vs zf ∧ Ts 0 = T ∧ As 0 = A ∧ Ss 0 = S ∧ Hs 0 = H ∧ μs 0 = μ ∧ ωs 0 = ω ∧ Ts l.length = T' ∧ Ss l.length = S' ∧
      yg P (lim P) ops l A H = some (tr, As l.length, Hs l.length) ∧ (∀ k, k < l.length → tr[k]? = some (As k, Hs k, zf k)) ∧ (∀ k, k ≤ l.length → (tr.map (·.2.1) ++ [Hs l.length])[k]? = some (Hs k)) ∧
      ∃ hs : List (Value × zx), hs.length = l.length ∧ (∀ k o, l[k]? = some o → hs[k]? = some (y9 (Ts k) o, Ss k)) ∧ (nl.isEmpty = false → nl.all (YM (hist ++ hs ++ [(zh, S')])) = true) := by
  intro l
  induction l with
  | nil =>
    intro k0 hist T T' A S S' H μ ω h hG hT
    simp only [jK] at h
    split at h <;> first | (cases h; done) | skip
    rename_i hst
    cases h
    refine ⟨fun _ => T, fun _ => A, fun _ => S, fun _ => H, fun _ => μ, fun _ => ω, fun _ => zh, fun _ => zh, [], ⟨fun k _ => ⟨hG, hT⟩, fun k o ho => by simp at ho⟩, rfl, rfl, rfl, rfl, rfl, rfl, rfl, rfl, rfl, fun k hk => by simp at hk, fun k hk => ?_, [], rfl, fun k o ho => by simp at ho, fun he => ?_⟩
    · have : k = 0 := by simpa using hk
      subst this
      rfl
    · simpa [qC, he] using hst
  | cons o l ih =>
    intro k0 hist T T' A S S' H μ ω h hG hT
    have hy : (ynd ops T) = ynd ops A := funext fun j => Vh hT j
    simp only [jK] at h
    have glue : ∀ (T1 A1 : List Value) (S1 H1 : zx) (μ1 : Mu) (ω1 : Nat → Option wo) (v a : Value), jK P fx chk nl call ops (k0 + 1) (qC nl hist (y9 T o) S) l T1 S1 = some (T', S') → GI μ1 S1 H1 → TI μ1 H1 ω1 T1 A1 → Later μ H μ1 H1 → Kept ω H ω1 H1 →
        ((Region.wanted o (ynd ops A) = true ∧ jR P fx call T o S = some (v, S1) ∧ jA P (lim P) A o H = some (a, H1) ∧ T1 = kF o l T v ∧ A1 = vG A o.dst a ∧ (chk.contains k0 = true → okq 3 v = true)) ∨
         (Region.wanted o (ynd ops A) = false ∧ a = zh ∧ T1 = kF o l T zh ∧ A1 = vG A o.dst zh ∧ H1 = H)) →
        (∀ tr A2 H2, yg P (lim P) ops l A1 H1 = some (tr, A2, H2) → yg P (lim P) ops (o :: l) A H = some ((A, H, a) :: tr, A2, H2)) →
        ∃ Ts As Ss Hs μs ωs vs zf tr, Line P fx chk call ops k0 (o :: l) Ts As Ss Hs μs ωs vs zf ∧ Ts 0 = T ∧ As 0 = A ∧ Ss 0 = S ∧ Hs 0 = H ∧ μs 0 = μ ∧ ωs 0 = ω ∧ Ts (o :: l).length = T' ∧ Ss (o :: l).length = S' ∧
          yg P (lim P) ops (o :: l) A H = some (tr, As (o :: l).length, Hs (o :: l).length) ∧ (∀ k, k < (o :: l).length → tr[k]? = some (As k, Hs k, zf k)) ∧ (∀ k, k ≤ (o :: l).length → (tr.map (·.2.1) ++ [Hs (o :: l).length])[k]? = some (Hs k)) ∧
          ∃ hs : List (Value × zx), hs.length = (o :: l).length ∧ (∀ k o', (o :: l)[k]? = some o' → hs[k]? = some (y9 (Ts k) o', Ss k)) ∧ (nl.isEmpty = false → nl.all (YM (hist ++ hs ++ [(zh, S')])) = true) := by
      intro T1 A1 S1 H1 μ1 ω1 v a hrest hG1 hT1 hL hK hstep htr
      obtain ⟨Ts, As, Ss, Hs, μs, ωs, vs, zf, tr, hline, e1, e2, e3, e4, e5, e6, e7, e8, e9, e10, e11, hs, e12, e13, e14⟩ := ih _ _ _ _ _ _ _ _ _ _ hrest hG1 hT1
      refine ⟨fun k => match k with | 0 => T | k + 1 => Ts k, fun k => match k with | 0 => A | k + 1 => As k, fun k => match k with | 0 => S | k + 1 => Ss k, fun k => match k with | 0 => H | k + 1 => Hs k,
        fun k => match k with | 0 => μ | k + 1 => μs k, fun k => match k with | 0 => ω | k + 1 => ωs k, fun k => match k with | 0 => v | k + 1 => vs k, fun k => match k with | 0 => a | k + 1 => zf k, (A, H, a) :: tr,
        ⟨fun k hk => ?_, fun k o' ho => ?_⟩, rfl, rfl, rfl, rfl, rfl, rfl, e7, e8, htr _ _ _ e9, fun k hk => ?_, fun k hk => ?_, (y9 T o, S) :: hs, by simp [e12], fun k o' ho => ?_, fun he => ?_⟩
      · cases k with
        | zero => exact ⟨hG, hT⟩
        | succ k => exact hline.inv k (by simpa using hk)
      · cases k with
        | zero =>
          simp only [List.getElem?_cons_zero, Option.some.injEq] at ho
          subst ho
          dsimp only
          rw [e1, e2, e3, e4, e5, e6]
          exact ⟨hL, hK, hstep⟩
        | succ k =>
          have := hline.step k o' (by simpa using ho)
          rw [show k0 + 1 + k = k0 + (k + 1) by omega] at this
          exact this
      · cases k with
        | zero => rfl
        | succ k => simpa using e10 k (by simpa using hk)
      · cases k with
        | zero => rfl
        | succ k => simpa using e11 k (by simpa using hk)
      · cases k with
        | zero =>
          simp only [List.getElem?_cons_zero, Option.some.injEq] at ho
          subst ho
          rfl
        | succ k => simpa using e13 k o' (by simpa using ho)
      · have := e14 he
        rw [show qC nl hist (y9 T o) S = hist ++ [(y9 T o, S)] by simp [qC, he]] at this
        simpa using this
    split at h
    · rename_i hw
      split at h
      · rename_i v S1 hs
        split at h <;> first | (cases h; done) | skip
        rename_i hchk
        obtain ⟨a, H1, μ1, ω1, h1, h2, h3, h4, h5⟩ := Kv (rest := l) hc hG hT hs
        have hw' : Region.wanted o (ynd ops A) = true := by rw [← hy]; exact hw
        refine glue _ _ _ H1 μ1 ω1 v a h h2 h5 h3 h4 (.inl ⟨hw', hs, h1, rfl, rfl, fun hk => ?_⟩) (fun tr A2 H2 ht => ?_)
        · rw [hk] at hchk; simpa using hchk
        · simp only [yg, hw', if_true, h1, ht]
      · cases h
    · rename_i hw
      obtain ⟨μ1, ω1, h2, h3, h4, h5⟩ := ZC (o := o) (rest := l) hG hT
      have hw' : Region.wanted o (ynd ops A) = false := by rw [← hy]; simpa using hw
      refine glue _ _ _ H μ1 ω1 zh zh h h2 h5 h3 h4 (.inr ⟨hw', rfl, rfl, rfl, rfl⟩) (fun tr A2 H2 ht => ?_)
      simp only [yg, hw', ht]
      rfl
variable {fx:Fx} {chk:List Nat} {ops:Array Oper} {k0:Nat} {l:List Oper} {Ts As:Nat→List Value} {Ss Hs:Nat→zx} {μs:Nat→Mu} {ωs:Nat→Nat→Option wo} {vs zf:Nat→Value}
theorem Line.later (hl:Line P fx chk call ops k0 l Ts As Ss Hs μs ωs vs zf) {i:Nat}:∀ (d:Nat),i+d≤l.length→Later (μs i) (Hs i) (μs (i+d)) (Hs (i+d)):=by
 intro d
 induction d with
 | zero=>intro _;exact Later.refl _ _
 | succ d ih =>
  intro hd
  have ho:l[i+d]?=some l[i+d]:=List.getElem?_eq_getElem (by omega)
  exact (ih (by omega)).trans (hl.step (i+d) _ ho).1
theorem Line.kept (hl:Line P fx chk call ops k0 l Ts As Ss Hs μs ωs vs zf):∀ (d:Nat),d≤l.length→Kept (ωs 0) (Hs 0) (ωs d) (Hs d):=by
 intro d
 induction d with
 | zero=>intro _;exact Kept.refl _ _
 | succ d ih =>
  intro hd
  have ho:l[d]?=some l[d]:=List.getElem?_eq_getElem (by omega)
  exact (ih (by omega)).trans (hl.step d _ ho).2.1
theorem Qp (i:Nat) (w:Value):dem (jP i w)=dem w:=by
 cases w with
 | tuple vs =>
  simp only [jP,dem]
  congr 1
  apply Array.ext (by simp)
  intro k h1 h2
  rw [Array.getElem_map,Array.getElem_map,Array.getElem_modify]
  split
  ·
   have:∀ v,qA (qA v)=qA v:=by
    intro v
    cases v with
    | iface k v =>
     simp only [qA]
     by_cases h:k=2
     ·
      rw [if_pos h,if_neg (by decide)]
     ·
      rw [if_neg h,if_neg h]
    | _=>rfl
   exact this _
  ·
   rfl
 | _=>rfl
theorem Y8 (o:Oper) (T:List Value) (t:Nat):dem ((moved o T).getD t zh)=dem (T.getD t zh):=by
 have slot:∀ t',dem ((yj T t').getD t zh)=dem (T.getD t zh):=by
  intro t'
  rw [yj,wK]
  split
  ·
   rename_i h;rw [h.1,WQ]
  ·
   rfl
 unfold moved
 split
 ·
  exact slot _
 ·
  exact slot _
 ·
  rw [wK]
  split
  ·
   rename_i h;rw [h.1,Qp]
  ·
   rfl
 ·
  split
  ·
   exact slot _
  ·
   rfl
 ·
  rfl
theorem moved_length (o:Oper) (T:List Value):(moved o T).length=T.length:=by
 unfold moved
 split <;> first | simp [yj] | rfl | skip
 split <;> first | simp [yj] | rfl
theorem Qa {o:Oper} {rest:List Oper} {T:List Value} {v:Value} (hd:o.dst=none) (t:Nat):dem ((kF o rest T v).getD t zh)=dem (T.getD t zh):=by
 unfold kF
 rw [hd]
 split
 ·
  rfl
 ·
  exact Y8 o T t
theorem YQ {o:Oper} {rest:List Oper} {T:List Value} {v:Value} {d:Nat} (hd:o.dst=some d) (t:Nat):dem ((kF o rest T v).getD t zh)=if t=d∧d < T.length then dem v else dem (T.getD t zh):=by
 unfold kF
 rw [hd]
 split
 ·
  simp only [vG]
  rw [wK]
  split
  ·
   exact WQ v
  ·
   rfl
 ·
  simp only [vG]
  rw [wK,moved_length]
  split
  ·
   rfl
  ·
   exact Y8 o T t
def Clear (μ:Mu) (G:zx) (bad:List Nat) (T A:List Value):Prop:=∀ t,bad.contains t=false→V0 μ G (dem (T.getD t zh)) (A.getD t zh)
theorem Clear.operands {μ:Mu} {G:zx} {bad:List Nat} {T A:List Value} (h:Clear μ G bad T A) {o:Oper} (hok:Xe o=true) (hc:wZ bad o=true):∀ x ∈ o.op.operands.toList,V0 μ G (dem (zJ T x)) (zJ A x):=by
 intro x hx
 have h1:=List.all_eq_true.1 (show o.op.operands.toList.all yh=true from hok) x hx
 have h2:=List.all_eq_true.1 hc x hx
 cases x with
 | tmp t=>exact h t (by simpa using h2)
 | const v=>exact (VV.jL (μ:=μ) (H:=G) (ω:=W0) (ℓ:=none) h1).v0
 | global g=>cases h1
 | func f =>
  have:V0 μ G (.func (.func f) #[] #[]) (.func (.func f) #[] #[]):=.func _ rfl rfl (fun i=>by simpa using VV.zh) (fun i=>by simpa using VV.zh)
  exact this
theorem qB {T:List Value} {o:Oper} {S S':zx} {v:Value} (h:jR P fx call T o S=some (v,S')):Xe o=true:=by
 unfold jR at h
 split at h
 ·
  assumption
 ·
  cases h
theorem Xn {fx:Fx} {o:Oper} {T A:List Value} {v:Value} {S S' H:zx} {μ:Mu} (h:jR P fx call T o S=some (v,S')) (hnm:fx.nm=true) (hm:¬ qp (zJ T) o) (hG:GI μ S H) (ho:∀ x ∈ o.op.operands.toList,V0 μ H (dem (zJ T x)) (zJ A x)) :
  ground v=true∧∃ a,jA P (lim P) A o H=some (a,H)∧a=v:=by
 have hok:=qB h
 unfold jR at h
 rw [if_pos hok] at h
 obtain ⟨dst,op,type,pos,after,guard⟩:=o
 unfold qp at hm
 cases op <;> dsimp only at h hm <;> first | (exact absurd True.intro hm) | skip
 case load t a =>
  have h:jd P fx.nm t (zJ T a) S=some (v,S'):=h
  obtain ⟨q,hq⟩:∃ q,zJ T a=.pointer q:=Classical.byContradiction fun hn=>hm fun q hq=>hn ⟨q,hq⟩
  obtain ⟨rfl,w,k1,k2⟩:=vW h (ho a (by simp [Op.operands])) (.inr hG)
  rw [hnm] at h
  have hgr:ground v=true:=by
   unfold jd at h
   rw [hq] at h
   dsimp only at h
   split at h <;> first | (cases h;done) | skip
   ·
    split at h
    ·
     split at h <;> first | (cases h;done) | skip
     rename_i hg
     cases h
     exact hg
    ·
     rename_i hf;exact absurd rfl hf
   ·
    split at h
    ·
     split at h <;> first | (cases h;done) | skip
     rename_i hg
     cases h
     exact hg
    ·
     rename_i hf;exact absurd rfl hf
  refine ⟨hgr,w,?_,k2.yN hgr⟩
  unfold jA
  rw [if_pos hok]
  exact k1
 case lookup t x k ok =>
  have h:Zg P fx.nm t (zJ T x) (zJ T k) ok S=some (v,S'):=h
  unfold Zg at h
  rw [hnm] at h
  simp at h
theorem Line.aaX (hl:Line P fx chk call ops k0 l Ts As Ss Hs μs ωs vs zf) {j k:Nat} (hjk:j≤k) (hk:k≤l.length) {q r:Nat} {b:Bool} (hmq:μs j q=some (r,b)) {o:jZ} (g1:(Ss j).get q=some o) (g2:o.alive=true) (g3:q ∉ (Ss k).log.take ((Ss k).log.length - (Ss j).log.length)):(Hs k).get r=(Hs j).get r:=by
 obtain ⟨hGj,_⟩:=hl.inv j (by omega)
 obtain ⟨hGk,_⟩:=hl.inv k hk
 obtain ⟨r0,_,g4,_⟩:=hGj.obj q o g1 g2
 rw [hmq] at g4
 cases g4
 have hL:=hl.later (i:=j) (k - j) (by omega)
 rw [show j+(k - j)=k by omega] at hL
 obtain ⟨new,n1,n2⟩:=hL.still
 rw [hGk.log,hGj.log] at n1
 rw [n1] at g3
 simp only [List.length_append,Nat.add_sub_cancel,List.take_left] at g3
 exact (n2 q r hmq g3).2
theorem Xx {fx:Bool} {t:TypeId} {q o:Nat} {v:Value} {S S2 S':zx} (e:S2.get q=S.get q) (h:jd P fx t (.pointer (some ⟨q,o,none⟩)) S=some (v,S')):jd P fx t (.pointer (some ⟨q,o,none⟩)) S2=some (v,S2):=by
 unfold jd at h ⊢
 dsimp only at h ⊢
 cases hl:wC P t (.pointer (some ⟨q,o,none⟩)) S with
 | none=>rw [hl] at h;cases h
 | some p =>
  obtain ⟨a,G⟩:=p
  rw [hl] at h
  rw [Zp e hl]
  cases a <;> dsimp only at h ⊢ <;> (repeat' split at h) <;> first | (cases h;done) | (cases h;simp_all;done) | skip
  all_goals (cases h;try simp_all)
theorem Line.XH (hl:Line P fx chk call ops k0 l Ts As Ss Hs μs ωs vs zf) {j k:Nat} (hjk:j≤k) (hk:k≤l.length) {o:Oper} (hm:¬ qp (zJ (Ts k)) o) (hL:isLoad o=true) (hv:jR P fx call (Ts k) o (Ss k)=some (vs k,Ss (k+1))) (ha:jA P (lim P) (As k) o (Hs k)=some (zf k,Hs (k+1)))
  (hx0:∀ x ∈ o.op.operands.toList,V0 (μs j) (Hs j) (dem (zJ (Ts k) x)) (zJ (As k) x)) (s1:yA (y9 (Ts k) o) (Ss j) (Ss k)=true) (s2:aaG (y9 (Ts k) o) (Ss j) (Ss k)=true):V0 (μs j) (Hs j) (dem (vs k)) (zf k):=by
 have hok:=qB hv
 unfold jR at hv
 rw [if_pos hok] at hv
 obtain ⟨dst,op,type,pos,after,guard⟩:=o
 unfold qp at hm
 cases op <;> first | (cases hL;done) | skip
 case load t a =>
  dsimp only at hm
  have hv:jd P fx.nm t (zJ (Ts k) a) (Ss k)=some (vs k,Ss (k+1)):=hv
  obtain ⟨ad,hq⟩:∃ q,zJ (Ts k) a=.pointer q:=Classical.byContradiction fun hn=>hm fun q hq=>hn ⟨q,hq⟩
  have hx:=hx0 a (by simp [Op.operands])
  have hA:jA P (lim P) (As k) ⟨dst,.load t a,type,pos,after,guard⟩ (Hs k)=wC P t (zJ (As k) a) (Hs k):=by unfold jA;rw [if_pos hok];rfl
  rw [hA] at ha
  have s1:yA (zJ (Ts k) a) (Ss j) (Ss k)=true:=s1
  have s2:aaG (zJ (Ts k) a) (Ss j) (Ss k)=true:=s2
  rw [hq] at hx hv s1 s2
  have hx:V0 (μs j) (Hs j) (.pointer ad) (zJ (As k) a):=hx
  generalize zJ (As k) a=pa at hx ha
  cases hx with
  | sg hs =>
   cases ad with
   | none=>simp [jd,wC] at hv
   | some ad=>simp [Go.Abs.sg] at hs
  | @ptr _ q o r b hmq =>
   simp only [yA,Bool.and_eq_true,Bool.not_eq_true',List.contains_eq_mem,decide_eq_false_iff_not] at s1
   obtain ⟨h1,h3⟩:=s1
   split at h1 <;> first | (cases h1;done) | skip
   rename_i hsa
   have g:=hl.aaX hjk hk hmq hsa rfl h3
   have e:(Ss j).get q=(Ss k).get q:=@of_decide_eq_true _ (Classical.propDecidable _) s2
   have k1:=Zp g.symm ha
   have hvj:=Xx e hv
   obtain ⟨hGj,_⟩:=hl.inv j (by omega)
   obtain ⟨_,w,k2,k3⟩:=vW hvj (show V0 (μs j) (Hs j) (dem (.pointer (some ⟨q,o,none⟩))) _ from .ptr hmq) (.inr hGj)
   rw [k1] at k2
   cases k2
   exact k3.dem
theorem Line.clear (hdr:fx.dr=true) (hl:Line P fx chk call ops k0 l Ts As Ss Hs μs ωs vs zf) {j:Nat} (hj:j≤l.length) {cl:Nat→Bool} (hcl:∀ k o,j≤k→l[k]?=some o→isLoad o=true→cl k=true→yA (y9 (Ts k) o) (Ss j) (Ss k)=true∧aaG (y9 (Ts k) o) (Ss j) (Ss k)=true):∀ (rest:List Oper) (bad:List Nat) (k:Nat),j≤k→l.drop k=rest→Clear (μs j) (Hs j) bad (Ts k) (As k) →
  ∀ d,d≤rest.length→Clear (μs j) (Hs j) ((Vf P fx.nm cl k rest bad).getD d []) (Ts (k+d)) (As (k+d)):=by
 intro rest
 induction rest with
 | nil =>
  intro bad k hjk hr hC d hd
  have:d=0:=by simpa using hd
  subst this
  exact hC
 | cons o rest ih =>
  intro bad k hjk hr hC d hd
  have hkl:k < l.length:=by
   have:=congrArg List.length hr
   simp at this;omega
  have ho:l[k]?=some o:=by
   have:=congrArg (·[0]?) hr
   simpa [List.getElem?_drop] using this
  cases d with
  | zero=>exact hC
  | succ d =>
   simp only [Vf,List.getD_cons_succ]
   rw [show k+(d+1)=k+1+d by omega]
   refine ih _ (k+1) (by omega) ?_ ?_ d (by simpa using hd)
   ·
    rw [← List.drop_drop,hr];rfl
   ·
    obtain ⟨hL,_,hor⟩:=hl.step k o ho
    obtain ⟨hG,hT⟩:=hl.inv k (by omega)
    have hlen:=hT.len
    intro t ht
    cases hd:o.dst with
    | none =>
     rw [hd] at ht
     rcases hor with ⟨_,_,_,e1,e2,_⟩ | ⟨_,_,e1,e2,_⟩
     ·
      rw [e1,Qa hd,e2,hd];exact hC t ht
     ·
      rw [e1,Qa hd,e2,hd];exact hC t ht
    | some dd =>
     rw [hd] at ht
     dsimp only at ht
     have htb:bad.contains t=false:=by
      split at ht
      ·
       simp only [List.contains_cons,Bool.or_eq_false_iff] at ht;exact ht.2
      ·
       exact ht
     rcases hor with ⟨hw,hv,ha,e1,e2,_⟩ | ⟨_,_,e1,e2,_⟩
     ·
      rw [e1,YQ hd,e2,hd]
      simp only [vG]
      rw [wK,hlen]
      by_cases hc:t=dd∧dd < (As k).length
      ·
       rw [if_pos hc,if_pos hc]
       have hcond:¬ (vO P o || !wZ bad o || (yO o && !fx.nm && !(isLoad o && cl k)))=true:=by
        intro hh
        rw [if_pos hh] at ht
        simp [hc.1] at ht
       rw [Bool.not_eq_true,Bool.or_eq_false_iff,Bool.or_eq_false_iff] at hcond
       obtain ⟨⟨q1,q2⟩,q3⟩:=hcond
       have q2':wZ bad o=true:=by simpa using q2
       have hLj:Later (μs j) (Hs j) (μs k) (Hs k):=by
        have:=hl.later (i:=j) (k - j) (by omega)
        rwa [show j+(k - j)=k by omega] at this
       by_cases hm:qp (zJ (Ts k)) o
       ·
        obtain ⟨a,h1,_,_,_,h5⟩:=acT hdr hv q1 hm (hC.operands (qB hv) q2') hLj
        rw [ha] at h5
        have e:zf k=a:=by simpa using congrArg (Option.map Prod.fst) h5
        subst e
        exact h1
       ·
        have hrm:yO o=true:=by
         cases hrm:yO o with
         | true=>rfl
         | false=>exact absurd (Ze hrm) hm
        by_cases hnm:fx.nm=true
        rotate_left
        ·
         rw [Bool.not_eq_true] at hnm
         rw [hrm,hnm] at q3
         have q4:isLoad o=true∧cl k=true:=by simpa using q3
         obtain ⟨s1,s2⟩:=hcl k o hjk ho q4.1 q4.2
         exact hl.XH hjk (by omega) hm q4.1 hv ha (hC.operands (qB hv) q2') s1 s2
        obtain ⟨g1,a,g2,g3⟩:=Xn hv hnm hm hG (fun x hx=>hT.eval (List.all_eq_true.1 (show o.op.operands.toList.all yh=true from qB hv) x hx))
        rw [ha] at g2
        have e:zf k=a:=by simpa using congrArg (Option.map Prod.fst) g2
        subst e
        rw [g3,Wl g1]
        exact V0.ground g1
      ·
       rw [if_neg hc,if_neg hc]
       exact hC t htb
     ·
      rw [e1,YQ hd,e2,hd]
      simp only [vG]
      rw [wK,hlen]
      by_cases hc:t=dd∧dd < (As k).length
      ·
       rw [if_pos hc,if_pos hc,show dem zh=zh from kH]
       exact .nores
      ·
       rw [if_neg hc,if_neg hc]
       exact hC t htb
theorem XW {hp0:Bool} (hc:Zh P call) {T T' A:List Value} {S S' H:zx} {μ:Mu} {ω:Nat→Option wo} (hd:qy P ops=true) (h:jK P ⟨hp0,!(checked P ops).isEmpty,fixed P ops⟩ (checked P ops) (again P ops) call ops 0 [] ops.toList T S=some (T',S')) (hG:GI μ S H) (hT:TI μ H ω T A) :
  After μ ω H T' S' (kC P (lim P) ops A H):=by
 obtain ⟨Ts,As,Ss,Hs,μs,ωs,vs,zf,tr,hline,rfl,rfl,rfl,rfl,rfl,rfl,rfl,rfl,e9,e10,e11,hs,e12,e13,e14⟩:=line_of hc _ _ _ _ _ _ _ _ _ _ _ h hG hT
 obtain ⟨hGn,hTn⟩:=hline.inv ops.toList.length (Nat.le_refl _)
 have hLn:=hline.later (i:=0) ops.toList.length (by omega)
 rw [Nat.zero_add] at hLn
 refine ⟨As ops.toList.length,Hs ops.toList.length,μs ops.toList.length,ωs ops.toList.length,?_,hGn,hLn,hline.kept _ (Nat.le_refl _),hTn⟩
 simp only [qy,vk,Bool.and_eq_true] at hd
 have hlen:ops.toList.length < 1000:=of_decide_eq_true hd.1
 refine abp hd.2.1 e9 fun p hp=>?_
 have hchk:(checked P ops).contains p.1=true:=by
  unfold checked
  simp only [List.contains_eq_mem,decide_eq_true_eq]
  exact List.mem_map.2 ⟨p,hp,rfl⟩
 have hdr:(Fx.mk hp0 (!(checked P ops).isEmpty) (fixed P ops)).dr=true:=by
  show (!(checked P ops).isEmpty)=true
  cases hl:checked P ops with
  | nil=>rw [hl] at hchk;cases hchk
  | cons a b=>rfl
 have hp2:=List.all_eq_true.1 hd.2.2 p hp
 have hp0:=hp
 unfold need at hp
 obtain ⟨i,hi,hp⟩:=List.mem_flatMap.1 hp
 obtain ⟨j,hj,hp⟩:=List.mem_filterMap.1 hp
 have hi:i < ops.toList.length:=List.mem_range.1 hi
 have hj:j < ops.toList.length:=List.mem_range.1 hj
 split at hp <;> first | (cases hp;done) | skip
 rename_i oi oj hoi hoj
 split at hp <;> first | (cases hp;done) | skip
 rename_i hcond
 cases hp
 simp only [Bool.and_eq_true,Bool.not_eq_true'] at hcond
 obtain ⟨⟨hni,hcj⟩,_⟩:=hcond
 dsimp only at hp2 hchk ⊢
 rw [hoi] at hp2
 dsimp only at hp2
 have hij:i≠j:=by
  intro e;subst e
  rw [hoi] at hoj;cases hoj
  rw [hni] at hcj;cases hcj
 have hGj:(tr.map (·.2.1)++[Hs ops.toList.length])[if j < i then j else j+1]?=some (Hs (if j < i then j else j+1)):=e11 _ (by split <;> omega)
 unfold Z5
 rw [hoi,e10 i hi,hGj]
 dsimp only
 obtain ⟨_,_,hor⟩:=hline.step i oi hoi
 rcases hor with ⟨hw,hv,ha,heT,heA,hq⟩ | ⟨hw,_⟩
 ·
  rw [hw]
  simp only [Bool.not_true,Bool.false_or]
  obtain ⟨hGi,hTi⟩:=hline.inv i (by omega)
  have hops:∀ x ∈ oi.op.operands.toList,V0 (μs i) (Hs i) (dem (zJ (Ts i) x)) (zJ (As i) x):=fun x hx=>hTi.eval (List.all_eq_true.1 (show oi.op.operands.toList.all yh=true from qB hv) x hx)
  have hq3:okq 3 (vs i)=true:=hq (by rw [Nat.zero_add];exact hchk)
  have same:∃ G',aOp P (zJ (As i)) oi (Hs (if j < i then j else j+1))=some (zf i,G')∧XU 3 (zf i) (zf i)=true:=by
   by_cases hm:qp (zJ (Ts i)) oi
   case neg =>
    have hrm:yO oi=true:=by
     cases hrm:yO oi with
     | true=>rfl
     | false=>exact absurd (Ze hrm) hm
    have hin:(i,j) ∈ again P ops:=List.mem_append_left _ (List.mem_filter.2 ⟨hp0,by dsimp only;rw [hoi];exact hrm⟩)
    have hne:(again P ops).isEmpty=false:=by
     cases hl:again P ops with
     | nil=>rw [hl] at hin;cases hin
     | cons a b=>rfl
    have hst:=List.all_eq_true.1 (e14 hne) _ hin
    rw [List.nil_append] at hst
    have hi1:(hs++[(zh,Ss ops.toList.length)])[i]?=some (y9 (Ts i) oi,Ss i):=by
     rw [List.getElem?_append_left (by omega)];exact e13 i oi hoi
    have hj1:∃ p2,(hs++[(zh,Ss ops.toList.length)])[if j < i then j else j+1]?=some (p2,Ss (if j < i then j else j+1)):=by
     by_cases hjl:(if j < i then j else j+1) < ops.toList.length
     ·
      rw [List.getElem?_append_left (by omega)]
      exact ⟨_,e13 _ _ (List.getElem?_eq_getElem hjl)⟩
     ·
      have:(if j < i then j else j+1)=ops.toList.length:=by split at hjl <;> (rename_i hh;simp only [hh,if_true,if_false];omega)
      rw [this,List.getElem?_append_right (by omega),e12,Nat.sub_self]
      exact ⟨_,rfl⟩
    obtain ⟨p2,hj1⟩:=hj1
    unfold YM at hst
    dsimp only at hst
    rw [if_pos (show i < 1000 by omega),hi1,hj1] at hst
    dsimp only at hst
    have obj:∀ q r b,μs i q=some (r,b)→(∀ Sa Sb,yA (y9 (Ts i) oi) Sa Sb=true→(∃ o,Sa.get q=some o∧o.alive=true)∧q ∉ Sb.log.take (Sb.log.length - Sa.log.length))→(Hs (if j < i then j else j+1)).get r=(Hs i).get r:=by
     intro q r b hq hQ
     by_cases hji:j < i
     ·
      rw [if_pos hji] at hst ⊢
      rw [if_pos hji] at hst
      obtain ⟨⟨o1,g1,g2⟩,g3⟩:=hQ _ _ hst
      obtain ⟨hGj3,_⟩:=hline.inv j (by omega)
      obtain ⟨r0,_,g4,_⟩:=hGj3.obj q o1 g1 g2
      have hL:=hline.later (i:=j) (i - j) (by omega)
      rw [show j+(i - j)=i by omega] at hL
      obtain ⟨b',hb'⟩:=hL.mu q r0 true g4
      rw [hq] at hb'
      cases hb'
      obtain ⟨new,n1,n2⟩:=hL.still
      rw [hGj3.log,hGi.log] at n1
      rw [n1] at g3
      simp only [List.length_append,Nat.add_sub_cancel,List.take_left] at g3
      exact (n2 q r g4 g3).2.symm
     ·
      rw [if_neg hji] at hst ⊢
      rw [if_neg hji] at hst
      obtain ⟨⟨o1,g1,g2⟩,g3⟩:=hQ _ _ hst
      have hb:=hGi.at hq g1 g2
      subst hb
      have hL:=hline.later (i:=i) (j+1 - i) (by omega)
      rw [show i+(j+1 - i)=j+1 by omega] at hL
      obtain ⟨hGj3,_⟩:=hline.inv (j+1) (by omega)
      obtain ⟨new,n1,n2⟩:=hL.still
      rw [hGj3.log,hGi.log] at n1
      rw [n1] at g3
      simp only [List.length_append,Nat.add_sub_cancel,List.take_left] at g3
      exact (n2 q r hq g3).2
    clear hst hi1 hj1
    have hok:=qB hv
    have hvo:=hv
    unfold jR at hv
    rw [if_pos hok] at hv
    obtain ⟨dst,op,type,pos,after,guard⟩:=oi
    unfold qp at hm
    cases op <;> dsimp only at hv hm <;> first | (exact absurd True.intro hm) | skip
    case load t a =>
     have hv:jd P (fixed P ops) t (zJ (Ts i) a) (Ss i)=some (vs i,Ss (i+1)):=hv
     obtain ⟨ad,hq⟩:∃ q,zJ (Ts i) a=.pointer q:=Classical.byContradiction fun hn=>hm fun q hq=>hn ⟨q,hq⟩
     have hx:=hops a (by simp [Op.operands])
     obtain ⟨_,w,k1,k2⟩:=vW hv hx (.inr hGi)
     have hA:jA P (lim P) (As i) ⟨dst,.load t a,type,pos,after,guard⟩ (Hs i)=wC P t (zJ (As i) a) (Hs i):=by unfold jA;rw [if_pos hok];rfl
     rw [hA,k1] at ha
     have e:w=zf i:=by simpa using congrArg (Option.map Prod.fst) ha
     subst e
     rw [hq] at hx
     have hx:V0 (μs i) (Hs i) (.pointer ad) (zJ (As i) a):=hx
     generalize hpa:zJ (As i) a=pa at hx k1
     have hres:wC P t pa (Hs (if j < i then j else j+1))=some (zf i,Hs (if j < i then j else j+1)):=by
      cases hx with
      | sg hs =>
       cases ad with
       | none=>simp [wC] at k1
       | some ad=>simp [Go.Abs.sg] at hs
      | @ptr _ q o r b hmq =>
       refine Zp (obj q r b hmq fun Sa Sb hQ=>?_) k1
       have hQ:yA (zJ (Ts i) a) Sa Sb=true:=hQ
       rw [hq] at hQ
       simp only [yA,Bool.and_eq_true,Bool.not_eq_true',List.contains_eq_mem,decide_eq_false_iff_not] at hQ
       refine ⟨?_,hQ.2⟩
       have h1:=hQ.1
       split at h1 <;> first | (cases h1;done) | skip
       rename_i hsa
       exact ⟨_,hsa,rfl⟩
     rw [← hpa] at hres
     exact ⟨_,hres,Jm 3 (ZY hq3) k2.dem⟩
    case lookup t x k ok =>
     have hv:Zg P (fixed P ops) t (zJ (Ts i) x) (zJ (Ts i) k) ok (Ss i)=some (vs i,Ss (i+1)):=hv
     have hx:=hops x (by simp [Op.operands])
     obtain ⟨_,w,k1,k2⟩:=JM hv hx (hops k (by simp [Op.operands])) (.inr hGi)
     have hA:jA P (lim P) (As i) ⟨dst,.lookup t x k ok,type,pos,after,guard⟩ (Hs i)=jI P t (zJ (As i) x) (zJ (As i) k) ok (Hs i):=by unfold jA;rw [if_pos hok];rfl
     rw [hA,k1] at ha
     have e:w=zf i:=by simpa using congrArg (Option.map Prod.fst) ha
     subst e
     have hres:jI P t (zJ (As i) x) (zJ (As i) k) ok (Hs (if j < i then j else j+1))=some (zf i,Hs (if j < i then j else j+1)):=by
      refine YK (fun r hr=>?_) k1
      rw [hr] at hx
      generalize hu:dem (zJ (Ts i) x)=u at hx
      have hum:∃ q b,u=.map (some q)∧μs i q=some (r,b):=by
       cases hx with
       | sg hs=>simp [Go.Abs.sg] at hs
       | map hmq=>exact ⟨_,_,rfl,hmq⟩
      obtain ⟨q,b,rfl,hmq⟩:=hum
      have hxe:zJ (Ts i) x=.map (some q):=by
       cases hvx:zJ (Ts i) x <;> rw [hvx] at hu <;> simp [dem,qA] at hu <;> rw [hu]
      refine obj q r b hmq fun Sa Sb hQ=>?_
      have hQ:yA (zJ (Ts i) x) Sa Sb=true:=hQ
      rw [hxe] at hQ
      simp only [yA,Bool.and_eq_true,Bool.not_eq_true',List.contains_eq_mem,decide_eq_false_iff_not] at hQ
      refine ⟨?_,hQ.2⟩
      have h1:=hQ.1
      split at h1 <;> first | (cases h1;done) | skip
      rename_i hsa
      exact ⟨_,hsa,rfl⟩
     exact ⟨_,hres,Jm 3 (ZY hq3) k2.dem⟩
   by_cases hrd:yY oi=false
   ·
    obtain ⟨a,h1,h2⟩:=abN hdr hv hni hrd hops
    have h3:=(h2 (Hs i)).2
    rw [ha] at h3
    have e:zf i=a:=by simpa using congrArg (Option.map Prod.fst) h3
    subst e
    exact ⟨_,(h2 _).1,Jm 3 (ZY hq3) h1⟩
   ·
    have hrd:yY oi=true:=by simpa using hrd
    by_cases hlt:i < j
    ·
     rw [if_neg (by omega)]
     have hL:=hline.later (i:=i) (j+1 - i) (by omega)
     rw [show i+(j+1 - i)=j+1 by omega] at hL
     obtain ⟨a,h1,_,h3,h4,_⟩:=acT hdr hv hni hm hops hL
     rw [ha] at h4
     have e:zf i=a:=by simpa using congrArg (Option.map Prod.fst) h4
     subst e
     exact ⟨_,h3,Jm 3 (ZY hq3) h1⟩
    ·
     rw [if_pos (by omega)]
     rw [hrd] at hp2
     have hcl:wZ ((Vf P (fixed P ops) (fun k=>Xo P ops && (Jg P ops).contains (k,j)) j (ops.toList.drop j) []).getD (i - j) []) oi=true:=by
      simpa [hlt] using hp2
     obtain ⟨hGj2,hTj⟩:=hline.inv j (by omega)
     have hC0:Clear (μs j) (Hs j) [] (Ts j) (As j):=fun t _=>(hTj.slots t).v0
     have hld:∀ k o,j≤k→ops.toList[k]?=some o→isLoad o=true→(Xo P ops && (Jg P ops).contains (k,j))=true→yA (y9 (Ts k) o) (Ss j) (Ss k)=true∧aaG (y9 (Ts k) o) (Ss j) (Ss k)=true:=by
      intro k o hjk hok hld hck
      rw [Bool.and_eq_true] at hck
      obtain ⟨hcm,hin⟩:=hck
      have hin:(k,j) ∈ Jg P ops:=by simpa using hin
      have hkj:k≠j:=fun e=>by
       subst e
       rw [hoj] at hok
       cases hok
       obtain ⟨dst,op,type,pos,after,guard⟩:=oj
       cases op <;> first | (cases hld;done) | (cases hcj;done)
      have hjk:j < k:=by omega
      have hkn:k < ops.toList.length:=(List.getElem?_eq_some_iff.1 hok).1
      have h1:(k,j) ∈ again P ops:=List.mem_append_left _ hin
      have h2:(k+1000,j) ∈ again P ops:=List.mem_append_right _ (by
       rw [if_pos hcm]
       exact List.mem_map.2 ⟨(k,j),List.mem_filter.2 ⟨hin,decide_eq_true hjk⟩,rfl⟩)
      have hne:(again P ops).isEmpty=false:=by
       cases hl:again P ops with
       | nil=>rw [hl] at h1;cases h1
       | cons a b=>rfl
      have t1:=List.all_eq_true.1 (e14 hne) _ h1
      have t2:=List.all_eq_true.1 (e14 hne) _ h2
      rw [List.nil_append] at t1 t2
      have hk1:(hs++[(zh,Ss ops.toList.length)])[k]?=some (y9 (Ts k) o,Ss k):=by
       rw [List.getElem?_append_left (by omega)];exact e13 k o hok
      have hj1:(hs++[(zh,Ss ops.toList.length)])[j]?=some (y9 (Ts j) oj,Ss j):=by
       rw [List.getElem?_append_left (by omega)];exact e13 j oj hoj
      unfold YM at t1 t2
      dsimp only at t1 t2
      rw [if_pos (show k < 1000 by omega),if_pos hjk,hk1,hj1] at t1
      rw [if_neg (show ¬ k+1000 < 1000 by omega),Nat.add_sub_cancel,hk1,hj1] at t2
      dsimp only at t1 t2
      rw [if_pos hjk] at t1
      exact ⟨t1,t2⟩
     have hC:=hline.clear hdr (j:=j) (by omega) (cl:=fun k=>Xo P ops && (Jg P ops).contains (k,j)) hld _ [] j (Nat.le_refl _) rfl hC0 (i - j) (by rw [List.length_drop];omega)
     rw [show j+(i - j)=i by omega] at hC
     have hL:=hline.later (i:=j) (i - j) (by omega)
     rw [show j+(i - j)=i by omega] at hL
     obtain ⟨a,h1,h2,_,_,h5⟩:=acT hdr hv hni hm (hC.operands (qB hv) hcl) hL
     rw [ha] at h5
     have e:zf i=a:=by simpa using congrArg (Option.map Prod.fst) h5
     subst e
     exact ⟨_,h2,Jm 3 (ZY hq3) h1⟩
  obtain ⟨G',h1,h2⟩:=same
  unfold recheck
  rw [h1]
  exact h2
 ·
  rw [hw]
  rfl
end
end Go.Abs
namespace Go.Abs
open Go.RowKit
section
variable {P:Program} {call:FuncId→List Value→M Value}
def abZ (μ:Mu) (ω:Nat→Option wo) (H:zx) (e:AEx) (T':List Value) (S':zx) (R:St):Prop :=
 ∃ A' H' μ' ω',R=some (e,A',H')∧GI μ' S' H'∧Later μ H μ' H'∧Kept ω H ω' H'∧TI μ' H' ω' T' A'
theorem aa1 {hp:Bool} (hc:Zh P call) (fuel:Nat):∀ (c:Code) (T T' A:List Value) (S S' H:zx) (μ:Mu) (ω:Nat→Option wo) (e:AEx),yE P hp call fuel c T S=some (e,T',S')→GI μ S H→TI μ H ω T A→abZ μ ω H e T' S' (jX P c A H):=by
 intro c
 induction c with
 | skip =>
  intro T T' A S S' H μ ω e h hG hT
  simp only [yE,Option.some.injEq,Prod.mk.injEq] at h
  obtain ⟨rfl,rfl,rfl⟩:=h
  exact ⟨A,H,μ,ω,rfl,hG,Later.refl _ _,Kept.refl _ _,hT⟩
 | exit id =>
  intro T T' A S S' H μ ω e h hG hT
  simp only [yE,Option.some.injEq,Prod.mk.injEq] at h
  obtain ⟨rfl,rfl,rfl⟩:=h
  exact ⟨A,H,μ,ω,rfl,hG,Later.refl _ _,Kept.refl _ _,hT⟩
 | ret =>
  intro T T' A S S' H μ ω e h hG hT
  simp only [yE,Option.some.injEq,Prod.mk.injEq] at h
  obtain ⟨rfl,rfl,rfl⟩:=h
  exact ⟨A,H,μ,ω,rfl,hG,Later.refl _ _,Kept.refl _ _,hT⟩
 | region i ops d =>
  intro T T' A S S' H μ ω e h hG hT
  cases d with
  | false =>
   simp only [yE] at h
   split at h <;> first | (cases h;done) | skip
   rename_i T1 S1 ho
   cases h
   obtain ⟨A',H',μ',ω',h1,h2,h3,h4,h5⟩:=ac0 hc _ _ _ _ _ _ _ _ _ ho hG hT
   exact ⟨A',H',μ',ω',by simp only [jX,h1],h2,h3,h4,h5⟩
  | true =>
   simp only [yE] at h
   split at h <;> first | (cases h;done) | skip
   rename_i hd
   split at h <;> first | (cases h;done) | skip
   rename_i T1 S1 ho
   cases h
   obtain ⟨A',H',μ',ω',h1,h2,h3,h4,h5⟩:=XW hc hd ho hG hT
   exact ⟨A',H',μ',ω',by simp only [jX,h1],h2,h3,h4,h5⟩
 | seq x y ihx ihy =>
  intro T T' A S S' H μ ω e h hG hT
  simp only [yE] at h
  split at h
  ·
   rename_i T1 S1 hx
   obtain ⟨A1,H1,μ1,ω1,h1,h2,h3,h4,h5⟩:=ihx _ _ _ _ _ _ _ _ _ hx hG hT
   obtain ⟨A2,H2,μ2,ω2,k1,k2,k3,k4,k5⟩:=ihy _ _ _ _ _ _ _ _ _ h h2 h5
   exact ⟨A2,H2,μ2,ω2,by simp only [jX,h1];exact k1,k2,h3.trans k3,h4.trans k4,k5⟩
  ·
   rename_i hne
   obtain ⟨A1,H1,μ1,ω1,h1,h2,h3,h4,h5⟩:=ihx _ _ _ _ _ _ _ _ _ h hG hT
   refine ⟨A1,H1,μ1,ω1,?_,h2,h3,h4,h5⟩
   simp only [jX,h1]
   cases e with
   | normal=>exact absurd h (hne _ _)
   | exit id=>rfl
   | ret=>rfl
 | cond c x y ihx ihy =>
  intro T T' A S S' H μ ω e h hG hT
  simp only [yE] at h
  split at h <;> first | (cases h;done) | skip
  rename_i hok
  have hv:=hT.eval hok
  split at h
  ·
   rename_i hb
   have:zJ A c=.bool true:=zT hv (by rw [hb];rfl) |>.trans hb
   obtain ⟨A1,H1,μ1,ω1,h1,h2,h3,h4,h5⟩:=ihx _ _ _ _ _ _ _ _ _ h hG hT
   exact ⟨A1,H1,μ1,ω1,by simp only [jX,hok,if_true,this];exact h1,h2,h3,h4,h5⟩
  ·
   rename_i hb
   have:zJ A c=.bool false:=zT hv (by rw [hb];rfl) |>.trans hb
   obtain ⟨A1,H1,μ1,ω1,h1,h2,h3,h4,h5⟩:=ihy _ _ _ _ _ _ _ _ _ h hG hT
   exact ⟨A1,H1,μ1,ω1,by simp only [jX,hok,if_true,this];exact h1,h2,h3,h4,h5⟩
  ·
   cases h
 | block id c ih =>
  intro T T' A S S' H μ ω e h hG hT
  simp only [yE] at h
  split at h
  ·
   rename_i id' T1 S1 hx
   obtain ⟨A1,H1,μ1,ω1,h1,h2,h3,h4,h5⟩:=ih _ _ _ _ _ _ _ _ _ hx hG hT
   by_cases hid:id'=id
   ·
    rw [if_pos hid] at h
    cases h
    exact ⟨A1,H1,μ1,ω1,by simp only [jX,h1,if_pos hid],h2,h3,h4,h5⟩
   ·
    rw [if_neg hid] at h
    cases h
    exact ⟨A1,H1,μ1,ω1,by simp only [jX,h1,if_neg hid],h2,h3,h4,h5⟩
  ·
   rename_i hne
   obtain ⟨A1,H1,μ1,ω1,h1,h2,h3,h4,h5⟩:=ih _ _ _ _ _ _ _ _ _ h hG hT
   refine ⟨A1,H1,μ1,ω1,?_,h2,h3,h4,h5⟩
   simp only [jX,h1]
   cases e with
   | normal=>rfl
   | exit id'=>exact absurd h (hne _ _ _)
   | ret=>rfl
 | loop c ih =>
  have key:∀ (n:Nat) (T T' A:List Value) (S S' H:zx) (μ:Mu) (ω:Nat→Option wo) (e:AEx),yw n (yE P hp call fuel c) T S=some (e,T',S')→GI μ S H→TI μ H ω T A→abZ μ ω H e T' S' (yG (jX P c) A H):=by
   intro n
   induction n with
   | zero=>intro T T' A S S' H μ ω e h;cases h
   | succ n ihn =>
    intro T T' A S S' H μ ω e h hG hT
    simp only [yw] at h
    split at h
    ·
     rename_i T1 S1 hx
     obtain ⟨A1,H1,μ1,ω1,h1,h2,h3,h4,h5⟩:=ih _ _ _ _ _ _ _ _ _ hx hG hT
     obtain ⟨A2,H2,μ2,ω2,k1,k2,k3,k4,k5⟩:=ihn _ _ _ _ _ _ _ _ _ h h2 h5
     exact ⟨A2,H2,μ2,ω2,by rw [wL h1];exact k1,k2,h3.trans k3,h4.trans k4,k5⟩
    ·
     rename_i hne
     obtain ⟨A1,H1,μ1,ω1,h1,h2,h3,h4,h5⟩:=ih _ _ _ _ _ _ _ _ _ h hG hT
     exact ⟨A1,H1,μ1,ω1,jO h1 (fun he=>by subst he;exact hne _ _ h),h2,h3,h4,h5⟩
  intro T T' A S S' H μ ω e h hG hT
  simp only [yE] at h
  obtain ⟨A1,H1,μ1,ω1,h1,h2⟩:=key fuel _ _ _ _ _ _ _ _ _ h hG hT
  exact ⟨A1,H1,μ1,ω1,by simp only [jX];exact h1,h2⟩
 | _=>intro T T' A S S' H μ ω e h;simp only [yE] at h;cases h
theorem VV.adI {μ:Mu} {H:zx} {ω ω':Nat→Option wo} {f:wo→Option wo} (hω:∀ r,ω' r=(ω r).bind f) {s s':wo} (hs:f s=some s') {v a:Value} (h:VV μ H ω (some s) v a) (hv:yU v=true):VV μ H ω' (some s') v a:=by
 cases h with
 | sg h=>exact .sg h
 | ptr h=>exact .ptr h
 | map h=>exact .map h
 | slm h=>exact .slm h
 | slE=>exact .slE
 | sl hr hp hg hl hl' hc=>exact .sl hr hp hg hl hl' (fun i hi=>(hc i hi).at0)
 | so h hr hp hg hl hl' hc=>exact .so (by rw [hω,h];exact hs) hr hp hg hl hl' (fun i hi=>(hc i hi).at0)
 | ep hr hp hg hl hc=>exact .ep hr hp hg hl (fun i hi=>(hc i hi).at0)
 | func fn hx hc h1 h2=>exact .func fn hx hc (fun i=>(h1 i).at0) (fun i=>(h2 i).at0)
 | agg hx hh=>exact .agg hx (fun i=>(hh i).at0)
 | nores=>exact .nores
 | @tuple _ x x' hx hh =>
  have h0:x.size=0:=by simpa [yU] using hv
  have e1:x=#[]:=Array.eq_empty_of_size_eq_zero h0
  have e2:x'=#[]:=Array.eq_empty_of_size_eq_zero (by rw [← hx];exact h0)
  subst e1 e2
  exact .nores
def place (rs:List ResultVar):wo→Option wo
 | .ext=>some .ext
 | .res _=>none
 | .slot i j=>match rs with
  | [.tmp t]=>if i=t then some (.res j) else none
  | _=>match j with
   | none=>(rs.findIdx? (abv i)).map fun k=>.res (some k)
   | some _=>none
theorem Xk {rs:List ResultVar} {i:Nat} (h:∀ t,rs≠[.tmp t]):place rs (.slot i none)=(rs.findIdx? (abv i)).map fun k=>.res (some k):=by
 match rs,h with
 | [],_=>rfl
 | [.tmp t],h=>exact absurd rfl (h t)
 | [.cell _ _],_=>rfl
 | .tmp _::_::_,_=>rfl
 | .cell _ _::_::_,_=>rfl
theorem QG {μ:Mu} {ω:Nat→Option wo} {S H:zx} {T A:List Value} (hG:GI μ S H) (hT:TI μ H ω T A):∀ (l:List ResultVar) (vs:List Value),zH P T S l=some vs →
  ∃ zf,qL P A H l=some zf∧vs.length=l.length∧zf.length=l.length∧∀ i:Nat,match (l[i]?:Option ResultVar) with
   | some (.tmp t)=>vs.getD i zh=T.getD t zh∧zf.getD i zh=A.getD t zh
   | _=>V0 μ H (vs.getD i zh) (zf.getD i zh):=by
 intro l
 induction l with
 | nil =>
  intro vs h
  simp only [zH,Option.some.injEq] at h
  subst h
  exact ⟨[],rfl,rfl,rfl,fun i=>by simpa using VV.zh⟩
 | cons x l ih =>
  intro vs h
  cases x with
  | tmp t =>
   simp only [zH] at h
   split at h <;> first | (cases h;done) | skip
   rename_i vs' hr
   cases h
   obtain ⟨zf,h1,h2,h3,h4⟩:=ih _ hr
   refine ⟨A.getD t zh::zf,by simp only [qL,h1],by simp [h2],by simp [h3],fun i=>?_⟩
   cases i with
   | zero=>exact ⟨rfl,rfl⟩
   | succ i=>simpa using h4 i
  | cell a t =>
   simp only [zH] at h
   split at h <;> first | (cases h;done) | skip
   rename_i v S1 vs' hl hr
   cases h
   obtain ⟨zf,h1,h2,h3,h4⟩:=ih _ hr
   obtain ⟨_,w,k1,k2⟩:=vW hl (hT.slots a).v0 (.inr hG)
   refine ⟨w::zf,by simp only [qL,k1,h1],by simp [h2],by simp [h3],fun i=>?_⟩
   cases i with
   | zero=>exact k2
   | succ i=>simpa using h4 i
theorem acX {μ:Mu} {ω:Nat→Option wo} {S S' H:zx} {T A:List Value} {fn:Func} {v:Value} (hG:GI μ S H) (hT:TI μ H ω T A) (h:aaM P fn T S=some (v,S')) :
  S'=S∧∃ a,aaY P fn A H=some (a,H)∧VV μ H (fun r=>(ω r).bind (place fn.results.toList)) (some (.res none)) v a:=by
 unfold aaM at h
 split at h <;> first | (cases h;done) | skip
 rename_i vs hvs
 split at h <;> first | (cases h;done) | skip
 rename_i hok
 obtain ⟨zf,h1,h2,h3,h4⟩:=QG hG hT _ _ hvs
 generalize hrs:fn.results.toList=rs at *
 split at h
 ·
  rename_i v1
  cases h
  obtain ⟨a,rfl⟩:∃ a,zf=[a]:=by
   match zf,h3.trans h2.symm with
   | [a],_=>exact ⟨a,rfl⟩
  refine ⟨rfl,a,by simp only [aaY,hrs,h1],?_⟩
  match rs,h2 with
  | [x],_ =>
   have:=h4 0
   cases x with
   | tmp t =>
    simp only [List.getElem?_cons_zero,List.getD_cons_zero] at this
    obtain ⟨rfl,rfl⟩:=this
    refine (hT.slots t).WB (fun _=>rfl) _ (fun s hs=>?_)
    cases hs
    refine ⟨_,rfl,by simp only [place,if_true],fun k t' ht=>?_⟩
    cases ht
    exact ⟨_,rfl,by simp only [place,if_true]⟩
   | cell b t=>exact (show V0 μ H v a from this).at0
 ·
  rename_i hne
  split at h <;> first | (cases h;done) | skip
  rename_i hnt
  cases h
  refine ⟨rfl,.tuple zf.toArray,?_,.tuple (by simp [h2,h3]) fun i=>?_⟩
  ·
   simp only [aaY,hrs,h1]
   match zf,vs,h3.trans h2.symm,hne with
   | [],_,_,_=>rfl
   | [a],[v],_,hne=>exact absurd rfl (hne v)
   | a::b::c,_,_,_=>rfl
  ·
   have e1:vs.toArray.getD i zh=vs.getD i zh:=by rw [← getD_toList,List.toList_toArray]
   have e2:zf.toArray.getD i zh=zf.getD i zh:=by rw [← getD_toList,List.toList_toArray]
   rw [e1,e2]
   have h5:=h4 i
   cases hx:rs[i]? with
   | none=>rw [hx] at h5;exact (show V0 μ H _ _ from h5).at0
   | some x =>
    rw [hx] at h5
    cases x with
    | cell b t=>exact (show V0 μ H _ _ from h5).at0
    | tmp t =>
     dsimp only at h5
     have hi:i < rs.length:=(List.getElem?_eq_some_iff.1 hx).1
     have hid:rs.findIdx? (abv t)=some i:=by
      have:=List.all_eq_true.1 hok i (List.mem_range.2 hi)
      rw [hx] at this
      simpa using this
     have hnt2:yU (T.getD t zh)=true:=by
      rw [← h5.1,List.getD_eq_getElem?_getD,List.getElem?_eq_getElem (by omega)]
      exact List.all_eq_true.1 hnt _ (List.getElem_mem _)
     rw [h5.1,h5.2]
     refine (hT.slots t).adI (fun _=>rfl) (s':=.res (some i)) ?_ hnt2
     have hne1:∀ t',rs≠[.tmp t']:=by
      intro t' e
      rw [e] at h2
      match vs,h2 with
      | [v],_=>exact hne v rfl
     rw [Xk hne1,hid];rfl
def abz (P:Program) (O:Ora):Prop:=∀ f q,O.fn f=some q→Zh P (fun g args=>if g=f then q args else fun _=>none)
theorem acM {s t:wo} {i:Nat} (h:s.comp i=some t):t≠.ext:=by
 cases s with
 | ext=>cases h
 | slot a b=>cases b <;> first | (cases h;exact fun h=>by cases h) | cases h
 | res b=>cases b <;> first | (cases h;exact fun h=>by cases h) | cases h
theorem VV.yP {μ μ':Mu} {H:zx} {ω ω':Nat→Option wo} {es:List Nat} (hp:∀ r l own e,H.get r=some (.cells l own e)→e ∉ es→xO μ r→xO μ' r) (hω:∀ r s,s≠.ext→ω r=some s→ω' r=some s)
  {ℓ:Option wo} {v a:Value} (h:VV μ H ω ℓ v a):∀ d,Go.Abs.yP es d v=true→(∀ s,ℓ=some s→s≠.ext)→VV μ' H ω' ℓ v a:=by
 induction h with
 | sg h=>exact fun _ _ _=>.sg h
 | ptr h=>intro d hc;cases d <;> simp [Go.Abs.yP] at hc
 | map h=>intro d hc;cases d <;> simp [Go.Abs.yP] at hc
 | slm h=>intro d hc;cases d <;> simp [Go.Abs.yP] at hc
 | slE=>exact fun _ _ _=>.slE
 | @sl ℓ e n r o cs l own hr hpr hg hl hn hc ih =>
  intro d hcl _
  cases d with
  | zero=>cases hcl
  | succ d =>
   have hv:Go.Abs.yP es (d+1) (.iface 1 (.iface e (.iface n (.agg cs))))=(!es.contains e && cs.toList.all (Go.Abs.yP es d)):=rfl
   rw [hv,Bool.and_eq_true] at hcl
   have he:e ∉ es:=by simpa using hcl.1
   refine .sl hr (hp _ _ _ _ hg he hpr) hg hl hn (fun i hi=>ih i hi d ?_ (fun s hs=>by cases hs))
   rw [List.getD_eq_getElem?_getD,List.getElem?_eq_getElem (by omega)]
   exact List.all_eq_true.1 hcl.2 _ (List.getElem_mem _)
 | @so s e n r cs l anc hw hr hpr hg hl hn hc ih =>
  intro d hcl hs
  cases d with
  | zero=>cases hcl
  | succ d =>
   have hv:Go.Abs.yP es (d+1) (.iface 2 (.iface e (.iface n (.agg cs))))=(!es.contains e && cs.toList.all (Go.Abs.yP es d)):=rfl
   rw [hv,Bool.and_eq_true] at hcl
   have he:e ∉ es:=by simpa using hcl.1
   refine .so (hω _ _ (hs _ rfl) hw) hr (hp _ _ _ _ hg he hpr) hg hl hn (fun i hi=>ih i hi d ?_ (fun s hs=>by cases hs))
   rw [List.getD_eq_getElem?_getD,List.getElem?_eq_getElem (by omega)]
   exact List.all_eq_true.1 hcl.2 _ (List.getElem_mem _)
 | ep hr hpr hg hl hc ih =>
  intro d hcl
  cases d with
  | zero=>cases hcl
  | succ d=>simp [Go.Abs.yP,vSl] at hcl
 | func fn hx hc h1 h2=>intro d hc;cases d <;> simp [Go.Abs.yP] at hc
 | @agg ℓ x x' hx hh ih =>
  intro d hcl _
  cases d with
  | zero=>cases hcl
  | succ d =>
   have hcl:x.toList.all (Go.Abs.yP es d)=true:=hcl
   refine .agg hx (fun i=>?_)
   by_cases hi:i < x.size
   ·
    refine ih i d ?_ (fun s hs=>by cases hs)
    rw [Array.getD_eq_getD_getElem?,Array.getElem?_eq_getElem hi]
    exact List.all_eq_true.1 hcl _ (by simp)
   ·
    rw [Array.getD_eq_getD_getElem?,Array.getElem?_eq_none (Nat.le_of_not_lt hi),Array.getD_eq_getD_getElem?,Array.getElem?_eq_none (by omega)]
    exact .nores
 | nores=>exact fun _ _ _=>.nores
 | @tuple ℓ x x' hx hh ih =>
  intro d hcl hs
  cases d with
  | zero=>cases hcl
  | succ d =>
   have hcl:x.toList.all (Go.Abs.yP es d)=true:=hcl
   refine .tuple hx (fun i=>?_)
   by_cases hi:i < x.size
   ·
    refine ih i d ?_ (fun s hb=>?_)
    ·
     rw [Array.getD_eq_getD_getElem?,Array.getElem?_eq_getElem hi]
     exact List.all_eq_true.1 hcl _ (by simp)
    ·
     cases ℓ with
     | none=>cases hb
     | some s0=>exact acM (s:=s0) hb
   ·
    rw [Array.getD_eq_getD_getElem?,Array.getElem?_eq_none (Nat.le_of_not_lt hi),Array.getD_eq_getD_getElem?,Array.getElem?_eq_none (by omega)]
    exact .nores
open Classical in
noncomputable def aer (μ:Mu) (ω:Nat→Option wo):Nat→Option wo:=fun r=>if ∃ q,μ q=some (r,true) then none else ω r
open Classical in
noncomputable def WC (μ μ1:Mu) (ω:Nat→Option wo):Nat→Option wo:=fun r=>if ∃ q,μ q=some (r,true)∧¬ μ1 q=some (r,true) then some .ext else ω r
theorem aaW {call:FuncId→List Value→M Value} (hc:Zh P call) {hps:FuncId→Bool} {hp:Bool}:Zh P (yH hps hp call):=by
 cases hp with
 | false=>exact hc
 | true =>
  intro g args aargs S v S' h μ H ω hG hA hD hE
  unfold yH at h
  dsimp only at h
  split at h
  ·
   exact hc g args aargs S v S' h μ H ω hG hA hD hE
  ·
   split at h <;> first | (cases h;done) | skip
   rename_i m S1 hf
   obtain ⟨μ1,h1,h2,h3,hsz⟩:=Yw _ _ _ _ _ _ hf hG hA
   split at h <;> first | (cases h;done) | skip
   rename_i r0 hr0
   obtain ⟨v0,S2⟩:=r0
   simp only [Option.some.injEq] at h
   unfold YN at h
   dsimp only at h
   split at h
   ·
    rename_i hb
    cases h
    simp only [Bool.and_eq_true,beq_iff_eq] at hb
    obtain ⟨⟨_,hgr⟩,hlog⟩:=hb
    have hlent:∀ q r,μ q=some (r,true)→¬ μ1 q=some (r,true)→r < H.next∧xO μ1 r:=fun q r hq hn =>
     ⟨hG.lt q r _ hq,fun q' hq'=>by
      rcases h2.new q' r hq' with h5 | h5
      ·
       have:=hG.inj q q' r hq h5
       subst this
       exact hn hq'
      ·
       have:=hG.lt q r _ hq;omega,by rw [h2.hid];exact hG.vis q r hq⟩
    have hDL:Dom μ1 H (WC μ μ1 ω):=fun r s hs=>by
     unfold WC at hs
     split at hs
     ·
      rename_i hx
      obtain ⟨q,hq,hn⟩:=hx
      exact hlent q r hq hn
     ·
      exact ⟨(hD r s hs).1,h2.priv (hD r s hs).1 (hD r s hs).2⟩
    have hEL:∀ r s,WC μ μ1 ω r=some s→s=.ext:=fun r s hs=>by
     unfold WC at hs
     split at hs
     ·
      cases hs;rfl
     ·
      exact hE r s hs
    obtain ⟨a,H',μ',ω',k1,k2,k3,k4,k5,k6⟩:=hc g m aargs S1 v S2 hr0 μ1 H (WC μ μ1 ω) h1 h3 hDL hEL
    have hsame:∀ q r,μ q=some (r,true)→H'.get r=H.get r:=fun q r hq=>by
     by_cases hn:μ1 q=some (r,true)
     ·
      obtain ⟨new,e1,e2⟩:=k3.still
      have:new=[]:=by
       rw [k2.log,h1.log,hlog] at e1
       exact List.append_cancel_right (bs:=S1.log) (by rw [← e1];rfl)
      subst this
      exact (e2 q r hn (by simp)).2
     ·
      exact (k4 r (by unfold WC;rw [if_pos ⟨q,hq,hn⟩])).2
    have hL:Later μ H μ H':=⟨fun _ _ b h=>⟨b,h⟩,k3.next,fun _ _ h=>.inl h,rfl,fun r hr hh=>k3.same r hr (by rw [h2.hid];exact hh),⟨[],rfl,fun q r hq _=>⟨hq,hsame q r hq⟩⟩,
     fun r l own e hr hp hg=>k3.cells r l own e hr (h2.priv hr hp) hg⟩
    rcases Bool.or_eq_true _ _ |>.mp hgr with hgr | hgr
    ·
     refine ⟨a,H',μ,ω,k1,hG.later hL rfl hsame,hL,fun r hr=>⟨hr,(k4 r ?_).2⟩,fun r s hs=>⟨Nat.lt_of_lt_of_le (hD r s hs).1 k3.next,(hD r s hs).2⟩,?_⟩
     ·
      unfold WC
      split
      ·
       rfl
      ·
       exact hr
     ·
      rw [VV.yN hgr k6]
      exact VV.jL hgr
    ·
     have hpr:∀ r l own e,H'.get r=some (.cells l own e)→e ∉ adw S args→xO μ' r→xO μ r:=fun r l own e hg he hp=>by
      refine ⟨fun q hq=>?_,by rw [← h2.hid,← k3.hid];exact hp.2⟩
      rcases hsz q r hq with hn | ⟨l1,own1,e1,he1,hg1⟩
      ·
       obtain ⟨new,e1,e2⟩:=k3.still
       have:new=[]:=by
        rw [k2.log,h1.log,hlog] at e1
        exact List.append_cancel_right (bs:=S1.log) (by rw [← e1];rfl)
       subst this
       exact hp.1 q (e2 q r hn (by simp)).1
      ·
       rw [hsame q r hq,hg1] at hg
       cases hg
       exact he he1
     have hno:∀ r s,ω r=some s→¬ ∃ q,μ q=some (r,true):=fun r s hs ⟨q,hq⟩=>(hD r s hs).2.1 q hq
     have hst:∀ r,(∃ q,μ q=some (r,true))→∀ s,ω' r=some s→s=.ext:=fun r ⟨q,hq⟩ s hs=>by
      by_cases hn:μ1 q=some (r,true)
      ·
       exfalso
       obtain ⟨new,e1,e2⟩:=k3.still
       have:new=[]:=by
        rw [k2.log,h1.log,hlog] at e1
        exact List.append_cancel_right (bs:=S1.log) (by rw [← e1];rfl)
       subst this
       exact (k5 r s hs).2.1 q (e2 q r hn (by simp)).1
      ·
       have:=(k4 r (by unfold WC;rw [if_pos ⟨q,hq,hn⟩])).1
       rw [hs] at this
       cases this
       rfl
     refine ⟨a,H',μ,aer μ ω',k1,hG.later hL rfl hsame,hL,fun r hr=>?_,fun r s hs=>?_,?_⟩
     ·
      have hnr:=hno r _ hr
      unfold aer
      rw [if_neg hnr]
      refine k4 r ?_
      unfold WC
      rw [if_neg (fun ⟨q,hq,_⟩=>hnr ⟨q,hq⟩)]
      exact hr
     ·
      unfold aer at hs
      split at hs
      ·
       cases hs
      ·
       rename_i hnr
       exact ⟨(k5 r s hs).1,fun q hq=>hnr ⟨q,hq⟩,by rw [← h2.hid,← k3.hid];exact (k5 r s hs).2.2⟩
     ·
      refine k6.yP hpr (fun r s hne hs=>?_) 16 hgr (fun s hs=>by cases hs;exact fun h=>by cases h)
      unfold aer
      rw [if_neg (fun hx=>hne (hst r hx s hs))]
      exact hs
   ·
    cases h
    obtain ⟨a,H',μ',ω',k1,k2,k3,k4,k5,k6⟩:=hc g m aargs S1 v S' hr0 μ1 H ω h1 h3 (fun r s hs=>⟨(hD r s hs).1,h2.priv (hD r s hs).1 (hD r s hs).2⟩) hE
    exact ⟨a,H',μ',ω',k1,k2,h2.trans k3,k4,k5,k6⟩
theorem VV.clean {μ μ':Mu} {H:zx} {ω:Nat→Option wo} (hp:∀ r,xO μ r→xO μ' r) {ℓ:Option wo} {v a:Value} (h:VV μ H ω ℓ v a):∀ d,jc d v=true→VV μ' H ω ℓ v a:=by
 induction h with
 | sg h=>exact fun _ _=>.sg h
 | ptr h=>intro d hc;cases d <;> simp [jc] at hc
 | map h=>intro d hc;cases d <;> simp [jc] at hc
 | slm h=>intro d hc;cases d <;> simp [jc] at hc
 | slE=>exact fun _ _=>.slE
 | sl hr hpr hg hl hn hc ih =>
  intro d hcl
  obtain ⟨d,rfl⟩:∃ k,d=k+4:=by
   match d,hcl with
   | 0,h=>cases h
   | 1,h=>simp [jc] at h
   | 2,h=>simp [jc] at h
   | 3,h=>simp [jc] at h
   | k+4,_=>exact ⟨k,rfl⟩
  simp only [jc] at hcl
  refine .sl hr (hp _ hpr) hg hl hn (fun i hi=>ih i hi d ?_)
  rw [List.getD_eq_getElem?_getD,List.getElem?_eq_getElem (by omega)]
  exact List.all_eq_true.1 hcl _ (List.getElem_mem _)
 | so hω hr hpr hg hl hn hc ih =>
  intro d hcl
  obtain ⟨d,rfl⟩:∃ k,d=k+4:=by
   match d,hcl with
   | 0,h=>cases h
   | 1,h=>simp [jc] at h
   | 2,h=>simp [jc] at h
   | 3,h=>simp [jc] at h
   | k+4,_=>exact ⟨k,rfl⟩
  simp only [jc] at hcl
  refine .so hω hr (hp _ hpr) hg hl hn (fun i hi=>ih i hi d ?_)
  rw [List.getD_eq_getElem?_getD,List.getElem?_eq_getElem (by omega)]
  exact List.all_eq_true.1 hcl _ (List.getElem_mem _)
 | ep hr hpr hg hl hc ih =>
  intro d hcl
  obtain ⟨d,rfl⟩:∃ k,d=k+2:=by
   match d,hcl with
   | 0,h=>cases h
   | 1,h=>simp [jc] at h
   | k+2,_=>exact ⟨k,rfl⟩
  simp only [jc] at hcl
  refine .ep hr (hp _ hpr) hg hl (fun i hi=>ih i hi d ?_)
  rw [List.getD_eq_getElem?_getD,List.getElem?_eq_getElem hi]
  exact List.all_eq_true.1 hcl _ (List.getElem_mem _)
 | func fn hx hc h1 h2=>intro d hc;cases d <;> simp [jc] at hc
 | @agg ℓ x x' hx hh ih =>
  intro d hcl
  obtain ⟨d,rfl⟩:∃ k,d=k+1:=by
   match d,hcl with
   | 0,h=>cases h
   | k+1,_=>exact ⟨k,rfl⟩
  simp only [jc] at hcl
  refine .agg hx (fun i=>?_)
  by_cases hi:i < x.size
  ·
   refine ih i d ?_
   rw [Array.getD_eq_getD_getElem?,Array.getElem?_eq_getElem hi]
   exact List.all_eq_true.1 hcl _ (by simp)
  ·
   rw [Array.getD_eq_getD_getElem?,Array.getElem?_eq_none (Nat.le_of_not_lt hi),Array.getD_eq_getD_getElem?,Array.getElem?_eq_none (by omega)]
   exact .nores
 | nores=>exact fun _ _=>.nores
 | @tuple ℓ x x' hx hh ih =>
  intro d hcl
  obtain ⟨d,rfl⟩:∃ k,d=k+1:=by
   match d,hcl with
   | 0,h=>cases h
   | k+1,_=>exact ⟨k,rfl⟩
  simp only [jc] at hcl
  refine .tuple hx (fun i=>?_)
  by_cases hi:i < x.size
  ·
   refine ih i d ?_
   rw [Array.getD_eq_getD_getElem?,Array.getElem?_eq_getElem hi]
   exact List.all_eq_true.1 hcl _ (by simp)
  ·
   rw [Array.getD_eq_getD_getElem?,Array.getElem?_eq_none (Nat.le_of_not_lt hi),Array.getD_eq_getD_getElem?,Array.getElem?_eq_none (by omega)]
   exact .nores
theorem VV.lower {μ μ' : Mu} {S H : zx} {ω : Nat → Option wo} (hG : GI μ S H) (hp : ∀ r, xO μ r → xO μ' r) (hq : ∀ q r, μ q = some (r, true) → xO μ' r) {ℓ : Option wo} {v a : Value} (h : VV μ H ω ℓ v a) :
    ∀ d d', jc d (jw S d' v) = true → VV μ' H ω ℓ (jw S d' v) a := by
  induction h with
  | sg h =>
    intro d d' hc
    rename_i v
    have e : jw S d' v = v := by
      cases d' with
      | zero => rfl
      | succ d' => cases v <;> first | rfl | (simp [Go.Abs.sg] at h; done) | skip
                   rename_i a n c
                   cases a <;> first | rfl | (simp [Go.Abs.sg] at h; done)
    rw [e]; exact .sg h
  | ptr h => intro d d' hc; cases d' <;> cases d <;> simp [jw, jc] at hc
  | map h => intro d d' hc; cases d' <;> cases d <;> simp [jw, jc] at hc
  | @slm ℓ r o r' b n hm =>
    intro d d' hc
    cases d' with
    | zero => cases d <;> simp [jw, jc] at hc
    | succ d' =>
      by_cases ho : o = 0
      · subst ho
        cases hg : S.get r with
        | none => rw [show jw S (d' + 1) (.slice (some ⟨r, 0, none⟩) n n) = .slice (some ⟨r, 0, none⟩) n n by simp only [jw, hg]] at hc; cases d <;> simp [jc] at hc
        | some ob =>
          cases ob with
          | map es c => rw [show jw S (d' + 1) (.slice (some ⟨r, 0, none⟩) n n) = .slice (some ⟨r, 0, none⟩) n n by simp only [jw, hg]] at hc; cases d <;> simp [jc] at hc
          | dead => rw [show jw S (d' + 1) (.slice (some ⟨r, 0, none⟩) n n) = .slice (some ⟨r, 0, none⟩) n n by simp only [jw, hg]] at hc; cases d <;> simp [jc] at hc
          | cells cs own e =>
            by_cases hle : n * e ≤ cs.length
            · have e1 : jw S (d' + 1) (.slice (some ⟨r, 0, none⟩) n n) = SL 1 e n (cs.take (n * e)) := by simp only [jw, hg, hle, and_self, if_true]
              rw [e1] at hc ⊢
              obtain ⟨r2, cs', own', _, hm', hg', hl⟩ := hG.cells hg
              rw [hm] at hm'; cases hm'
              have hlen := hl.1
              refine .sl (o := 0) (hG.lt r r' _ hm) (hq r r' hm) hg' (by omega) (by simp; omega) fun i hi => ?_
              have hv : VV μ H W0 none (cs.getD i Go.undef) (cs'.getD i Go.undef) := hl.2 i
              have e2 : (cs.take (n * e)).toArray.toList.getD i Go.undef = cs.getD i Go.undef := by
                rw [List.toList_toArray, List.getD_eq_getElem?_getD, List.getElem?_take, if_pos hi, ← List.getD_eq_getElem?_getD]
              rw [e2, Nat.zero_add]
              obtain ⟨d, rfl⟩ : ∃ k, d = k + 4 := by
                match d, hc with
                | 0, h => cases h
                | 1, h => simp [SL, jc] at h
                | 2, h => simp [SL, jc] at h
                | 3, h => simp [SL, jc] at h
                | k + 4, _ => exact ⟨k, rfl⟩
              simp only [SL, jc, List.toList_toArray] at hc
              have hci : jc d (cs.getD i Go.undef) = true := by
                have h2 : i < cs.length := by omega
                rw [List.getD_eq_getElem?_getD, List.getElem?_eq_getElem h2, Option.getD_some]
                exact List.all_eq_true.1 hc _ (by rw [List.mem_take_iff_getElem]; exact ⟨i, by omega, rfl⟩)
              exact (hv.clean hp d hci).at0
            · rw [show jw S (d' + 1) (.slice (some ⟨r, 0, none⟩) n n) = .slice (some ⟨r, 0, none⟩) n n by simp only [jw, hg, hle, and_false, if_false]] at hc; cases d <;> simp [jc] at hc
      · rw [show jw S (d' + 1) (.slice (some ⟨r, o, none⟩) n n) = .slice (some ⟨r, o, none⟩) n n by
          simp only [jw]
          split
          · rename_i h; simp only [Value.slice.injEq, Option.some.injEq, Addr.mk.injEq] at h; exact absurd h.1.2.1 ho
          · rename_i h; cases h
          · rename_i h; cases h
          · rfl] at hc
        cases d <;> simp [jc] at hc
  | slE => intro d d' _; cases d' <;> exact .slE
  | sl hr hpr hg hl hn hc ih => intro d d' hcl; cases d' <;> exact (VV.sl hr hpr hg hl hn hc).clean hp d hcl
  | so hω hr hpr hg hl hn hc ih => intro d d' hcl; cases d' <;> exact (VV.so hω hr hpr hg hl hn hc).clean hp d hcl
  | ep hr hpr hg hl hc ih => intro d d' hcl; cases d' <;> exact (VV.ep hr hpr hg hl hc).clean hp d hcl
  | func fn hx hc h1 h2 => intro d d' hcl; cases d' <;> cases d <;> simp [jw, jc] at hcl
  | @agg ℓ x x' hx hh ih =>
    intro d d' hcl
    cases d' with
    | zero => exact (VV.agg hx hh).clean hp d hcl
    | succ d' =>
      have e : jw S (d' + 1) (.agg x) = .agg (x.map (jw S d')) := rfl
      rw [e] at hcl ⊢
      cases d with
      | zero => cases hcl
      | succ d =>
        simp only [jc] at hcl
        refine .agg (by simpa using hx) fun i => ?_
        by_cases hi : i < x.size
        · have e2 : (x.map (jw S d')).getD i Go.undef = jw S d' (x.getD i Go.undef) := by simp [Array.getD_eq_getD_getElem?, Array.getElem?_eq_getElem hi]
          rw [e2]
          refine ih i d d' ?_
          refine List.all_eq_true.1 hcl _ ?_
          simp only [Array.toList_map, List.mem_map]
          exact ⟨x[i], by simp, by rw [Array.getD_eq_getD_getElem?, Array.getElem?_eq_getElem hi]; rfl⟩
        · rw [Array.getD_eq_getD_getElem?, Array.getElem?_eq_none (by simpa using Nat.le_of_not_lt hi), Array.getD_eq_getD_getElem?, Array.getElem?_eq_none (by omega)]
          exact .nores
  | nores =>
    intro d d' hcl
    cases d' with
    | zero => exact .nores
    | succ d' => rw [show jw S (d' + 1) (.tuple #[]) = .tuple #[] by simp [jw]]; exact .nores
  | @tuple ℓ x x' hx hh ih =>
    intro d d' hcl
    cases d' with
    | zero => exact (VV.tuple hx hh).clean hp d hcl
    | succ d' =>
      have e : jw S (d' + 1) (.tuple x) = .tuple (x.map (jw S d')) := rfl
      rw [e] at hcl ⊢
      cases d with
      | zero => cases hcl
      | succ d =>
        simp only [jc] at hcl
        refine .tuple (by simpa using hx) fun i => ?_
        by_cases hi : i < x.size
        · have e2 : (x.map (jw S d')).getD i Go.undef = jw S d' (x.getD i Go.undef) := by simp [Array.getD_eq_getD_getElem?, Array.getElem?_eq_getElem hi]
          rw [e2]
          refine ih i d d' ?_
          refine List.all_eq_true.1 hcl _ ?_
          simp only [Array.toList_map, List.mem_map]
          exact ⟨x[i], by simp, by rw [Array.getD_eq_getD_getElem?, Array.getElem?_eq_getElem hi]; rfl⟩
        · rw [Array.getD_eq_getD_getElem?, Array.getElem?_eq_none (by simpa using Nat.le_of_not_lt hi), Array.getD_eq_getD_getElem?, Array.getElem?_eq_none (by omega)]
          exact .nores
open Classical in
noncomputable def kS (μ:Mu):Mu:=⟨fun _=>none,fun r=>μ.hid r || decide (∃ q,μ q=some (r,true)),[]⟩
theorem Z8 {μ:Mu} {r:Nat} (h:xO μ r):xO (kS μ) r:=⟨fun q hq=>(by cases hq),by
 simp only [kS,h.2,Bool.false_or,decide_eq_false_iff_not]
 rintro ⟨q,hq⟩
 exact h.1 q hq⟩
theorem aax {μ:Mu} {r:Nat} (h:(kS μ).hid r=false):xO μ r:=by
 simp only [kS,Bool.or_eq_false_iff,decide_eq_false_iff_not] at h
 exact ⟨fun q hq=>h.2 ⟨q,hq⟩,h.1⟩
def aeG (P:Program) (g:FuncId) (args:List Value) (run:M Value):Prop:=∀ aargs S v S',run S=some (v,S')→∀ μ H ω,GI μ S H→L0 μ H args aargs→Dom μ H ω→(∀ r s,ω r=some s→s=.ext) →
 ∃ a H' μ' ω',lim P g aargs H=some (a,H')∧GI μ' S' H'∧Later μ H μ' H'∧Kept ω H ω' H'∧Dom μ' H' ω'∧VV μ' H' ω' (some (.res none)) v a
theorem abC {g:FuncId} {args:List Value} {run:M Value} (hr:aeG P g args run):aeG P g args (abG run args):=by
 intro aargs S v S' h μ H ω hG hA hD hE
 unfold abG at h
 split at h <;> first | (cases h;done) | skip
 rename_i hca
 split at h <;> first | (cases h;done) | skip
 rename_i w S1 hrun
 split at h <;> first | (cases h;done) | skip
 rename_i hcw
 cases h
 have hG0:GI (kS μ) zx.empty H:=⟨fun q o h=>(by cases h),fun q q' r h=>(by cases h),fun q r b h=>(by cases h),fun q _=>rfl,fun q r h=>(by cases h),fun r h=>by
  simp only [kS,Bool.or_eq_true,decide_eq_true_eq] at h
  rcases h with h | ⟨q,hq⟩
  ·
   exact hG.hlt r h
  ·
   exact hG.lt q r _ hq,rfl,fun q cs anc e h=>(by cases h)⟩
 have hA0:L0 (kS μ) H args aargs:=⟨hA.1,fun i=>by
  by_cases hi:i < args.length
  ·
   refine (hA.2 i).clean (fun r h=>Z8 h) 16 ?_
   rw [List.getD_eq_getElem?_getD,List.getElem?_eq_getElem hi]
   exact List.all_eq_true.1 hca _ (List.getElem_mem _)
  ·
   rw [List.getD_eq_getElem?_getD,List.getElem?_eq_none (Nat.le_of_not_lt hi),List.getD_eq_getElem?_getD,List.getElem?_eq_none (by rw [← hA.1];omega)]
   exact .nores⟩
 obtain ⟨a,H1,μ1,ω1,k1,k2,k3,k4,k5,k6⟩:=hr aargs _ _ _ hrun (kS μ) H ω hG0 hA0 (fun r s h=>⟨(hD r s h).1,Z8 (hD r s h).2⟩) hE
 have hp1:∀ r,xO μ1 r→xO μ r:=fun r h=>aax (by rw [← k3.hid];exact h.2)
 have hL:Later μ H μ H1:=⟨fun _ _ b h=>⟨b,h⟩,k3.next,fun _ _ h=>.inl h,rfl,fun r hr hh=>k3.same r hr (by simp only [kS,hh,Bool.true_or]),⟨[],rfl,fun q r hq _=>⟨hq,k3.same r (hG.lt q r _ hq) (by
  simp only [kS,Bool.or_eq_true,decide_eq_true_eq]
  exact .inr ⟨q,hq⟩)⟩⟩,fun r l own e hr hp hg=>k3.cells r l own e hr (Z8 hp) hg⟩
 have hq1:∀ q r,μ1 q=some (r,true)→xO μ r:=fun q r h=>by
  rcases k3.new q r h with h5 | h5
  ·
   cases h5
  ·
   exact ⟨fun q' hq'=>by have:=hG.lt q' r _ hq';omega,by
    cases hh:μ.hid r with
    | false=>rfl
    | true=>have:=hG.hlt r hh;omega⟩
 refine ⟨a,H1,μ,ω1,k1,?_,hL,k4,fun r s h=>⟨(k5 r s h).1,hp1 r (k5 r s h).2⟩,k6.lower k2 hp1 hq1 16 16 hcw⟩
 exact hG.later hL rfl fun q r hq=>k3.same r (hG.lt q r _ hq) (by
  simp only [kS,Bool.or_eq_true,decide_eq_true_eq]
  exact .inr ⟨q,hq⟩)
theorem aa6 {O:Ora} (hO:abz P O):∀ n,Zh P (kE P O n):=by
 intro n
 induction n with
 | zero=>intro g args aargs S v S' h;cases h
 | succ n ih =>
  intro g args aargs S v S' h μ H ω hG hA hD hE
  simp only [kE] at h
  cases ho:O.fn g with
  | some q =>
   rw [ho] at h
   exact hO g q ho g args aargs S v S' (by simpa using h) μ H ω hG hA hD hE
  | none =>
   rw [ho] at h
   dsimp only at h
   cases hf:P.funcs[g]? with
   | none=>rw [hf] at h;cases h
   | some fn =>
    rw [hf] at h
    dsimp only at h
    split at h <;> first | (cases h;done) | skip
    rename_i hn
    cases hb:fn.body with
    | none=>rw [hb] at h;cases h
    | some c =>
     rw [hb] at h
     dsimp only at h
     have hrun:aeG P g args (ada P (O.hp g) (yH O.hp (O.hp g) (kE P O n)) n fn c args):=by
      intro aargs S v S' h μ H ω hG hA hD hE
      have hT0:TI μ H ω (args++List.replicate (fn.ntmps - args.length) zh) (aargs++List.replicate (fn.ntmps - aargs.length) zh):=by
       have hl:L0 μ H (args++List.replicate (fn.ntmps - args.length) zh) (aargs++List.replicate (fn.ntmps - aargs.length) zh):=by
        refine hA.append (VL.ofRange (by rw [hA.1]) fun i hi=>?_)
        have hi2:i < fn.ntmps - args.length:=by simpa using hi
        rw [List.getD_eq_getElem?_getD,List.getElem?_replicate,if_pos hi2,List.getD_eq_getElem?_getD,List.getElem?_replicate,if_pos (by rw [← hA.1];exact hi2)]
        exact .nores
       exact ⟨hl.1,fun i=>(hl.2 i).at0,hD,fun r j hr=>by have:=hE r _ hr;cases this⟩
      have fin:∀ (e:AEx) (T1:List Value) (S1:zx),(e=.normal∨e=.ret)→yE P (O.hp g) (yH O.hp (O.hp g) (kE P O n)) n c (args++List.replicate (fn.ntmps - args.length) zh) S=some (e,T1,S1)→aaM P fn T1 S1=some (v,S') →
        ∃ a H' μ' ω',lim P g aargs H=some (a,H')∧GI μ' S' H'∧Later μ H μ' H'∧Kept ω H ω' H'∧Dom μ' H' ω'∧VV μ' H' ω' (some (.res none)) v a:=by
       intro e T1 S1 he hcode hres
       obtain ⟨A1,H1,μ1,ω1,h1,h2,h3,h4,h5⟩:=aa1 (aaW ih) n c _ _ _ _ _ _ _ _ _ hcode hG hT0
       obtain ⟨rfl,a,k1,k2⟩:=acX (P:=P) h2 h5 hres
       refine ⟨a,H1,μ1,fun r=>(ω1 r).bind (place fn.results.toList),aa0 hf hn hb h1 he k1,h2,h3,fun r hr=>?_,fun r s hs=>?_,k2⟩
       ·
        obtain ⟨q1,q2⟩:=h4 r hr
        exact ⟨by simp [q1,place],q2⟩
       ·
        cases hr:ω1 r with
        | none=>simp [hr] at hs
        | some s0=>exact h5.dom r s0 hr
      unfold ada at h
      split at h
      ·
       rename_i T1 S1 hx;exact fin .normal _ _ (.inl rfl) hx h
      ·
       rename_i T1 S1 hx;exact fin .ret _ _ (.inr rfl) hx h
      ·
       cases h
     split at h
     ·
      exact abC hrun aargs S v S' h μ H ω hG hA hD hE
     ·
      exact hrun aargs S v S' h μ H ω hG hA hD hE
end
end Go.Abs
namespace Go.Abs
open Go.RowKit
open Classical
noncomputable def zS (P:Program) (O:Ora) (g:FuncId) (args:List Value):M Value:=fun S =>
 if h:∃ r,∃ k0,∀ k,k0≤k→kE P O k g args S=some r then some (Classical.choose h) else none
section
variable {P:Program} {O:Ora}
theorem Jk {g:FuncId} {args:List Value} {S:zx} {r:Value×zx} (h:zS P O g args S=some r):∃ k0,∀ k,k0≤k→kE P O k g args S=some r:=by
 unfold zS at h
 split at h
 ·
  rename_i hx
  have:=Classical.choose_spec hx
  cases h
  exact this
 ·
  cases h
theorem QH {g:FuncId} {args:List Value} {S:zx} {r:Value×zx} (h:∃ k0,∀ k,k0≤k→kE P O k g args S=some r):zS P O g args S=some r:=by
 have hx:∃ r,∃ k0,∀ k,k0≤k→kE P O k g args S=some r:=⟨r,h⟩
 unfold zS
 rw [dif_pos hx]
 obtain ⟨k0,h0⟩:=h
 obtain ⟨k1,h1⟩:=Classical.choose_spec hx
 have e0:=h0 (max k0 k1) (Nat.le_max_left _ _)
 have e1:=h1 (max k0 k1) (Nat.le_max_right _ _)
 rw [e0] at e1
 exact e1.symm
theorem adp (hO:abz P O):Zh P (zS P O):=by
 intro g args aargs S v S' h
 obtain ⟨k,hk⟩:=Jk h
 exact aa6 hO k g args aargs S v S' (hk k (Nat.le_refl k))
theorem aaR {g:FuncId} {args:List Value} {q:List Value→M Value} (h:O.fn g=some q) (S:zx):zS P O g args S=q args S:=by
 cases hq:q args S with
 | some r =>
  refine QH ⟨1,fun k hk=>?_⟩
  obtain ⟨k,rfl⟩:∃ i,k=i+1:=⟨k - 1,by omega⟩
  simp only [kE,h,hq]
 | none =>
  cases hv:zS P O g args S with
  | none=>rfl
  | some r =>
   obtain ⟨k,hk⟩:=Jk hv
   have:=hk (k+1) (by omega)
   simp only [kE,h,hq] at this
   cases this
def adu (c:FuncId→List Value→M Value) (ck:Nat→FuncId→List Value→M Value):Prop:=∀ g args S r,c g args S=some r→∃ k0,∀ k,k0≤k→ck k g args S=some r
theorem Yx:adu (zS P O) (fun k=>kE P O k):=fun g args S r h=>Jk h
theorem J8 {c:FuncId→List Value→M Value} {ck:Nat→FuncId→List Value→M Value} (hl:adu c ck) {hps:FuncId→Bool} {hp:Bool}:adu (yH hps hp c) (fun k=>yH hps hp (ck k)):=by
 cases hp with
 | false=>exact hl
 | true =>
  intro g args S r h
  unfold yH at h
  dsimp only at h
  split at h
  ·
   rename_i hg
   obtain ⟨k0,h0⟩:=hl _ _ _ _ h
   exact ⟨k0,fun k hk=>by unfold yH;dsimp only;rw [if_pos hg];exact h0 k hk⟩
  ·
   rename_i hg
   split at h <;> first | (cases h;done) | skip
   rename_i m S1 hf
   split at h <;> first | (cases h;done) | skip
   rename_i r0 hr0
   obtain ⟨k0,h0⟩:=hl _ _ _ _ hr0
   exact ⟨k0,fun k hk=>by unfold yH;dsimp only;rw [if_neg hg,hf];dsimp only;rw [h0 k hk];exact h⟩
section
variable {c:FuncId→List Value→M Value} {ck:Nat→FuncId→List Value→M Value}
theorem YC (hl:adu c ck) {fx:Fx} {T:List Value} {o:Oper} {S:zx} {r:Value×zx} (h:jR P fx c T o S=some r):∃ k0,∀ k,k0≤k→jR P fx (ck k) T o S=some r:=by
 unfold jR at h
 split at h
 ·
  rename_i hok
  split at h
  ·
   rename_i q0 hop
   split at h
   ·
    rename_i f hf
    split at h
    ·
     rename_i g first captured hev
     obtain ⟨k0,hk⟩:=hl _ _ _ _ h
     refine ⟨k0,fun k hkk=>?_⟩
     unfold jR
     rw [if_pos hok]
     simp only [hop,hf,hev]
     exact hk k hkk
    ·
     cases h
   ·
    rename_i b hb
    refine ⟨0,fun k _=>?_⟩
    unfold jR
    rw [if_pos hok]
    simp only [hop,hb]
    exact h
   ·
    cases h
  ·
   rename_i hop
   refine ⟨0,fun k _=>?_⟩
   unfold jR
   rw [if_pos hok]
   split
   ·
    rename_i q0 hc;exact absurd hc (hop q0)
   ·
    exact h
 ·
  cases h
theorem abf (hl:adu c ck) {fx:Fx} {ops:Array Oper}:∀ (l:List Oper) (T:List Value) (S:zx) (r:List Value×zx),jg P fx c ops l T S=some r→∃ k0,∀ k,k0≤k→jg P fx (ck k) ops l T S=some r:=by
 intro l
 induction l with
 | nil=>intro T S r h;exact ⟨0,fun k _=>h⟩
 | cons o l ih =>
  intro T S r h
  simp only [jg] at h
  split at h
  ·
   rename_i hw
   split at h
   ·
    rename_i v S' hs
    obtain ⟨k1,h1⟩:=YC hl hs
    obtain ⟨k2,h2⟩:=ih _ _ _ h
    refine ⟨max k1 k2,fun k hk=>?_⟩
    simp only [jg,hw,if_true,h1 k (by omega)]
    exact h2 k (by omega)
   ·
    cases h
  ·
   rename_i hw
   obtain ⟨k2,h2⟩:=ih _ _ _ h
   refine ⟨k2,fun k hk=>?_⟩
   simp only [jg,hw,if_false]
   exact h2 k hk
theorem aaK (hl:adu c ck) {fx:Fx} {chk:List Nat} {nl:List (Nat×Nat)} {ops:Array Oper}:∀ (l:List Oper) (i:Nat) (hist:List (Value×zx)) (T:List Value) (S:zx) (r:List Value×zx),jK P fx chk nl c ops i hist l T S=some r→∃ k0,∀ k,k0≤k→jK P fx chk nl (ck k) ops i hist l T S=some r:=by
 intro l
 induction l with
 | nil=>intro i hist T S r h;exact ⟨0,fun k _=>h⟩
 | cons o l ih =>
  intro i hist T S r h
  simp only [jK] at h
  split at h
  ·
   rename_i hw
   split at h
   ·
    rename_i v S' hs
    split at h
    ·
     rename_i hq
     obtain ⟨k1,h1⟩:=YC hl hs
     obtain ⟨k2,h2⟩:=ih _ _ _ _ _ h
     refine ⟨max k1 k2,fun k hk=>?_⟩
     simp only [jK,hw,if_true,h1 k (by omega),hq]
     exact h2 k (by omega)
    ·
     cases h
   ·
    cases h
  ·
   rename_i hw
   obtain ⟨k2,h2⟩:=ih _ _ _ _ _ h
   refine ⟨k2,fun k hk=>?_⟩
   simp only [jK,hw,if_false]
   exact h2 k hk
end
noncomputable def zD (P:Program) (O:Ora) (hp:Bool):Code→List Value→zx→St
 | .skip,T,H=>some (.normal,T,H)
 | .region _ ops false,T,H=>match jg P ⟨hp,false,false⟩ (yH O.hp hp (zS P O)) ops ops.toList T H with
  | some (T1,H1)=>some (.normal,T1,H1)
  | none=>none
 | .region _ ops true,T,H=>if qy P ops then match jK P ⟨hp,!(checked P ops).isEmpty,fixed P ops⟩ (checked P ops) (again P ops) (yH O.hp hp (zS P O)) ops 0 [] ops.toList T H with
  | some (T1,H1)=>some (.normal,T1,H1)
  | none=>none
  else none
 | .seq x y,T,H=>match zD P O hp x T H with
  | some (.normal,T1,H1)=>zD P O hp y T1 H1
  | r=>r
 | .cond c x y,T,H=>if yh c then
   match zJ T c with
   | .bool true=>zD P O hp x T H
   | .bool false=>zD P O hp y T H
   | _=>none
  else none
 | .block id c,T,H=>match zD P O hp c T H with
  | some (.exit id',T1,H1)=>if id'=id then some (.normal,T1,H1) else some (.exit id',T1,H1)
  | r=>r
 | .loop c,T,H=>yG (zD P O hp c) T H
 | .exit id,T,H=>some (.exit id,T,H)
 | .ret,T,H=>some (.ret,T,H)
 | _,_,_=>none
theorem Wn {hp:Bool}:∀ (c:Code) (T:List Value) (H:zx) (r),zD P O hp c T H=some r→∃ k0,∀ k fuel,k0≤k→k0≤fuel→yE P hp (yH O.hp hp (kE P O k)) fuel c T H=some r:=by
 intro c
 induction c with
 | skip=>intro T H r h;exact ⟨0,fun k fuel _ _=>h⟩
 | region i ops d =>
  intro T H r h
  cases d with
  | false =>
   simp only [zD] at h
   split at h
   ·
    rename_i T1 H1 ho
    obtain ⟨k0,h0⟩:=abf (J8 Yx) _ _ _ _ ho
    exact ⟨k0,fun k fuel hk _=>by simp only [yE,h0 k hk];exact h⟩
   ·
    cases h
  | true =>
   simp only [zD] at h
   split at h
   ·
    rename_i hd
    split at h
    ·
     rename_i T1 H1 ho
     obtain ⟨k0,h0⟩:=aaK (J8 Yx) _ _ _ _ _ _ ho
     exact ⟨k0,fun k fuel hk _=>by simp only [yE,hd,if_true,h0 k hk];exact h⟩
    ·
     cases h
   ·
    cases h
 | seq x y ihx ihy =>
  intro T H r h
  simp only [zD] at h
  split at h
  ·
   rename_i T1 H1 hx
   obtain ⟨k1,h1⟩:=ihx _ _ _ hx
   obtain ⟨k2,h2⟩:=ihy _ _ _ h
   exact ⟨max k1 k2,fun k fuel hk hf=>by simp only [yE,h1 k fuel (by omega) (by omega)];exact h2 k fuel (by omega) (by omega)⟩
  ·
   rename_i hne
   obtain ⟨k1,h1⟩:=ihx _ _ _ h
   refine ⟨k1,fun k fuel hk hf=>?_⟩
   simp only [yE,h1 k fuel hk hf]
   split
   ·
    rename_i T1 H1 he;exact absurd (h.trans he) (hne T1 H1)
   ·
    rfl
 | cond c x y ihx ihy =>
  intro T H r h
  simp only [zD] at h
  split at h
  ·
   rename_i hok
   split at h
   ·
    rename_i hb
    obtain ⟨k1,h1⟩:=ihx _ _ _ h
    exact ⟨k1,fun k fuel hk hf=>by simp only [yE,hok,if_true,hb];exact h1 k fuel hk hf⟩
   ·
    rename_i hb
    obtain ⟨k1,h1⟩:=ihy _ _ _ h
    exact ⟨k1,fun k fuel hk hf=>by simp only [yE,hok,if_true,hb];exact h1 k fuel hk hf⟩
   ·
    cases h
  ·
   cases h
 | block id c ih =>
  intro T H r h
  simp only [zD] at h
  split at h
  ·
   rename_i id' T1 H1 hc
   obtain ⟨k1,h1⟩:=ih _ _ _ hc
   exact ⟨k1,fun k fuel hk hf=>by simp only [yE,h1 k fuel hk hf];exact h⟩
  ·
   rename_i hne
   obtain ⟨k1,h1⟩:=ih _ _ _ h
   refine ⟨k1,fun k fuel hk hf=>?_⟩
   simp only [yE,h1 k fuel hk hf]
   split
   ·
    rename_i id' T1 H1 he;exact absurd (h.trans he) (hne id' T1 H1)
   ·
    rfl
 | loop c ih =>
  intro T H r h
  simp only [zD] at h
  obtain ⟨n,hn⟩:=kZ h
  have key:∀ (n:Nat) (T:List Value) (H:zx),yw n (zD P O hp c) T H=some r→∃ k0,∀ k fuel,k0≤k→k0≤fuel→∀ j,n≤j→yw j (yE P hp (yH O.hp hp (kE P O k)) fuel c) T H=some r:=by
   intro n
   induction n with
   | zero=>intro T H h;cases h
   | succ n ihn =>
    intro T H h
    simp only [yw] at h
    split at h
    ·
     rename_i T1 H1 hf
     obtain ⟨k1,h1⟩:=ih _ _ _ hf
     obtain ⟨k2,h2⟩:=ihn _ _ h
     refine ⟨max k1 k2,fun k fuel hk hfu j hj=>?_⟩
     obtain ⟨j,rfl⟩:∃ i,j=i+1:=⟨j - 1,by omega⟩
     simp only [yw,h1 k fuel (by omega) (by omega)]
     exact h2 k fuel (by omega) (by omega) j (by omega)
    ·
     rename_i hne
     obtain ⟨k1,h1⟩:=ih _ _ _ h
     refine ⟨k1,fun k fuel hk hfu j hj=>?_⟩
     obtain ⟨j,rfl⟩:∃ i,j=i+1:=⟨j - 1,by omega⟩
     simp only [yw,h1 k fuel hk hfu]
     split
     ·
      rename_i T1 H1 he;exact absurd (h.trans he) (hne T1 H1)
     ·
      rfl
  obtain ⟨k0,h0⟩:=key n T H hn
  exact ⟨max k0 n,fun k fuel hk hf=>by simp only [yE];exact h0 k fuel (by omega) (by omega) fuel (by omega)⟩
 | exit id=>intro T H r h;exact ⟨0,fun k fuel _ _=>h⟩
 | ret=>intro T H r h;exact ⟨0,fun k fuel _ _=>h⟩
 | _=>intro T H r h;simp only [zD] at h;cases h
theorem jG {f:FuncId} {fn:Func} {c:Code} {args:List Value} {H H1 H':zx} {e:AEx} {T:List Value} {v:Value} (ho:O.fn f=none) (hpu:O.pu f=false) (hf:P.funcs[f]?=some fn) (hn:abX fn=true) (hb:fn.body=some c)
  (h:zD P O (O.hp f) c (args++List.replicate (fn.ntmps - args.length) zh) H=some (e,T,H1)) (he:e=.normal∨e=.ret) (hres:aaM P fn T H1=some (v,H')):zS P O f args H=some (v,H'):=by
 obtain ⟨k0,h0⟩:=Wn _ _ _ _ h
 refine QH ⟨k0+1,fun k hk=>?_⟩
 obtain ⟨k,rfl⟩:∃ i,k=i+1:=⟨k - 1,by omega⟩
 simp only [kE,ho,hf,if_pos hn,hb,hpu,Bool.false_eq_true,if_false,ada,h0 k k (by omega) (by omega)]
 rcases he with rfl | rfl <;> exact hres
theorem XO {f:FuncId} {fn:Func} {c:Code} {args:List Value} {S H1 H':zx} {e:AEx} {T:List Value} {v:Value} (ho:O.fn f=none) (hpu:O.pu f=true) (hf:P.funcs[f]?=some fn) (hn:abX fn=true) (hb:fn.body=some c)
  (h:zD P O (O.hp f) c (args++List.replicate (fn.ntmps - args.length) zh) zx.empty=some (e,T,H1)) (he:e=.normal∨e=.ret) (hres:aaM P fn T H1=some (v,H')) (hca:args.all (jc 16)=true) (hcv:jc 16 (jw H' 16 v)=true):zS P O f args S=some (jw H' 16 v,S):=by
 obtain ⟨k0,h0⟩:=Wn _ _ _ _ h
 refine QH ⟨k0+1,fun k hk=>?_⟩
 obtain ⟨k,rfl⟩:∃ i,k=i+1:=⟨k - 1,by omega⟩
 have hr:ada P (O.hp f) (yH O.hp (O.hp f) (kE P O k)) k fn c args zx.empty=some (v,H'):=by
  simp only [ada,h0 k k (by omega) (by omega)]
  rcases he with rfl | rfl <;> exact hres
 simp only [kE,ho,hf,if_pos hn,hb,hpu,if_true,abG,if_pos hca,hr,if_pos hcv]
theorem YG (S:zx):∀ (d d':Nat) (v:Value),jc d v=true→jw S d' v=v:=by
 intro d
 induction d with
 | zero=>intro d' v h;cases h
 | succ d ih =>
  intro d' v h
  cases d' with
  | zero=>rfl
  | succ d' =>
   cases v with
   | agg cs =>
    simp only [jc] at h
    show Value.agg (cs.map (jw S d'))=.agg cs
    congr 1
    apply Array.ext (by simp)
    intro i h1 h2
    rw [Array.getElem_map]
    exact ih d' _ (List.all_eq_true.1 h _ (by simp))
   | tuple cs =>
    simp only [jc] at h
    show Value.tuple (cs.map (jw S d'))=.tuple cs
    congr 1
    apply Array.ext (by simp)
    intro i h1 h2
    rw [Array.getElem_map]
    exact ih d' _ (List.all_eq_true.1 h _ (by simp))
   | slice a n c =>
    cases a with
    | none=>rfl
    | some a=>simp [jc] at h
   | _=>rfl
theorem vN {f:FuncId} {fn:Func} {c:Code} {args:List Value} {S H1 H':zx} {e:AEx} {T:List Value} {v:Value} (ho:O.fn f=none) (hpu:O.pu f=true) (hf:P.funcs[f]?=some fn) (hn:abX fn=true) (hb:fn.body=some c)
  (h:zD P O (O.hp f) c (args++List.replicate (fn.ntmps - args.length) zh) zx.empty=some (e,T,H1)) (he:e=.normal∨e=.ret) (hres:aaM P fn T H1=some (v,H')) (hca:args.all (jc 16)=true) (hcv:jc 16 v=true):zS P O f args S=some (v,S):=by
 have e1:=YG H' 16 16 v hcv
 have:=XO (S:=S) ho hpu hf hn hb h he hres hca (by rw [e1];exact hcv)
 rwa [e1] at this
def Ty.ZW:(t:Ty)→t.Val→List Value
 | .int k,n=>[.int k n]
 | .bool,b=>[.bool b]
 | .str,s=>[.string s]
 | .slc _ e,l=>match l with
  | none=>[.slice none 0 0]
  | some l=>[SL 1 e.sz l.length (l.flatMap e.ZW)]
 | .pair a b,(x,y)=>a.ZW x++b.ZW y
 | .unit,_=>[]
theorem Ty.Qs:∀ (t:Ty) (x:t.Val),(t.ZW x).length=t.sz:=by
 intro t
 induction t with
 | pair a b iha ihb=>rintro ⟨x,y⟩;simp [Ty.ZW,Ty.sz,iha,ihb]
 | slc bytes e ih=>intro x;cases x <;> rfl
 | _=>intro x;rfl
theorem Zu {e:Ty} (l:List e.Val):(l.flatMap e.ZW).length=l.length * e.sz:=by
 induction l with
 | nil=>simp
 | cons x l ih=>simp [List.flatMap_cons,Ty.Qs,ih,Nat.add_mul];omega
def M0:Mu:=⟨fun _=>none,fun _=>false,[]⟩
theorem GI.none {H:zx}:GI M0 zx.empty H:=⟨(fun q o h=>by cases h),(fun q q' r h=>by cases h),(fun q r b h=>by cases h),(fun q _=>rfl),(fun q r h=>by cases h),(fun r h=>by cases h),rfl,(fun q cs anc e h=>by cases h)⟩
theorem Ty.WZ:∀ (t:Ty) (x:t.Val) (H:zx),Later M0 H M0 (t.place x H).2∧L0 M0 (t.place x H).2 (t.ZW x) (t.place x H).1:=by
 intro t
 induction t with
 | int k=>intro x H;exact ⟨Later.refl _ _,VL.cons (.sg rfl) VL.nil⟩
 | bool=>intro x H;exact ⟨Later.refl _ _,VL.cons (.sg rfl) VL.nil⟩
 | str=>intro x H;exact ⟨Later.refl _ _,VL.cons (.sg rfl) VL.nil⟩
 | unit=>intro x H;exact ⟨Later.refl _ _,VL.nil⟩
 | pair a b iha ihb =>
  rintro ⟨x,y⟩ H
  obtain ⟨h1,h2⟩:=iha x H
  obtain ⟨h3,h4⟩:=ihb y (a.place x H).2
  exact ⟨h1.trans h3,(h2.later h3).append h4⟩
 | slc bytes e ih =>
  intro x H
  match x with
  | none=>exact ⟨Later.refl _ _,VL.cons (.sg rfl) VL.nil⟩
  | some []=>exact ⟨Later.refl _ _,VL.cons (.slE (e:=e.sz)) VL.nil⟩
  | some (x::l) =>
   have key:∀ (l:List e.Val) (H:zx),Later M0 H M0 (jF e.place l H).2∧L0 M0 (jF e.place l H).2 (l.flatMap e.ZW) (jF e.place l H).1:=by
    intro l
    induction l with
    | nil=>intro H;exact ⟨Later.refl _ _,VL.nil⟩
    | cons x l ihl =>
     intro H
     obtain ⟨h1,h2⟩:=ih x H
     obtain ⟨h3,h4⟩:=ihl (e.place x H).2
     exact ⟨h1.trans h3,(h2.later h3).append h4⟩
   obtain ⟨h1,h2⟩:=key (x::l) H
   have hL:Later M0 (jF e.place (x::l) H).2 M0 ((jF e.place (x::l) H).2.push (.cells (jF e.place (x::l) H).1 .ro e.sz)):=JL (fun q r h=>by cases h) _
   refine ⟨h1.trans hL,VL.cons ?_ VL.nil⟩
   have hlen:(jF e.place (x::l) H).1.length=(l.length+1) * e.sz:=by rw [← h2.1,Zu];rfl
   show V0 M0 ((jF e.place (x::l) H).2.push (.cells (jF e.place (x::l) H).1 .ro e.sz)) (SL 1 e.sz (l.length+1) ((x::l).flatMap e.ZW)) (.slice (some ⟨(jF e.place (x::l) H).2.next,0,none⟩) (l.length+1) (l.length+1))
   refine VV.sl (o:=0) (l:=(jF e.place (x::l) H).1) (own:=.ro) (by simp) ⟨fun q h=>(by cases h),rfl⟩ (by rw [zx.zQ,if_pos rfl]) (by omega) (by rw [List.toList_toArray,Zu];rfl) (fun i hi=>?_)
   rw [Nat.zero_add,List.toList_toArray]
   exact (h2.2 i).qE hL
def Args.ZW:(l:List (Bool×Ty))→Args l→List Value
 | [],_=>[]
 | (b,c)::l,(x,xs)=>kL b (c.ZW x)::Args.ZW l xs
theorem aa7 {H:zx} {b:Bool} {cs cs':List Value} (h:L0 M0 H cs cs'):V0 M0 H (kL b cs) (kL b cs'):=by
 unfold kL
 split
 ·
  exact Jd h
 ·
  rw [kW,kW];exact h.2 0
theorem Args.WZ:∀ (l:List (Bool×Ty)) (x:Args l) (H:zx),Later M0 H M0 (Args.place l x H).2∧L0 M0 (Args.place l x H).2 (Args.ZW l x) (Args.place l x H).1:=by
 intro l
 induction l with
 | nil=>intro x H;exact ⟨Later.refl _ _,VL.nil⟩
 | cons p l ih =>
  obtain ⟨b,c⟩:=p
  rintro ⟨x,xs⟩ H
  obtain ⟨h1,h2⟩:=c.WZ x H
  obtain ⟨h3,h4⟩:=ih xs (c.place x H).2
  exact ⟨h1.trans h3,VL.cons ((aa7 h2).qE h3) h4⟩
theorem Qy (hO:abz P O) {f:FuncId} {codes:List (Bool×Ty)} {x:Args codes} {S':zx} (h:zS P O f (Args.ZW codes x) zx.empty=some (.bool true,S')) :
  ∃ k,(qJ P k f (Args.place codes x zx.empty).1 (Args.place codes x zx.empty).2).map (·.1)=some (.bool true):=by
 obtain ⟨h1,h2⟩:=Args.WZ codes x zx.empty
 obtain ⟨a,H',μ',ω',k1,k2,k3,k4,k5,k6⟩:=adp hO f _ _ _ _ _ h M0 _ W0 GI.none h2 (fun r s hs=>by cases hs) (fun r s hs=>by cases hs)
 have:a=.bool true:=zT (k6.v0) rfl
 subst this
 exact XB k1
end
end Go.Abs
namespace Go.Abs
open Go.RowKit
section
variable {R:Type} {P:Program} {O:Ora} {fx:Fx} {hp nm:Bool} {chk:List Nat} {call:FuncId→List Value→M Value} {ops:Array Oper}
def okC (v:Value) (r:Option R):Option R:=if okq 3 v=true then r else none
@[simp] theorem Ku (b:Bool) (r:Option R):okC (.bool b) r=r:=Eq.trans rfl rfl
@[simp] theorem VN (k:IntKind) (n:Int) (r:Option R):okC (.int k n) r=r:=Eq.trans rfl rfl
@[simp] theorem JG (s:ByteArray) (r:Option R):okC (.string s) r=r:=Eq.trans rfl rfl
@[simp] theorem YT (a:Option Addr) (n c:Nat) (r:Option R):okC (.slice a n c) r=r:=Eq.trans rfl rfl
@[simp] theorem YV (k:Nat) (v:Value) (r:Option R):okC (.iface k v) r=r:=Eq.trans rfl rfl
@[simp] theorem ac9 (a:Option Addr) (r:Option R):okC (.pointer a) r=r:=Eq.trans rfl rfl
def gdC (v:Value) (b:Bool) (s:M Value) (S:zx) (K:Value→zx→Option R):Option R :=
 if (vb v == some b)=true then andThen (s S) (fun v S1=>okC v (K v S1)) else K zh S
@[simp] theorem abP (s:M Value) (H:zx) (K:Value→zx→Option R):gdC (.bool true) true s H K=andThen (s H) (fun v S1=>okC v (K v S1)):=Eq.trans rfl rfl
@[simp] theorem acv (s:M Value) (H:zx) (K:Value→zx→Option R):gdC (.bool false) false s H K=andThen (s H) (fun v S1=>okC v (K v S1)):=Eq.trans rfl rfl
@[simp] theorem acj (s:M Value) (H:zx) (K:Value→zx→Option R):gdC (.bool true) false s H K=K zh H:=Eq.trans rfl rfl
@[simp] theorem ab9 (s:M Value) (H:zx) (K:Value→zx→Option R):gdC (.bool false) true s H K=K zh H:=Eq.trans rfl rfl
@[simp] theorem abW (s:M Value) (b:Bool) (H:zx) (K:Value→zx→Option R):gdC zh b s H K=K zh H:=Eq.trans rfl rfl
abbrev Zv {α:Type} (a:α):Type:=Unit
def zU (s:Option (Value×zx)) (K:Value→zx→Option R) (p:Zv K):Option R:=andThen s K
def gdK (v:Value) (b:Bool) (s:M Value) (S:zx) (K:Value→zx→Option R) (p:Zv K):Option R:=gd v b s S K
def adO (v:Value) (b:Bool) (s:M Value) (S:zx) (K:Value→zx→Option R) (p:Zv K):Option R:=gdC v b s S K
def okK (v:Value) (r:Option R) (p:Zv r):Option R:=okC v r
@[simp] theorem Yv (v:Value) (H:zx) (K:Value→zx→Option R) (p:Zv K):zU (some (v,H)) K p=K v H:=Eq.trans rfl rfl
@[simp] theorem aco (s:M Value) (H:zx) (K:Value→zx→Option R) (p:Zv K):gdK (.bool true) true s H K p=zU (s H) K p:=Eq.trans rfl rfl
@[simp] theorem ace (s:M Value) (H:zx) (K:Value→zx→Option R) (p:Zv K):gdK (.bool false) false s H K p=zU (s H) K p:=Eq.trans rfl rfl
@[simp] theorem abY (s:M Value) (H:zx) (K:Value→zx→Option R) (p:Zv K):gdK (.bool true) false s H K p=K zh H:=Eq.trans rfl rfl
@[simp] theorem ab6 (s:M Value) (H:zx) (K:Value→zx→Option R) (p:Zv K):gdK (.bool false) true s H K p=K zh H:=Eq.trans rfl rfl
@[simp] theorem ab3 (s:M Value) (b:Bool) (H:zx) (K:Value→zx→Option R) (p:Zv K):gdK zh b s H K p=K zh H:=Eq.trans rfl rfl
@[simp] theorem X8 (s:M Value) (H:zx) (K:Value→zx→Option R) (p:Zv K):adO (.bool true) true s H K p=zU (s H) (fun v S1=>okK v (K v S1) ()) ():=Eq.trans rfl rfl
@[simp] theorem aas (s:M Value) (H:zx) (K:Value→zx→Option R) (p:Zv K):adO (.bool false) false s H K p=zU (s H) (fun v S1=>okK v (K v S1) ()) ():=Eq.trans rfl rfl
@[simp] theorem XZ (s:M Value) (H:zx) (K:Value→zx→Option R) (p:Zv K):adO (.bool true) false s H K p=K zh H:=Eq.trans rfl rfl
@[simp] theorem aad (s:M Value) (H:zx) (K:Value→zx→Option R) (p:Zv K):adO (.bool false) true s H K p=K zh H:=Eq.trans rfl rfl
@[simp] theorem Vm (s:M Value) (b:Bool) (H:zx) (K:Value→zx→Option R) (p:Zv K):adO zh b s H K p=K zh H:=Eq.trans rfl rfl
@[simp] theorem Kt (b:Bool) (r:Option R) (p:Zv r):okK (.bool b) r p=r:=Eq.trans rfl rfl
@[simp] theorem V9 (k:IntKind) (n:Int) (r:Option R) (p:Zv r):okK (.int k n) r p=r:=Eq.trans rfl rfl
@[simp] theorem Wj (s:ByteArray) (r:Option R) (p:Zv r):okK (.string s) r p=r:=Eq.trans rfl rfl
@[simp] theorem YW (a:Option Addr) (n c:Nat) (r:Option R) (p:Zv r):okK (.slice a n c) r p=r:=Eq.trans rfl rfl
@[simp] theorem Ji (a:Option Addr) (r:Option R) (p:Zv r):okK (.pointer a) r p=r:=Eq.trans rfl rfl
theorem aaD {l rest:List Oper} {o:Oper} {T:List Value} {T1:Value→List Value} {S:zx} {v:Value} {r:Option (List Value×zx)} (hl:l=o::rest) (hg:o.guard=none) (hm:∀ v,kF o rest T v=T1 v)
  (hs:jR P fx call T o S=some (v,S)) (hK:jg P fx call ops rest (T1 v) S=r):jg P fx call ops l T S=r:=by
 subst hl
 simp only [jg,Region.wanted,hg,if_true,hs,hm]
 exact hK
theorem acO {l rest:List Oper} {o:Oper} {T:List Value} {T1:Value→List Value} {S:zx} {s:Option (Value×zx)} {K:Value→zx→Option (List Value×zx)} (hl:l=o::rest) (hg:o.guard=none) (hm:∀ v,kF o rest T v=T1 v)
  (hs:jR P fx call T o S=s) (hK:∀ v S1,jg P fx call ops rest (T1 v) S1=K v S1):jg P fx call ops l T S=zU s K ():=by
 show _=andThen s K
 subst hl hs
 simp only [jg,Region.wanted,hg,if_true,hm,hK]
 rfl
theorem ac1 {l rest:List Oper} {o:Oper} {T:List Value} {T1:Value→List Value} {S:zx} {j:Nat} {b:Bool} {g:Value} {s:M Value} {K:Value→zx→Option (List Value×zx)} (hl:l=o::rest) (hg:o.guard=some (j,b)) (hm:∀ v,kF o rest T v=T1 v)
  (hy:ynd ops T j=vb g) (hs:jR P fx call T o S=s S) (hK:∀ v S1,jg P fx call ops rest (T1 v) S1=K v S1):jg P fx call ops l T S=gdK g b s S K ():=by
 show _=gd g b s S K
 subst hl
 simp only [jg,Region.wanted,hg,hy,hs,hm,hK,gd]
 rfl
theorem abb {l rest:List Oper} {o:Oper} {T:List Value} {T1:Value→List Value} {S:zx} {k:Nat} {s:Option (Value×zx)} {K:Value→zx→Option (List Value×zx)} (hc:chk.contains k=false) (hl:l=o::rest) (hg:o.guard=none) (hm:∀ v,kF o rest T v=T1 v)
  (hs:jR P fx call T o S=s) (hK:∀ v S1,jK P fx chk [] call ops (k+1) [] rest (T1 v) S1=K v S1):jK P fx chk [] call ops k [] l T S=zU s K ():=by
 show _=andThen s K
 subst hl hs
 simp only [jK,qC,List.isEmpty_nil,if_true,Region.wanted,hg,if_true,hm,hK,hc,Bool.not_false,Bool.true_or]
 rfl
theorem XM {l rest:List Oper} {o:Oper} {T:List Value} {T1:Value→List Value} {S:zx} {k:Nat} {v:Value} {r:Option (List Value×zx)} (hc:chk.contains k=false) (hl:l=o::rest) (hg:o.guard=none) (hm:∀ v,kF o rest T v=T1 v)
  (hs:jR P fx call T o S=some (v,S)) (hK:jK P fx chk [] call ops (k+1) [] rest (T1 v) S=r):jK P fx chk [] call ops k [] l T S=r:=by
 subst hl
 simp only [jK,qC,List.isEmpty_nil,if_true,Region.wanted,hg,if_true,hs,hm,hc,Bool.not_false,Bool.true_or]
 exact hK
theorem abg {l rest:List Oper} {o:Oper} {T:List Value} {T1:Value→List Value} {S:zx} {j k:Nat} {b:Bool} {g:Value} {s:M Value} {K:Value→zx→Option (List Value×zx)} (hc:chk.contains k=false) (hl:l=o::rest) (hg:o.guard=some (j,b)) (hm:∀ v,kF o rest T v=T1 v)
  (hy:ynd ops T j=vb g) (hs:jR P fx call T o S=s S) (hK:∀ v S1,jK P fx chk [] call ops (k+1) [] rest (T1 v) S1=K v S1):jK P fx chk [] call ops k [] l T S=gdK g b s S K ():=by
 show _=gd g b s S K
 subst hl
 simp only [jK,qC,List.isEmpty_nil,if_true,Region.wanted,hg,hy,hs,hm,hK,gd,hc,Bool.not_false,Bool.true_or,if_true]
 rfl
theorem aa2 {l rest:List Oper} {o:Oper} {T:List Value} {T1:Value→List Value} {S:zx} {k:Nat} {s:Option (Value×zx)} {K:Value→zx→Option (List Value×zx)} (hc:chk.contains k=false) {x:Nat×Nat} {nl:List (Nat×Nat)} {hist:List (Value×zx)} {pe:Value} (hpe:y9 T o=pe) (hl:l=o::rest) (hg:o.guard=none) (hm:∀ v,kF o rest T v=T1 v)
  (hs:jR P fx call T o S=s) (hK:∀ v S1,jK P fx chk (x::nl) call ops (k+1) (hist++[(pe,S)]) rest (T1 v) S1=K v S1):jK P fx chk (x::nl) call ops k hist l T S=zU s K ():=by
 show _=andThen s K
 subst hl hs
 simp only [jK,qC,List.isEmpty_cons,Bool.false_eq_true,if_false,hpe,Region.wanted,hg,if_true,hm,hK,hc,Bool.not_false,Bool.true_or]
 rfl
theorem V5 {l rest:List Oper} {o:Oper} {T:List Value} {T1:Value→List Value} {S:zx} {k:Nat} {s:Option (Value×zx)} {K:Value→zx→Option (List Value×zx)} (hc:chk.contains k=true) {x:Nat×Nat} {nl:List (Nat×Nat)} {hist:List (Value×zx)} {pe:Value} (hpe:y9 T o=pe) (hl:l=o::rest) (hg:o.guard=none) (hm:∀ v,kF o rest T v=T1 v)
  (hs:jR P fx call T o S=s) (hK:∀ v S1,jK P fx chk (x::nl) call ops (k+1) (hist++[(pe,S)]) rest (T1 v) S1=K v S1):jK P fx chk (x::nl) call ops k hist l T S=zU s (fun v S1=>okK v (K v S1) ()) ():=by
 show _=andThen s (fun v S1=>okC v (K v S1))
 subst hl hs
 simp only [jK,qC,List.isEmpty_cons,Bool.false_eq_true,if_false,hpe,Region.wanted,hg,if_true,hm,hK,hc,Bool.not_true,Bool.false_or]
 rfl
theorem Xr {l rest:List Oper} {o:Oper} {T:List Value} {T1:Value→List Value} {S:zx} {k:Nat} {v:Value} {r:Option (List Value×zx)} (hc:chk.contains k=false) {x:Nat×Nat} {nl:List (Nat×Nat)} {hist:List (Value×zx)} {pe:Value} (hpe:y9 T o=pe) (hl:l=o::rest) (hg:o.guard=none) (hm:∀ v,kF o rest T v=T1 v)
  (hs:jR P fx call T o S=some (v,S)) (hK:jK P fx chk (x::nl) call ops (k+1) (hist++[(pe,S)]) rest (T1 v) S=r):jK P fx chk (x::nl) call ops k hist l T S=r:=by
 subst hl
 simp only [jK,qC,List.isEmpty_cons,Bool.false_eq_true,if_false,hpe,Region.wanted,hg,if_true,hs,hm,hc,Bool.not_false,Bool.true_or]
 exact hK
theorem QV {l rest:List Oper} {o:Oper} {T:List Value} {T1:Value→List Value} {S:zx} {k:Nat} {v:Value} {r:Option (List Value×zx)} (hc:chk.contains k=true) {x:Nat×Nat} {nl:List (Nat×Nat)} {hist:List (Value×zx)} {pe:Value} (hpe:y9 T o=pe) (hl:l=o::rest) (hg:o.guard=none) (hm:∀ v,kF o rest T v=T1 v)
  (hs:jR P fx call T o S=some (v,S)) (hK:jK P fx chk (x::nl) call ops (k+1) (hist++[(pe,S)]) rest (T1 v) S=r):jK P fx chk (x::nl) call ops k hist l T S=okK v r ():=by
 show _=okC v r
 subst hl
 simp only [jK,qC,List.isEmpty_cons,Bool.false_eq_true,if_false,hpe,Region.wanted,hg,if_true,hs,hm,hc,Bool.not_true,Bool.false_or]
 rw [← hK]
 rfl
def ckK (c:Bool) (r:Option R) (p:Zv r):Option R:=if c then r else none
@[simp] theorem Q8 (r:Option R) (p:Zv r):ckK true r p=r:=Eq.trans rfl rfl
noncomputable def ado (P:Program) (O:Ora) (hp:Bool) (v:Value) (x y:Code) (T:List Value) (S:zx):St:=aa5 v (zD P O hp x T S) (zD P O hp y T S)
@[simp] theorem JX (x y:Code) (T:List Value) (S:zx):ado P O hp (.bool true) x y T S=zD P O hp x T S:=Eq.trans rfl rfl
@[simp] theorem ZU (x y:Code) (T:List Value) (S:zx):ado P O hp (.bool false) x y T S=zD P O hp y T S:=Eq.trans rfl rfl
@[simp] theorem ZO (T:List Value) (H:zx):zD P O hp .skip T H=some (.normal,T,H):=Eq.trans rfl rfl
@[simp] theorem JV (T:List Value) (H:zx):zD P O hp .ret T H=some (.ret,T,H):=Eq.trans rfl rfl
@[simp] theorem Z7 (i:Nat) (T:List Value) (H:zx):zD P O hp (.exit i) T H=some (.exit i,T,H):=Eq.trans rfl rfl
@[simp] theorem vF (i:Nat) (ops:Array Oper) (T:List Value) (H:zx):zD P O false (.region i ops false) T H=YP (jg P ⟨false,false,false⟩ (zS P O) ops ops.toList T H):=Eq.trans rfl rfl
@[simp] theorem xk (i:Nat) (ops:Array Oper) (T:List Value) (H:zx):zD P O true (.region i ops false) T H=YP (jg P ⟨true,false,false⟩ (yH O.hp true (zS P O)) ops ops.toList T H):=Eq.trans rfl rfl
theorem kP {i:Nat} {ops:Array Oper} (hd:qy P ops=true) (hf:fixed P ops=nm) (hc:checked P ops=chk) {nl:List (Nat×Nat)} (hn:again P ops=nl) (T:List Value) (H:zx):zD P O false (.region i ops true) T H=YP (jK P ⟨false,!chk.isEmpty,nm⟩ chk nl (zS P O) ops 0 [] ops.toList T H):=by
 subst hf hc hn
 simp only [zD,hd,if_true,yH]
 rfl
theorem xQ {i:Nat} {ops:Array Oper} (hd:qy P ops=true) (hf:fixed P ops=nm) (hc:checked P ops=chk) {nl:List (Nat×Nat)} (hn:again P ops=nl) (T:List Value) (H:zx):zD P O true (.region i ops true) T H=YP (jK P ⟨true,!chk.isEmpty,nm⟩ chk nl (yH O.hp true (zS P O)) ops 0 [] ops.toList T H):=by
 subst hf hc hn
 simp only [zD,hd,if_true]
 rfl
@[simp] theorem JJ (x y:Code) (T:List Value) (H:zx):zD P O hp (.seq x y) T H=aej (zD P O hp x T H) (zD P O hp y):=Eq.trans rfl rfl
@[simp] theorem Zy (i:Nat) (c:Code) (T:List Value) (H:zx):zD P O hp (.block i c) T H=Y7 i (zD P O hp c T H):=Eq.trans rfl rfl
@[simp] theorem Jq (c:Code) (T:List Value) (H:zx):zD P O hp (.loop c) T H=yG (zD P O hp c) T H:=Eq.trans rfl rfl
@[simp] theorem Jl (t:Tmp) (x y:Code) (T:List Value) (H:zx):zD P O hp (.cond (.tmp t) x y) T H=ado P O hp (T.getD t zh) x y T H:=by
 simp only [zD,yh,if_true,zJ]
 rfl
@[simp] theorem YR:dem zh=zh:=kH
@[simp] theorem X7 (k:IntKind) (n:Int):dem (.int k n)=.int k n:=Eq.trans rfl rfl
@[simp] theorem KX (b:Bool):dem (.bool b)=.bool b:=Eq.trans rfl rfl
@[simp] theorem J3 (s:ByteArray):dem (.string s)=.string s:=Eq.trans rfl rfl
@[simp] theorem Vt:dem (.slice none 0 0)=.slice none 0 0:=Eq.trans rfl rfl
@[simp] theorem VE (x:Array Value):dem (.agg x)=.agg x:=Eq.trans rfl rfl
@[simp] theorem qW (f:Fn) (x c:Array Value):dem (.func f x c)=.func f x c:=Eq.trans rfl rfl
@[simp] theorem ZM (a:Option Addr):dem (.pointer a)=.pointer a:=Eq.trans rfl rfl
@[simp] theorem aeB (e n:Nat) (cs:List Value):dem (SL 1 e n cs)=SL 1 e n cs:=Eq.trans rfl rfl
@[simp] theorem aeC (e n:Nat) (cs:List Value):dem (SL 2 e n cs)=SL 1 e n cs:=Eq.trans rfl rfl
@[simp] theorem acy (k e n:Nat) (cs:List Value) (r:Option R) (p:Zv r):okK (SL k e n cs) r p=r:=Eq.trans rfl rfl
@[simp] theorem ab4 (cs:List Value) (r:Option R) (p:Zv r):okK (EP cs) r p=r:=Eq.trans rfl rfl
@[simp] theorem aeJ (k e n:Nat) (cs:List Value) (r:Option R):okC (SL k e n cs) r=r:=Eq.trans rfl rfl
@[simp] theorem acp (cs:List Value) (r:Option R):okC (EP cs) r=r:=Eq.trans rfl rfl
def sv (k e n:Nat) (cs:List Value):Value:=if k=0 then .slice none 0 0 else SL k e n cs
structure Okv (k n:Nat) (cs:List Value):Prop where
 le:k≤2
 nil:k=0→n=0∧cs=[]
theorem sv0 {e n:Nat} {cs:List Value}:sv 0 e n cs=.slice none 0 0:=rfl
theorem sv1 {e n:Nat} {cs:List Value}:sv 1 e n cs=SL 1 e n cs:=rfl
theorem sv2 {e n:Nat} {cs:List Value}:sv 2 e n cs=SL 2 e n cs:=rfl
@[simp] theorem aaB (k e n:Nat) (cs:List Value):dem (sv k e n cs)=sv (if k=2 then 1 else k) e n cs:=by
 unfold sv
 by_cases h0:k=0
 ·
  subst h0;rfl
 ·
  by_cases h2:k=2
  ·
   subst h2;rfl
  ·
   rw [if_neg h0,if_neg h2,if_neg h0]
   simp only [SL,dem,qA,if_neg h2]
@[simp] theorem YL (k e n:Nat) (cs:List Value) (r:Option R):okC (sv k e n cs) r=r:=by
 unfold sv;split <;> rfl
@[simp] theorem aci (k e n:Nat) (cs:List Value) (r:Option R) (p:Zv r):okK (sv k e n cs) r p=r:=YL k e n cs r
theorem abO {k e n:Nat} {cs:List Value} (h:Okv k n cs):∃ e',vSl (sv k e n cs)=some (e',n,cs)∧(e'=e∨n=0∧cs=[]):=by
 unfold sv
 by_cases h0:k=0
 ·
  obtain ⟨rfl,rfl⟩:=h.nil h0
  rw [if_pos h0]
  exact ⟨0,rfl,.inr ⟨rfl,rfl⟩⟩
 ·
  rw [if_neg h0]
  have:k=1∨k=2:=by have:=h.le;omega
  exact ⟨e,by simp [SL,vSl,this],.inl rfl⟩
theorem acW {t te:TypeId} {k e n:Nat} {cs:List Value} {S:zx} (ht:P.underlying t=some (.slice te)) (h:Okv k n cs):vg P t (sv k e n cs) S=some (goInt n,S):=by
 by_cases h0:k=0
 ·
  obtain ⟨rfl,rfl⟩:=h.nil h0
  subst h0
  simp only [sv0,vg,YZ,ht]
 ·
  obtain ⟨e',h1,_⟩:=abO (e:=e) h
  simp only [sv,if_neg h0] at h1 ⊢
  simp only [SL] at h1 ⊢
  simp only [vg,ht,h1]
theorem Yb {t te:TypeId} {k e n:Nat} {cs:List Value} {S:zx} {ki:IntKind} {i:Int} (ht:P.underlying t=some (.slice te)) (he:qc P te=some e) (h:Okv k n cs) (h0:0≤i) (hi:i < n) :
  zZ P t (sv k e n cs) (.int ki i) S=some (EP ((cs.drop (i.toNat * e)).take e),S):=by
 have hk:k≠0:=fun e=>by have:=(h.nil e).1;omega
 have hk2:k=1∨k=2:=by have:=h.le;omega
 have h1:vSl (SL k e n cs)=some (e,n,cs):=by simp [SL,vSl,hk2]
 simp only [sv,if_neg hk]
 simp only [SL] at h1 ⊢
 simp only [zZ,ht,h1,he,if_true]
 rw [if_pos ⟨h0,hi⟩]
@[simp] theorem VY {t:TypeId} {v:Value} {S:zx} (ht:yQ P t=some false):jd P nm t (EP [v]) S=some (v,S):=by
 simp [EP,jd,ht]
theorem YH {t:TypeId} {n:Nat} {cs:List Value} {S:zx} (ht:yQ P t=some true) (hn:qc P t=some n) (hc:cs.length=n):jd P nm t (EP cs) S=some (.agg cs.toArray,S):=by
 simp only [EP,jd,ht,hn,if_true,List.toList_toArray]
 rw [if_pos (by omega),← hc,List.take_length]
@[simp] theorem WM (k e n:Nat) (cs:List Value):ZF (sv k e n cs)=false:=by unfold sv;split <;> rfl
@[simp] theorem Zn (dr:Bool) (t:TypeId) (k e n:Nat) (cs:List Value) (lo hi:Option Value) (S:zx):yS P dr t (sv k e n cs) lo hi S=Wi P t (sv k e n cs) lo hi S:=by
 unfold yS;rw [WM];rfl
@[simp] theorem xq (dr:Bool) (t:TypeId) (s:ByteArray) (lo hi:Option Value) (S:zx):yS P dr t (.string s) lo hi S=Wi P t (.string s) lo hi S:=Eq.trans rfl rfl
@[simp] theorem ZN (hp dr:Bool) (src dst:TypeId) (k e n:Nat) (cs:List Value) (S:zx):qP P hp dr src dst (sv k e n cs) S=Jp P src dst (sv k e n cs) S:=by
 unfold qP
 rw [WM]
 have:∀ s,sv k e n cs≠.string s:=by intro s;unfold sv;split <;> (intro h;cases h)
 cases hp <;> simp only [Bool.false_eq_true,if_false] <;> (split <;> first | rfl | (rename_i h;exact absurd h (this _)) | skip)
@[simp] theorem JD (hp dr:Bool) (src dst:TypeId) (k:IntKind) (n:Int) (S:zx):qP P hp dr src dst (.int k n) S=Jp P src dst (.int k n) S:=by cases hp <;> rfl
@[simp] theorem vY (dr:Bool) (src dst:TypeId) (s:ByteArray) (S:zx):qP P false dr src dst (.string s) S=Jp P src dst (.string s) S:=Eq.trans rfl rfl
@[simp] theorem xE (dr:Bool) (src dst:TypeId) (s:ByteArray) (S:zx):qP P true dr src dst (.string s) S=wB P src dst (.string s) S:=Eq.trans rfl rfl
theorem XC {t te tx tex:TypeId} {k e n j m bytes:Nat} {cs ds:List Value} {z:Value} {S:zx} (ht:P.underlying t=some (.slice te)) (he:qc P te=some e) (hz:zeroOf P te=some z) (hzs:z.cells.size=e) (hb:bytesOf P te=some bytes) (hp:0 < e)
  (htx:P.underlying tx=some (.slice tex)) (h:Okv k n cs) (hk:k≠1) (hx:Okv j m ds) (hn:cs.length=n * e) (hm:ds.length=m * e) (h1:cs.all (·.oneCell')=true) (h2:ds.all (·.oneCell')=true) (hl:(n+m) * bytes≤140737488355328) (hmax:n+m≤4611686018427387903) :
  kM P t tx (sv k e n cs) (sv j e m ds) S=some (sv (if k=0∧m=0 then 0 else 2) e (n+m) (cs++ds),S):=by
 have hel:wJ P t=some te:=by simp only [wJ,ht]
 have hsrc:aem P tx e (sv j e m ds)=some (m,ds):=by
  obtain ⟨e',q1,q2⟩:=abO (e:=e) hx
  have hns:∀ s,sv j e m ds≠.string s:=by intro s;unfold sv;split <;> (intro h;cases h)
  have hcond:m=0∨e'=e:=q2.elim .inr fun h=>.inl h.1
  unfold aem
  split
  ·
   rename_i s hs;exact absurd hs (hns s)
  ·
   simp only [htx,q1,if_pos hcond,if_pos hm,h2,if_true]
 have hsrc:ZP P tx e (sv j e m ds) S=some (m,ds):=by
  unfold ZP
  rw [WM]
  exact hsrc
 by_cases hk0:k=0
 ·
  obtain ⟨rfl,rfl⟩:=h.nil hk0
  subst hk0
  simp only [sv0,kM,wY,hel,he,hz,hb,if_pos hp,if_pos hzs,hsrc]
  by_cases hm0:m=0
  ·
   subst hm0
   simp [sv0]
  ·
   rw [Nat.zero_add] at hl hmax
   rw [if_neg hm0,if_pos hl,if_pos hmax,if_neg Bool.false_ne_true,if_neg (fun h=>hm0 h.2),sv2,Nat.zero_add,List.nil_append]
 ·
  have hk2:k=2:=by have:=h.le;omega
  subst hk2
  rw [if_neg (fun h=>hk0 h.1)]
  have h1':cs.toArray.toList.all (·.oneCell')=true:=by simpa using h1
  simp only [sv2,SL,kM,wY,hel,he,hz,hb,if_pos hp,if_pos hzs,hsrc,if_true,if_pos hl,if_pos hmax,h1']
@[simp] theorem Q9 (op:BinOp) (t:TypeId) (k k':IntKind) (a b:Int) (S:zx):wX P op t (.int k a) (.int k' b) S=xC P op t (.int k a) (.int k' b) S:=Eq.trans rfl rfl
@[simp] theorem ZR (op:BinOp) (t:TypeId) (a b:ByteArray) (S:zx):wX P op t (.string a) (.string b) S=xC P op t (.string a) (.string b) S:=Eq.trans rfl rfl
@[simp] theorem YF (op:BinOp) (t:TypeId) (a b:Bool) (S:zx):wX P op t (.bool a) (.bool b) S=xC P op t (.bool a) (.bool b) S:=Eq.trans rfl rfl
@[simp] theorem KG (op:BinOp) (t:TypeId) (a b:Array Value) (S:zx):wX P op t (.agg a) (.agg b) S=xC P op t (.agg a) (.agg b) S:=Eq.trans rfl rfl
@[simp] theorem JI (b:Bool) (x y:Value) (S:zx):qm (.bool b) x y S=some (if b then dem x else dem y,S):=Eq.trans rfl rfl
@[simp] theorem Qc {src dst:TypeId} (k:IntKind) (n:Int) (S:zx):Jp P src dst (.int k n) S=wB P src dst (.int k n) S:=Eq.trans rfl rfl
@[simp] theorem xu (vs:List Value) (i:Nat) (S:zx):zO (.tuple vs.toArray) i S=(vs[i]?).map (·,S):=by
 simp only [zO,List.getElem?_toArray]
 cases vs[i]? <;> rfl
end
end Go.Abs
namespace Go.Abs
theorem jD {P:Program} {fn:Func} {a:Value} {T:List Value} {S:zx} (h:zH P T S fn.results.toList=some [a]) (hn:adH fn.results.toList=true):aaM P fn T S=some (a,S):=by
 unfold aaM
 rw [h]
 dsimp only
 rw [if_pos hn]
@[simp] theorem abU (k:IntKind) (n:Int):yU (.int k n)=true:=rfl
@[simp] theorem aaU (b:Bool):yU (.bool b)=true:=rfl
@[simp] theorem QF (k e n:Nat) (cs:List Value):yU (sv k e n cs)=true:=by unfold sv;split <;> rfl
@[simp] theorem ab7 (x:Array Value):yU (.agg x)=true:=rfl
@[simp] theorem aaN (a:Option Addr) (n c:Nat):yU (.slice a n c)=true:=rfl
end Go.Abs
namespace Go.Abs
open Go.RowKit
def vs {α:Type} (f:α→List Value) (e k:Nat) (l:List α):Value:=sv k e l.length (l.flatMap f)
structure Okl {α:Type} (k:Nat) (l:List α):Prop where
 le:k≤2
 nil:k=0→l=[]
theorem Okl.own {α:Type} {l:List α}:Okl 2 l:=⟨Nat.le_refl 2,(fun h=>by cases h)⟩
theorem Okl.read {α:Type} {l:List α}:Okl 1 l:=⟨by omega,(fun h=>by cases h)⟩
theorem Okl.none {α:Type}:Okl 0 ([]:List α):=⟨by omega,fun _=>rfl⟩
theorem Okl.dem {α:Type} {k:Nat} {l:List α} (h:Okl k l):Okl (if k=2 then 1 else k) l:=⟨by have:=h.le;split <;> omega,fun hk=>h.nil (by split at hk <;> omega)⟩
def cb (b:UInt8):List Value:=[.int .u8 b.toNat]
def ci (n:Int):List Value:=[.int .i64 n]
section
variable {R α:Type} {P:Program} {f:α→List Value} {e k j:Nat} {l m:List α} {t te tx tex:TypeId} {S:zx}
theorem Okl.okv (h:Okl k l):Okv k l.length (l.flatMap f):=⟨h.le,fun h0=>by rw [h.nil h0];exact ⟨rfl,rfl⟩⟩
theorem jB (hf:∀ x,(f x).length=e) (l:List α):(l.flatMap f).length=l.length * e:=by
 induction l with
 | nil=>simp
 | cons x l ih=>simp only [List.flatMap_cons,List.length_append,hf,ih,List.length_cons,Nat.add_mul];omega
theorem Zx (hf:∀ x,(f x).length=e) (l:List α):∀ (i:Nat),(l.flatMap f).drop (i * e)=(l.drop i).flatMap f:=by
 induction l with
 | nil=>intro i;simp
 | cons x l ih =>
  intro i
  cases i with
  | zero=>simp
  | succ i =>
   rw [List.flatMap_cons,List.drop_succ_cons,← ih i,List.drop_append,List.drop_eq_nil_of_le (by rw [hf,Nat.add_mul];omega),List.nil_append,hf]
   congr 1
   rw [Nat.add_mul];omega
theorem Zz (hf:∀ x,(f x).length=e) (l:List α):∀ (i:Nat),(l.flatMap f).take (i * e)=(l.take i).flatMap f:=by
 induction l with
 | nil=>intro i;simp
 | cons x l ih =>
  intro i
  cases i with
  | zero=>simp
  | succ i =>
   rw [List.flatMap_cons,List.take_succ_cons,List.flatMap_cons,← ih i,List.take_append,List.take_of_length_le (by rw [hf,Nat.add_mul];omega),hf]
   congr 2
   rw [Nat.add_mul];omega
@[simp] theorem acw:dem (vs f e k l)=vs f e (if k=2 then 1 else k) l:=aaB _ _ _ _
@[simp] theorem acz (r:Option R):okC (vs f e k l) r=r:=YL _ _ _ _ _
@[simp] theorem acd (r:Option R) (p:Zv r):okK (vs f e k l) r p=r:=YL _ _ _ _ _
@[simp] theorem aev:ZF (vs f e k l)=false:=WM _ _ _ _
@[simp] theorem JB (dr:Bool) (lo hi:Option Value):yS P dr t (vs f e k l) lo hi S=Wi P t (vs f e k l) lo hi S:=Zn _ _ _ _ _ _ _ _ _
@[simp] theorem Yy (hp dr:Bool) (src dst:TypeId):qP P hp dr src dst (vs f e k l) S=Jp P src dst (vs f e k l) S:=ZN _ _ _ _ _ _ _ _ _
@[simp] theorem adb:yU (vs f e k l)=true:=QF _ _ _ _
theorem V4 (ht:P.underlying t=some (.slice te)) (h:Okl k l):vg P t (vs f e k l) S=some (goInt l.length,S):=acW ht h.okv
theorem adh {ki:IntKind} {i:Int} (ht:P.underlying t=some (.slice te)) (he:qc P te=some e) (hf:∀ x,(f x).length=e) (h:Okl k l) (h0:0≤i) (hi:i < l.length) :
  zZ P t (vs f e k l) (.int ki i) S=some (EP (f (l[i.toNat]'(by omega))),S):=by
 unfold vs
 rw [Yb ht he h.okv h0 hi,Zx hf]
 have hlt:i.toNat < l.length:=by omega
 have:=Zz hf (l.drop i.toNat) 1
 rw [Nat.one_mul] at this
 rw [this,List.drop_eq_getElem_cons hlt,List.take_succ_cons,List.take_zero,List.flatMap_cons,List.flatMap_nil,List.append_nil]
theorem Vz {bytes:Nat} {z:Value} (ht:P.underlying t=some (.slice te)) (he:qc P te=some e) (hz:zeroOf P te=some z) (hzs:z.cells.size=e) (hb:bytesOf P te=some bytes) (hp:0 < e) (htx:P.underlying tx=some (.slice tex))
  (hf:∀ x,(f x).length=e) (h1:∀ x,(f x).all (·.oneCell')=true) (h:Okl k l) (hk:k≠1) (hm:Okl j m) (hl:(l.length+m.length) * bytes≤140737488355328) (hmax:l.length+m.length≤4611686018427387903) :
  kM P t tx (vs f e k l) (vs f e j m) S=some (vs f e (if k=0∧m.length=0 then 0 else 2) (l++m),S):=by
 have hone:∀ l:List α,(l.flatMap f).all (·.oneCell')=true:=by
  intro l
  rw [List.all_flatMap,List.all_eq_true]
  exact fun x _=>h1 x
 unfold vs
 rw [XC ht he hz hzs hb hp htx h.okv hk hm.okv (jB hf l) (jB hf m) (hone l) (hone m) hl hmax,List.flatMap_append,List.length_append]
theorem aek (x:Int):(ci x).length=1:=rfl
theorem zW {v:Value} {i j:Nat} {S:zx} (h:j≠i):zO (jP j v) i S=zO v i S:=by
 cases v with
 | tuple vs=>simp only [jP,zO,Array.getElem?_modify,if_neg h]
 | _=>rfl
theorem X5 {v:Value} {S:zx}:zO (jP 0 v) 1 S=zO v 1 S:=zW (by decide)
theorem aaC {v:Value} {S:zx}:zO (jP 0 v) 2 S=zO v 2 S:=zW (by decide)
theorem X0 {v:Value} {S:zx}:zO (jP 1 v) 2 S=zO v 2 S:=zW (by decide)
theorem aar {v:Value} {S:zx}:zO (jP 0 v) 3 S=zO v 3 S:=zW (by decide)
theorem aat {v:Value} {S:zx}:zO (jP 1 v) 3 S=zO v 3 S:=zW (by decide)
theorem VZ {v:Value} {S:zx}:zO (jP 2 v) 3 S=zO v 3 S:=zW (by decide)
theorem VK {v:Value} {S:zx}:zO (jP 0 v) 4 S=zO v 4 S:=zW (by decide)
theorem Vx {v:Value} {S:zx}:zO (jP 1 v) 4 S=zO v 4 S:=zW (by decide)
theorem VT {v:Value} {S:zx}:zO (jP 2 v) 4 S=zO v 4 S:=zW (by decide)
theorem X6 {v:Value} {S:zx}:zO (jP 3 v) 4 S=zO v 4 S:=zW (by decide)
theorem aam {v:Value} {S:zx}:zO (jP 0 v) 5 S=zO v 5 S:=zW (by decide)
theorem Vr {v:Value} {S:zx}:zO (jP 1 v) 5 S=zO v 5 S:=zW (by decide)
theorem VI {v:Value} {S:zx}:zO (jP 2 v) 5 S=zO v 5 S:=zW (by decide)
theorem VW {v:Value} {S:zx}:zO (jP 3 v) 5 S=zO v 5 S:=zW (by decide)
theorem XY {v:Value} {S:zx}:zO (jP 4 v) 5 S=zO v 5 S:=zW (by decide)
abbrev iz (k:Nat) (l:List Int):Value:=vs ci 1 k l
end
end Go.Abs
namespace Go.Abs
open Go.RowKit
section
variable {P:Program} {O:Ora} {c d:FuncId→List Value→M Value}
end
end Go.Abs
namespace Go.Abs
open Go.RowKit
theorem acg {n:Int} (h:(Lit.int .i64 n).wf=true):-9223372036854775808≤n∧n < 9223372036854775808:=by
 simp [Lit.wf,IntKind.min,IntKind.max,IntKind.signed,IntKind.bits] at h
 omega
theorem aew {P:Program} {hp:Bool} {ts:Array TypeId} {ty:TypeId} {k:IntKind} {a b:Int} {S:zx}:kV P hp .min ts ty [.int k a,.int k b] S=some (.int k (if b < a then b else a),S):=by
 show jv P [.int k a,.int k b] (Builtin.min_ ts ty #[.int k a,.int k b]) S=_
 exact jh rfl rfl rfl
def Jt (call:FuncId→List Value→M Value) (g:FuncId) (args:List Value):M Value:=fun S=>match yK args S with
 | some (m,S1)=>match call g m S1 with
  | some r=>some (YN S S1 args r)
  | none=>none
 | none=>none
theorem J9 {x:Value} {S:zx} (h:ZF x=false):qG x S=some (x,S):=by
 unfold qG
 split <;> first | rfl | (simp [ZF] at h)
theorem JQ:∀ {l:List Value} {S:zx},l.all (fun x=>!ZF x)=true→qH l S=some (l,S)
 | [],S,_=>rfl
 | x::l,S,h=>by
  rw [List.all_cons,Bool.and_eq_true] at h
  have h1:ZF x=false:=by simpa using h.1
  simp only [qH,J9 h1,JQ h.2]
theorem XP {x:Value} {S:zx} (h:Yh x=false):kJ x S=some (x,S):=by
 unfold kJ
 split
 ·
  rename_i cs
  have h1:cs.toList.all (fun x=>!ZF x)=true:=by
   rw [List.all_eq_true]
   intro y hy
   have:cs.toList.any ZF=false:=h
   rw [List.any_eq_false] at this
   simpa using this y hy
  rw [JQ h1]
 ·
  rename_i hne
  refine J9 ?_
  cases x <;> first | rfl | exact h | (exact absurd rfl (hne _))
theorem xM:∀ {l:List Value} {S:zx},l.all (fun x=>!Yh x)=true→yK l S=some (l,S)
 | [],S,_=>rfl
 | x::l,S,h=>by
  rw [List.all_cons,Bool.and_eq_true] at h
  have h1:Yh x=false:=by simpa using h.1
  simp only [yK,XP h1,xM h.2]
theorem aa4 {call:FuncId→List Value→M Value} {g:FuncId} {args:List Value} {S:zx} (h:args.all (fun x=>!Yh x)=true):Jt call g args S=call g args S:=by
 have hn:args.any Yh=false:=by
  rw [List.any_eq_false];intro x hx
  have:=List.all_eq_true.1 h x hx
  simpa using this
 unfold Jt;rw [xM h]
 dsimp only
 cases call g args S with
 | none=>rfl
 | some r=>dsimp only;rw [YN,hn];rfl
theorem XT {call:FuncId→List Value→M Value} {g:FuncId} {args m:List Value} {S S1 S2:zx} {v:Value} (h:yK args S=some (m,S1)) (hc:call g m S1=some (v,S2)) (ha:args.any Yh=true) (hv:ground v=true) (hl:S2.log=S1.log):Jt call g args S=some (v,S):=by
 unfold Jt;rw [h]
 dsimp only
 rw [hc]
 dsimp only
 rw [YN,ha,hv,hl,beq_self_eq_true]
 rfl
theorem Xj {q o n e:Nat} {cs:List Value} {anc:List Nat} {S:zx} (hg:S.get q=some (.cells cs (.own anc) e)) (hl:o+n * e≤cs.length):qG (.slice (some ⟨q,o,none⟩) n n) S=some (SL 1 e n ((cs.drop o).take (n * e)),S.set q .dead):=by
 unfold qG;dsimp only;rw [hg];dsimp only;rw [if_pos rfl,if_pos hl]
end Go.Abs
namespace Go.Abs
open Go.RowKit
section
variable {P:Program} {μ μ1:Mu} {S S1 H H1:zx} {ω ω1:Nat→Option wo}
structure Ext (S S1:zx):Prop where
 next:S.next≤S1.next
 get:∀ k,k < S.next→S1.get k=S.get k
 log:∃ new,S1.log=new++S.log∧∀ k ∈ new,S.next≤k
theorem Ext.refl (S:zx):Ext S S:=⟨Nat.le_refl _,fun _ _=>rfl,[],rfl,fun k h=>by cases h⟩
theorem Ext.trans {S2:zx} (h:Ext S S1) (k:Ext S1 S2):Ext S S2:=⟨Nat.le_trans h.1 k.1,fun q hq=>(k.2 q (Nat.lt_of_lt_of_le hq h.1)).trans (h.2 q hq),by
 obtain ⟨n1,e1,f1⟩:=h.log
 obtain ⟨n2,e2,f2⟩:=k.log
 refine ⟨n2++n1,by rw [e2,e1,List.append_assoc],fun q hq=>?_⟩
 rcases List.mem_append.1 hq with hq | hq
 ·
  exact Nat.le_trans h.1 (f2 q hq)
 ·
  exact f1 q hq⟩
theorem Ext.push (S:zx) (o:jZ):Ext S (S.push o):=⟨by simp,fun k hk=>by rw [zx.zQ,if_neg (by omega)],[],rfl,fun k h=>by cases h⟩
theorem Ext.set {S S1:zx} (h:Ext S S1) {r:Nat} (hr:S.next≤r) (o:jZ):Ext S (S1.set r o):=⟨by simpa using h.1,fun k hk=>by rw [zx.je,if_neg (by omega)];exact h.2 k hk,by
 obtain ⟨n1,e1,f1⟩:=h.log
 refine ⟨r::n1,by rw [zx.WI,e1];rfl,fun q hq=>?_⟩
 rcases List.mem_cons.1 hq with rfl | hq
 ·
  exact hr
 ·
  exact f1 q hq⟩
inductive Lower (S:zx) (v1:Value) (S1:zx):Value→Prop
 | same (h:ground v1=true):Lower S v1 S1 v1
 | own {r n e:Nat} {cs:List Value} (hv:v1=.slice (some ⟨r,0,none⟩) n n) (hr:S.next≤r) (hg:S1.get r=some (.cells cs (.own []) e)) (hn:cs.length=n * e) (hs:cs.all sg=true):Lower S v1 S1 (SL 2 e n cs)
end
end Go.Abs
namespace Go.Abs
open Go.RowKit
section
variable {P:Program} {S:zx} {t te tx tex:TypeId} {q o n c e i r:Nat} {cs:List Value} {own:Own} {anc:List Nat} {v x:Value} {hp:Bool}
theorem wQ (a:Addr) (S:zx):jV (.pointer (some a)) S=some (.pointer (some a),S):=Eq.trans rfl rfl
theorem KP (h:S.get q=some (.cells cs own e)) (ha:yQ P t=some false) (hv:cs[o]?=some v) (hn:∀ l,v≠.agg l):jd P false t (.pointer (some ⟨q,o,none⟩)) S=some (dem v,S):=by
 unfold jd
 simp only [Bool.false_eq_true,if_false]
 have:wC P t (.pointer (some ⟨q,o,none⟩)) S=some (v,S):=by simp only [wC,h,ha,hv]
 rw [this]
 split
 ·
  rename_i l S2 he;cases he;exact absurd rfl (hn _)
 ·
  rename_i v2 S2 _ he;cases he;rfl
 ·
  rename_i he;cases he
theorem wW {k:IntKind} {m:Int} (h:S.get q=some (.cells cs own e)) (ha:yQ P t=some false) (hv:cs[o]?=some (.int k m)):jd P false t (.pointer (some ⟨q,o,none⟩)) S=some (.int k m,S) :=
 KP h ha hv (fun l h=>by cases h)
theorem Zf {a:Option Addr} {n c:Nat} (h:S.get q=some (.cells cs own e)) (ha:yQ P t=some false) (hv:cs[o]?=some (.slice a n c)):jd P false t (.pointer (some ⟨q,o,none⟩)) S=some (.slice a n c,S) :=
 KP h ha hv (fun l h=>by cases h)
theorem KE (h:S.get q=some (.cells cs own e)) (ha:yQ P t=some true) (hs:qc P t=some n) (hle:o+n≤cs.length):jd P false t (.pointer (some ⟨q,o,none⟩)) S=some (.agg (((cs.drop o).take n).toArray.map qA),S):=by
 unfold jd
 simp only [Bool.false_eq_true,if_false]
 have:wC P t (.pointer (some ⟨q,o,none⟩)) S=some (.agg ((cs.drop o).take n).toArray,S):=by simp only [wC,h,ha,hs,if_pos hle]
 rw [this]
theorem vJ (h:S.get q=some (.cells cs (.own anc) e)) (hs:qc P t=some n) (hx:x.cells.size=n) (h1:x.cells.toList.all (·.oneCell')=true) (hle:o+n≤cs.length) :
  kQ P t (.pointer (some ⟨q,o,none⟩)) x S=some (zh,(S.kills anc).set q (.cells (splice cs o x.cells.toList) (.own []) e)):=by
 simp only [kQ,xB,h,hs,if_pos hx,if_pos h1,if_pos hle]
theorem adl {k:IntKind} {j:Int} {sz:Nat} (ht:P.underlying t=some (.slice te)) (hs:qc P te=some sz) (h0:0≤j) (hj:j < n):zZ P t (.slice (some ⟨q,o,none⟩) n c) (.int k j) S=some (.pointer (some ⟨q,o+j.toNat * sz,none⟩),S):=by
 simp only [zZ,jq,ht,hs]
 rw [if_pos ⟨h0,hj⟩]
theorem QJ (ht:P.underlying t=some (.slice te)) (a:Option Addr) (n c:Nat) (S:zx):vg P t (.slice a n c) S=some (goInt n,S):=by
 simp only [vg,YZ,ht]
theorem VB {lo hi:Option Value} {l h:Int} {dr:Bool} (hd:dr=false) (hg:S.get q=some (.cells cs own e)) (ht:P.underlying t=some (.slice te)) (hs:qc P te=some e) (hl:qI 0 lo=some l) (hh:qI n hi=some h) (h0:0≤l) (h1:l≤h) (h2:h≤n) :
  yS P dr t (.slice (some ⟨q,o,none⟩) n c) lo hi S=some (.slice (some ⟨q,o+l.toNat * e,none⟩) (h.toNat - l.toNat) (h.toNat - l.toNat),S):=by
 subst hd
 simp only [yS,ZF,if_true,Bool.false_eq_true,if_false,yI,ht,hs,hl,hh,if_pos h0,if_pos h1,if_pos h2,hg]
theorem aaF {m:Nat} (htx:P.underlying tx=some (.slice tex)) (hg:S.get q=some (.cells cs own i)) (hm:o+m * e≤cs.length) (h2:((cs.drop o).take (m * e)).all (·.oneCell')=true):ZP P tx e (.slice (some ⟨q,o,none⟩) m c) S=some (m,(cs.drop o).take (m * e)):=by
 simp only [ZP,ZF,if_true,wH,htx,wF,hg]
 rw [if_pos hm]
 dsimp only
 rw [if_pos h2]
theorem XR {bytes k:Nat} {z:Value} {news:List Value} (hel:P.underlying t=some (.slice te)) (he:qc P te=some e) (hz:zeroOf P te=some z) (hzs:z.cells.size=e) (hb:bytesOf P te=some bytes) (hpos:0 < e) (hsrc:ZP P tx e x S=some (k,news))
  (hg:S.get q=some (.cells cs (.own anc) e)) (hle:o+n * e≤cs.length) (hmax:(n+k) * bytes≤140737488355328) (hmax2:n+k≤4611686018427387903) (h1:((cs.drop o).take (n * e)).all (·.oneCell')=true) :
  wY P hp t tx (.slice (some ⟨q,o,none⟩) n c) x S=some (.slice (some ⟨S.next,0,none⟩) (n+k) (n+k),
   if o+n * e=cs.length then (S.set q (.cells cs .ro e)).push (.cells ((cs.drop o).take (n * e)++news) (.own (if n * e=0 then [] else q::anc)) e)
   else ((S.kills anc).set q .dead).push (.cells ((cs.drop o).take (n * e)++news) (.own []) e)):=by
 have hel2:wJ P t=some te:=by simp only [wJ,hel]
 simp only [wY,hel2,he,hz,hb,if_pos hpos,if_pos hzs,hsrc,hg,if_true,if_pos hle,if_pos hmax,if_pos hmax2,if_pos h1,wP]
 by_cases h:o+n * e=cs.length
 ·
  rw [if_pos h,if_pos h]
 ·
  rw [if_neg h,if_neg h]
theorem Xq {bytes k:Nat} {z:Value} {news:List Value} (hel:P.underlying t=some (.slice te)) (he:qc P te=some e) (hz:zeroOf P te=some z) (hzs:z.cells.size=e) (hb:bytesOf P te=some bytes) (hpos:0 < e) (hsrc:ZP P tx e x S=some (k,news))
  (hmax:k * bytes≤140737488355328) (hmax2:k≤4611686018427387903) :
  wY P true t tx (.slice none 0 0) x S=some (if k=0 then .slice none 0 0 else .slice (some ⟨S.next,0,none⟩) k k,if k=0 then S else S.push (.cells news (.own []) e)):=by
 have hel2:wJ P t=some te:=by simp only [wJ,hel]
 simp only [wY,hel2,he,hz,hb,if_pos hpos,if_pos hzs,hsrc,if_pos hmax,if_pos hmax2,if_true]
 by_cases h:k=0
 ·
  rw [if_pos h,if_pos h,if_pos h]
 ·
  rw [if_neg h,if_neg h,if_neg h]
end
theorem vV {x:Array Value}:(Value.agg x).cells=x:=rfl
@[simp] theorem Y0 (a:Option Addr) (n c:Nat):dem (.slice a n c)=.slice a n c:=Eq.trans rfl rfl
@[simp] theorem aaq (a:Option Nat):dem (.map a)=.map a:=Eq.trans rfl rfl
theorem wrap_i64 {n:Int} (h0:-9223372036854775808≤n) (h:n < 9223372036854775808):IntKind.i64.wrap n=n:=by
 simp [IntKind.wrap,IntKind.bits,IntKind.signed]
 split <;> omega
theorem YB {l pre suf:List Int} {n:Int} (hl:l=pre++n::suf) (h:Int.toNat (pre.length:Int) < l.length):l[Int.toNat (pre.length:Int)]=n:=by
 subst hl;simp
theorem acu {α:Type} {l pre suf:List α} {n:α} (hl:l=pre++n::suf) (h:Int.toNat (pre.length:Int) < l.length):l[Int.toNat (pre.length:Int)]=n:=by
 subst hl;simp
theorem aey (k:Nat):(if (if k=2 then 1 else k)=2 then 1 else if k=2 then 1 else k)=if k=2 then 1 else k:=by split <;> simp_all
theorem Zc (k:Nat):(if k=2 then 1 else k)≠2:=by split <;> omega
theorem ZA (Sa Sb:zx):yA zh Sa Sb=true:=rfl
theorem Yp (cs:List Value) (Sa Sb:zx):yA (EP cs) Sa Sb=true:=rfl
theorem Jo {q o e:Nat} {cs:List Value} {own:Own} {S:zx} (h:S.get q=some (.cells cs own e)):yA (.pointer (some ⟨q,o,none⟩)) S S=true:=by
 simp only [yA,h,Nat.sub_self,List.take_zero,List.contains_nil,Bool.not_false,Bool.and_self]
theorem Xu {q o e:Nat} {cs:List Value} {own:Own} {S S1:zx} (h:S.get q=some (.cells cs own e)) (hq:q < S.next) (hE:Ext S S1):yA (.pointer (some ⟨q,o,none⟩)) S S1=true:=by
 obtain ⟨new,h1,h2⟩:=hE.log
 simp only [yA,h,h1,List.length_append,Nat.add_sub_cancel,List.take_left,Bool.true_and,Bool.not_eq_true',List.contains_eq_mem,decide_eq_false_iff_not]
 intro hm
 have:=h2 q hm
 omega
end Go.Abs
namespace Go.Abs
open Go.RowKit
section
variable {P:Program} {fx:Fx} {chk:List Nat} {call:FuncId→List Value→M Value} {ops:Array Oper}
theorem sP (f:Func) (i n:Nat) {l:List Oper} {T:List Value} {T1:Value→List Value} {S:zx} {v:Value} {r:Option (List Value×zx)} (hK:jg P fx call ops ((reg f i).toList.drop (n+1)) (T1 v) S=r) (hl:l=(opAt f i n)::((reg f i).toList.drop (n+1)):=by kernel_rfl) (hg:(opAt f i n).guard=none:=by kernel_rfl) (hm:∀ v,kF (opAt f i n) ((reg f i).toList.drop (n+1)) T v=T1 v:=by exact fun _=>rfl) (hs:jR P fx call T (opAt f i n) S=some (v,S):=by kernel_rfl):jg P fx call ops l T S=r :=
 aaD hl hg hm hs hK
theorem sD (f:Func) (i n:Nat) {l:List Oper} {T:List Value} {T1:Value→List Value} {S:zx} {s:Option (Value×zx)} {K:Value→zx→Option (List Value×zx)} (hK:∀ v S1,jg P fx call ops ((reg f i).toList.drop (n+1)) (T1 v) S1=K v S1) (hl:l=(opAt f i n)::((reg f i).toList.drop (n+1)):=by kernel_rfl) (hg:(opAt f i n).guard=none:=by kernel_rfl) (hm:∀ v,kF (opAt f i n) ((reg f i).toList.drop (n+1)) T v=T1 v:=by exact fun _=>rfl) (hs:jR P fx call T (opAt f i n) S=s:=by kernel_rfl):jg P fx call ops l T S=zU s K () :=
 acO hl hg hm hs hK
theorem sG (f:Func) (i n:Nat) {l:List Oper} {T:List Value} {T1:Value→List Value} {S:zx} {j:Nat} {b:Bool} {g:Value} {s:M Value} {K:Value→zx→Option (List Value×zx)} (hK:∀ v S1,jg P fx call ops ((reg f i).toList.drop (n+1)) (T1 v) S1=K v S1) (hl:l=(opAt f i n)::((reg f i).toList.drop (n+1)):=by kernel_rfl) (hg:(opAt f i n).guard=some (j,b):=by kernel_rfl) (hm:∀ v,kF (opAt f i n) ((reg f i).toList.drop (n+1)) T v=T1 v:=by exact fun _=>rfl) (hy:ynd ops T j=vb g:=by kernel_rfl) (hs:jR P fx call T (opAt f i n) S=s S:=by kernel_rfl):jg P fx call ops l T S=gdK g b s S K () :=
 ac1 hl hg hm hy hs hK
theorem tD (f:Func) (i n:Nat) {l:List Oper} {T:List Value} {T1:Value→List Value} {S:zx} {k:Nat} {s:Option (Value×zx)} {K:Value→zx→Option (List Value×zx)} (hK:∀ v S1,jK P fx chk [] call ops (k+1) [] ((reg f i).toList.drop (n+1)) (T1 v) S1=K v S1) (hc:chk.contains k=false:=by kernel_rfl) (hl:l=(opAt f i n)::((reg f i).toList.drop (n+1)):=by kernel_rfl) (hg:(opAt f i n).guard=none:=by kernel_rfl) (hm:∀ v,kF (opAt f i n) ((reg f i).toList.drop (n+1)) T v=T1 v:=by exact fun _=>rfl) (hs:jR P fx call T (opAt f i n) S=s:=by kernel_rfl):jK P fx chk [] call ops k [] l T S=zU s K () :=
 abb hc hl hg hm hs hK
theorem tP (f:Func) (i n:Nat) {l:List Oper} {T:List Value} {T1:Value→List Value} {S:zx} {k:Nat} {v:Value} {r:Option (List Value×zx)} (hK:jK P fx chk [] call ops (k+1) [] ((reg f i).toList.drop (n+1)) (T1 v) S=r) (hc:chk.contains k=false:=by kernel_rfl) (hl:l=(opAt f i n)::((reg f i).toList.drop (n+1)):=by kernel_rfl) (hg:(opAt f i n).guard=none:=by kernel_rfl) (hm:∀ v,kF (opAt f i n) ((reg f i).toList.drop (n+1)) T v=T1 v:=by exact fun _=>rfl) (hs:jR P fx call T (opAt f i n) S=some (v,S):=by kernel_rfl):jK P fx chk [] call ops k [] l T S=r :=
 XM hc hl hg hm hs hK
theorem tG (f:Func) (i n:Nat) {l:List Oper} {T:List Value} {T1:Value→List Value} {S:zx} {j k:Nat} {b:Bool} {g:Value} {s:M Value} {K:Value→zx→Option (List Value×zx)} (hK:∀ v S1,jK P fx chk [] call ops (k+1) [] ((reg f i).toList.drop (n+1)) (T1 v) S1=K v S1) (hc:chk.contains k=false:=by kernel_rfl) (hl:l=(opAt f i n)::((reg f i).toList.drop (n+1)):=by kernel_rfl) (hg:(opAt f i n).guard=some (j,b):=by kernel_rfl) (hm:∀ v,kF (opAt f i n) ((reg f i).toList.drop (n+1)) T v=T1 v:=by exact fun _=>rfl) (hy:ynd ops T j=vb g:=by kernel_rfl) (hs:jR P fx call T (opAt f i n) S=s S:=by kernel_rfl):jK P fx chk [] call ops k [] l T S=gdK g b s S K () :=
 abg hc hl hg hm hy hs hK
theorem uD (f:Func) (i n:Nat) {l:List Oper} {T:List Value} {T1:Value→List Value} {S:zx} {k:Nat} {s:Option (Value×zx)} {K:Value→zx→Option (List Value×zx)} {x:Nat×Nat} {nl:List (Nat×Nat)} {hist:List (Value×zx)} {pe:Value} (hK:∀ v S1,jK P fx chk (x::nl) call ops (k+1) (hist++[(pe,S)]) ((reg f i).toList.drop (n+1)) (T1 v) S1=K v S1) (hc:chk.contains k=false:=by kernel_rfl) (hpe:y9 T (opAt f i n)=pe:=by kernel_rfl) (hl:l=(opAt f i n)::((reg f i).toList.drop (n+1)):=by kernel_rfl) (hg:(opAt f i n).guard=none:=by kernel_rfl) (hm:∀ v,kF (opAt f i n) ((reg f i).toList.drop (n+1)) T v=T1 v:=by exact fun _=>rfl) (hs:jR P fx call T (opAt f i n) S=s:=by kernel_rfl):jK P fx chk (x::nl) call ops k hist l T S=zU s K () :=
 aa2 hc hpe hl hg hm hs hK
theorem uDC (f:Func) (i n:Nat) {l:List Oper} {T:List Value} {T1:Value→List Value} {S:zx} {k:Nat} {s:Option (Value×zx)} {K:Value→zx→Option (List Value×zx)} {x:Nat×Nat} {nl:List (Nat×Nat)} {hist:List (Value×zx)} {pe:Value} (hK:∀ v S1,jK P fx chk (x::nl) call ops (k+1) (hist++[(pe,S)]) ((reg f i).toList.drop (n+1)) (T1 v) S1=K v S1) (hc:chk.contains k=true:=by kernel_rfl) (hpe:y9 T (opAt f i n)=pe:=by kernel_rfl) (hl:l=(opAt f i n)::((reg f i).toList.drop (n+1)):=by kernel_rfl) (hg:(opAt f i n).guard=none:=by kernel_rfl) (hm:∀ v,kF (opAt f i n) ((reg f i).toList.drop (n+1)) T v=T1 v:=by exact fun _=>rfl) (hs:jR P fx call T (opAt f i n) S=s:=by kernel_rfl):jK P fx chk (x::nl) call ops k hist l T S=zU s (fun v S1=>okK v (K v S1) ()) () :=
 V5 hc hpe hl hg hm hs hK
theorem uP (f:Func) (i n:Nat) {l:List Oper} {T:List Value} {T1:Value→List Value} {S:zx} {k:Nat} {v:Value} {r:Option (List Value×zx)} {x:Nat×Nat} {nl:List (Nat×Nat)} {hist:List (Value×zx)} {pe:Value} (hK:jK P fx chk (x::nl) call ops (k+1) (hist++[(pe,S)]) ((reg f i).toList.drop (n+1)) (T1 v) S=r) (hc:chk.contains k=false:=by kernel_rfl) (hpe:y9 T (opAt f i n)=pe:=by kernel_rfl) (hl:l=(opAt f i n)::((reg f i).toList.drop (n+1)):=by kernel_rfl) (hg:(opAt f i n).guard=none:=by kernel_rfl) (hm:∀ v,kF (opAt f i n) ((reg f i).toList.drop (n+1)) T v=T1 v:=by exact fun _=>rfl) (hs:jR P fx call T (opAt f i n) S=some (v,S):=by kernel_rfl):jK P fx chk (x::nl) call ops k hist l T S=r :=
 Xr hc hpe hl hg hm hs hK
theorem uPC (f:Func) (i n:Nat) {l:List Oper} {T:List Value} {T1:Value→List Value} {S:zx} {k:Nat} {v:Value} {r:Option (List Value×zx)} {x:Nat×Nat} {nl:List (Nat×Nat)} {hist:List (Value×zx)} {pe:Value} (hK:jK P fx chk (x::nl) call ops (k+1) (hist++[(pe,S)]) ((reg f i).toList.drop (n+1)) (T1 v) S=r) (hc:chk.contains k=true:=by kernel_rfl) (hpe:y9 T (opAt f i n)=pe:=by kernel_rfl) (hl:l=(opAt f i n)::((reg f i).toList.drop (n+1)):=by kernel_rfl) (hg:(opAt f i n).guard=none:=by kernel_rfl) (hm:∀ v,kF (opAt f i n) ((reg f i).toList.drop (n+1)) T v=T1 v:=by exact fun _=>rfl) (hs:jR P fx call T (opAt f i n) S=some (v,S):=by kernel_rfl):jK P fx chk (x::nl) call ops k hist l T S=okK v r () :=
 QV hc hpe hl hg hm hs hK
end
end Go.Abs
namespace Go.Proofs.Ytacbgjhmkhjpoaa
open Go.Abs
theorem aex:qc zi 3=some 1:=by kernel_rfl
theorem xR:yQ zi 3=some false:=by kernel_rfl
theorem ji:zi.underlying 23=some (TypeDesc.slice 30):=by kernel_rfl
theorem JK:qc zi 23=some 1:=by kernel_rfl
theorem qh:yQ zi 23=some false:=by kernel_rfl
theorem abn:zi.underlying 30=some (TypeDesc.struct #[{ name:= "ID",type:=3,offset:=0,embedded:=false,tag:= "",pkgPath:= "",byteOffset:=0 },{ name:= "Fee",type:=3,offset:=1,embedded:=false,tag:= "",pkgPath:= "",byteOffset:=8 }]):=by kernel_rfl
theorem jM:qc zi 30=some 2:=by kernel_rfl
theorem abh:bytesOf zi 30=some 16:=by kernel_rfl
theorem abK:zeroOf zi 30=(some (Value.agg #[(Value.int IntKind.i64 0),(Value.int IntKind.i64 0)])):=by kernel_rfl
theorem ZJ:yQ zi 30=some true:=by kernel_rfl
theorem aan:zi.underlying 38=some (TypeDesc.slice 3):=by kernel_rfl
theorem wG (q o:Nat) (S:zx):zN zi 30 (.pointer (some ⟨q,o,none⟩)) 0 S=some (.pointer (some ⟨q,o+0,none⟩),S):=by kernel_rfl
theorem qx (q o:Nat) (S:zx):zN zi 30 (.pointer (some ⟨q,o,none⟩)) 1 S=some (.pointer (some ⟨q,o+1,none⟩),S):=by kernel_rfl
theorem jC (q o:Nat) (S:zx):zN zi 49 (.pointer (some ⟨q,o,none⟩)) 0 S=some (.pointer (some ⟨q,o+0,none⟩),S):=by kernel_rfl
theorem kG {fx:Bool} {x0 x1:Value} {S:zx}:jd zi fx 30 (EP [x0,x1]) S=some (.agg [x0,x1].toArray,S):=YH ZJ jM rfl
theorem Va {q:Nat} {x0 x1:Value} {own:Own} {e:Nat} {S:zx} (h:S.get q=some (.cells [x0,x1] own e)):jd zi false 30 (.pointer (some ⟨q,0,none⟩)) S=some (.agg [qA x0,qA x1].toArray,S):=(KE (o:=0) h ZJ jM (by simp)).trans (by simp)
theorem WA (S:zx):jQ zi 23 0 [] S=some (sv 2 2 0 [],S):=by kernel_rfl
theorem XF (x0 x1:Int) (S:zx):jQ zi 38 2 [(0,.int IntKind.i64 x0),(1,.int IntKind.i64 x1)] S=some (sv 2 1 2 [.int IntKind.i64 x0,.int IntKind.i64 x1],S):=by kernel_rfl
theorem acn {k:Nat} {l:List Int} {S:zx} (h:Okl k l):vg zi 38 (iz k l) S=some (goInt l.length,S):=V4 aan h
theorem ad6 {k:Nat} {l:List Int} {S:zx} {ki:IntKind} {i:Int} (h:Okl k l) (h0:0≤i) (hi:i < l.length):zZ zi 38 (iz k l) (.int ki i) S=some (EP [.int .i64 (l[i.toNat]'(by omega))],S):=adh aan aex aek h h0 hi
theorem WR {fx:Bool} {v:Value} {S:zx}:jd zi fx 3 (EP [v]) S=some (v,S):=VY xR
theorem wk:type_of% (aeW @JJ (aeW @vF (aeW @Zy (aeW @ZO (aeW @JV (aeW @Z7 (aeW @Jl (aeW @Jq (aeW @ZB (aeW @Yt (aeW @Jf (aeW @Y9 (aeW @KA (aeW @xY (aeW @Wh (aeW @Z9 (aeW @JX (aeW @ZU (aeW @Yv (aeW @aco (aeW @ace (aeW @abY (aeW @ab6 (aeW @ab3 (aeW @X8 (aeW @aas (aeW @XZ (aeW @aad (aeW @Vm (aeW @Q8 (aeW @ZA (aeW @Yp (aeW @Bool.and_true (aeW @Bool.true_and (aeW @Bool.and_self (aeW @Kt (aeW @V9 (aeW @Wj (aeW @YW (aeW @Ji (aeW @acy (aeW @ab4 (aeW @aci (aeW @acd (aeW @aee (aeW @aeh (aeW @ad2 (aeW @aea (aeW @adV (aeW @abP (aeW @acv (aeW @acj (aeW @ab9 (aeW @abW (aeW @aau (aeW @JI (aeW @Bool.false_eq_true (aeW @Ku (aeW @VN (aeW @JG (aeW @YT (aeW @YV (aeW @acz (aeW @YL (aeW @acp (aeW @YR (aeW @X7 (aeW @KX (aeW @J3 (aeW @Vt (aeW @VE (aeW @qW (aeW @ZM (aeW @Y0 (aeW @aaq (aeW @acw (aeW @aaB (aeW @WQ (aeW @Q9 (aeW @ZR (aeW @YF (aeW @Qc (aeW @JD (aeW @vY (aeW @xE (aeW @ZN (aeW @Yy (aeW @Zn (aeW @JB (aeW @xq (aeW @xk (aeW @xu (aeW @KZ (aeW @Ko (aeW @Kq (aeW @Q5 (aeW @KJ (aeW @KQ (aeW @KT (aeW @KO (aeW @KL (aeW @aao (aeW @Bool.not_true (aeW @Bool.not_false (aeW @Bool.true_eq_false (aeW @decide_true (aeW @decide_false (aeW @X5 (aeW @aaC (aeW @X0 (aeW @aar (aeW @aat (aeW @VZ (aeW @VK (aeW @Vx (aeW @VT (aeW @X6 (aeW @aam (aeW @Vr (aeW @VI (aeW @VW (@XY)))))))))))))))))))))))))))))))))))))))))))))))))))))))))))))))))))))))))))))))))))))))))))))))))))))))))))))))))))))))))):=aeW @JJ (aeW @vF (aeW @Zy (aeW @ZO (aeW @JV (aeW @Z7 (aeW @Jl (aeW @Jq (aeW @ZB (aeW @Yt (aeW @Jf (aeW @Y9 (aeW @KA (aeW @xY (aeW @Wh (aeW @Z9 (aeW @JX (aeW @ZU (aeW @Yv (aeW @aco (aeW @ace (aeW @abY (aeW @ab6 (aeW @ab3 (aeW @X8 (aeW @aas (aeW @XZ (aeW @aad (aeW @Vm (aeW @Q8 (aeW @ZA (aeW @Yp (aeW @Bool.and_true (aeW @Bool.true_and (aeW @Bool.and_self (aeW @Kt (aeW @V9 (aeW @Wj (aeW @YW (aeW @Ji (aeW @acy (aeW @ab4 (aeW @aci (aeW @acd (aeW @aee (aeW @aeh (aeW @ad2 (aeW @aea (aeW @adV (aeW @abP (aeW @acv (aeW @acj (aeW @ab9 (aeW @abW (aeW @aau (aeW @JI (aeW @Bool.false_eq_true (aeW @Ku (aeW @VN (aeW @JG (aeW @YT (aeW @YV (aeW @acz (aeW @YL (aeW @acp (aeW @YR (aeW @X7 (aeW @KX (aeW @J3 (aeW @Vt (aeW @VE (aeW @qW (aeW @ZM (aeW @Y0 (aeW @aaq (aeW @acw (aeW @aaB (aeW @WQ (aeW @Q9 (aeW @ZR (aeW @YF (aeW @Qc (aeW @JD (aeW @vY (aeW @xE (aeW @ZN (aeW @Yy (aeW @Zn (aeW @JB (aeW @xq (aeW @xk (aeW @xu (aeW @KZ (aeW @Ko (aeW @Kq (aeW @Q5 (aeW @KJ (aeW @KQ (aeW @KT (aeW @KO (aeW @KL (aeW @aao (aeW @Bool.not_true (aeW @Bool.not_false (aeW @Bool.true_eq_false (aeW @decide_true (aeW @decide_false (aeW @X5 (aeW @aaC (aeW @X0 (aeW @aar (aeW @aat (aeW @VZ (aeW @VK (aeW @Vx (aeW @VT (aeW @X6 (aeW @aam (aeW @Vr (aeW @VI (aeW @VW (@XY)))))))))))))))))))))))))))))))))))))))))))))))))))))))))))))))))))))))))))))))))))))))))))))))))))))))))))))))))))))))))
theorem zSs:type_of% (aeW wk (aeW (@List.getD_cons_succ Value) (aeW (@List.getD_cons_zero Value) (aeW @if_true.{1} (aeW @if_false.{1} (aeW (@List.getElem?_cons_succ Value) (aeW (@List.getElem?_cons_zero Value) (aeW @Option.map_some.{0,0} @eq_self.{1})))))))):=aeW wk (aeW (@List.getD_cons_succ Value) (aeW (@List.getD_cons_zero Value) (aeW @if_true.{1} (aeW @if_false.{1} (aeW (@List.getElem?_cons_succ Value) (aeW (@List.getElem?_cons_zero Value) (aeW @Option.map_some.{0,0} @eq_self.{1})))))))
end Go.Proofs.Ytacbgjhmkhjpoaa
namespace Go.Abs
open Go.RowKit
section
theorem qK (b:Nat) (vs:List Value):∀ (o:Nat) (w:World),(w.setCells b o vs).drawn=w.drawn:=by
 induction vs with
 | nil=>intro o w;rfl
 | cons v r ih=>intro o w;rw [World.setCells,ih];rfl
theorem aa3 {w1 w2:World} (h1:w1.os=w2.os) (h2:w1.tape=w2.tape) (h3:w1.output=w2.output) (h4:w1.drawn=w2.drawn) (h5:w1.heap.size=w2.heap.size) (h6:∀ k:Nat,w1.heap[k]?=w2.heap[k]?):w1=w2:=by
 cases w1;cases w2
 simp only at *
 subst h1 h2 h3 h4
 congr
 exact Array.ext_getElem? h6
theorem ZQ {w:World} {b o:Nat} {cc:Array Value} {e:TypeId} {fr:Nat×Nat} (hb:w.heap[b]?=some (.cells cc e fr)) {pre vs suf:List Value} (hpre:∀ j v,pre[j]?=some v→cc[o+j]?=some v) (hle:o+(pre.length+vs.length+suf.length)≤cc.size) :
  (w.setCells b (o+(pre.length+vs.length)) suf).setCells b (o+pre.length) vs=w.setCells b o (pre++(vs++suf)):=by
 obtain ⟨a1,a2,a3,a4⟩:=wV b suf (o+(pre.length+vs.length)) w
 obtain ⟨b1,b2,b3,b4⟩:=wV b vs (o+pre.length) (w.setCells b (o+(pre.length+vs.length)) suf)
 obtain ⟨c1,c2,c3,c4⟩:=wV b (pre++(vs++suf)) o w
 refine aa3 (by rw [b1,a1,c1]) (by rw [b2,a2,c2]) (by rw [b3,a3,c3]) (by rw [qK,qK,qK]) (by rw [b4,a4,c4]) fun k=>?_
 by_cases hk:k=b
 ·
  subst hk
  rw [jY _ _ _ _ _ _ _ (jY _ _ _ _ _ _ _ hb),jY _ _ _ _ _ _ _ hb]
  congr 2
  refine Array.ext_getElem? fun n=>?_
  rw [qg,qg,qg,yx]
  simp only [List.length_append]
  by_cases h1:o≤n∧n < o+(pre.length+(vs.length+suf.length))
  ·
   rw [if_pos (show o≤n∧n < o+(pre.length+(vs.length+suf.length))∧n < cc.size by omega)]
   by_cases h2:n < o+pre.length
   ·
    rw [if_neg (by omega),if_neg (by omega),List.getElem?_append_left (by omega)]
    have hlt:n - o < pre.length:=by omega
    have:=hpre (n - o) _ (List.getElem?_eq_getElem hlt)
    rw [show o+(n - o)=n by omega] at this
    rw [this,List.getElem?_eq_getElem hlt]
   ·
    rw [List.getElem?_append_right (by omega)]
    by_cases h3:n < o+pre.length+vs.length
    ·
     rw [if_pos (by omega),List.getElem?_append_left (by omega)]
     congr 1;omega
    ·
     rw [if_neg (by omega),if_pos (by omega),List.getElem?_append_right (by omega)]
     congr 1;omega
  ·
   rw [if_neg (by omega),if_neg (by omega),if_neg (by omega)]
 ·
  rw [jk _ _ _ _ _ hk,jk _ _ _ _ _ hk,jk _ _ _ _ _ hk]
end
section
variable {P:Program}
theorem yL (w:World) {dT sT ty elem:TypeId} {b o dLen dCap e:Nat} {a:Addr} {sLen sCap:Nat} {cs:List Value}
  (hu:P.underlying dT=some (.slice elem)) (hs:qc P elem=some e) (hn:cs.length=Nat.min sLen dLen * e)
  (hsrc:∀ j v,cs[j]?=some v→w.cell? (a.add j)=some v) (hc:∀ j,j < cs.length→(w.cell? ⟨b,o+j,none⟩).isSome=true) (hf:∀ j,j < cs.length→w.frozen? ⟨b,o+j,none⟩=false) (h1:∀ v ∈ cs,v.oneCell'=true) :
  (Builtin.copy_ #[dT,sT] ty #[.slice (some ⟨b,o,none⟩) dLen dCap,.slice (some a) sLen sCap]).run P w=.ok (goInt (Nat.min sLen dLen)) (w.setCells b o cs):=by
 have hl:=run_loadCells_list (P:=P) w a cs hsrc
 have hst:=run_storeCells_cells (P:=P) b o cs 0 w (by simpa using hc) (by simpa using hf) h1
 simp only [Nat.add_zero] at hst
 rw [hn] at hl
 simp [Builtin.copy_,run_underlying hu,Builtin.lenOf,wu hs,Builtin.firstCells,hl,hst]
end
section
variable {P:Program} {B:Base} {w0:World} {m:Mp} {H:zx} {w:World}
theorem Rel.inserted {r:Nat} {L:Loc} {cs all all':List Value} {size o:Nat} {anc:List Nat} (hr:Rel B w0 m H w) (hm:m r=some L) (hg:H.get r=some (.cells cs (.own anc) size)) (ho:o≤cs.length) (hx:LR m all all') (hl:L.shift+o+all.length≤L.lim) :
  w.there L.blk (L.shift+o) all'.length∧Rel B w0 (m.add H.next ⟨L.blk,L.shift+o,L.lim,size⟩) (((H.kills anc).set r .dead).push (.cells all (.own []) size)) (w.setCells L.blk (L.shift+o) all'):=by
 have h:=hr.moved (o:=o) (n:=0) (anc:=[]) (G:=(H.kills anc).set r .dead) hm hg (.inr ⟨rfl,rfl⟩) ho hx hl
 simpa using h
end
section
variable {P:Program} {B:Base} {w0:World} {m:Mp} {H:zx} {w w1:World}
theorem Rel.less {G:zx} (hr:Rel B w0 m G w) (hn:H.next=G.next) (hg:∀ r o,H.get r=some o→o=.dead∨G.get r=some o):Rel B w0 m H w:=by
 refine ⟨hr.below,hr.base,fun r L o hm ho=>?_,hr.lt,fun r L o hm ho hw=>?_,fun r r' L L' o o' hne h1 h2 g1 g2 hw ha hb=>?_,fun r h=>hr.fresh r (by rw [← hn];exact h),hr.keep,hr.far,hr.KU fun r cs a e ho=>?_⟩
 ·
  rcases hg r o ho with rfl | h
  ·
   exact True.intro
  ·
   exact hr.obj r L o hm h
 ·
  rcases hg r o ho with rfl | h
  ·
   cases hw
  ·
   exact hr.own r L o hm h hw
 ·
  rcases hg r o g1 with rfl | k1
  ·
   cases hw
  ·
   rcases hg r' o' g2 with rfl | k2
   ·
    cases ha
   ·
    exact hr.apart r r' L L' o o' hne h1 h2 k1 k2 hw ha hb
 ·
  rcases hg r _ ho with h | h
  ·
   cases h
  ·
   exact ⟨_,_,h⟩
theorem yB.adP {b:Obj} (h:yB w w1 b):yB w w1.drew b:=⟨h.os,h.tape,h.output,h.size,h.old,h.new⟩
theorem yB.put {cc:Array Value} {e:TypeId} {fr:Nat×Nat} (h:yB w w1 (.cells cc e fr)) (o:Nat) (vs:List Value):yB w (w1.setCells w.heap.size o vs) (.cells (V6 cc o vs) e fr):=by
 obtain ⟨r1,r2,r3,r4⟩:=wV w.heap.size vs o w1
 exact ⟨r1.trans h.os,r2.trans h.tape,r3.trans h.output,r4.trans h.size,fun k hk=>by rw [jk _ _ _ _ _ (by omega)];exact h.old k hk,jY _ _ _ _ _ _ _ h.new⟩
theorem QA {pre vs suf:List Value} {row:Array Value} (hp:∀ (j:Nat) (v:Value),pre[j]?=some v→row[j]?=some v) (hl:pre.length+vs.length+suf.length≤row.size) :
  ∃ tail:List Value,V6 (V6 row pre.length vs) (pre.length+vs.length) suf=(pre++(vs++suf)++tail).toArray∧tail.length=row.size - (pre.length+vs.length+suf.length):=by
 refine ⟨row.toList.drop (pre.length+vs.length+suf.length),?_,by simp⟩
 refine Array.ext_getElem? fun n=>?_
 rw [qg,qg,yx]
 simp only [List.getElem?_toArray]
 by_cases h1:n < pre.length
 ·
  rw [if_neg (by omega),if_neg (by omega),List.append_assoc,List.getElem?_append_left h1,List.getElem?_eq_getElem h1]
  exact hp n _ (List.getElem?_eq_getElem h1)
 ·
  by_cases h2:n < pre.length+vs.length
  ·
   rw [if_neg (by omega),if_pos (by omega),List.append_assoc,List.getElem?_append_right (by omega),List.append_assoc,List.getElem?_append_left (by omega)]
  ·
   by_cases h3:n < pre.length+vs.length+suf.length
   ·
    rw [if_pos (by omega),List.append_assoc,List.getElem?_append_right (by omega),List.append_assoc,List.getElem?_append_right (by omega),List.getElem?_append_left (by omega)]
    congr 1;omega
   ·
    rw [if_neg (by omega),if_neg (by omega),List.append_assoc,List.getElem?_append_right (by omega),List.append_assoc,List.getElem?_append_right (by omega),List.getElem?_append_right (by omega),List.getElem?_drop]
    rw [← Array.getElem?_toList]
    congr 1;omega
theorem LR.three {a b c:Value} {l:List Value} (h:LR m [a,b,c] l):∃ a' b' c',l=[a',b',c']∧VR m a a'∧VR m b b'∧VR m c c':=by
 have hl:=h.1
 match l,hl with
 | [x,y,z],_=>exact ⟨x,y,z,rfl,h.head,h.tail.head,h.tail.tail.head⟩
end
end Go.Abs
namespace Go.Proofs.Ytacbgjhmkhjpoaa
open Go.Abs Go.Proofs Go.RowKit Go.Lib
set_option maxHeartbeats 4000000 in
theorem YS (b off n c i vb voff m vc:Nat) (cs vs:List Value) (w:World) (hi:i < n) (hm:0 < m) (hroom:n+m≤c) (hnm:n+m≤4611686018427387903) (hdis:vb=b→voff+m * 2≤off∨off+(n+m) * 2≤voff)
  (hcl:cs.length=n * 2) (hvl:vs.length=m * 2)
  (hcs:∀ j v,cs[j]?=some v→w.cell? ⟨b,off+j,none⟩=some v) (hsp:∀ j,j < (n+m) * 2→(w.cell? ⟨b,off+j,none⟩).isSome=true) (hfz:∀ j,j < (n+m) * 2→w.frozen? ⟨b,off+j,none⟩=false)
  (hvs:∀ j v,vs[j]?=some v→w.cell? ⟨vb,voff+j,none⟩=some v) (h1c:∀ v ∈ cs,v.oneCell'=true) (h1v:∀ v ∈ vs,v.oneCell'=true)
  (hov:∀ cb,(callFunc 34 #[.slice (some ⟨vb,voff,none⟩) m vc,.slice (some ⟨b,off+(i+m) * 2,none⟩) (n+m - (i+m)) cb]).run zi w=.ok (.value (.bool false)) w) :
  Calls zi 28 #[.slice (some ⟨b,off,none⟩) n c,.int .i64 i,.slice (some ⟨vb,voff,none⟩) m vc] w fun e w' =>
   e=.returned (.slice (some ⟨b,off,none⟩) (n+m) c)∧w'=(w.drew.setCells b (off+(i+m) * 2) (cs.drop (i * 2))).setCells b (off+i * 2) vs:=by
 have hz1:¬ ((m:Int)=0):=by omega
 have hz2:¬ ((i:Int)=(n:Int)):=by omega
 have hw1:IntKind.i64.wrap ((i:Int)+(m:Int))=(i:Int)+(m:Int):=by rw [IntKind.wrap_i64];omega
 have hw2:IntKind.i64.wrap ((n:Int)+(m:Int))=(n:Int)+(m:Int):=by rw [IntKind.wrap_i64];omega
 have hb1:(0:Int)≤(i:Int)+(m:Int):=by omega
 have hin:i≤n:=by omega
 have htn:((i:Int)+(m:Int)).toNat=i+m:=by omega
 have hb2:¬ (c=i+m):=by omega
 have hb3:(i:Int)≤(n:Int)+(m:Int):=by omega
 have hb4:¬ (c=i):=by omega
 have hdl:(cs.drop (i * 2)).length=(n - i) * 2:=by rw [List.length_drop,hcl];omega
 have hm1:Nat.min (n+m - i) (n+m - (i+m))=n - i:=by simp only [Nat.min_def];split <;> omega
 have hcp1:∀ ty dc sc,(Builtin.copy_ #[23,23] ty #[.slice (some ⟨b,off+(i+m) * 2,none⟩) (n+m - (i+m)) dc,.slice (some ⟨b,off+i * 2,none⟩) (n+m - i) sc]).run zi w.drew=.ok (goInt (n - i:Nat)) (w.drew.setCells b (off+(i+m) * 2) (cs.drop (i * 2))):=fun ty dc sc=>by
  rw [← hm1]
  exact yL w.drew ji jM (by rw [hdl,hm1])
   (fun j v hj=>by rw [Addr.add_lit,Nat.add_assoc];exact hcs (i * 2+j) v (by rwa [List.getElem?_drop] at hj))
   (fun j hj=>by rw [Nat.add_assoc];exact hsp _ (by omega)) (fun j hj=>by rw [Nat.add_assoc];exact hfz _ (by omega)) (fun v hv=>h1c v (List.mem_of_mem_drop hv))
 obtain ⟨W1,hW1⟩:∃ W1,W1=w.drew.setCells b (off+(i+m) * 2) (cs.drop (i * 2)):=⟨_,rfl⟩
 have hsp1:∀ k,k < (n+m) * 2→(W1.cell? ⟨b,off+k,none⟩).isSome=true:=fun k hk=>by
  rw [hW1]
  exact isSome_setCells b _ _ _ (fun j hj=>by rw [Nat.add_assoc];exact hsp _ (by omega)) _ (hsp k hk)
 have hm2:Nat.min m (n+m - i)=m:=by simp only [Nat.min_def];split <;> omega
 have hcp2:∀ (W:World),(∀ x,W.cell? x=W1.cell? x)→(∀ x,W.frozen? x=W1.frozen? x)→∀ ty dc,(Builtin.copy_ #[23,23] ty #[.slice (some ⟨b,off+i * 2,none⟩) (n+m - i) dc,.slice (some ⟨vb,voff,none⟩) m vc]).run zi W=.ok (goInt (m:Nat)) (W.setCells b (off+i * 2) vs):=fun W hWc hWf ty dc=>by
  have h:=yL (P:=zi) W (dT:=23) (sT:=23) (ty:=ty) (b:=b) (o:=off+i * 2) (dLen:=n+m - i) (dCap:=dc) (e:=2) (a:=⟨vb,voff,none⟩) (sLen:=m) (sCap:=vc) (cs:=vs) ji jM (by rw [hvl,hm2])
   (fun j v hj=>by
    have hj2:j < m * 2:=by rw [← hvl];exact (List.getElem?_eq_some_iff.1 hj).1
    rw [Addr.add_lit,hWc,hW1,World.cell?_setCells_out b _ _ _ _ (fun h _=>by have:=hdis h;rw [hdl];dsimp only;omega)]
    exact hvs j v hj)
   (fun j hj=>by rw [hWc,Nat.add_assoc];exact hsp1 _ (by omega)) (fun j hj=>by rw [hWf,hW1,World.frozen?_setCells,Nat.add_assoc];exact hfz _ (by omega)) h1v
  rw [hm2] at h
  exact h
 rw [← hW1] at hcp1
 have mixed:zi.follows .mixedOrders=true:=by kernel_rfl
 go_enter Try.func28,Try.ntmps28
 go_wp2_with (simp only [hov])
 go_region_law_o (refine step_copy_runI rfl _ _ 23 23 rfl _ _ (by simp [Act.eval,Act.put]) (by simp [Act.eval,Act.put]) (hcp1 _ _ _) ?_)
 go_wp2_with (at_builtin;refine wpList_copy_runI _ rfl _ _ 23 23 rfl _ _ rfl rfl (hcp2 _ (fun _=>rfl) (fun _=>rfl) _ _) ?_)
 go_ret
 first | exact ⟨rfl,rfl⟩ | exact ⟨rfl,by rw [hW1]⟩
section
variable {P:Program}
theorem Jv (w:World) {o:Oper} {a:Act} {K:Act→World→Prop} {Q:Exit→Act→World→Prop} (d s:Operand) (t t':TypeId)
  (ho:o.op=.call { callee:=.builtin .append,args:=#[d,s],argTypes:=#[t,t'] }) (v u:Value) (hd:a.eval d=v) (hs:a.eval s=u) {v':Value} {w':World}
  (hr:(Builtin.append_ #[t,t'] o.type #[v,u]).run P w=.ok v' w') (h:K (a.put o.dst v') w'):o.wp P a w K Q:=by
 unfold Oper.wp execOp
 simp only [ho,resolve,invoke,builtin,Sem.run_bind,Sem.run_pure,Result.andThen_ok,List.map_toArray,List.map_cons,List.map_nil,hd,hs,hr]
 exact h
theorem yJ (w:World) {ops:Array Oper} {rest:List Oper} {o:Oper} {a:Act} {Q:Exit→Act→World→Prop} (hgd:o.guard=none) (d s:Operand) (t t':TypeId)
  (ho:o.op=.call { callee:=.builtin .append,args:=#[d,s],argTypes:=#[t,t'] }) (v u:Value) (hd:a.eval d=v) (hs:a.eval s=u) {v':Value} {w':World}
  (hr:(Builtin.append_ #[t,t'] o.type #[v,u]).run P w=.ok v' w') (h:wpList P ops Q rest (a.put o.dst v') w'):wpList P ops Q (o::rest) a w :=
 wpList_plain hgd fun _ hK=>Jv w d s t t' ho v u hd hs hr (hK _ _ h)
end
set_option maxHeartbeats 4000000 in
theorem JU (base:Option Addr) (n c m vc:Nat) (vb:Option Addr) (w w':World) (v':Value) (hm:0 < m) (hnc:n≤c)
  (hr:∀ ty,(Builtin.append_ #[23,23] ty #[.slice base n c,.slice vb m vc]).run zi w=.ok v' w') :
  Calls zi 28 #[.slice base n c,.int .i64 n,.slice vb m vc] w fun e w2=>e=.returned v'∧w2=w':=by
 have hz1:¬ ((m:Int)=0):=by omega
 have mixed:zi.follows .mixedOrders=true:=by kernel_rfl
 cases base with
 | none =>
  go_enter Try.func28,Try.ntmps28
  go_wp2_with (at_builtin;refine yJ _ rfl _ _ 23 23 rfl _ _ rfl rfl (hr _) ?_)
  go_ret
  exact ⟨rfl,rfl⟩
 | some a =>
  go_enter Try.func28,Try.ntmps28
  go_wp2_with (at_builtin;refine yJ _ rfl _ _ 23 23 rfl _ _ rfl rfl (hr _) ?_)
  all_goals (go_ret;exact ⟨rfl,rfl⟩)
set_option maxHeartbeats 4000000 in
theorem Qk (b off n c i vb voff m vc N G:Nat) (cs vs:List Value) (w W1:World) (hi:i < n) (hm:0 < m) (hnc:n≤c) (hroom:c < n+m) (hG63:G≤9223372036854775807) (hGn:n+m≤G)
  (hcl:cs.length=n * 2) (hvl:vs.length=m * 2) (h1c:∀ v ∈ cs,v.oneCell'=true) (h1v:∀ v ∈ vs,v.oneCell'=true)
  (hrz:∀ ty,(Builtin.append_ #[23,3] ty #[.slice (some ⟨b,off,none⟩) i c,.int .i64 ((n:Int)+(m:Int) - (i:Int))]).run zi w=.ok (.slice (some ⟨N,0,none⟩) (n+m) G) W1)
  (hN:∀ j,j < (n+m) * 2→(W1.cell? ⟨N,j,none⟩).isSome=true) (hNf:∀ j,W1.frozen? ⟨N,j,none⟩=false)
  (hcs:∀ j v,cs[j]?=some v→W1.cell? ⟨b,off+j,none⟩=some v) (hvs:∀ j v,vs[j]?=some v→W1.cell? ⟨vb,voff+j,none⟩=some v) (hbN:b≠N) (hvN:vb≠N) :
  Calls zi 28 #[.slice (some ⟨b,off,none⟩) n c,.int .i64 i,.slice (some ⟨vb,voff,none⟩) m vc] w fun e w' =>
   e=.returned (.slice (some ⟨N,0,none⟩) (n+m) G)∧w'=((W1.setCells N (i * 2) vs).drew).setCells N ((i+m) * 2) (cs.drop (i * 2)):=by
 have hz1:¬ ((m:Int)=0):=by omega
 have hz2:¬ ((i:Int)=(n:Int)):=by omega
 have hz3:(c:Int) < (n:Int)+(m:Int):=by omega
 have hw1:IntKind.i64.wrap ((i:Int)+(m:Int))=(i:Int)+(m:Int):=by rw [IntKind.wrap_i64];omega
 have hw2:IntKind.i64.wrap ((n:Int)+(m:Int))=(n:Int)+(m:Int):=by rw [IntKind.wrap_i64];omega
 have hw3:IntKind.i64.wrap ((n:Int)+(m:Int) - (i:Int))=(n:Int)+(m:Int) - (i:Int):=by rw [IntKind.wrap_i64];omega
 have hb1:(0:Int)≤(i:Int)+(m:Int):=by omega
 have hin:i≤n:=by omega
 have htn:((i:Int)+(m:Int)).toNat=i+m:=by omega
 have hb3:(i:Int)≤(n:Int):=by omega
 have hGi:¬ (G=i):=by omega
 have hGim:¬ (G=i+m):=by omega
 have hci:¬ (c=i):=by omega
 have hdl:(cs.drop (i * 2)).length=(n - i) * 2:=by rw [List.length_drop,hcl];omega
 have hm1:Nat.min (n - i) (n+m - (i+m))=n - i:=by simp only [Nat.min_def];split <;> omega
 have hm2:Nat.min m (n+m - i)=m:=by simp only [Nat.min_def];split <;> omega
 have hcpA:∀ ty dc,(Builtin.copy_ #[23,23] ty #[.slice (some ⟨N,i * 2,none⟩) (n+m - i) dc,.slice (some ⟨vb,voff,none⟩) m vc]).run zi W1=.ok (goInt (m:Nat)) (W1.setCells N (i * 2) vs):=fun ty dc=>by
  have h:=yL (P:=zi) W1 (dT:=23) (sT:=23) (ty:=ty) (b:=N) (o:=i * 2) (dLen:=n+m - i) (dCap:=dc) (e:=2) (a:=⟨vb,voff,none⟩) (sLen:=m) (sCap:=vc) (cs:=vs) ji jM (by rw [hvl,hm2])
   (fun j v hj=>by rw [Addr.add_lit];exact hvs j v hj) (fun j hj=>hN _ (by omega)) (fun j hj=>hNf _) h1v
  rw [hm2] at h
  exact h
 have hcpB:∀ (W:World),(∀ x,W.cell? x=(W1.setCells N (i * 2) vs).cell? x)→(∀ x,W.frozen? x=(W1.setCells N (i * 2) vs).frozen? x)→∀ ty dc sc,(Builtin.copy_ #[23,23] ty #[.slice (some ⟨N,(i+m) * 2,none⟩) (n+m - (i+m)) dc,.slice (some ⟨b,off+i * 2,none⟩) (n - i) sc]).run zi W=.ok (goInt (n - i:Nat)) (W.setCells N ((i+m) * 2) (cs.drop (i * 2))):=fun W hWc hWf ty dc sc=>by
  have h:=yL (P:=zi) W (dT:=23) (sT:=23) (ty:=ty) (b:=N) (o:=(i+m) * 2) (dLen:=n+m - (i+m)) (dCap:=dc) (e:=2) (a:=⟨b,off+i * 2,none⟩) (sLen:=n - i) (sCap:=sc) (cs:=cs.drop (i * 2)) ji jM (by rw [hdl,hm1])
   (fun j v hj=>by
    rw [Addr.add_lit,hWc,World.cell?_setCells_out _ _ _ _ _ (fun h _=>absurd h hbN),Nat.add_assoc]
    exact hcs (i * 2+j) v (by rwa [List.getElem?_drop] at hj))
   (fun j hj=>by rw [hWc];simpa using isSome_setCells N vs (i * 2) W1 (fun t ht=>by exact hN _ (by omega)) _ (hN _ (by omega)))
   (fun j hj=>by rw [hWf,World.frozen?_setCells];exact hNf _) (fun v hv=>h1c v (List.mem_of_mem_drop hv))
  rw [hm1] at h
  exact h
 have mixed:zi.follows .mixedOrders=true:=by kernel_rfl
 go_enter Try.func28,Try.ntmps28
 go_wp2_with (first
  | (at_builtin;refine yJ _ rfl _ _ _ _ rfl _ _ rfl rfl (hrz _) ?_)
  | (at_builtin;refine wpList_copy_runI _ rfl _ _ 23 23 rfl _ _ rfl rfl (hcpA _ _) ?_))
 go_region_law_o (refine step_copy_runI rfl _ _ 23 23 rfl (.slice (some ⟨N,(i+m) * 2,none⟩) (n+m - (i+m)) (G - (i+m))) (.slice (some ⟨b,off+i * 2,none⟩) (n - i) (c - i)) (by simp [Act.eval,Act.put]) (by simp [Act.eval,Act.put]) (hcpB ((W1.setCells N (i * 2) vs).drew) (fun _=>rfl) (fun _=>rfl) 3 (G - (i+m)) (c - i)) ?_)
 go_wp2
 go_ret
 exact ⟨rfl,rfl⟩
end Go.Proofs.Ytacbgjhmkhjpoaa
namespace Go.Proofs.Ytacbgjhmkhjpoaa
open Go.Abs Go.Proofs Go.RowKit Go.Lib
theorem Zr {P:Program} (w:World) (tS tR e:TypeId) (ht:P.underlying tS=some (.slice e)) (size:Nat) (hz:∀ w,(Go.sizeOf e).run P w=.ok size w) (b oa la ca ob lb cb:Nat) (hd:oa+la * size≤ob∨ob+lb * size≤oa) :
  (Extern.SlicesOverlaps.overlaps #[tS,tS] #[tR] #[.slice (some ⟨b,oa,none⟩) la ca,.slice (some ⟨b,ob,none⟩) lb cb]).run P w=.ok (.bool false) w:=by
 have hf:(decide (oa < ob+lb * size) && decide (ob < oa+la * size))=false:=by
  rcases hd with h | h
  ·
   rw [decide_eq_false (show ¬ ob < oa+la * size by omega),Bool.and_false]
  ·
   rw [decide_eq_false (show ¬ oa < ob+lb * size by omega),Bool.false_and]
 have hb:(b != b)=false:=by simp
 have hu:=run_underlying ht
 change Sem.run P (bind (underlying tS) _) w=_
 rw [Sem.run_bind,hu]
 change Sem.run P (bind (sizeOf e) _) w=_
 rw [Sem.run_bind,hz]
 change Sem.run P (if la=0∨lb=0∨size=0 then _ else _) w=_
 by_cases h0:la=0∨lb=0∨size=0
 ·
  rw [if_pos h0];rfl
 ·
  rw [if_neg h0]
  simp [hb,hf]
  try omega
section
variable {B:Base} {w0:World} {m:Mp} {H:zx} {w:World}
theorem Qj:wJ zi 23=some 30:=by kernel_rfl
theorem WU:∃ z,zeroOf zi 30=some z∧z.cells.size=2∧z.cells.toList.all (·.oneCell')=true:=⟨_,rfl,by kernel_rfl,by kernel_rfl⟩
theorem ZG:bytesOf zi 30=some 16:=by kernel_rfl
theorem ab8 {vr vo k kc:Nat} {vcs:List Value} {own:Own} (hv:H.get vr=some (.cells vcs own 2)) (h1:vo+k * 2≤vcs.length) (h2:((vcs.drop vo).take (k * 2)).all (·.oneCell')=true) :
  wH zi 23 2 (.slice (some ⟨vr,vo,none⟩) k kc) H=some (k,(vcs.drop vo).take (k * 2)):=by
 simp only [wH,ji,wF,hv,if_pos h1,if_pos h2]
theorem acG {vr vo k kc:Nat} {vcs:List Value} {own:Own} (hv:H.get vr=some (.cells vcs own 2)) (h1:vo+k * 2≤vcs.length) (h2:((vcs.drop vo).take (k * 2)).all (·.oneCell')=true) (hk:0 < k) (hb:k≤1048576) :
  wO zi 23 23 (.slice none 0 0) (.slice (some ⟨vr,vo,none⟩) k kc) H=some (.slice (some ⟨H.next,0,none⟩) k k,H.push (.cells ((vcs.drop vo).take (k * 2)) (.own []) 2)):=by
 obtain ⟨z,z1,z2,_⟩:=WU
 simp only [wO,Qj,jM,z1,ZG,ab8 hv h1 h2,z2,if_true,show (0:Nat) < 2 from by decide,if_neg (show ¬ k=0 by omega),if_pos (show k * 16≤140737488355328 by omega),if_pos (show k≤4611686018427387903 by omega)]
theorem aa8 {vr vo k kc r o n c:Nat} {vcs cs:List Value} {own:Own} {anc:List Nat} (hv:H.get vr=some (.cells vcs own 2)) (h1:vo+k * 2≤vcs.length) (h2:((vcs.drop vo).take (k * 2)).all (·.oneCell')=true) (hb:n+k≤1048576)
  (hg:H.get r=some (.cells cs (.own anc) 2)) (h3:o+n * 2≤cs.length) (h4:((cs.drop o).take (n * 2)).all (·.oneCell')=true) :
  ∃ (G:zx) (anc':List Nat),Go.Abs.Left H r anc cs (o+n * 2) (n * 2) 2 G anc'∧wO zi 23 23 (.slice (some ⟨r,o,none⟩) n c) (.slice (some ⟨vr,vo,none⟩) k kc) H=some (.slice (some ⟨H.next,0,none⟩) (n+k) (n+k),G.push (.cells ((cs.drop o).take (n * 2)++(vcs.drop vo).take (k * 2)) (.own anc') 2)):=by
 obtain ⟨z,z1,z2,_⟩:=WU
 obtain ⟨G,anc',hap⟩:∃ G anc',wP H r (.own anc) cs (o+n * 2) (n * 2) 2=some (G,anc'):=by
  unfold wP
  dsimp only
  split <;> exact ⟨_,_,rfl⟩
 obtain ⟨anc0,e,hL⟩:=xZ hap
 cases e
 refine ⟨G,anc',hL,?_⟩
 simp only [wO,Qj,jM,z1,ZG,ab8 hv h1 h2,z2,if_true,show (0:Nat) < 2 from by decide,hg,if_pos h3,if_pos (show (n+k) * 16≤140737488355328 by omega),if_pos (show n+k≤4611686018427387903 by omega),if_pos h4,hap]
theorem ad5 {v va vc b o n c r r':Nat} {L L':Go.Abs.Loc} {cs cs':List Value} {own:List Nat} {anc:List Nat} (hr:Rel B w0 m H w) (hne:r≠r') (h1:m r=some L) (h2:m r'=some L') (g1:H.get r=some (.cells cs (.own anc) 2)) (g2:H.get r'=some (.cells cs' (.own own) 2))
  (hc':0 < cs'.length) (hc1:0 < cs.length) (hb:b=L.blk) (ho:L.shift≤o) (hl:o+n * 2≤L.lim) (hv:L'.shift≤va) (hvl:va+v * 2≤L'.lim) :
  (callFunc 34 #[.slice (some ⟨L'.blk,va,none⟩) v vc,.slice (some ⟨b,o,none⟩) n c]).run zi w=.ok (.value (.bool false)) w:=by
 have hz:∀ w,(Go.sizeOf 30).run zi w=.ok 2 w:=fun w=>wu jM w
 have hap:=hr.apart r r' L L' _ _ hne h1 h2 g1 g2 rfl rfl
 have e1:jZ.lo (.cells cs (.own anc) 2) r' (.cells cs' (.own own) 2)=0:=by simp [jZ.lo,jZ.owns,Own.owns]
 have e2:jZ.hi L'.shift L'.lim (.cells cs' (.own own) 2)=L'.lim:=rfl
 rw [e1,e2] at hap
 obtain ⟨_,cc,e,fr,hbk,k1,k2,k3,k4⟩:=hr.obj r L _ h1 g1
 obtain ⟨_,cc',e',fr',hbk',k1',k2',k3',k4'⟩:=hr.obj r' L' _ h2 g2
 have key:(Extern.SlicesOverlaps.overlaps #[23,23] #[4] #[.slice (some ⟨L'.blk,va,none⟩) v vc,.slice (some ⟨b,o,none⟩) n c]).run zi w=.ok (.bool false) w:=by
  subst hb
  by_cases hbb:L'.blk=L.blk
  ·
   rw [hbb]
   exact Zr w _ _ _ ji 2 hz _ _ _ _ _ _ _ (by have:=hap hbb.symm;omega)
  ·
   have f':fr'.1=fr'.2:=by
    rcases k4' rfl with h | ⟨_,h⟩
    ·
     exact h
    ·
     cases h
   have nofr:∀ x,w.frozen? ⟨L'.blk,x,none⟩=false:=fun x=>by
    simp only [World.frozen?,hbk']
    obtain ⟨a,b⟩:=fr'
    dsimp only at f' ⊢
    subst f'
    simp only [Bool.and_eq_false_iff,decide_eq_false_iff_not]
    omega
   exact run_overlaps_apart w _ _ _ ji 2 hz ⟨L'.blk,va,none⟩ ⟨L.blk,o,none⟩ v vc n c hbb e' e cc'.size cc.size (by simp [World.shape?,hbk']) (by simp [World.shape?,hbk]) (by omega) (nofr _) (nofr _)
 rw [run_callFunc_extern Try.func34 (by kernel_rfl) (by kernel_rfl) (by kernel_rfl) (e:=Extern.SlicesOverlaps.overlaps #[23,23] #[4]) (by kernel_rfl),key]
 rfl
end
section
variable {B:Base} {w0:World} {m:Mp} {H:zx} {w:World}
abbrev Wp (B:Base) (w0:World) (m:Mp) (H':zx) (v:Value):Ending→World→Prop:=fun e w'=>∃ v' m',e=.returned v'∧VR m' v v'∧m.le m'∧Rel B w0 m' H' w'
abbrev qw (X V:List Value) (i:Nat):List Value:=X.take (i * 2)++(V++X.drop (i * 2))
theorem VX {r o n c i vr vo k vc:Nat} {L Lv:Go.Abs.Loc} {cs vcs:List Value} {anc vanc:List Nat} (hr:Rel B w0 m H w) (hm:m r=some L) (hg:H.get r=some (.cells cs (.own anc) 2)) (hvm:m vr=some Lv) (hv:H.get vr=some (.cells vcs (.own vanc) 2)) (hne:r≠vr)
  (hi:i < n) (hk:0 < k) (hl:L.shift+o+c * L.esz≤L.lim) (hroom:n+k≤c) (hle:o+n * 2≤cs.length) (h1:((cs.drop o).take (n * 2)).all (·.oneCell')=true) (hvl:vo+k * 2≤vcs.length) (hkc:k≤vc) (hvlim:Lv.shift+vo+vc * Lv.esz≤Lv.lim) (h2:((vcs.drop vo).take (k * 2)).all (·.oneCell')=true) (hb:n+k≤1048576) :
  Calls zi 28 #[.slice (some ⟨L.blk,L.shift+o,none⟩) n c,.int .i64 i,.slice (some ⟨Lv.blk,Lv.shift+vo,none⟩) k vc] w
   (Wp B w0 m (((H.kills anc).set r .dead).push (.cells (qw ((cs.drop o).take (n * 2)) ((vcs.drop vo).take (k * 2)) i) (.own []) 2)) (.slice (some ⟨H.next,0,none⟩) (n+k) (n+k))):=by
 have hL:L.esz=2:=(hr.obj r L _ hm hg).1
 have hLv:Lv.esz=2:=(hr.obj vr Lv _ hvm hv).1
 rw [hL] at hl;rw [hLv] at hvlim
 obtain ⟨olds,ho1,ho2⟩:=hr.range hm hg hle
 obtain ⟨news,hn1,hn2⟩:=hr.range hvm hv hvl
 have hol:olds.length=n * 2:=by rw [← ho1.1];simp;omega
 have hnl:news.length=k * 2:=by rw [← hn1.1];simp;omega
 have hall:LR m (qw ((cs.drop o).take (n * 2)) ((vcs.drop vo).take (k * 2)) i) (qw olds news i):=(ho1.take _).append (hn1.append (ho1.drop _))
 have hlen':(qw olds news i).length=(n+k) * 2:=by simp only [qw,List.length_append,List.length_take,List.length_drop,hol,hnl];omega
 have hlen:(qw ((cs.drop o).take (n * 2)) ((vcs.drop vo).take (k * 2)) i).length=(n+k) * 2:=by rw [hall.1];exact hlen'
 obtain ⟨ht,hrel⟩:=hr.drew.inserted (o:=o) hm hg (by omega) hall (by rw [hlen];omega)
 rw [hlen'] at ht
 obtain ⟨_,cc,e,fr,hbk,k1,k2,k3,k4⟩:=hr.obj r L _ hm hg
 have hap:=hr.apart r vr L Lv _ _ hne hm hvm hg hv rfl rfl
 have e1:jZ.lo (.cells cs (.own anc) 2) vr (.cells vcs (.own vanc) 2)=0:=by simp [jZ.lo,jZ.owns,Own.owns]
 have e2:jZ.hi Lv.shift Lv.lim (.cells vcs (.own vanc) 2)=Lv.lim:=rfl
 rw [e1,e2] at hap
 have hpl:(olds.take (i * 2)).length=i * 2:=by rw [List.length_take,hol];omega
 have hset:=ZQ (w:=w.drew) (b:=L.blk) (o:=L.shift+o) hbk (pre:=olds.take (i * 2)) (vs:=news) (suf:=olds.drop (i * 2))
  (fun j v hj=>by
   rw [List.getElem?_take] at hj
   split at hj
   ·
    have:=ho2 j v hj
    rw [kN hbk] at this
    exact this
   ·
    cases hj)
  (by rw [hpl,hnl,List.length_drop,hol];omega)
 rw [hpl,hnl,← Nat.add_mul] at hset
 refine (YS L.blk (L.shift+o) n c i Lv.blk (Lv.shift+vo) k vc olds news w hi hk hroom (by omega) (fun e=>by have:=hap e.symm;omega) hol hnl ho2 (fun j hj=>(ht j hj).1) (fun j hj=>(ht j hj).2) hn2 (Go.Abs.kT ho1 h1) (Go.Abs.kT hn1 h2)
  (fun cb=>ad5 hr hne hm hvm hg hv (by omega) (by omega) rfl (by omega) (by omega) (by omega) (by omega))).mono ?_
 rintro e' w' ⟨rfl,rfl⟩
 refine ⟨_,_,rfl,VR.slice (o:=0) (Mp.add_same m H.next ⟨L.blk,L.shift+o,L.lim,2⟩) hroom (by dsimp only;omega),Mp.yM (hr.fresh _ (Nat.le_refl _)),?_⟩
 rw [hset]
 exact hrel
theorem abx {r o n c i vr vo k vc:Nat} {L Lv:Go.Abs.Loc} {cs vcs:List Value} {anc vanc:List Nat} (hr:Rel B w0 m H w) (hm:m r=some L) (hg:H.get r=some (.cells cs (.own anc) 2)) (hvm:m vr=some Lv) (hv:H.get vr=some (.cells vcs (.own vanc) 2))
  (hi:i < n) (hk:0 < k) (hnc:n≤c) (hroom:c < n+k) (hle:o+n * 2≤cs.length) (h1:((cs.drop o).take (n * 2)).all (·.oneCell')=true) (hvl:vo+k * 2≤vcs.length) (h2:((vcs.drop vo).take (k * 2)).all (·.oneCell')=true) (hb:n+k≤1048576) :
  Calls zi 28 #[.slice (some ⟨L.blk,L.shift+o,none⟩) n c,.int .i64 i,.slice (some ⟨Lv.blk,Lv.shift+vo,none⟩) k vc] w
   (Wp B w0 m (((H.kills anc).set r .dead).push (.cells (qw ((cs.drop o).take (n * 2)) ((vcs.drop vo).take (k * 2)) i) (.own []) 2)) (.slice (some ⟨H.next,0,none⟩) (n+k) (n+k))):=by
 obtain ⟨olds,ho1,ho2⟩:=hr.range hm hg hle
 obtain ⟨news,hn1,hn2⟩:=hr.range hvm hv hvl
 have hol:olds.length=n * 2:=by rw [← ho1.1];simp;omega
 have hnl:news.length=k * 2:=by rw [← hn1.1];simp;omega
 have hall:LR m (qw ((cs.drop o).take (n * 2)) ((vcs.drop vo).take (k * 2)) i) (qw olds news i):=(ho1.take _).append (hn1.append (ho1.drop _))
 have hpl:(olds.take (i * 2)).length=i * 2:=by rw [List.length_take,hol];omega
 obtain ⟨z,z1,z2,z3⟩:=WU
 obtain ⟨ti,hti,htz⟩:=qY z1
 have hts:ti.size=2:=by have:=jM;simpa [qc,hti] using this
 have htb:ti.bytes=16:=by have:=ZG;simpa [Go.Abs.bytesOf,hti] using this
 have hbw:=hr.lt r L hm
 have hvw:=hr.lt vr Lv hvm
 have hik:i+(n+k - i)=n+k:=by omega
 have hkk:(n:Int)+(k:Int) - (i:Int)=((n+k - i:Nat):Int):=by omega
 obtain ⟨G,hG⟩:∃ G,G=grownCap w (n+k) c 30:=⟨_,rfl⟩
 have hGn:n+k≤G:=by rw [hG];exact grownCap_ge w _ _ _
 have hG63:G≤9223372036854775807:=by
  have:=grownCap_le_maxLen w (n+k) c 30 (by unfold maxLen;omega)
  rw [← hG] at this
  unfold maxLen at this
  omega
 obtain ⟨ROW,hROW⟩:∃ ROW:Array Value,ROW=(olds.take (i * 2)).toArray++Builtin.zeroCells z.cells (n+k - i)++Builtin.zeroCells z.cells (G - (n+k)):=⟨_,rfl⟩
 have hRl:ROW.size=G * 2:=by
  rw [hROW,Array.size_append,Array.size_append,size_zeroCells,size_zeroCells,z2]
  simp only [List.size_toArray,hpl]
  omega
 have hold:(Builtin.firstCells ti.size i (.slice (some ⟨L.blk,L.shift+o,none⟩) i c)).run zi w.drew=.ok (olds.take (i * 2)).toArray w.drew:=by
  rw [hts]
  exact run_firstCells_some w.drew 2 i ⟨L.blk,L.shift+o,none⟩ i c (olds.take (i * 2)) hpl (fun j v hj=>by
   rw [Addr.add_lit]
   rw [List.getElem?_take] at hj
   split at hj
   ·
    exact ho2 j v hj
   ·
    cases hj)
 have hrz:∀ ty,(Builtin.append_ #[23,3] ty #[.slice (some ⟨L.blk,L.shift+o,none⟩) i c,.int .i64 ((n:Int)+(k:Int) - (i:Int))]).run zi w=.ok (.slice (some ⟨w.heap.size,0,none⟩) (n+k) G) (w.drew.alloc (.cells ROW 30)):=fun ty=>by
  have h:=Lib.run_append_grow_zeros w 23 3 ty 30 ti z .i64 .i64 ji (by kernel_rfl) hti htz (some ⟨L.blk,L.shift+o,none⟩) i c (olds.take (i * 2)) hold (n+k - i) (by omega) (by omega) (by omega) (by omega) (by rw [htb];omega)
   (by rw [htb];exact growslice_fits (by omega) (by omega))
  rw [hik,← hG] at h
  rw [hkk,hROW]
  exact h
 have hg1:yB w (w.drew.alloc (.cells ROW 30)) (.cells ROW 30 (0,0)):=yB.da w _
 obtain ⟨W1,hW1⟩:∃ W1,W1=w.drew.alloc (.cells ROW 30):=⟨_,rfl⟩
 rw [← hW1] at hrz hg1
 have oldc:∀ b x,b < w.heap.size→W1.cell? ⟨b,x,none⟩=w.cell? ⟨b,x,none⟩:=fun b x hb=>by rw [hW1];exact World.cell?_alloc_past (w:=w.drew) _ b x hb
 obtain ⟨tail,ht1,ht2⟩:=QA (pre:=olds.take (i * 2)) (vs:=news) (suf:=olds.drop (i * 2)) (row:=ROW)
  (fun j v hj=>by
   have hjl:j < i * 2:=by have:=(List.getElem?_eq_some_iff.1 hj).1;rw [hpl] at this;exact this
   rw [hROW,Array.append_assoc,Array.getElem?_append_left (by simp [hpl];omega)]
   simpa using hj)
  (by rw [hRl,hpl,hnl,List.length_drop,hol];omega)
 have hg2:=((hg1.put (i * 2) news).adP).put ((i+k) * 2) (olds.drop (i * 2))
 rw [hpl,hnl,← Nat.add_mul] at ht1
 rw [ht1] at hg2
 have hK:Rel B w0 m ((H.kills anc).set r .dead) w:=hr.less (by simp) fun x ob hx=>by
  rw [zx.je,zx.wR] at hx
  split at hx
  ·
   cases hx;exact .inl rfl
  ·
   split at hx
   ·
    cases hx;exact .inl rfl
   ·
    exact .inr hx
 refine (Qk L.blk (L.shift+o) n c i Lv.blk (Lv.shift+vo) k vc w.heap.size G olds news w W1 hi hk hnc hroom hG63 hGn hol hnl (Go.Abs.kT ho1 h1) (Go.Abs.kT hn1 h2) hrz
  (fun j hj=>by rw [kN hg1.new,Array.getElem?_eq_getElem (by omega)];rfl) (fun j=>Ja hg1.new (by simp)) (fun j v hj=>by rw [oldc _ _ hbw];exact ho2 j v hj) (fun j v hj=>by rw [oldc _ _ hvw];exact hn2 j v hj) (by omega) (by omega)).mono ?_
 rintro e' w' ⟨rfl,rfl⟩
 obtain ⟨L2,l1,l2,l3,l4,hrel⟩:=hK.new (own:=.own []) (esz:=2) hall hg2 (.inl rfl)
 have hn:((H.kills anc).set r .dead).next=H.next:=by simp
 rw [hn] at hrel
 have hlen':(qw olds news i).length=(n+k) * 2:=by simp only [qw,List.length_append,List.length_take,List.length_drop,hol,hnl];omega
 refine ⟨_,m.add H.next L2,rfl,?_,Mp.yM (hr.fresh _ (Nat.le_refl _)),hrel⟩
 have:=VR.qX (n:=n+k) (c:=G) (Mp.add_same m H.next L2) l2 hGn (by
  rw [l4,l3,hlen',ht2,hRl,hpl,hnl,List.length_drop,hol]
  omega)
 rw [l1] at this
 exact this
end
section
variable {B:Base} {w0:World} {m:Mp} {H:zx} {w:World}
theorem XL {X V:List Value} {n:Nat} (h:X.length=n * 2):qw X V n=X++V:=by
 unfold qw
 rw [← h,List.take_length,List.drop_length,List.append_nil]
theorem abk {r o n vr vo k kc vc:Nat} {Lv:Go.Abs.Loc} {cs vcs:List Value} {anc vanc:List Nat} {s':Value} {c0:Nat} (hr:Rel B w0 m H w) (hs:VR m (.slice (some ⟨r,o,none⟩) n c0) s') (hg:H.get r=some (.cells cs (.own anc) 2)) (hx:VR m (.slice (some ⟨vr,vo,none⟩) k kc) (.slice (some ⟨Lv.blk,Lv.shift+vo,none⟩) k vc)) (hv:H.get vr=some (.cells vcs (.own vanc) 2))
  (hk:0 < k) (hle:o+n * 2≤cs.length) (h1:((cs.drop o).take (n * 2)).all (·.oneCell')=true) (hvl:vo+k * 2≤vcs.length) (h2:((vcs.drop vo).take (k * 2)).all (·.oneCell')=true) (hb:n+k≤1048576) :
  Calls zi 28 #[s',.int .i64 n,.slice (some ⟨Lv.blk,Lv.shift+vo,none⟩) k vc] w
   (Wp B w0 m (((H.kills anc).set r .dead).push (.cells (qw ((cs.drop o).take (n * 2)) ((vcs.drop vo).take (k * 2)) n) (.own []) 2)) (.slice (some ⟨H.next,0,none⟩) (n+k) (n+k))):=by
 obtain ⟨G,anc',hX,happ⟩:=aa8 (c:=c0) (kc:=kc) hv hvl h2 hb hg hle h1
 have hsim:=fun ty=>Zm (ty:=ty) hr happ hs hx
 obtain ⟨v',w',m',hrun,hvr,hm',hrel⟩:=hsim 23
 have hrun':∀ ty,(Builtin.append_ #[23,23] ty #[s',.slice (some ⟨Lv.blk,Lv.shift+vo,none⟩) k vc]).run zi w=.ok v' w':=fun ty=>hrun
 have hs'e:∃ base c,s'=.slice base n c∧n≤c:=by
  cases hs with
  | slice hm h1 h2=>exact ⟨_,_,rfl,h1⟩
  | slice0 hm h1 ha=>exact ⟨_,_,rfl,Nat.le_refl _⟩
 obtain ⟨base,c,rfl,hnc⟩:=hs'e
 refine (JU base n c k vc _ w w' v' hk hnc hrun').mono ?_
 rintro e' w2 ⟨rfl,rfl⟩
 have hmL:∃ L,m' H.next=some L:=by
  generalize n+k=N at hvr
  generalize H.next=q at hvr ⊢
  cases hvr with
  | slice hm h1 h2=>exact ⟨_,hm⟩
  | slice0 hm h1 ha=>exact ⟨_,hm⟩
 obtain ⟨L,hmL⟩:=hmL
 have hnG:=hX.next
 have hget:(G.push (.cells ((cs.drop o).take (n * 2)++(vcs.drop vo).take (k * 2)) (.own anc') 2)).get H.next=some (.cells ((cs.drop o).take (n * 2)++(vcs.drop vo).take (k * 2)) (.own anc') 2):=by
  rw [zx.zQ,if_pos hnG.symm]
 have hst:=(hrel.store (o:=0) hmL hget LR.nil (by simp)).2
 have hfin:Rel B w0 m' (((H.kills anc).set r .dead).push (.cells (qw ((cs.drop o).take (n * 2)) ((vcs.drop vo).take (k * 2)) n) (.own []) 2)) w2:=by
  refine Rel.less (G:=_) hst (by simp [hnG]) fun x ob hx=>?_
  rw [zx.zQ] at hx
  rw [zx.je,zx.wR,zx.zQ,hnG]
  simp only [zx.qV,zx.qj] at hx
  split at hx
  ·
   rename_i e1
   rw [if_pos e1]
   right
   rw [← hx,XL (by simp;omega)]
   simp [splice]
  ·
   rename_i e1
   rw [zx.je,zx.wR] at hx
   rw [if_neg e1,if_neg e1]
   split at hx
   ·
    cases hx;exact .inl rfl
   ·
    rename_i e2
    split at hx
    ·
     cases hx;exact .inl rfl
    ·
     rename_i e3
     right
     have hna:x ∉ anc':=by
      rcases hX with ⟨_,_,ha⟩ | ⟨_,ha⟩
      ·
       rw [ha]
       split
       ·
        simp
       ·
        simp [e2,e3]
      ·
       rw [ha];simp
     rw [if_neg hna]
     rcases hX with ⟨_,hGe,_⟩ | ⟨hGe,_⟩
     ·
      rw [hGe,zx.je,if_neg e2];exact hx
     ·
      rw [hGe,zx.je,if_neg e2,zx.wR,if_neg e3];exact hx
 exact ⟨_,m',rfl,hvr,hm',hfin⟩
theorem abm {vr vo k kc vc:Nat} {Lv:Go.Abs.Loc} {vcs:List Value} {vanc:List Nat} (hr:Rel B w0 m H w) (hx:VR m (.slice (some ⟨vr,vo,none⟩) k kc) (.slice (some ⟨Lv.blk,Lv.shift+vo,none⟩) k vc)) (hv:H.get vr=some (.cells vcs (.own vanc) 2))
  (hk:0 < k) (hvl:vo+k * 2≤vcs.length) (h2:((vcs.drop vo).take (k * 2)).all (·.oneCell')=true) (hb:k≤1048576) :
  Calls zi 28 #[.slice none 0 0,.int .i64 (0:Nat),.slice (some ⟨Lv.blk,Lv.shift+vo,none⟩) k vc] w
   (Wp B w0 m (H.push (.cells ((vcs.drop vo).take (k * 2)) (.own []) 2)) (.slice (some ⟨H.next,0,none⟩) k k)):=by
 have happ:=acG (kc:=kc) hv hvl h2 hk hb
 obtain ⟨v',w',m',hrun,hvr,hm',hrel⟩:=Zm (ty:=23) hr happ .sliceNil hx
 have hrun':∀ ty,(Builtin.append_ #[23,23] ty #[.slice none 0 0,.slice (some ⟨Lv.blk,Lv.shift+vo,none⟩) k vc]).run zi w=.ok v' w':=fun ty=>hrun
 refine (JU none 0 0 k vc _ w w' v' hk (Nat.le_refl _) hrun').mono ?_
 rintro e' w2 ⟨rfl,rfl⟩
 exact ⟨_,m',rfl,hvr,hm',hrel⟩
end
theorem abA:Prim zi 28:=by
 intro B w0 g args H v H' h m w args' hl hr
 dsimp only at h
 split at h
 case isFalse=>cases h
 case isTrue hg =>
 subst hg
 refine ⟨?_,?_⟩
 ·
  have hne:(Try.f28.name == "runtime.NumGoroutine")=false:=by decide
  have hnn:Try.f28.body.isNone=false:=rfl
  simp only [callFunc,Sem.run_bind,run_program,Result.andThen_ok,Try.func28,hne,hnn,Bool.false_eq_true,if_false,Sem.run_pure]
 ·
  unfold Qh at h
  split at h <;> first | (cases h;done) | skip
  rename_i sb n c0 i vr vo k kc
  obtain ⟨s',i',x',rfl,hs,hi',hx⟩:=hl.three
  cases hi'
  split at h <;> first | (cases h;done) | skip
  rename_i vcs vanc hv
  split at h <;> first | (cases h;done) | skip
  rename_i hcond
  obtain ⟨k0,k1,k2,k3,k4,k5⟩:=hcond
  obtain ⟨j,rfl⟩:∃ j:Nat,i=j:=⟨i.toNat,by omega⟩
  rw [Int.toNat_natCast] at k3
  have hx0:=hx
  cases hx with
  | slice0=>omega
  | @slice _ _ Lv _ vc hvm hvn hvlim =>
  show Calls zi 28 #[s',.int .i64 j,.slice (some ⟨Lv.blk,Lv.shift+vo,none⟩) k vc] w _
  split at h
  ·
   split at h <;> first | (cases h;done) | skip
   rename_i hn0
   subst hn0
   cases h
   have hj:j=0:=by omega
   subst hj
   cases hs
   exact abm hr hx0 hv k0 k1 k5 (by omega)
  ·
   rename_i r o
   split at h <;> first | (cases h;done) | skip
   rename_i cs anc hg
   split at h <;> first | (cases h;done) | skip
   rename_i hcond2
   obtain ⟨q1,q2,q3⟩:=hcond2
   cases h
   rw [Int.toNat_natCast]
   by_cases hjn:j=n
   ·
    subst hjn
    exact abk hr hs hg hx0 hv k0 q2 q3 k1 k5 k4
   ·
    cases hs with
    | slice0=>omega
    | @slice _ _ L _ c hm hnc hlim =>
     by_cases hroom:n+k≤c
     ·
      exact VX hr hm hg hvm hv q1 (by omega) k0 hlim hroom q2 q3 k1 hvn hvlim k5 k4
     ·
      exact abx hr hm hg hvm hv (by omega) k0 hnc (by omega) q2 q3 k1 k5 k4
  ·
   cases h
end Go.Proofs.Ytacbgjhmkhjpoaa
namespace Go.Proofs.Ytacbgjhmkhjpoaa
open Go.Abs Go.RowKit
theorem acC {args:List Value} {H:zx} {r:Value×zx} (h:Qh args H=some r):lim zi 28 args H=some r:=by
 have hn:abX Try.f28=false:=by decide
 refine abV ⟨1,fun k hk=>?_⟩
 obtain ⟨k,rfl⟩:∃ i,k=i+1:=⟨k - 1,by omega⟩
 simp only [qJ,Try.func28,hn,Bool.false_eq_true,if_false,adf,if_pos abA,h]
theorem adW:Zh zi (fun g args=>if g=28 then Qh args else fun _=>none):=by
 intro g args aargs S v S' h μ H ω hG hA hD hE
 dsimp only at h
 split at h
 case isFalse=>cases h
 case isTrue hg =>
 subst hg
 have hT:TI μ H ω [] []:=⟨rfl,fun i=>by simpa using VV.zh,hD,fun r j hr=>by have:=hE r _ hr;cases this⟩
 have fin:∀ {a:Value} {H':zx} {μ':Mu} {ω':Nat→Option wo},Qh aargs H=some (a,H')→Upd μ ω H [] [] μ' ω' S' H'→V0 μ' H' v a→∃ a H' μ' ω',lim zi 28 aargs H=some (a,H')∧GI μ' S' H'∧Later μ H μ' H'∧Kept ω H ω' H'∧Dom μ' H' ω'∧VV μ' H' ω' (some (.res none)) v a :=
  fun k1 k2 k3=>⟨_,_,_,_,acC k1,k2.gi,k2.later,k2.kept,k2.ti.dom,k3.at0⟩
 unfold Qh at h
 split at h <;> first | (cases h;done) | skip
 rename_i sb n c0 i vq vo k kc
 obtain ⟨sa,ia,xa,rfl⟩:∃ a b c,aargs=[a,b,c]:=by
  have hl:=hA.1
  match aargs,hl with
  | [x,y,z],_=>exact ⟨x,y,z,rfl⟩
 have hs:=hA.head
 have hi:=hA.tail.head
 have hx:=hA.tail.tail.head
 have e1:=VV.yN (by rfl) hi
 subst e1
 split at h <;> first | (cases h;done) | skip
 rename_i vcs vanc hv
 split at h <;> first | (cases h;done) | skip
 rename_i hcond
 obtain ⟨k0,k1,k2,k3,k4,k5⟩:=hcond
 obtain ⟨vr,vcs',vown',w1,w2,w3,w4⟩:=hG.cells hv
 cases vown' with
 | ro=>exact w1.elim
 | own vanc' =>
 have hV:L0 μ H ((vcs.drop vo).take (k * 2)) ((vcs'.drop vo).take (k * 2)):=(w4.drop vo).take _
 have k5':=VL.one hV k5
 have hax:xa=.slice (some ⟨vr,vo,none⟩) k kc:=by
  cases hx with
  | sg hs=>simp [Go.Abs.sg] at hs
  | slm hm=>rw [w2] at hm;cases hm;rfl
 subst hax
 have k1':vo+k * 2≤vcs'.length:=by rw [← w4.1];exact k1
 split at h
 ·
  split at h <;> first | (cases h;done) | skip
  rename_i hn0
  subst hn0
  cases h
  have has:sa=.slice none 0 c0:=by
   cases hs with
   | sg hs=>rfl
  subst has
  have hq:Qh [.slice none 0 c0,.int .i64 i,.slice (some ⟨vr,vo,none⟩) k kc] H=some (.slice (some ⟨H.next,0,none⟩) k k,H.push (.cells ((vcs'.drop vo).take (k * 2)) (.own []) 2)):=by
   simp only [Qh,w3]
   rw [if_pos ⟨k0,k1',k2,k3,k4,k5'⟩]
   rfl
  exact fin hq (yX hG hT hV) (.slm yF)
 ·
  rename_i q o
  split at h <;> first | (cases h;done) | skip
  rename_i cs anc hg
  split at h <;> first | (cases h;done) | skip
  rename_i hcond2
  obtain ⟨q1,q2,q3⟩:=hcond2
  cases h
  obtain ⟨r,cs',own',u1,u2,u3,u4⟩:=hG.cells hg
  cases own' with
  | ro=>exact u1.elim
  | own anc' =>
  have hX:L0 μ H ((cs.drop o).take (n * 2)) ((cs'.drop o).take (n * 2)):=(u4.drop o).take _
  have has:sa=.slice (some ⟨r,o,none⟩) n c0:=by
   cases hs with
   | sg hs=>simp [Go.Abs.sg] at hs
   | slm hm=>rw [u2] at hm;cases hm;rfl
  subst has
  have hne:r≠vr:=fun e=>q1 (hG.inj q vq r u2 (by rw [e];exact w2))
  have hq:Qh [.slice (some ⟨r,o,none⟩) n c0,.int .i64 i,.slice (some ⟨vr,vo,none⟩) k kc] H=some (.slice (some ⟨H.next,0,none⟩) (n+k) (n+k),((H.kills anc').set r .dead).push (.cells (((cs'.drop o).take (n * 2)).take (i.toNat * 2)++((vcs'.drop vo).take (k * 2)++((cs'.drop o).take (n * 2)).drop (i.toNat * 2))) (.own []) 2)):=by
   simp only [Qh,w3]
   rw [if_pos ⟨k0,k1',k2,k3,k4,k5'⟩]
   simp only [u3]
   rw [if_pos ⟨hne,by rw [← u4.1];exact q2,VL.one hX q3⟩]
  have U1:=Zi (o:=.dead) (o':=.dead) hG hT u2 u1 (fun _ _ _ ha=>by cases ha) (fun _ _ _ h=>by cases h)
  have U2:=yX (e:=2) U1.gi U1.ti (((hX.take (i.toNat * 2)).append (hV.append (hX.drop (i.toNat * 2)))).later U1.later)
  have hnS:((S.kills anc).set q .dead).next=S.next:=by simp
  have hnH:((H.kills anc').set r .dead).next=H.next:=by simp
  rw [hnS,hnH] at U2
  exact fin hq (U1.trans U2) (.slm yF)
 ·
  cases h
end Go.Proofs.Ytacbgjhmkhjpoaa
namespace Go.Proofs.Ytacbgjhmkhjpoaa
open Go.Abs
def O:Ora:=⟨fun f=>if f=28 then some Qh else none,fun f=>([12,28,30]:List Nat).contains f,fun f=>([13,14,19,20,22,27]:List Nat).contains f⟩
theorem adX:abz zi O:=by
 intro f q h
 simp only [O] at h
 split at h
 ·
  rename_i hf;subst hf;cases h;exact adW
 ·
  cases h
end Go.Proofs.Ytacbgjhmkhjpoaa
namespace Go.Proofs.Ytacbgjhmkhjpoaa
open Go.Abs
noncomputable def zu.jl:Code:=(.seq (.region 7 (reg Try.f5 7) false) (.seq (.cond (.tmp 29) Code.skip (.exit 0)) (.seq (.block 1 (.seq (.region 8 (reg Try.f5 8) false) (.region 9 (reg Try.f5 9) false))) (.region 10 (reg Try.f5 10) false))))
noncomputable def zu.Ju:Code:=(.seq (.region 14 (reg Try.f5 14) false) (.seq (.cond (.tmp 41) Code.skip (.exit 2)) (.seq (.block 3 (.seq (.region 15 (reg Try.f5 15) false) (.seq (.region 16 (reg Try.f5 16) false) (.region 17 (reg Try.f5 17) false)))) (.region 18 (reg Try.f5 18) false))))
noncomputable def zu.code:Code:=(.seq (.region 0 (reg Try.f5 0) false) (.seq (.seq (.region 1 (reg Try.f5 1) false) (.cond (.tmp 16) (.seq (.region 2 (reg Try.f5 2) false) Code.ret) Code.skip)) (.seq (.seq (.region 3 (reg Try.f5 3) false) (.cond (.tmp 24) (.seq (.region 4 (reg Try.f5 4) false) Code.ret) Code.skip)) (.seq (.region 5 (reg Try.f5 5) false) (.seq (.seq (.region 6 (reg Try.f5 6) false) (.block 0 (.loop zu.jl))) (.seq (.region 11 (reg Try.f5 11) false) (.seq (.region 12 (reg Try.f5 12) false) (.seq (.seq (.region 13 (reg Try.f5 13) false) (.block 2 (.loop zu.Ju))) (.seq (.region 19 (reg Try.f5 19) false) (.seq (.region 20 (reg Try.f5 20) false) (.seq (.seq (.region 21 (reg Try.f5 21) false) (.cond (.tmp 64) (.seq (.region 22 (reg Try.f5 22) false) Code.ret) Code.skip)) (.seq (.seq (.region 23 (reg Try.f5 23) false) (.cond (.tmp 72) (.seq (.region 24 (reg Try.f5 24) true) Code.ret) Code.skip)) (.seq (.region 25 (reg Try.f5 25) false) Code.ret)))))))))))))
theorem zu.body:Try.f5.body=some zu.code:=by kernel_rfl
theorem zu.eta {T:List Value} (h:T.length=103):T=[T.getD 0 zh,T.getD 1 zh,T.getD 2 zh,T.getD 3 zh,T.getD 4 zh,T.getD 5 zh,T.getD 6 zh,T.getD 7 zh,T.getD 8 zh,T.getD 9 zh,T.getD 10 zh,T.getD 11 zh,T.getD 12 zh,T.getD 13 zh,T.getD 14 zh,T.getD 15 zh,T.getD 16 zh,T.getD 17 zh,T.getD 18 zh,T.getD 19 zh,T.getD 20 zh,T.getD 21 zh,T.getD 22 zh,T.getD 23 zh,T.getD 24 zh,T.getD 25 zh,T.getD 26 zh,T.getD 27 zh,T.getD 28 zh,T.getD 29 zh,T.getD 30 zh,T.getD 31 zh,T.getD 32 zh,T.getD 33 zh,T.getD 34 zh,T.getD 35 zh,T.getD 36 zh,T.getD 37 zh,T.getD 38 zh,T.getD 39 zh,T.getD 40 zh,T.getD 41 zh,T.getD 42 zh,T.getD 43 zh,T.getD 44 zh,T.getD 45 zh,T.getD 46 zh,T.getD 47 zh,T.getD 48 zh,T.getD 49 zh,T.getD 50 zh,T.getD 51 zh,T.getD 52 zh,T.getD 53 zh,T.getD 54 zh,T.getD 55 zh,T.getD 56 zh,T.getD 57 zh,T.getD 58 zh,T.getD 59 zh,T.getD 60 zh,T.getD 61 zh,T.getD 62 zh,T.getD 63 zh,T.getD 64 zh,T.getD 65 zh,T.getD 66 zh,T.getD 67 zh,T.getD 68 zh,T.getD 69 zh,T.getD 70 zh,T.getD 71 zh,T.getD 72 zh,T.getD 73 zh,T.getD 74 zh,T.getD 75 zh,T.getD 76 zh,T.getD 77 zh,T.getD 78 zh,T.getD 79 zh,T.getD 80 zh,T.getD 81 zh,T.getD 82 zh,T.getD 83 zh,T.getD 84 zh,T.getD 85 zh,T.getD 86 zh,T.getD 87 zh,T.getD 88 zh,T.getD 89 zh,T.getD 90 zh,T.getD 91 zh,T.getD 92 zh,T.getD 93 zh,T.getD 94 zh,T.getD 95 zh,T.getD 96 zh,T.getD 97 zh,T.getD 98 zh,T.getD 99 zh,T.getD 100 zh,T.getD 101 zh,T.getD 102 zh]:=(qO T 103 h).trans (by kernel_rfl)
variable (x0 x1 x2 x3 x4 x5 x6 x7 x8 x9 f n k g i s t u w x y z A B C D o p l E F G H I J K L M q r m N P Q R U V W X Y Z a0 a1 a2 a3 a4 a5 a6 a7 a8 a9 b0 b1 b2 b3 b4 b5 b6 b7 b8 b9 c0 c1 c2 c3 c4 c5 c6 c7 c8 c9 d0 d1 d2 d3 d4 d5 d6 d7 d8 d9 f0 f1 f2 f3 f4 f6 f7 f8 f9 b c d:Value) (S:zx)
theorem zu.r0 :jg zi ⟨false,false,false⟩ (zS zi O) (reg Try.f5 0) (reg Try.f5 0).toList ([x0,x1,x2,x3,x4,x5,x6,x7,x8,x9,f,n,k,g,i,s,t,u,w,x,y,z,A,B,C,D,o,p,l,E,F,G,H,I,J,K,L,M,q,r,m,N,P,Q,R,U,V,W,X,Y,Z,a0,a1,a2,a3,a4,a5,a6,a7,a8,a9,b0,b1,b2,b3,b4,b5,b6,b7,b8,b9,c0,c1,c2,c3,c4,c5,c6,c7,c8,c9,d0,d1,d2,d3,d4,d5,d6,d7,d8,d9,f0,f1,f2,f3,f4,f6,f7,f8,f9,b,c,d]) S =
  (zU (ZH (dem x1) S) (fun v0 S1=>some ([x0,x1,x2,v0,Value.bool false,x5,x6,x7,x8,x9,f,n,k,g,i,s,t,u,w,x,y,z,A,B,C,D,o,p,l,E,F,G,H,I,J,K,L,M,q,r,m,N,P,Q,R,U,V,W,X,Y,Z,a0,a1,a2,a3,a4,a5,a6,a7,a8,a9,b0,b1,b2,b3,b4,b5,b6,b7,b8,b9,c0,c1,c2,c3,c4,c5,c6,c7,c8,c9,d0,d1,d2,d3,d4,d5,d6,d7,d8,d9,f0,f1,f2,f3,f4,f6,f7,f8,f9,b,c,d],S1)) ()):=by
 kernel_rfl
theorem zu.r1 :jg zi ⟨false,false,false⟩ (zS zi O) (reg Try.f5 1) (reg Try.f5 1).toList ([x0,x1,x2,x3,x4,x5,x6,x7,x8,x9,f,n,k,g,i,s,t,u,w,x,y,z,A,B,C,D,o,p,l,E,F,G,H,I,J,K,L,M,q,r,m,N,P,Q,R,U,V,W,X,Y,Z,a0,a1,a2,a3,a4,a5,a6,a7,a8,a9,b0,b1,b2,b3,b4,b5,b6,b7,b8,b9,c0,c1,c2,c3,c4,c5,c6,c7,c8,c9,d0,d1,d2,d3,d4,d5,d6,d7,d8,d9,f0,f1,f2,f3,f4,f6,f7,f8,f9,b,c,d]) S =
  (zU ((zS zi O) 9 [] S) (fun v0 S1=>zU (aUn zi UnOp.not v0 S1) (fun v1 S2=>some ([x0,x1,x2,x3,x4,x5,x6,x7,x8,x9,f,n,k,g,i,v0,v1,u,w,x,y,z,A,B,C,D,o,p,l,E,F,G,H,I,J,K,L,M,q,r,m,N,P,Q,R,U,V,W,X,Y,Z,a0,a1,a2,a3,a4,a5,a6,a7,a8,a9,b0,b1,b2,b3,b4,b5,b6,b7,b8,b9,c0,c1,c2,c3,c4,c5,c6,c7,c8,c9,d0,d1,d2,d3,d4,d5,d6,d7,d8,d9,f0,f1,f2,f3,f4,f6,f7,f8,f9,b,c,d],S2)) ()) ()):=by
 kernel_rfl
theorem zu.r2 :jg zi ⟨false,false,false⟩ (zS zi O) (reg Try.f5 2) (reg Try.f5 2).toList ([x0,x1,x2,x3,x4,x5,x6,x7,x8,x9,f,n,k,g,i,s,t,u,w,x,y,z,A,B,C,D,o,p,l,E,F,G,H,I,J,K,L,M,q,r,m,N,P,Q,R,U,V,W,X,Y,Z,a0,a1,a2,a3,a4,a5,a6,a7,a8,a9,b0,b1,b2,b3,b4,b5,b6,b7,b8,b9,c0,c1,c2,c3,c4,c5,c6,c7,c8,c9,d0,d1,d2,d3,d4,d5,d6,d7,d8,d9,f0,f1,f2,f3,f4,f6,f7,f8,f9,b,c,d]) S =
  ( some ([x0,x1,x2,x3,Value.bool false,x5,x6,x7,x8,x9,f,n,k,g,i,s,t,u,w,x,y,z,A,B,C,D,o,p,l,E,F,G,H,I,J,K,L,M,q,r,m,N,P,Q,R,U,V,W,X,Y,Z,a0,a1,a2,a3,a4,a5,a6,a7,a8,a9,b0,b1,b2,b3,b4,b5,b6,b7,b8,b9,c0,c1,c2,c3,c4,c5,c6,c7,c8,c9,d0,d1,d2,d3,d4,d5,d6,d7,d8,d9,f0,f1,f2,f3,f4,f6,f7,f8,f9,b,c,d],S)):=by
 kernel_rfl
theorem zu.r3 :jg zi ⟨false,false,false⟩ (zS zi O) (reg Try.f5 3) (reg Try.f5 3).toList ([x0,x1,x2,x3,x4,x5,x6,x7,x8,x9,f,n,k,g,i,s,t,u,w,x,y,z,A,B,C,D,o,p,l,E,F,G,H,I,J,K,L,M,q,r,m,N,P,Q,R,U,V,W,X,Y,Z,a0,a1,a2,a3,a4,a5,a6,a7,a8,a9,b0,b1,b2,b3,b4,b5,b6,b7,b8,b9,c0,c1,c2,c3,c4,c5,c6,c7,c8,c9,d0,d1,d2,d3,d4,d5,d6,d7,d8,d9,f0,f1,f2,f3,f4,f6,f7,f8,f9,b,c,d]) S =
  (zU (vg zi 23 (dem x0) S) (fun v1 S1=>zU (wX zi BinOp.gtr 3 v1 (.int .i64 60) S1) (fun v2 S2=>gdK (dem v2) false (jd zi false 30 x3) S2 (fun v4 S3=>gdK (dem v2) false ((zS zi O) 14 [(dem v4)]) S3 (fun v5 S4=>gdK (dem v2) false (aUn zi UnOp.not v5) S4 (fun v6 S5=>zU (qm (dem v2) (Value.bool true) v6 S5) (fun v7 S6=>some ([x0,x1,x2,x3,x4,x5,x6,x7,x8,x9,f,n,k,g,i,s,t,dem x0,v1,v2,dem v2,v4,v5,v6,v7,D,o,p,l,E,F,G,H,I,J,K,L,M,q,r,m,N,P,Q,R,U,V,W,X,Y,Z,a0,a1,a2,a3,a4,a5,a6,a7,a8,a9,b0,b1,b2,b3,b4,b5,b6,b7,b8,b9,c0,c1,c2,c3,c4,c5,c6,c7,c8,c9,d0,d1,d2,d3,d4,d5,d6,d7,d8,d9,f0,f1,f2,f3,f4,f6,f7,f8,f9,b,c,d],S6)) ()) ()) ()) ()) ()) ()):=by
 refine sP Try.f5 3 0 (v:=x0) ?_
 refine sD Try.f5 3 1 (fun v1 S1=>?_)
 refine sD Try.f5 3 2 (fun v2 S2=>?_)
 refine sP Try.f5 3 3 (v:=v2) ?_
 refine sG Try.f5 3 4 (j:=3) (fun v4 S3=>?_)
 refine sG Try.f5 3 5 (j:=3) (fun v5 S4=>?_)
 refine sG Try.f5 3 6 (j:=3) (fun v6 S5=>?_)
 refine sD Try.f5 3 7 (fun v7 S6=>?_)
 kernel_rfl
theorem zu.r4 :jg zi ⟨false,false,false⟩ (zS zi O) (reg Try.f5 4) (reg Try.f5 4).toList ([x0,x1,x2,x3,x4,x5,x6,x7,x8,x9,f,n,k,g,i,s,t,u,w,x,y,z,A,B,C,D,o,p,l,E,F,G,H,I,J,K,L,M,q,r,m,N,P,Q,R,U,V,W,X,Y,Z,a0,a1,a2,a3,a4,a5,a6,a7,a8,a9,b0,b1,b2,b3,b4,b5,b6,b7,b8,b9,c0,c1,c2,c3,c4,c5,c6,c7,c8,c9,d0,d1,d2,d3,d4,d5,d6,d7,d8,d9,f0,f1,f2,f3,f4,f6,f7,f8,f9,b,c,d]) S =
  ( some ([x0,x1,x2,x3,Value.bool true,x5,x6,x7,x8,x9,f,n,k,g,i,s,t,u,w,x,y,z,A,B,C,D,o,p,l,E,F,G,H,I,J,K,L,M,q,r,m,N,P,Q,R,U,V,W,X,Y,Z,a0,a1,a2,a3,a4,a5,a6,a7,a8,a9,b0,b1,b2,b3,b4,b5,b6,b7,b8,b9,c0,c1,c2,c3,c4,c5,c6,c7,c8,c9,d0,d1,d2,d3,d4,d5,d6,d7,d8,d9,f0,f1,f2,f3,f4,f6,f7,f8,f9,b,c,d],S)):=by
 kernel_rfl
theorem zu.r5 :jg zi ⟨false,false,false⟩ (zS zi O) (reg Try.f5 5) (reg Try.f5 5).toList ([x0,x1,x2,x3,x4,x5,x6,x7,x8,x9,f,n,k,g,i,s,t,u,w,x,y,z,A,B,C,D,o,p,l,E,F,G,H,I,J,K,L,M,q,r,m,N,P,Q,R,U,V,W,X,Y,Z,a0,a1,a2,a3,a4,a5,a6,a7,a8,a9,b0,b1,b2,b3,b4,b5,b6,b7,b8,b9,c0,c1,c2,c3,c4,c5,c6,c7,c8,c9,d0,d1,d2,d3,d4,d5,d6,d7,d8,d9,f0,f1,f2,f3,f4,f6,f7,f8,f9,b,c,d]) S =
  (zU ((zS zi O) 10 [] S) (fun v0 S1=>some ([x0,x1,x2,x3,x4,v0,x6,x7,x8,x9,f,n,k,g,i,s,t,u,w,x,y,z,A,B,C,dem v0,o,p,l,E,F,G,H,I,J,K,L,M,q,r,m,N,P,Q,R,U,V,W,X,Y,Z,a0,a1,a2,a3,a4,a5,a6,a7,a8,a9,b0,b1,b2,b3,b4,b5,b6,b7,b8,b9,c0,c1,c2,c3,c4,c5,c6,c7,c8,c9,d0,d1,d2,d3,d4,d5,d6,d7,d8,d9,f0,f1,f2,f3,f4,f6,f7,f8,f9,b,c,d],S1)) ()):=by
 kernel_rfl
theorem zu.r6 :jg zi ⟨false,false,false⟩ (zS zi O) (reg Try.f5 6) (reg Try.f5 6).toList ([x0,x1,x2,x3,x4,x5,x6,x7,x8,x9,f,n,k,g,i,s,t,u,w,x,y,z,A,B,C,D,o,p,l,E,F,G,H,I,J,K,L,M,q,r,m,N,P,Q,R,U,V,W,X,Y,Z,a0,a1,a2,a3,a4,a5,a6,a7,a8,a9,b0,b1,b2,b3,b4,b5,b6,b7,b8,b9,c0,c1,c2,c3,c4,c5,c6,c7,c8,c9,d0,d1,d2,d3,d4,d5,d6,d7,d8,d9,f0,f1,f2,f3,f4,f6,f7,f8,f9,b,c,d]) S =
  (zU (vg zi 23 (dem x0) S) (fun v1 S1=>some ([x0,x1,x2,x3,x4,x5,x6,x7,x8,x9,f,n,k,g,i,s,t,u,w,x,y,z,A,B,C,D,dem x0,v1,.int .i64 0,E,F,G,H,I,J,K,L,M,q,r,m,N,P,Q,R,U,V,W,X,Y,Z,a0,a1,a2,a3,a4,a5,a6,a7,a8,a9,b0,b1,b2,b3,b4,b5,b6,b7,b8,b9,c0,c1,c2,c3,c4,c5,c6,c7,c8,c9,d0,d1,d2,d3,d4,d5,d6,d7,d8,d9,f0,f1,f2,f3,f4,f6,f7,f8,f9,b,c,d],S1)) ()):=by
 kernel_rfl
theorem zu.r7 :jg zi ⟨false,false,false⟩ (zS zi O) (reg Try.f5 7) (reg Try.f5 7).toList ([x0,x1,x2,x3,x4,x5,x6,x7,x8,x9,f,n,k,g,i,s,t,u,w,x,y,z,A,B,C,D,o,p,l,E,F,G,H,I,J,K,L,M,q,r,m,N,P,Q,R,U,V,W,X,Y,Z,a0,a1,a2,a3,a4,a5,a6,a7,a8,a9,b0,b1,b2,b3,b4,b5,b6,b7,b8,b9,c0,c1,c2,c3,c4,c5,c6,c7,c8,c9,d0,d1,d2,d3,d4,d5,d6,d7,d8,d9,f0,f1,f2,f3,f4,f6,f7,f8,f9,b,c,d]) S =
  (zU (wX zi BinOp.lss 3 l p S) (fun v0 S1=>some ([x0,x1,x2,x3,x4,x5,x6,x7,x8,x9,f,n,k,g,i,s,t,u,w,x,y,z,A,B,C,D,o,p,l,v0,F,G,H,I,J,K,L,M,q,r,m,N,P,Q,R,U,V,W,X,Y,Z,a0,a1,a2,a3,a4,a5,a6,a7,a8,a9,b0,b1,b2,b3,b4,b5,b6,b7,b8,b9,c0,c1,c2,c3,c4,c5,c6,c7,c8,c9,d0,d1,d2,d3,d4,d5,d6,d7,d8,d9,f0,f1,f2,f3,f4,f6,f7,f8,f9,b,c,d],S1)) ()):=by
 kernel_rfl
theorem zu.r8 :jg zi ⟨false,false,false⟩ (zS zi O) (reg Try.f5 8) (reg Try.f5 8).toList ([x0,x1,x2,x3,x4,x5,x6,x7,x8,x9,f,n,k,g,i,s,t,u,w,x,y,z,A,B,C,D,o,p,l,E,F,G,H,I,J,K,L,M,q,r,m,N,P,Q,R,U,V,W,X,Y,Z,a0,a1,a2,a3,a4,a5,a6,a7,a8,a9,b0,b1,b2,b3,b4,b5,b6,b7,b8,b9,c0,c1,c2,c3,c4,c5,c6,c7,c8,c9,d0,d1,d2,d3,d4,d5,d6,d7,d8,d9,f0,f1,f2,f3,f4,f6,f7,f8,f9,b,c,d]) S =
  (zU (zZ zi 23 o l S) (fun v0 S1=>zU (jd zi false 30 v0 S1) (fun v1 S2=>zU (ku zi 30 S2) (fun v2 S3=>zU (kQ zi 30 v2 (dem v1) S3) (fun v3 S4=>some ([x0,x1,x2,x3,x4,x5,x6,v2,x8,x9,f,n,k,g,i,s,t,u,w,x,y,z,A,B,C,D,o,p,l,E,v0,v1,H,I,J,K,L,M,q,r,m,N,P,Q,R,U,V,W,X,Y,Z,a0,a1,a2,a3,a4,a5,a6,a7,a8,a9,b0,b1,b2,b3,b4,b5,b6,b7,b8,b9,c0,c1,c2,c3,c4,c5,c6,c7,c8,c9,d0,d1,d2,d3,d4,d5,d6,d7,d8,d9,f0,f1,f2,f3,f4,f6,f7,f8,f9,b,c,d],S4)) ()) ()) ()) ()):=by
 kernel_rfl
theorem zu.r9 :jg zi ⟨false,false,false⟩ (zS zi O) (reg Try.f5 9) (reg Try.f5 9).toList ([x0,x1,x2,x3,x4,x5,x6,x7,x8,x9,f,n,k,g,i,s,t,u,w,x,y,z,A,B,C,D,o,p,l,E,F,G,H,I,J,K,L,M,q,r,m,N,P,Q,R,U,V,W,X,Y,Z,a0,a1,a2,a3,a4,a5,a6,a7,a8,a9,b0,b1,b2,b3,b4,b5,b6,b7,b8,b9,c0,c1,c2,c3,c4,c5,c6,c7,c8,c9,d0,d1,d2,d3,d4,d5,d6,d7,d8,d9,f0,f1,f2,f3,f4,f6,f7,f8,f9,b,c,d]) S =
  (zU (jd zi false 30 x7 S) (fun v1 S1=>zU ((zS zi O) 12 [(dem (dem x5)),(dem v1)] S1) (fun v2 S2=>some ([x0,x1,x2,x3,x4,x5,x6,x7,x8,x9,f,n,k,g,i,s,t,u,w,x,y,z,A,B,C,D,o,p,l,E,F,G,dem x5,v1,v2,K,L,M,q,r,m,N,P,Q,R,U,V,W,X,Y,Z,a0,a1,a2,a3,a4,a5,a6,a7,a8,a9,b0,b1,b2,b3,b4,b5,b6,b7,b8,b9,c0,c1,c2,c3,c4,c5,c6,c7,c8,c9,d0,d1,d2,d3,d4,d5,d6,d7,d8,d9,f0,f1,f2,f3,f4,f6,f7,f8,f9,b,c,d],S2)) ()) ()):=by
 kernel_rfl
theorem zu.r10 :jg zi ⟨false,false,false⟩ (zS zi O) (reg Try.f5 10) (reg Try.f5 10).toList ([x0,x1,x2,x3,x4,x5,x6,x7,x8,x9,f,n,k,g,i,s,t,u,w,x,y,z,A,B,C,D,o,p,l,E,F,G,H,I,J,K,L,M,q,r,m,N,P,Q,R,U,V,W,X,Y,Z,a0,a1,a2,a3,a4,a5,a6,a7,a8,a9,b0,b1,b2,b3,b4,b5,b6,b7,b8,b9,c0,c1,c2,c3,c4,c5,c6,c7,c8,c9,d0,d1,d2,d3,d4,d5,d6,d7,d8,d9,f0,f1,f2,f3,f4,f6,f7,f8,f9,b,c,d]) S =
  (zU (wX zi BinOp.add 3 l (.int .i64 1) S) (fun v0 S1=>some ([x0,x1,x2,x3,x4,x5,x6,x7,x8,x9,f,n,k,g,i,s,t,u,w,x,y,z,A,B,C,D,o,p,dem v0,E,F,G,H,I,J,v0,L,M,q,r,m,N,P,Q,R,U,V,W,X,Y,Z,a0,a1,a2,a3,a4,a5,a6,a7,a8,a9,b0,b1,b2,b3,b4,b5,b6,b7,b8,b9,c0,c1,c2,c3,c4,c5,c6,c7,c8,c9,d0,d1,d2,d3,d4,d5,d6,d7,d8,d9,f0,f1,f2,f3,f4,f6,f7,f8,f9,b,c,d],S1)) ()):=by
 kernel_rfl
theorem zu.r11 :jg zi ⟨false,false,false⟩ (zS zi O) (reg Try.f5 11) (reg Try.f5 11).toList ([x0,x1,x2,x3,x4,x5,x6,x7,x8,x9,f,n,k,g,i,s,t,u,w,x,y,z,A,B,C,D,o,p,l,E,F,G,H,I,J,K,L,M,q,r,m,N,P,Q,R,U,V,W,X,Y,Z,a0,a1,a2,a3,a4,a5,a6,a7,a8,a9,b0,b1,b2,b3,b4,b5,b6,b7,b8,b9,c0,c1,c2,c3,c4,c5,c6,c7,c8,c9,d0,d1,d2,d3,d4,d5,d6,d7,d8,d9,f0,f1,f2,f3,f4,f6,f7,f8,f9,b,c,d]) S =
  (zU ((zS zi O) 11 [(dem (dem x5))] S) (fun v1 S1=>some ([x0,x1,x2,x3,x4,x5,x6,x7,v1,x9,f,n,k,g,i,s,t,u,w,x,y,z,A,B,C,D,o,p,l,E,F,G,H,I,J,K,dem x5,dem v1,q,r,m,N,P,Q,R,U,V,W,X,Y,Z,a0,a1,a2,a3,a4,a5,a6,a7,a8,a9,b0,b1,b2,b3,b4,b5,b6,b7,b8,b9,c0,c1,c2,c3,c4,c5,c6,c7,c8,c9,d0,d1,d2,d3,d4,d5,d6,d7,d8,d9,f0,f1,f2,f3,f4,f6,f7,f8,f9,b,c,d],S1)) ()):=by
 kernel_rfl
theorem zu.r12 :jg zi ⟨false,false,false⟩ (zS zi O) (reg Try.f5 12) (reg Try.f5 12).toList ([x0,x1,x2,x3,x4,x5,x6,x7,x8,x9,f,n,k,g,i,s,t,u,w,x,y,z,A,B,C,D,o,p,l,E,F,G,H,I,J,K,L,M,q,r,m,N,P,Q,R,U,V,W,X,Y,Z,a0,a1,a2,a3,a4,a5,a6,a7,a8,a9,b0,b1,b2,b3,b4,b5,b6,b7,b8,b9,c0,c1,c2,c3,c4,c5,c6,c7,c8,c9,d0,d1,d2,d3,d4,d5,d6,d7,d8,d9,f0,f1,f2,f3,f4,f6,f7,f8,f9,b,c,d]) S =
  ( some ([x0,x1,x2,x3,x4,x5,x6,x7,x8,Value.bool true,Value.bool false,n,k,g,i,s,t,u,w,x,y,z,A,B,C,D,o,p,l,E,F,G,H,I,J,K,L,M,q,r,m,N,P,Q,R,U,V,W,X,Y,Z,a0,a1,a2,a3,a4,a5,a6,a7,a8,a9,b0,b1,b2,b3,b4,b5,b6,b7,b8,b9,c0,c1,c2,c3,c4,c5,c6,c7,c8,c9,d0,d1,d2,d3,d4,d5,d6,d7,d8,d9,f0,f1,f2,f3,f4,f6,f7,f8,f9,b,c,d],S)):=by
 kernel_rfl
theorem zu.r13 :jg zi ⟨false,false,false⟩ (zS zi O) (reg Try.f5 13) (reg Try.f5 13).toList ([x0,x1,x2,x3,x4,x5,x6,x7,x8,x9,f,n,k,g,i,s,t,u,w,x,y,z,A,B,C,D,o,p,l,E,F,G,H,I,J,K,L,M,q,r,m,N,P,Q,R,U,V,W,X,Y,Z,a0,a1,a2,a3,a4,a5,a6,a7,a8,a9,b0,b1,b2,b3,b4,b5,b6,b7,b8,b9,c0,c1,c2,c3,c4,c5,c6,c7,c8,c9,d0,d1,d2,d3,d4,d5,d6,d7,d8,d9,f0,f1,f2,f3,f4,f6,f7,f8,f9,b,c,d]) S =
  (zU (vg zi 23 (dem x8) S) (fun v1 S1=>some ([x0,x1,x2,x3,x4,x5,x6,x7,x8,x9,f,n,k,g,i,s,t,u,w,x,y,z,A,B,C,D,o,p,l,E,F,G,H,I,J,K,L,M,dem x8,v1,.int .i64 0,N,P,Q,R,U,V,W,X,Y,Z,a0,a1,a2,a3,a4,a5,a6,a7,a8,a9,b0,b1,b2,b3,b4,b5,b6,b7,b8,b9,c0,c1,c2,c3,c4,c5,c6,c7,c8,c9,d0,d1,d2,d3,d4,d5,d6,d7,d8,d9,f0,f1,f2,f3,f4,f6,f7,f8,f9,b,c,d],S1)) ()):=by
 kernel_rfl
theorem zu.r14 :jg zi ⟨false,false,false⟩ (zS zi O) (reg Try.f5 14) (reg Try.f5 14).toList ([x0,x1,x2,x3,x4,x5,x6,x7,x8,x9,f,n,k,g,i,s,t,u,w,x,y,z,A,B,C,D,o,p,l,E,F,G,H,I,J,K,L,M,q,r,m,N,P,Q,R,U,V,W,X,Y,Z,a0,a1,a2,a3,a4,a5,a6,a7,a8,a9,b0,b1,b2,b3,b4,b5,b6,b7,b8,b9,c0,c1,c2,c3,c4,c5,c6,c7,c8,c9,d0,d1,d2,d3,d4,d5,d6,d7,d8,d9,f0,f1,f2,f3,f4,f6,f7,f8,f9,b,c,d]) S =
  (zU (wX zi BinOp.lss 3 m r S) (fun v0 S1=>some ([x0,x1,x2,x3,x4,x5,x6,x7,x8,x9,f,n,k,g,i,s,t,u,w,x,y,z,A,B,C,D,o,p,l,E,F,G,H,I,J,K,L,M,q,r,m,v0,P,Q,R,U,V,W,X,Y,Z,a0,a1,a2,a3,a4,a5,a6,a7,a8,a9,b0,b1,b2,b3,b4,b5,b6,b7,b8,b9,c0,c1,c2,c3,c4,c5,c6,c7,c8,c9,d0,d1,d2,d3,d4,d5,d6,d7,d8,d9,f0,f1,f2,f3,f4,f6,f7,f8,f9,b,c,d],S1)) ()):=by
 kernel_rfl
theorem zu.r15 :jg zi ⟨false,false,false⟩ (zS zi O) (reg Try.f5 15) (reg Try.f5 15).toList ([x0,x1,x2,x3,x4,x5,x6,x7,x8,x9,f,n,k,g,i,s,t,u,w,x,y,z,A,B,C,D,o,p,l,E,F,G,H,I,J,K,L,M,q,r,m,N,P,Q,R,U,V,W,X,Y,Z,a0,a1,a2,a3,a4,a5,a6,a7,a8,a9,b0,b1,b2,b3,b4,b5,b6,b7,b8,b9,c0,c1,c2,c3,c4,c5,c6,c7,c8,c9,d0,d1,d2,d3,d4,d5,d6,d7,d8,d9,f0,f1,f2,f3,f4,f6,f7,f8,f9,b,c,d]) S =
  (zU (zZ zi 23 q m S) (fun v0 S1=>zU (jd zi false 30 v0 S1) (fun v1 S2=>zU (ku zi 30 S2) (fun v2 S3=>zU (kQ zi 30 v2 (dem v1) S3) (fun v3 S4=>some ([x0,x1,x2,x3,x4,x5,x6,x7,x8,x9,f,n,v2,g,i,s,t,u,w,x,y,z,A,B,C,D,o,p,l,E,F,G,H,I,J,K,L,M,q,r,m,N,v0,v1,R,U,V,W,X,Y,Z,a0,a1,a2,a3,a4,a5,a6,a7,a8,a9,b0,b1,b2,b3,b4,b5,b6,b7,b8,b9,c0,c1,c2,c3,c4,c5,c6,c7,c8,c9,d0,d1,d2,d3,d4,d5,d6,d7,d8,d9,f0,f1,f2,f3,f4,f6,f7,f8,f9,b,c,d],S4)) ()) ()) ()) ()):=by
 kernel_rfl
theorem zu.r16 :jg zi ⟨false,false,false⟩ (zS zi O) (reg Try.f5 16) (reg Try.f5 16).toList ([x0,x1,x2,x3,x4,x5,x6,x7,x8,x9,f,n,k,g,i,s,t,u,w,x,y,z,A,B,C,D,o,p,l,E,F,G,H,I,J,K,L,M,q,r,m,N,P,Q,R,U,V,W,X,Y,Z,a0,a1,a2,a3,a4,a5,a6,a7,a8,a9,b0,b1,b2,b3,b4,b5,b6,b7,b8,b9,c0,c1,c2,c3,c4,c5,c6,c7,c8,c9,d0,d1,d2,d3,d4,d5,d6,d7,d8,d9,f0,f1,f2,f3,f4,f6,f7,f8,f9,b,c,d]) S =
  (gdK (dem x9) true (jd zi false 30 x3) S (fun v2 S1=>gdK (dem x9) true (jd zi false 30 k) S1 (fun v3 S2=>gdK (dem x9) true ((zS zi O) 13 [(dem v2),(dem v3)]) S2 (fun v4 S3=>zU (qm (dem x9) v4 (Value.bool false) S3) (fun v5 S4=>some ([x0,x1,x2,x3,x4,x5,x6,x7,x8,v5,f,n,k,g,i,s,t,u,w,x,y,z,A,B,C,D,o,p,l,E,F,G,H,I,J,K,L,M,q,r,m,N,P,Q,x9,dem x9,v2,v3,v4,dem v5,Z,a0,a1,a2,a3,a4,a5,a6,a7,a8,a9,b0,b1,b2,b3,b4,b5,b6,b7,b8,b9,c0,c1,c2,c3,c4,c5,c6,c7,c8,c9,d0,d1,d2,d3,d4,d5,d6,d7,d8,d9,f0,f1,f2,f3,f4,f6,f7,f8,f9,b,c,d],S4)) ()) ()) ()) ()):=by
 refine sP Try.f5 16 0 (v:=x9) ?_
 refine sP Try.f5 16 1 (v:=x9) ?_
 refine sG Try.f5 16 2 (j:=1) (fun v2 S1=>?_)
 refine sG Try.f5 16 3 (j:=1) (fun v3 S2=>?_)
 refine sG Try.f5 16 4 (j:=1) (fun v4 S3=>?_)
 refine sD Try.f5 16 5 (fun v5 S4=>?_)
 refine sP Try.f5 16 6 (v:=v5) ?_
 kernel_rfl
theorem zu.r17 :jg zi ⟨false,false,false⟩ (zS zi O) (reg Try.f5 17) (reg Try.f5 17).toList ([x0,x1,x2,x3,x4,x5,x6,x7,x8,x9,f,n,k,g,i,s,t,u,w,x,y,z,A,B,C,D,o,p,l,E,F,G,H,I,J,K,L,M,q,r,m,N,P,Q,R,U,V,W,X,Y,Z,a0,a1,a2,a3,a4,a5,a6,a7,a8,a9,b0,b1,b2,b3,b4,b5,b6,b7,b8,b9,c0,c1,c2,c3,c4,c5,c6,c7,c8,c9,d0,d1,d2,d3,d4,d5,d6,d7,d8,d9,f0,f1,f2,f3,f4,f6,f7,f8,f9,b,c,d]) S =
  (gdK (dem f) false (zN zi 30 k 0) S (fun v2 S1=>gdK (dem f) false (jd zi false 3 v2) S1 (fun v3 S2=>gdK (dem f) false (zN zi 30 x3 0) S2 (fun v4 S3=>gdK (dem f) false (jd zi false 3 v4) S3 (fun v5 S4=>gdK (dem f) false (wX zi BinOp.eql 3 v3 v5) S4 (fun v6 S5=>zU (qm (dem f) (Value.bool true) v6 S5) (fun v7 S6=>some ([x0,x1,x2,x3,x4,x5,x6,x7,x8,x9,v7,n,k,g,i,s,t,u,w,x,y,z,A,B,C,D,o,p,l,E,F,G,H,I,J,K,L,M,q,r,m,N,P,Q,R,U,V,W,X,Y,f,dem f,v2,v3,v4,v5,v6,dem v7,a7,a8,a9,b0,b1,b2,b3,b4,b5,b6,b7,b8,b9,c0,c1,c2,c3,c4,c5,c6,c7,c8,c9,d0,d1,d2,d3,d4,d5,d6,d7,d8,d9,f0,f1,f2,f3,f4,f6,f7,f8,f9,b,c,d],S6)) ()) ()) ()) ()) ()) ()):=by
 refine sP Try.f5 17 0 (v:=f) ?_
 refine sP Try.f5 17 1 (v:=f) ?_
 refine sG Try.f5 17 2 (j:=1) (fun v2 S1=>?_)
 refine sG Try.f5 17 3 (j:=1) (fun v3 S2=>?_)
 refine sG Try.f5 17 4 (j:=1) (fun v4 S3=>?_)
 refine sG Try.f5 17 5 (j:=1) (fun v5 S4=>?_)
 refine sG Try.f5 17 6 (j:=1) (fun v6 S5=>?_)
 refine sD Try.f5 17 7 (fun v7 S6=>?_)
 refine sP Try.f5 17 8 (v:=v7) ?_
 kernel_rfl
theorem zu.r18 :jg zi ⟨false,false,false⟩ (zS zi O) (reg Try.f5 18) (reg Try.f5 18).toList ([x0,x1,x2,x3,x4,x5,x6,x7,x8,x9,f,n,k,g,i,s,t,u,w,x,y,z,A,B,C,D,o,p,l,E,F,G,H,I,J,K,L,M,q,r,m,N,P,Q,R,U,V,W,X,Y,Z,a0,a1,a2,a3,a4,a5,a6,a7,a8,a9,b0,b1,b2,b3,b4,b5,b6,b7,b8,b9,c0,c1,c2,c3,c4,c5,c6,c7,c8,c9,d0,d1,d2,d3,d4,d5,d6,d7,d8,d9,f0,f1,f2,f3,f4,f6,f7,f8,f9,b,c,d]) S =
  (zU (wX zi BinOp.add 3 m (.int .i64 1) S) (fun v0 S1=>some ([x0,x1,x2,x3,x4,x5,x6,x7,x8,x9,f,n,k,g,i,s,t,u,w,x,y,z,A,B,C,D,o,p,l,E,F,G,H,I,J,K,L,M,q,r,dem v0,N,P,Q,R,U,V,W,X,Y,Z,a0,a1,a2,a3,a4,a5,a6,v0,a8,a9,b0,b1,b2,b3,b4,b5,b6,b7,b8,b9,c0,c1,c2,c3,c4,c5,c6,c7,c8,c9,d0,d1,d2,d3,d4,d5,d6,d7,d8,d9,f0,f1,f2,f3,f4,f6,f7,f8,f9,b,c,d],S1)) ()):=by
 kernel_rfl
theorem zu.r19 :jg zi ⟨false,false,false⟩ (zS zi O) (reg Try.f5 19) (reg Try.f5 19).toList ([x0,x1,x2,x3,x4,x5,x6,x7,x8,x9,f,n,k,g,i,s,t,u,w,x,y,z,A,B,C,D,o,p,l,E,F,G,H,I,J,K,L,M,q,r,m,N,P,Q,R,U,V,W,X,Y,Z,a0,a1,a2,a3,a4,a5,a6,a7,a8,a9,b0,b1,b2,b3,b4,b5,b6,b7,b8,b9,c0,c1,c2,c3,c4,c5,c6,c7,c8,c9,d0,d1,d2,d3,d4,d5,d6,d7,d8,d9,f0,f1,f2,f3,f4,f6,f7,f8,f9,b,c,d]) S =
  (zU (jd zi false 30 x3 S) (fun v1 S1=>zU ((zS zi O) 12 [(dem (dem x5)),(dem v1)] S1) (fun v2 S2=>some ([x0,x1,x2,x3,x4,x5,x6,x7,x8,x9,f,n,k,v2,i,s,t,u,w,x,y,z,A,B,C,D,o,p,l,E,F,G,H,I,J,K,L,M,q,r,m,N,P,Q,R,U,V,W,X,Y,Z,a0,a1,a2,a3,a4,a5,a6,a7,dem x5,v1,dem v2,b1,b2,b3,b4,b5,b6,b7,b8,b9,c0,c1,c2,c3,c4,c5,c6,c7,c8,c9,d0,d1,d2,d3,d4,d5,d6,d7,d8,d9,f0,f1,f2,f3,f4,f6,f7,f8,f9,b,c,d],S2)) ()) ()):=by
 kernel_rfl
theorem zu.r20 :jg zi ⟨false,false,false⟩ (zS zi O) (reg Try.f5 20) (reg Try.f5 20).toList ([x0,x1,x2,x3,x4,x5,x6,x7,x8,x9,f,n,k,g,i,s,t,u,w,x,y,z,A,B,C,D,o,p,l,E,F,G,H,I,J,K,L,M,q,r,m,N,P,Q,R,U,V,W,X,Y,Z,a0,a1,a2,a3,a4,a5,a6,a7,a8,a9,b0,b1,b2,b3,b4,b5,b6,b7,b8,b9,c0,c1,c2,c3,c4,c5,c6,c7,c8,c9,d0,d1,d2,d3,d4,d5,d6,d7,d8,d9,f0,f1,f2,f3,f4,f6,f7,f8,f9,b,c,d]) S =
  (zU ((zS zi O) 11 [(dem (dem x5))] S) (fun v1 S1=>some ([x0,x1,x2,x3,x4,x5,x6,x7,x8,x9,f,n,k,g,v1,s,t,u,w,x,y,z,A,B,C,D,o,p,l,E,F,G,H,I,J,K,L,M,q,r,m,N,P,Q,R,U,V,W,X,Y,Z,a0,a1,a2,a3,a4,a5,a6,a7,a8,a9,b0,dem x5,dem v1,b3,b4,b5,b6,b7,b8,b9,c0,c1,c2,c3,c4,c5,c6,c7,c8,c9,d0,d1,d2,d3,d4,d5,d6,d7,d8,d9,f0,f1,f2,f3,f4,f6,f7,f8,f9,b,c,d],S1)) ()):=by
 kernel_rfl
theorem zu.r21 :jg zi ⟨false,false,false⟩ (zS zi O) (reg Try.f5 21) (reg Try.f5 21).toList ([x0,x1,x2,x3,x4,x5,x6,x7,x8,x9,f,n,k,g,i,s,t,u,w,x,y,z,A,B,C,D,o,p,l,E,F,G,H,I,J,K,L,M,q,r,m,N,P,Q,R,U,V,W,X,Y,Z,a0,a1,a2,a3,a4,a5,a6,a7,a8,a9,b0,b1,b2,b3,b4,b5,b6,b7,b8,b9,c0,c1,c2,c3,c4,c5,c6,c7,c8,c9,d0,d1,d2,d3,d4,d5,d6,d7,d8,d9,f0,f1,f2,f3,f4,f6,f7,f8,f9,b,c,d]) S =
  ( some ([x0,x1,x2,x3,x4,x5,x6,x7,x8,x9,f,n,k,g,i,s,t,u,w,x,y,z,A,B,C,D,o,p,l,E,F,G,H,I,J,K,L,M,q,r,m,N,P,Q,R,U,V,W,X,Y,Z,a0,a1,a2,a3,a4,a5,a6,a7,a8,a9,b0,b1,b2,dem f,b4,b5,b6,b7,b8,b9,c0,c1,c2,c3,c4,c5,c6,c7,c8,c9,d0,d1,d2,d3,d4,d5,d6,d7,d8,d9,f0,f1,f2,f3,f4,f6,f7,f8,f9,b,c,d],S)):=by
 kernel_rfl
theorem zu.r22 :jg zi ⟨false,false,false⟩ (zS zi O) (reg Try.f5 22) (reg Try.f5 22).toList ([x0,x1,x2,x3,x4,x5,x6,x7,x8,x9,f,n,k,g,i,s,t,u,w,x,y,z,A,B,C,D,o,p,l,E,F,G,H,I,J,K,L,M,q,r,m,N,P,Q,R,U,V,W,X,Y,Z,a0,a1,a2,a3,a4,a5,a6,a7,a8,a9,b0,b1,b2,b3,b4,b5,b6,b7,b8,b9,c0,c1,c2,c3,c4,c5,c6,c7,c8,c9,d0,d1,d2,d3,d4,d5,d6,d7,d8,d9,f0,f1,f2,f3,f4,f6,f7,f8,f9,b,c,d]) S =
  (zU (wX zi BinOp.eql 27 (dem g) (.int .i64 91) S) (fun v1 S1=>gdK (dem v1) true (ret i) S1 (fun v3 S2=>gdK (dem v1) true (ret x8) S2 (fun v4 S3=>gdK (dem v1) true ((zS zi O) 15 [(dem (dem v3)),(dem (dem v4))]) S3 (fun v5 S4=>zU (qm (dem v1) v5 (Value.bool false) S4) (fun v6 S5=>some ([x0,x1,x2,x3,v6,x5,x6,x7,x8,x9,f,n,k,g,i,s,t,u,w,x,y,z,A,B,C,D,o,p,l,E,F,G,H,I,J,K,L,M,q,r,m,N,P,Q,R,U,V,W,X,Y,Z,a0,a1,a2,a3,a4,a5,a6,a7,a8,a9,b0,b1,b2,b3,dem g,v1,dem v1,dem v3,dem v4,v5,dem v6,c1,c2,c3,c4,c5,c6,c7,c8,c9,d0,d1,d2,d3,d4,d5,d6,d7,d8,d9,f0,f1,f2,f3,f4,f6,f7,f8,f9,b,c,d],S5)) ()) ()) ()) ()) ()):=by
 refine sP Try.f5 22 0 (v:=g) ?_
 refine sD Try.f5 22 1 (fun v1 S1=>?_)
 refine sP Try.f5 22 2 (v:=v1) ?_
 refine sG Try.f5 22 3 (j:=2) (fun v3 S2=>?_)
 refine sG Try.f5 22 4 (j:=2) (fun v4 S3=>?_)
 refine sG Try.f5 22 5 (j:=2) (fun v5 S4=>?_)
 refine sD Try.f5 22 6 (fun v6 S5=>?_)
 refine sP Try.f5 22 7 (v:=v6) ?_
 kernel_rfl
theorem zu.r23 :jg zi ⟨false,false,false⟩ (zS zi O) (reg Try.f5 23) (reg Try.f5 23).toList ([x0,x1,x2,x3,x4,x5,x6,x7,x8,x9,f,n,k,g,i,s,t,u,w,x,y,z,A,B,C,D,o,p,l,E,F,G,H,I,J,K,L,M,q,r,m,N,P,Q,R,U,V,W,X,Y,Z,a0,a1,a2,a3,a4,a5,a6,a7,a8,a9,b0,b1,b2,b3,b4,b5,b6,b7,b8,b9,c0,c1,c2,c3,c4,c5,c6,c7,c8,c9,d0,d1,d2,d3,d4,d5,d6,d7,d8,d9,f0,f1,f2,f3,f4,f6,f7,f8,f9,b,c,d]) S =
  ( some ([x0,x1,x2,x3,x4,x5,x6,x7,x8,x9,f,n,k,g,i,s,t,u,w,x,y,z,A,B,C,D,o,p,l,E,F,G,H,I,J,K,L,M,q,r,m,N,P,Q,R,U,V,W,X,Y,Z,a0,a1,a2,a3,a4,a5,a6,a7,a8,a9,b0,b1,b2,b3,b4,b5,b6,b7,b8,b9,c0,dem x9,c2,c3,c4,c5,c6,c7,c8,c9,d0,d1,d2,d3,d4,d5,d6,d7,d8,d9,f0,f1,f2,f3,f4,f6,f7,f8,f9,b,c,d],S)):=by
 kernel_rfl
theorem zu.d24:qy zi (reg Try.f5 24)=true:=by kernel_rfl
theorem zu.aeU:fixed zi (reg Try.f5 24)=false:=by kernel_rfl
theorem zu.k24:checked zi (reg Try.f5 24)=[]:=by kernel_rfl
theorem zu.g24:again zi (reg Try.f5 24)=[]:=by kernel_rfl
theorem zu.r24 :zD zi O false (.region 24 (reg Try.f5 24) true) ([x0,x1,x2,x3,x4,x5,x6,x7,x8,x9,f,n,k,g,i,s,t,u,w,x,y,z,A,B,C,D,o,p,l,E,F,G,H,I,J,K,L,M,q,r,m,N,P,Q,R,U,V,W,X,Y,Z,a0,a1,a2,a3,a4,a5,a6,a7,a8,a9,b0,b1,b2,b3,b4,b5,b6,b7,b8,b9,c0,c1,c2,c3,c4,c5,c6,c7,c8,c9,d0,d1,d2,d3,d4,d5,d6,d7,d8,d9,f0,f1,f2,f3,f4,f6,f7,f8,f9,b,c,d]) S =
  YP (zU (wX zi BinOp.eql 27 (dem g) (.int .i64 0) S) (fun v1 S1=>gdK (dem v1) true (ret i) S1 (fun v3 S2=>gdK (dem v1) true (zZ zi 23 (dem v3) (.int .i64 0)) S2 (fun v4 S3=>gdK (dem v1) true (jd zi false 30 v4) S3 (fun v5 S4=>gdK (dem v1) true (jd zi false 30 x3) S4 (fun v6 S5=>gdK (dem v1) true (wX zi BinOp.eql 30 v5 v6) S5 (fun v7 S6=>zU (qm (dem v1) v7 (Value.bool false) S6) (fun v8 S7=>gdK (dem v8) true (ret i) S7 (fun g1 S8=>gdK (dem v8) true (vg zi 23 (dem g1)) S8 (fun g0 S9=>gdK (dem v8) true (ret x8) S9 (fun g4 g2=>gdK (dem v8) true (vg zi 23 (dem g4)) g2 (fun g5 g9=>gdK (dem v8) true (wX zi BinOp.add 3 g5 (.int .i64 1)) g9 (fun g6 i0=>gdK (dem v8) true (kV zi false Builtin.min #[3,3] 3 [(.int .i64 16),g6]) i0 (fun g7 i1=>gdK (dem v8) true (wX zi BinOp.eql 3 g0 g7) i1 (fun g8 i2=>zU (qm (dem v8) g8 (Value.bool false) i2) (fun g3 i3=>some ([x0,x1,x2,x3,g3,x5,x6,x7,x8,x9,f,n,k,g,i,s,t,u,w,x,y,z,A,B,C,D,o,p,l,E,F,G,H,I,J,K,L,M,q,r,m,N,P,Q,R,U,V,W,X,Y,Z,a0,a1,a2,a3,a4,a5,a6,a7,a8,a9,b0,b1,b2,b3,b4,b5,b6,b7,b8,b9,c0,c1,dem g,v1,dem v1,dem v3,v4,v5,v6,v7,v8,dem v8,dem g1,g0,dem g4,g5,g6,g7,g8,dem g3,f0,f1,f2,f3,f4,f6,f7,f8,f9,b,c,d],i3)) ()) ()) ()) ()) ()) ()) ()) ()) ()) ()) ()) ()) ()) ()) ()):=by
 rw [kP zu.d24 zu.aeU zu.k24 zu.g24]
 refine congrArg YP ?_
 refine tP Try.f5 24 0 (v:=g) ?_
 refine tD Try.f5 24 1 (fun v1 S1=>?_)
 refine tP Try.f5 24 2 (v:=v1) ?_
 refine tG Try.f5 24 3 (j:=2) (fun v3 S2=>?_)
 refine tG Try.f5 24 4 (j:=2) (fun v4 S3=>?_)
 refine tG Try.f5 24 5 (j:=2) (fun v5 S4=>?_)
 refine tG Try.f5 24 6 (j:=2) (fun v6 S5=>?_)
 refine tG Try.f5 24 7 (j:=2) (fun v7 S6=>?_)
 refine tD Try.f5 24 8 (fun v8 S7=>?_)
 refine tP Try.f5 24 9 (v:=v8) ?_
 refine tG Try.f5 24 10 (j:=9) (fun g1 S8=>?_)
 refine tG Try.f5 24 11 (j:=9) (fun g0 S9=>?_)
 refine tG Try.f5 24 12 (j:=9) (fun g4 g2=>?_)
 refine tG Try.f5 24 13 (j:=9) (fun g5 g9=>?_)
 refine tG Try.f5 24 14 (j:=9) (fun g6 i0=>?_)
 refine tG Try.f5 24 15 (j:=9) (fun g7 i1=>?_)
 refine tG Try.f5 24 16 (j:=9) (fun g8 i2=>?_)
 refine tD Try.f5 24 17 (fun g3 i3=>?_)
 refine tP Try.f5 24 18 (v:=g3) ?_
 kernel_rfl
theorem zu.r25 :jg zi ⟨false,false,false⟩ (zS zi O) (reg Try.f5 25) (reg Try.f5 25).toList ([x0,x1,x2,x3,x4,x5,x6,x7,x8,x9,f,n,k,g,i,s,t,u,w,x,y,z,A,B,C,D,o,p,l,E,F,G,H,I,J,K,L,M,q,r,m,N,P,Q,R,U,V,W,X,Y,Z,a0,a1,a2,a3,a4,a5,a6,a7,a8,a9,b0,b1,b2,b3,b4,b5,b6,b7,b8,b9,c0,c1,c2,c3,c4,c5,c6,c7,c8,c9,d0,d1,d2,d3,d4,d5,d6,d7,d8,d9,f0,f1,f2,f3,f4,f6,f7,f8,f9,b,c,d]) S =
  (zU (wX zi BinOp.eql 27 (dem g) (.int .i64 0) S) (fun v1 S1=>gdK (dem v1) false (ret x8) S1 (fun v3 S2=>gdK (dem v1) false (vg zi 23 (dem v3)) S2 (fun v4 S3=>gdK (dem v1) false (wX zi BinOp.eql 3 v4 (.int .i64 16)) S3 (fun v5 S4=>gdK (dem v1) false (ret v5) S4 (fun v6 S5=>gdK (dem v6) true (ret i) S5 (fun v7 S6=>gdK (dem v6) true (ret x8) S6 (fun v8 S7=>gdK (dem v6) true ((zS zi O) 15 [(dem (dem v7)),(dem (dem v8))]) S7 (fun v9 S8=>gdK (dem v1) false (qm (dem v6) v9 (Value.bool false)) S8 (fun g1 S9=>zU (qm (dem v1) (Value.bool true) g1 S9) (fun g0 g2=>some ([x0,x1,x2,x3,g0,x5,x6,x7,x8,x9,f,n,k,g,i,s,t,u,w,x,y,z,A,B,C,D,o,p,l,E,F,G,H,I,J,K,L,M,q,r,m,N,P,Q,R,U,V,W,X,Y,Z,a0,a1,a2,a3,a4,a5,a6,a7,a8,a9,b0,b1,b2,b3,b4,b5,b6,b7,b8,b9,c0,c1,c2,c3,c4,c5,c6,c7,c8,c9,d0,d1,d2,d3,d4,d5,d6,d7,d8,d9,dem g,v1,dem v1,dem v3,v4,v5,dem v6,dem v7,dem v8,v9,g1,dem g0],g2)) ()) ()) ()) ()) ()) ()) ()) ()) ()) ()):=by
 refine sP Try.f5 25 0 (v:=g) ?_
 refine sD Try.f5 25 1 (fun v1 S1=>?_)
 refine sP Try.f5 25 2 (v:=v1) ?_
 refine sG Try.f5 25 3 (j:=2) (fun v3 S2=>?_)
 refine sG Try.f5 25 4 (j:=2) (fun v4 S3=>?_)
 refine sG Try.f5 25 5 (j:=2) (fun v5 S4=>?_)
 refine sG Try.f5 25 6 (j:=2) (fun v6 S5=>?_)
 refine sG Try.f5 25 7 (j:=6) (fun v7 S6=>?_)
 refine sG Try.f5 25 8 (j:=6) (fun v8 S7=>?_)
 refine sG Try.f5 25 9 (j:=6) (fun v9 S8=>?_)
 refine sG Try.f5 25 10 (j:=2) (fun g1 S9=>?_)
 refine sD Try.f5 25 11 (fun g0 g2=>?_)
 refine sP Try.f5 25 12 (v:=g0) ?_
 kernel_rfl
theorem zu.rs:type_of% (aeW @zu.r0 (aeW @zu.r1 (aeW @zu.r2 (aeW @zu.r3 (aeW @zu.r4 (aeW @zu.r5 (aeW @zu.r6 (aeW @zu.r7 (aeW @zu.r8 (aeW @zu.r9 (aeW @zu.r10 (aeW @zu.r11 (aeW @zu.r12 (aeW @zu.r13 (aeW @zu.r14 (aeW @zu.r15 (aeW @zu.r16 (aeW @zu.r17 (aeW @zu.r18 (aeW @zu.r19 (aeW @zu.r20 (aeW @zu.r21 (aeW @zu.r22 (aeW @zu.r23 (aeW @zu.r24 (@zu.r25)))))))))))))))))))))))))):=aeW @zu.r0 (aeW @zu.r1 (aeW @zu.r2 (aeW @zu.r3 (aeW @zu.r4 (aeW @zu.r5 (aeW @zu.r6 (aeW @zu.r7 (aeW @zu.r8 (aeW @zu.r9 (aeW @zu.r10 (aeW @zu.r11 (aeW @zu.r12 (aeW @zu.r13 (aeW @zu.r14 (aeW @zu.r15 (aeW @zu.r16 (aeW @zu.r17 (aeW @zu.r18 (aeW @zu.r19 (aeW @zu.r20 (aeW @zu.r21 (aeW @zu.r22 (aeW @zu.r23 (aeW @zu.r24 (@zu.r25)))))))))))))))))))))))))
theorem zu.runs {x0 x1:Value} {S S1:zx} {e:AEx} {T:List Value} (h:zD zi O false zu.code ([x0,x1,zh,zh,zh,zh,zh,zh,zh,zh,zh,zh,zh,zh,zh,zh,zh,zh,zh,zh,zh,zh,zh,zh,zh,zh,zh,zh,zh,zh,zh,zh,zh,zh,zh,zh,zh,zh,zh,zh,zh,zh,zh,zh,zh,zh,zh,zh,zh,zh,zh,zh,zh,zh,zh,zh,zh,zh,zh,zh,zh,zh,zh,zh,zh,zh,zh,zh,zh,zh,zh,zh,zh,zh,zh,zh,zh,zh,zh,zh,zh,zh,zh,zh,zh,zh,zh,zh,zh,zh,zh,zh,zh,zh,zh,zh,zh,zh,zh,zh,zh,zh,zh]) S=some (e,T,S1)) (he:e=.normal∨e=.ret):zS zi O 5 [x0,x1] S=some (T.getD 4 zh,S1) :=
 jG rfl rfl Try.func5 (by decide) zu.body (by exact h) he (jD (a:=T.getD 4 zh) ((show zH zi T S1 Try.f5.results.toList=zH zi T S1 [(ResultVar.tmp 4)] from by kernel_rfl).trans (by simp only [zH])) (by kernel_rfl))
end Go.Proofs.Ytacbgjhmkhjpoaa
namespace Go.Proofs.Ytacbgjhmkhjpoaa
open Go.Abs
abbrev zC.id:FuncId:=9
noncomputable def zC.code:Code:=(.seq (.region 0 (reg Try.f9 0) false) (.seq (.region 1 (reg Try.f9 1) false) (.seq (.seq (.region 2 (reg Try.f9 2) false) (.cond (.tmp 23) (.seq (.region 3 (reg Try.f9 3) false) Code.ret) Code.skip)) (.seq (.region 4 (reg Try.f9 4) false) (.seq (.region 5 (reg Try.f9 5) false) Code.ret)))))
theorem zC.body:Try.f9.body=some zC.code:=by kernel_rfl
variable (Y b I P Q R U V W X c d f g i k l m n o p q r s t u w x y z A B C D E F G:Value) (S:zx)
theorem zC.r0 :jg zi ⟨false,false,false⟩ (zS zi O) (reg Try.f9 0) (reg Try.f9 0).toList ([Y,b,I,P,Q,R,U,V,W,X,c,d,f,g,i,k,l,m,n,o,p,q,r,s,t,u,w,x,y,z,A,B,C,D,E,F,G]) S =
  ( some ([Value.bool false,b,I,P,Q,R,U,V,W,X,c,d,f,g,i,k,l,m,n,o,p,q,r,s,t,u,w,x,y,z,A,B,C,D,E,F,G],S)):=by
 kernel_rfl
theorem zC.r1 :jg zi ⟨false,false,false⟩ (zS zi O) (reg Try.f9 1) (reg Try.f9 1).toList ([Y,b,I,P,Q,R,U,V,W,X,c,d,f,g,i,k,l,m,n,o,p,q,r,s,t,u,w,x,y,z,A,B,C,D,E,F,G]) S =
  (zU ((zS zi O) 10 [] S) (fun v0 J=>some ([Y,v0,I,dem v0,Q,R,U,V,W,X,c,d,f,g,i,k,l,m,n,o,p,q,r,s,t,u,w,x,y,z,A,B,C,D,E,F,G],J)) ()):=by
 kernel_rfl
theorem zC.r2 :jg zi ⟨false,false,false⟩ (zS zi O) (reg Try.f9 2) (reg Try.f9 2).toList ([Y,b,I,P,Q,R,U,V,W,X,c,d,f,g,i,k,l,m,n,o,p,q,r,s,t,u,w,x,y,z,A,B,C,D,E,F,G]) S =
  (zU (wX zi BinOp.eql 24 (dem b) (Value.pointer none) S) (fun H J=>gdK (dem H) false (ret b) J (fun Z S2=>gdK (dem H) false (wS zi 30 [(0,(.int .i64 1)),(1,(.int .i64 1))]) S2 (fun L S3=>gdK (dem H) false ((zS zi O) 12 [(dem (dem Z)),(dem L)]) S3 (fun v5 S4=>gdK (dem H) false (wX zi BinOp.neq 27 v5 (.int .i64 0)) S4 (fun v6 S5=>zU (qm (dem H) (Value.bool true) v6 S5) (fun M S6=>gdK (dem M) false (ret b) S6 (fun v9 S7=>gdK (dem M) false (wS zi 30 [(0,(.int .i64 2)),(1,(.int .i64 5))]) S7 (fun N S8=>gdK (dem M) false ((zS zi O) 12 [(dem (dem v9)),(dem N)]) S8 (fun a0 S9=>gdK (dem M) false (wX zi BinOp.neq 27 a0 (.int .i64 0)) S9 (fun a1 a6=>zU (qm (dem M) (Value.bool true) a1 a6) (fun K a7=>gdK (dem K) false (ret b) a7 (fun a2 a8=>gdK (dem K) false (wS zi 30 [(0,(.int .i64 3)),(1,(.int .i64 3))]) a8 (fun a3 a9=>gdK (dem K) false ((zS zi O) 12 [(dem (dem a2)),(dem a3)]) a9 (fun a4 b0=>gdK (dem K) false (wX zi BinOp.neq 27 a4 (.int .i64 0)) b0 (fun a5 b1=>zU (qm (dem K) (Value.bool true) a5 b1) (fun b2 b3=>some ([Y,b,I,P,dem b,H,dem H,dem Z,L,v5,v6,M,dem M,dem v9,N,a0,a1,K,dem K,dem a2,a3,a4,a5,b2,t,u,w,x,y,z,A,B,C,D,E,F,G],b3)) ()) ()) ()) ()) ()) ()) ()) ()) ()) ()) ()) ()) ()) ()) ()) ()):=by
 refine sP Try.f9 2 0 (v:=b) ?_
 refine sD Try.f9 2 1 (fun H J=>?_)
 refine sP Try.f9 2 2 (v:=H) ?_
 refine sG Try.f9 2 3 (j:=2) (fun Z S2=>?_)
 refine sG Try.f9 2 4 (j:=2) (fun L S3=>?_)
 refine sG Try.f9 2 5 (j:=2) (fun v5 S4=>?_)
 refine sG Try.f9 2 6 (j:=2) (fun v6 S5=>?_)
 refine sD Try.f9 2 7 (fun M S6=>?_)
 refine sP Try.f9 2 8 (v:=M) ?_
 refine sG Try.f9 2 9 (j:=8) (fun v9 S7=>?_)
 refine sG Try.f9 2 10 (j:=8) (fun N S8=>?_)
 refine sG Try.f9 2 11 (j:=8) (fun a0 S9=>?_)
 refine sG Try.f9 2 12 (j:=8) (fun a1 a6=>?_)
 refine sD Try.f9 2 13 (fun K a7=>?_)
 refine sP Try.f9 2 14 (v:=K) ?_
 refine sG Try.f9 2 15 (j:=14) (fun a2 a8=>?_)
 refine sG Try.f9 2 16 (j:=14) (fun a3 a9=>?_)
 refine sG Try.f9 2 17 (j:=14) (fun a4 b0=>?_)
 refine sG Try.f9 2 18 (j:=14) (fun a5 b1=>?_)
 refine sD Try.f9 2 19 (fun b2 b3=>?_)
 kernel_rfl
theorem zC.r3 :jg zi ⟨false,false,false⟩ (zS zi O) (reg Try.f9 3) (reg Try.f9 3).toList ([Y,b,I,P,Q,R,U,V,W,X,c,d,f,g,i,k,l,m,n,o,p,q,r,s,t,u,w,x,y,z,A,B,C,D,E,F,G]) S =
  ( some ([Value.bool false,b,I,P,Q,R,U,V,W,X,c,d,f,g,i,k,l,m,n,o,p,q,r,s,t,u,w,x,y,z,A,B,C,D,E,F,G],S)):=by
 kernel_rfl
theorem zC.r4 :jg zi ⟨false,false,false⟩ (zS zi O) (reg Try.f9 4) (reg Try.f9 4).toList ([Y,b,I,P,Q,R,U,V,W,X,c,d,f,g,i,k,l,m,n,o,p,q,r,s,t,u,w,x,y,z,A,B,C,D,E,F,G]) S =
  (zU ((zS zi O) 16 [(dem (dem b)),(.int .i64 2),(Value.slice none 0 0)] S) (fun H J=>some ([Y,b,H,P,Q,R,U,V,W,X,c,d,f,g,i,k,l,m,n,o,p,q,r,s,dem b,dem H,w,x,y,z,A,B,C,D,E,F,G],J)) ()):=by
 kernel_rfl
theorem zC.r5 :jg zi ⟨false,false,false⟩ (zS zi O) (reg Try.f9 5) (reg Try.f9 5).toList ([Y,b,I,P,Q,R,U,V,W,X,c,d,f,g,i,k,l,m,n,o,p,q,r,s,t,u,w,x,y,z,A,B,C,D,E,F,G]) S =
  (zU (wS zi 30 [(0,(.int .i64 2)),(1,(.int .i64 5))] S) (fun H J=>zU (wS zi 30 [(0,(.int .i64 3)),(1,(.int .i64 3))] J) (fun v2 S2=>zU (jQ zi 23 2 [(0,H),(1,v2)] S2) (fun Z S3=>zU ((zS zi O) 15 [(dem (dem I)),(dem Z)] S3) (fun L S4=>gdK (dem L) true (ret b) S4 (fun v6 S5=>gdK (dem L) true (wS zi 30 [(0,(.int .i64 1)),(1,(.int .i64 9))]) S5 (fun M S6=>gdK (dem L) true ((zS zi O) 12 [(dem (dem v6)),(dem M)]) S6 (fun v8 S7=>gdK (dem L) true (wX zi BinOp.eql 27 v8 (.int .i64 91)) S7 (fun v9 S8=>zU (qm (dem L) v9 (Value.bool false) S8) (fun N S9=>some ([N,b,I,P,Q,R,U,V,W,X,c,d,f,g,i,k,l,m,n,o,p,q,r,s,t,u,dem I,H,v2,Z,L,dem L,dem v6,M,v8,v9,dem N],S9)) ()) ()) ()) ()) ()) ()) ()) ()) ()):=by
 refine sP Try.f9 5 0 (v:=I) ?_
 refine sD Try.f9 5 1 (fun H J=>?_)
 refine sD Try.f9 5 2 (fun v2 S2=>?_)
 refine sD Try.f9 5 3 (fun Z S3=>?_)
 refine sD Try.f9 5 4 (fun L S4=>?_)
 refine sP Try.f9 5 5 (v:=L) ?_
 refine sG Try.f9 5 6 (j:=5) (fun v6 S5=>?_)
 refine sG Try.f9 5 7 (j:=5) (fun M S6=>?_)
 refine sG Try.f9 5 8 (j:=5) (fun v8 S7=>?_)
 refine sG Try.f9 5 9 (j:=5) (fun v9 S8=>?_)
 refine sD Try.f9 5 10 (fun N S9=>?_)
 refine sP Try.f9 5 11 (v:=N) ?_
 kernel_rfl
theorem zC.rs:type_of% (aeW @zC.r0 (aeW @zC.r1 (aeW @zC.r2 (aeW @zC.r3 (aeW @zC.r4 (@zC.r5)))))):=aeW @zC.r0 (aeW @zC.r1 (aeW @zC.r2 (aeW @zC.r3 (aeW @zC.r4 (@zC.r5)))))
theorem zC.runs {S J:zx} {e:AEx} {T:List Value} (h:zD zi O false zC.code ([zh,zh,zh,zh,zh,zh,zh,zh,zh,zh,zh,zh,zh,zh,zh,zh,zh,zh,zh,zh,zh,zh,zh,zh,zh,zh,zh,zh,zh,zh,zh,zh,zh,zh,zh,zh,zh]) S=some (e,T,J)) (he:e=.normal∨e=.ret):zS zi O 9 [] S=some (T.getD 0 zh,J) :=
 jG rfl rfl Try.func9 (by decide) zC.body (by exact h) he (jD (a:=T.getD 0 zh) ((show zH zi T J Try.f9.results.toList=zH zi T J [(ResultVar.tmp 0)] from by kernel_rfl).trans (by simp only [zH])) (by kernel_rfl))
end Go.Proofs.Ytacbgjhmkhjpoaa
namespace Go.Proofs.Ytacbgjhmkhjpoaa
open Go.Abs
abbrev zM.id:FuncId:=11
noncomputable def zM.code:Code:=(.seq (.region 0 (reg Try.f11 0) false) (.seq (.region 1 (reg Try.f11 1) false) Code.ret))
theorem zM.body:Try.f11.body=some zM.code:=by kernel_rfl
variable (b d l f g i j k:Value) (S:zx)
theorem zM.r0 :jg zi ⟨false,false,false⟩ (zS zi O) (reg Try.f11 0) (reg Try.f11 0).toList ([b,d,l,f,g,i,j,k]) S =
  ( some ([b,d,Value.slice none 0 0,f,g,i,j,k],S)):=by
 kernel_rfl
theorem zM.r1 :jg zi ⟨false,false,false⟩ (zS zi O) (reg Try.f11 1) (reg Try.f11 1).toList ([b,d,l,f,g,i,j,k]) S =
  (zU (jV (dem b) S) (fun m c=>zU (zN zi 49 m 0 c) (fun n q=>zU (jd zi false 23 n q) (fun o r=>zU ((zS zi O) 21 [(dem o)] r) (fun p s=>some ([b,d,p,dem b,m,n,o,dem p],s)) ()) ()) ()) ()):=by
 kernel_rfl
theorem zM.rs:type_of% (aeW @zM.r0 (@zM.r1)):=aeW @zM.r0 (@zM.r1)
theorem zM.runs {b:Value} {S c:zx} {e:AEx} {T:List Value} (h:zD zi O false zM.code ([b,zh,zh,zh,zh,zh,zh,zh]) S=some (e,T,c)) (he:e=.normal∨e=.ret):zS zi O 11 [b] S=some (T.getD 2 zh,c) :=
 jG rfl rfl Try.func11 (by decide) zM.body (by exact h) he (jD (a:=T.getD 2 zh) ((show zH zi T c Try.f11.results.toList=zH zi T c [(ResultVar.tmp 2)] from by kernel_rfl).trans (by simp only [zH])) (by kernel_rfl))
end Go.Proofs.Ytacbgjhmkhjpoaa
namespace Go.Proofs.Ytacbgjhmkhjpoaa
open Go.Abs
abbrev zA.id:FuncId:=16
noncomputable def zA.jl:Code:=(.seq (.region 3 (reg Try.f16 3) false) (.seq (.cond (.tmp 16) Code.skip (.exit 0)) (.seq (.block 1 (.seq (.region 4 (reg Try.f16 4) false) (.seq (.region 5 (reg Try.f16 5) false) (.cond (.tmp 29) (.region 6 (reg Try.f16 6) false) Code.skip)))) (.region 7 (reg Try.f16 7) false))))
noncomputable def zA.code:Code:=(.seq (.region 0 (reg Try.f16 0) false) (.seq (.region 1 (reg Try.f16 1) false) (.seq (.seq (.region 2 (reg Try.f16 2) false) (.block 0 (.loop zA.jl))) (.seq (.region 8 (reg Try.f16 8) false) Code.ret))))
theorem zA.body:Try.f16.body=some zA.code:=by kernel_rfl
theorem zA.eta {T:List Value} (h:T.length=36):T=[T.getD 0 zh,T.getD 1 zh,T.getD 2 zh,T.getD 3 zh,T.getD 4 zh,T.getD 5 zh,T.getD 6 zh,T.getD 7 zh,T.getD 8 zh,T.getD 9 zh,T.getD 10 zh,T.getD 11 zh,T.getD 12 zh,T.getD 13 zh,T.getD 14 zh,T.getD 15 zh,T.getD 16 zh,T.getD 17 zh,T.getD 18 zh,T.getD 19 zh,T.getD 20 zh,T.getD 21 zh,T.getD 22 zh,T.getD 23 zh,T.getD 24 zh,T.getD 25 zh,T.getD 26 zh,T.getD 27 zh,T.getD 28 zh,T.getD 29 zh,T.getD 30 zh,T.getD 31 zh,T.getD 32 zh,T.getD 33 zh,T.getD 34 zh,T.getD 35 zh]:=(qO T 36 h).trans (by kernel_rfl)
variable (G F I K L M R H N J f g i c d b k l m n o p q r s t u w x y z A B C D E:Value) (S:zx)
theorem zA.r0 :jg zi ⟨false,false,false⟩ (zS zi O) (reg Try.f16 0) (reg Try.f16 0).toList ([G,F,I,K,L,M,R,H,N,J,f,g,i,c,d,b,k,l,m,n,o,p,q,r,s,t,u,w,x,y,z,A,B,C,D,E]) S =
  ( some ([G,F,I,K,L,M,Value.slice none 0 0,H,N,J,f,g,i,c,d,b,k,l,m,n,o,p,q,r,s,t,u,w,x,y,z,A,B,C,D,E],S)):=by
 kernel_rfl
theorem zA.r1 :jg zi ⟨false,false,false⟩ (zS zi O) (reg Try.f16 1) (reg Try.f16 1).toList ([G,F,I,K,L,M,R,H,N,J,f,g,i,c,d,b,k,l,m,n,o,p,q,r,s,t,u,w,x,y,z,A,B,C,D,E]) S =
  ( some ([G,F,I,K,L,M,R,Value.slice none 0 0,N,J,f,g,i,c,d,b,k,l,m,n,o,p,q,r,s,t,u,w,x,y,z,A,B,C,D,E],S)):=by
 kernel_rfl
theorem zA.r2 :jg zi ⟨false,false,false⟩ (zS zi O) (reg Try.f16 2) (reg Try.f16 2).toList ([G,F,I,K,L,M,R,H,N,J,f,g,i,c,d,b,k,l,m,n,o,p,q,r,s,t,u,w,x,y,z,A,B,C,D,E]) S =
  (zU (jV (dem G) S) (fun U P=>zU (zN zi 49 U 0 P) (fun V W=>zU (jd zi false 23 V W) (fun Q X=>zU (vg zi 23 Q X) (fun v4 Z=>some ([G,F,I,K,L,M,R,H,N,J,dem G,U,V,Q,v4,.int .i64 0,k,l,m,n,o,p,q,r,s,t,u,w,x,y,z,A,B,C,D,E],Z)) ()) ()) ()) ()):=by
 kernel_rfl
theorem zA.r3 :jg zi ⟨false,false,false⟩ (zS zi O) (reg Try.f16 3) (reg Try.f16 3).toList ([G,F,I,K,L,M,R,H,N,J,f,g,i,c,d,b,k,l,m,n,o,p,q,r,s,t,u,w,x,y,z,A,B,C,D,E]) S =
  (zU (wX zi BinOp.lss 3 b d S) (fun Y P=>some ([G,F,I,K,L,M,R,H,N,J,f,g,i,c,d,b,Y,l,m,n,o,p,q,r,s,t,u,w,x,y,z,A,B,C,D,E],P)) ()):=by
 kernel_rfl
theorem zA.r4 :jg zi ⟨false,false,false⟩ (zS zi O) (reg Try.f16 4) (reg Try.f16 4).toList ([G,F,I,K,L,M,R,H,N,J,f,g,i,c,d,b,k,l,m,n,o,p,q,r,s,t,u,w,x,y,z,A,B,C,D,E]) S =
  (zU (zZ zi 23 c b S) (fun Y P=>zU (jd zi false 30 Y P) (fun U W=>zU (ku zi 30 W) (fun V X=>zU (kQ zi 30 V (dem U) X) (fun Q Z=>some ([G,F,I,K,L,M,R,H,N,V,f,g,i,c,d,b,k,Y,U,n,o,p,q,r,s,t,u,w,x,y,z,A,B,C,D,E],Z)) ()) ()) ()) ()):=by
 kernel_rfl
theorem zA.r5 :jg zi ⟨false,false,false⟩ (zS zi O) (reg Try.f16 5) (reg Try.f16 5).toList ([G,F,I,K,L,M,R,H,N,J,f,g,i,c,d,b,k,l,m,n,o,p,q,r,s,t,u,w,x,y,z,A,B,C,D,E]) S =
  (zU (vg zi 23 (dem H) S) (fun U P=>zU (wX zi BinOp.lss 3 U (dem F) P) (fun Q W=>gdK (dem Q) true (ret I) W (fun v5 X=>gdK (dem Q) true (zN zi 30 J 0) X (fun v6 Z=>gdK (dem Q) true (jd zi false 3 v6) Z (fun v7 S5=>gdK (dem Q) true ((zS zi O) 29 [(dem (dem v5)),(dem v7)]) S5 (fun v8 S6=>gdK (dem Q) true (aUn zi UnOp.not v8) S6 (fun v9 S7=>zU (qm (dem Q) v9 (Value.bool false) S7) (fun a0 S8=>some ([G,F,I,K,L,M,R,H,N,J,f,g,i,c,d,b,k,l,m,dem H,U,dem F,Q,dem Q,dem v5,v6,v7,v8,v9,a0,z,A,B,C,D,E],S8)) ()) ()) ()) ()) ()) ()) ()) ()):=by
 refine sP Try.f16 5 0 (v:=H) ?_
 refine sD Try.f16 5 1 (fun U P=>?_)
 refine sP Try.f16 5 2 (v:=F) ?_
 refine sD Try.f16 5 3 (fun Q W=>?_)
 refine sP Try.f16 5 4 (v:=Q) ?_
 refine sG Try.f16 5 5 (j:=4) (fun v5 X=>?_)
 refine sG Try.f16 5 6 (j:=4) (fun v6 Z=>?_)
 refine sG Try.f16 5 7 (j:=4) (fun v7 S5=>?_)
 refine sG Try.f16 5 8 (j:=4) (fun v8 S6=>?_)
 refine sG Try.f16 5 9 (j:=4) (fun v9 S7=>?_)
 refine sD Try.f16 5 10 (fun a0 S8=>?_)
 kernel_rfl
theorem zA.r6 :jg zi ⟨false,false,false⟩ (zS zi O) (reg Try.f16 6) (reg Try.f16 6).toList ([G,F,I,K,L,M,R,H,N,J,f,g,i,c,d,b,k,l,m,n,o,p,q,r,s,t,u,w,x,y,z,A,B,C,D,E]) S =
  (zU (jd zi false 30 J S) (fun U P=>zU (jQ zi 23 1 [(0,U)] P) (fun V W=>zU (kM zi 23 23 H V W) (fun Q X=>some ([G,F,I,K,L,M,R,Q,N,J,f,g,i,c,d,b,k,l,m,n,o,p,q,r,s,t,u,w,x,y,dem H,U,V,dem Q,D,E],X)) ()) ()) ()):=by
 kernel_rfl
theorem zA.r7 :jg zi ⟨false,false,false⟩ (zS zi O) (reg Try.f16 7) (reg Try.f16 7).toList ([G,F,I,K,L,M,R,H,N,J,f,g,i,c,d,b,k,l,m,n,o,p,q,r,s,t,u,w,x,y,z,A,B,C,D,E]) S =
  (zU (wX zi BinOp.add 3 b (.int .i64 1) S) (fun Y P=>some ([G,F,I,K,L,M,R,H,N,J,f,g,i,c,d,dem Y,k,l,m,n,o,p,q,r,s,t,u,w,x,y,z,A,B,C,Y,E],P)) ()):=by
 kernel_rfl
theorem zA.r8 :jg zi ⟨false,false,false⟩ (zS zi O) (reg Try.f16 8) (reg Try.f16 8).toList ([G,F,I,K,L,M,R,H,N,J,f,g,i,c,d,b,k,l,m,n,o,p,q,r,s,t,u,w,x,y,z,A,B,C,D,E]) S =
  ( some ([G,F,I,K,L,M,H,dem H,N,J,f,g,i,c,d,b,k,l,m,n,o,p,q,r,s,t,u,w,x,y,z,A,B,C,D,dem H],S)):=by
 kernel_rfl
theorem zA.rs:type_of% (aeW @zA.r0 (aeW @zA.r1 (aeW @zA.r2 (aeW @zA.r3 (aeW @zA.r4 (aeW @zA.r5 (aeW @zA.r6 (aeW @zA.r7 (@zA.r8))))))))):=aeW @zA.r0 (aeW @zA.r1 (aeW @zA.r2 (aeW @zA.r3 (aeW @zA.r4 (aeW @zA.r5 (aeW @zA.r6 (aeW @zA.r7 (@zA.r8))))))))
theorem zA.runs {G F I:Value} {S P:zx} {e:AEx} {T:List Value} (h:zD zi O false zA.code ([G,F,I,zh,zh,zh,zh,zh,zh,zh,zh,zh,zh,zh,zh,zh,zh,zh,zh,zh,zh,zh,zh,zh,zh,zh,zh,zh,zh,zh,zh,zh,zh,zh,zh,zh]) S=some (e,T,P)) (he:e=.normal∨e=.ret):zS zi O 16 [G,F,I] S=some (T.getD 6 zh,P) :=
 jG rfl rfl Try.func16 (by decide) zA.body (by exact h) he (jD (a:=T.getD 6 zh) ((show zH zi T P Try.f16.results.toList=zH zi T P [(ResultVar.tmp 6)] from by kernel_rfl).trans (by simp only [zH])) (by kernel_rfl))
end Go.Proofs.Ytacbgjhmkhjpoaa
namespace Go.Proofs.Ytacbgjhmkhjpoaa
open Go.Abs
abbrev slices_Clone.id:FuncId:=21
noncomputable def slices_Clone.code:Code:=(.seq (.region 0 (reg Try.f21 0) false) (.seq (.seq (.region 1 (reg Try.f21 1) false) (.cond (.tmp 4) (.seq (.region 2 (reg Try.f21 2) false) Code.ret) Code.skip)) (.seq (.region 3 (reg Try.f21 3) false) Code.ret)))
theorem slices_Clone.body:Try.f21.body=some slices_Clone.code:=by kernel_rfl
variable (b c l f g i j k:Value) (S:zx)
theorem slices_Clone.r0 :jg zi ⟨false,false,false⟩ (zS zi O) (reg Try.f21 0) (reg Try.f21 0).toList ([b,c,l,f,g,i,j,k]) S =
  ( some ([b,c,Value.slice none 0 0,f,g,i,j,k],S)):=by
 kernel_rfl
theorem slices_Clone.r1 :jg zi ⟨false,false,false⟩ (zS zi O) (reg Try.f21 1) (reg Try.f21 1).toList ([b,c,l,f,g,i,j,k]) S =
  (zU (wX zi BinOp.eql 23 (dem b) (Value.slice none 0 0) S) (fun o d=>some ([b,c,l,dem b,o,i,j,k],d)) ()):=by
 kernel_rfl
theorem slices_Clone.r2 :jg zi ⟨false,false,false⟩ (zS zi O) (reg Try.f21 2) (reg Try.f21 2).toList ([b,c,l,f,g,i,j,k]) S =
  ( some ([b,c,Value.slice none 0 0,f,g,i,j,k],S)):=by
 kernel_rfl
theorem slices_Clone.r3 :jg zi ⟨false,false,false⟩ (zS zi O) (reg Try.f21 3) (reg Try.f21 3).toList ([b,c,l,f,g,i,j,k]) S =
  (zU (jQ zi 23 0 [] S) (fun m d=>zU (kM zi 23 23 m (dem b) d) (fun n p=>some ([b,c,n,f,g,dem m,dem b,dem n],p)) ()) ()):=by
 kernel_rfl
theorem slices_Clone.rs:type_of% (aeW @slices_Clone.r0 (aeW @slices_Clone.r1 (aeW @slices_Clone.r2 (@slices_Clone.r3)))):=aeW @slices_Clone.r0 (aeW @slices_Clone.r1 (aeW @slices_Clone.r2 (@slices_Clone.r3)))
theorem slices_Clone.runs {b:Value} {S d:zx} {e:AEx} {T:List Value} (h:zD zi O false slices_Clone.code ([b,zh,zh,zh,zh,zh,zh,zh]) S=some (e,T,d)) (he:e=.normal∨e=.ret):zS zi O 21 [b] S=some (T.getD 2 zh,d) :=
 jG rfl rfl Try.func21 (by decide) slices_Clone.body (by exact h) he (jD (a:=T.getD 2 zh) ((show zH zi T d Try.f21.results.toList=zH zi T d [(ResultVar.tmp 2)] from by kernel_rfl).trans (by simp only [zH])) (by kernel_rfl))
end Go.Proofs.Ytacbgjhmkhjpoaa
namespace Go.Proofs.Ytacbgjhmkhjpoaa
open Go.Abs
abbrev zY.id:FuncId:=10
noncomputable def zY.code:Code:=(.seq (.region 0 (reg Try.f10 0) false) (.seq (.region 1 (reg Try.f10 1) false) Code.ret))
theorem zY.body:Try.f10.body=some zY.code:=by kernel_rfl
variable (f c d:Value) (S:zx)
theorem zY.r0 :jg zi ⟨false,false,false⟩ (zS zi O) (reg Try.f10 0) (reg Try.f10 0).toList ([f,c,d]) S =
  ( some ([Value.pointer none,c,d],S)):=by
 kernel_rfl
theorem zY.r1 :jg zi ⟨false,false,false⟩ (zS zi O) (reg Try.f10 1) (reg Try.f10 1).toList ([f,c,d]) S =
  (zU (wS zi 49 [] S) (fun g b=>zU (ZH (dem g) b) (fun i j=>some ([i,g,dem i],j)) ()) ()):=by
 kernel_rfl
theorem zY.rs:type_of% (aeW @zY.r0 (@zY.r1)):=aeW @zY.r0 (@zY.r1)
theorem zY.runs {S b:zx} {e:AEx} {T:List Value} (h:zD zi O false zY.code ([zh,zh,zh]) S=some (e,T,b)) (he:e=.normal∨e=.ret):zS zi O 10 [] S=some (T.getD 0 zh,b) :=
 jG rfl rfl Try.func10 (by decide) zY.body (by exact h) he (jD (a:=T.getD 0 zh) ((show zH zi T b Try.f10.results.toList=zH zi T b [(ResultVar.tmp 0)] from by kernel_rfl).trans (by simp only [zH])) (by kernel_rfl))
end Go.Proofs.Ytacbgjhmkhjpoaa
