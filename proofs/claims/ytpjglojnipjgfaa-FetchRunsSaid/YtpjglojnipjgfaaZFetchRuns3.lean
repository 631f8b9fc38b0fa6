/-
The law FetchRuns returns true for every input, and leaves it as it was; no condition. Part 3 of 4 of the texts (put together by a program: own names are short, what isn't needed is left out).
-/
import Derived.Test.YtpjglojnipjgfaaZFetchRuns2
import Derived.KernelRfl
import Derived.Test.YtpjglojnipjgfaaChecked
set_option linter.unusedVariables false
set_option linter.unusedSimpArgs false
set_option maxRecDepth 100000
open Go renaming undef → zh
open Go.Proofs.Try renaming prog → zi
namespace Go.Abs
open Go.RowKit
def Jk (P:Program) (call:FuncId→List Value→M Value):Prop:=∀ g args aargs S v S',call g args S=some (v,S')→∀ μ H ω,GI μ S H→L0 μ H args aargs→Dom μ H ω→(∀ r s,ω r=some s→s=.ext) →
 ∃ a H' μ' ω',lim P g aargs H=some (a,H')∧GI μ' S' H'∧Later μ H μ' H'∧Kept ω H ω' H'∧Dom μ' H' ω'∧VV μ' H' ω' (some (.res none)) v a
section
variable {P:Program} {call:FuncId→List Value→M Value} {μ:Mu} {ω:Nat→Option wL} {S S' H:zy} {T A:List Value}
theorem acI (hc:Jk P call) {g:FuncId} {args aargs:List Value} {v:Value} (hG:GI μ S H) (hT:TI μ H ω T A) (h:call g args S=some (v,S')) (ha:L0 μ H args aargs):Out μ ω H A T S' v (lim P g aargs H):=by
 obtain ⟨a,H',μ',ω',h1,h2,h3,h4,h5,h6⟩:=hc g args aargs S v S' h μ H (fun r=>(ω r).map fun _=>.ext) hG ha (fun r s hs=>by
  cases hr:ω r with
  | none=>simp [hr] at hs
  | some s0=>exact hT.dom r s0 hr) (fun r s hs=>by
  cases hr:ω r with
  | none=>simp [hr] at hs
  | some s0=>simp [hr] at hs;exact hs.symm)
 have kept:∀ r s,ω r=some s→ω' r=some .ext∧H'.get r=H.get r:=fun r s hs=>h4 r (by dsimp only;rw [hs];rfl)
 refine ⟨a,H',μ',fun r=>match ω' r with | some .ext=>ω r | some (.slot _ _)=>none | x=>x,h1,h2,h3,fun r hr=>?_,fun r s hs=>?_,hT.len,fun i=>?_,?_⟩
 ·
  obtain ⟨k1,k2⟩:=kept r _ hr
  exact ⟨by (try dsimp only);rw [k1];exact hr,k2⟩
 ·
  dsimp only at hs
  cases hr:ω' r with
  | none=>rw [hr] at hs;cases hs
  | some s0 =>
   have:=h5 r s0 hr
   exact this
 ·
  refine (hT.slots i).later h3 (K:=fun _=>True) (fun _ _ _ _ _=>trivial) (fun r s _ hr=>?_) (fun _ _=>trivial)
  obtain ⟨k1,k2⟩:=kept r s hr
  exact ⟨by (try dsimp only);rw [k1];exact hr,k2⟩
 ·
  refine h6.later (Later.refl _ _) (K:=fun s=>∃ j,s=.res j) (fun s i t ⟨j,hj⟩ ht=>by subst hj;cases j <;> cases ht;exact ⟨_,rfl⟩) (fun r s ⟨j,hj⟩ hr=>?_) (fun s hs=>by cases hs;exact ⟨_,rfl⟩)
  subst hj
  exact ⟨by (try dsimp only);rw [hr],rfl⟩
def ZF (t:Nat):wL→Option wL
 | .slot i j=>if i=t then some (.res j) else some (.slot i j)
 | s=>some s
def Jl (t k:Nat):wL→Option wL
 | .slot i (some j)=>if i=t∧j=k then some (.res none) else some (.slot i (some j))
 | s=>some s
theorem XD {x:Operand} (hG:GI μ S H) (hT:TI μ H ω T A) (hx:yM x=true):Out μ ω H A (jU T x) S (zS T x) (some (zS A x,H)):=by
 cases x with
 | const v=>exact Out.same hG hT (VV.wo hx)
 | global g=>cases hx
 | func f=>exact Out.same hG hT (hT.eval (x:=.func f) rfl)
 | tmp t =>
  refine ⟨_,H,μ,fun r=>(ω r).bind (ZF t),rfl,hG,Later.refl μ H,fun r hr=>⟨by dsimp only;rw [hr];rfl,rfl⟩,fun r s hs=>?_,by simp [jU,yK,hT.len],fun i=>?_,?_⟩
  ·
   dsimp only at hs
   cases hr:ω r with
   | none=>rw [hr] at hs;cases hs
   | some s0=>exact hT.dom r s0 hr
  ·
   dsimp only [jU,yK]
   rw [wV]
   by_cases hi:i=t
   ·
    subst hi
    by_cases hlt:i < T.length
    ·
     rw [if_pos ⟨rfl,hlt⟩]
     exact (hT.slots i).v0.at0
    ·
     rw [if_neg (fun h=>hlt h.2)]
     rw [List.getD_eq_getElem?_getD,List.getElem?_eq_none (Nat.le_of_not_lt hlt),List.getD_eq_getElem?_getD,List.getElem?_eq_none (by rw [← hT.len];omega)]
     exact .nores
   ·
    rw [if_neg (fun h=>hi h.1)]
    refine (hT.slots i).Y9 (fun _=>rfl) _ (fun s hs=>?_)
    cases hs
    refine ⟨_,rfl,by simp only [ZF];rw [if_neg hi],fun k t' ht=>?_⟩
    cases ht
    exact ⟨_,rfl,by simp only [ZF];rw [if_neg hi]⟩
  ·
   refine (hT.slots t).Y9 (fun _=>rfl) _ (fun s hs=>?_)
   cases hs
   refine ⟨_,rfl,by simp only [ZF,if_true],fun k t' ht=>?_⟩
   cases ht
   exact ⟨_,rfl,by simp only [ZF,if_true]⟩
theorem getD_modify (vs:Array Value) (i k:Nat) (f:Value→Value) (hf:f zh=zh):(vs.modify i f).getD k zh=if k=i then f (vs.getD k zh) else vs.getD k zh:=by
 rw [Array.getD_eq_getD_getElem?,Array.getD_eq_getD_getElem?,Array.getElem?_modify]
 by_cases h:i=k
 ·
  subst h
  rw [if_pos rfl,if_pos rfl]
  cases vs[i]? with
  | none=>exact hf.symm
  | some v=>rfl
 ·
  rw [if_neg h,if_neg (fun e=>h e.symm)]
theorem VV.part {ω':Nat→Option wL} {ℓ ℓ':Option wL} {v a:Value} (h:VV μ H ω ℓ v a) (hℓ:∀ s,ℓ=some s→∀ k,s.comp k=none):VV μ H ω' ℓ' (Go.Abs.qA v) a:=by
 by_cases ht:∃ x,v=.tuple x
 ·
  obtain ⟨x,rfl⟩:=ht
  show VV μ H ω' ℓ' (.tuple x) a
  cases h with
  | sg hs=>simp [Go.Abs.sg] at hs
  | nores=>exact .nores
  | tuple hx hh =>
   refine .tuple hx fun i=>?_
   have:=hh i
   cases ℓ with
   | none=>exact this.at0
   | some s =>
    have e:(some s).bind (·.comp i)=none:=hℓ s rfl i
    rw [e] at this
    exact this.at0
 ·
  have e:Go.Abs.dem v=Go.Abs.qA v:=by
   cases v <;> first | rfl | exact absurd ⟨_,rfl⟩ ht
  rw [← e]
  exact h.v0.at0
def ZP (T:List Value) (i:Nat):Operand→List Value
 | .tmp t=>T.set t (jv i (T.getD t zh))
 | _=>T
theorem Xa {x:Operand} {i:Nat} {v:Value} (hG:GI μ S H) (hT:TI μ H ω T A) (hx:yM x=true) (h:zQ (zS T x) i S=some (v,S')) :
  Out μ ω H A (ZP T i x) S' v (zQ (zS A x) i H):=by
 cases x with
 | const w =>
  exfalso
  unfold zQ at h
  split at h
  ·
   rename_i vs he
   simp only [zS] at he
   subst he
   simp [yM,ground,Go.Abs.sg] at hx
  ·
   cases h
 | global g=>cases hx
 | func f=>simp [zS,zQ] at h
 | tmp t =>
  simp only [zS,ZP] at h ⊢
  unfold zQ at h
  split at h
  ·
   rename_i vs hvs
   split at h <;> first | (cases h;done) | skip
   rename_i w hw
   cases h
   have hs:=hT.slots t
   rw [hvs] at hs
   have hil:i < vs.size:=(Array.getElem?_eq_some_iff.1 hw).1
   have hlt:t < T.length:=by
    rcases Nat.lt_or_ge t T.length with h | h
    ·
     exact h
    ·
     rw [List.getD_eq_getElem?_getD,List.getElem?_eq_none h] at hvs
     cases hvs
     simp at hil
   generalize hA:A.getD t zh=at' at hs
   cases hs with
   | sg hs=>simp [Go.Abs.sg] at hs
   | nores=>simp at hil
   | @tuple _ _ y hxs hxx =>
    have hiy:i < y.size:=by rw [← hxs];exact hil
    have hrun:zQ (.tuple y) i H=some (y[i],H):=by simp only [zQ,Array.getElem?_eq_getElem hiy]
    rw [hrun]
    have hcomp:=hxx i
    rw [Array.getD_eq_getD_getElem?,hw,Array.getD_eq_getD_getElem?,Array.getElem?_eq_getElem hiy] at hcomp
    simp only [Option.getD_some] at hcomp
    refine ⟨_,H,μ,fun r=>(ω r).bind (Jl t i),rfl,hG,Later.refl μ H,fun r hr=>⟨by dsimp only;rw [hr];rfl,rfl⟩,fun r s hs=>?_,by simp [hT.len],fun k=>?_,?_⟩
    ·
     dsimp only at hs
     cases hr:ω r with
     | none=>rw [hr] at hs;cases hs
     | some s0=>exact hT.dom r s0 hr
    ·
     rw [wV]
     by_cases hk:k=t
     ·
      subst hk
      rw [if_pos ⟨rfl,hlt⟩,hA,hvs]
      simp only [jv]
      refine .tuple (by simpa using hxs) fun j=>?_
      rw [getD_modify _ _ _ _ rfl]
      by_cases hj:j=i
      ·
       subst hj
       rw [if_pos rfl]
       exact (hxx j).part (fun s hs k=>by cases hs;rfl)
      ·
       rw [if_neg hj]
       refine (hxx j).Y9 (fun _=>rfl) _ (fun s hs=>?_)
       cases hs
       refine ⟨_,rfl,by simp only [Jl];rw [if_neg (fun e=>hj e.2)],fun a b hb=>by cases hb⟩
     ·
      rw [if_neg (fun e=>hk e.1)]
      refine (hT.slots k).Y9 (fun _=>rfl) _ (fun s hs=>?_)
      cases hs
      refine ⟨_,rfl,rfl,fun a b hb=>?_⟩
      cases hb
      exact ⟨_,rfl,by simp only [Jl];rw [if_neg (fun e=>hk e.1)]⟩
    ·
     refine hcomp.Y9 (fun _=>rfl) _ (fun s hs=>?_)
     cases hs
     exact ⟨_,rfl,by simp [Jl],fun a b hb=>by cases hb⟩
  ·
   cases h
theorem adS (hT:TI μ H ω T A):∀ (xs:List Operand),xs.all yM=true→L0 μ H (xs.map fun x=>dem (zS T x)) (xs.map (zS A)):=by
 intro xs h
 exact LV.map fun x hx=>hT.eval (List.all_eq_true.1 h x hx)
theorem J8 {xs:List Operand} (hT:TI μ H ω T A) (h:xs.all yM=true) (hg:(xs.map (zS T)).all ground=true):xs.map (zS A)=xs.map (zS T):=by
 apply List.map_congr_left
 intro x hx
 exact jd (hT.eval (List.all_eq_true.1 h x hx)) (List.all_eq_true.1 hg _ (List.mem_map.2 ⟨x,hx,rfl⟩))
theorem acO {o:Oper} (h:hands o=false) (hc:∀ c,o.op≠.call c):moved o T=T:=by
 unfold moved
 unfold hands at h
 split <;> first | rfl | (rename_i he;exact absurd he (hc _)) | (rename_i he;rw [he] at h;cases h)
theorem acJ {fx:Fx} (hc:Jk P call) {o:Oper} {v:Value} (hG:GI μ S H) (hT:TI μ H ω T A) (h:jZ P fx call T o S=some (v,S')):Out μ ω H A (moved o T) S' v (wz P (lim P) A o H):=by
 unfold jZ at h
 split at h <;> first | (cases h;done) | skip
 rename_i hok
 unfold wz
 rw [if_pos hok]
 have hargs:o.op.operands.toList.all yM=true:=hok
 have hev:∀ x ∈ o.op.operands.toList,V0 μ H (dem (zS T x)) (zS A x):=fun x hx=>hT.eval (List.all_eq_true.1 hargs x hx)
 have hoka:∀ x ∈ o.op.operands.toList,yM x=true:=fun x hx=>List.all_eq_true.1 hargs x hx
 obtain ⟨dst,op,type,pos,after,guard⟩:=o
 by_cases hcall:∃ c,op=.call c
 ·
  obtain ⟨c,rfl⟩:=hcall
  dsimp only at h hev hoka hargs ⊢
  have hcargs:c.args.toList.all yM=true:=by
   rw [List.all_eq_true]
   intro x hx
   refine hoka x ?_
   simp only [Op.operands,Call.operands]
   cases c.callee <;> simp <;> first | exact .inr (by simpa using hx) | exact (by simpa using hx)
  cases hcal:c.callee with
  | value f =>
   rw [hcal] at h
   dsimp only at h ⊢
   have hf:=hev f (by simp [Op.operands,Call.operands,hcal])
   split at h <;> first | (cases h;done) | skip
   rename_i g first captured hfe
   rw [hfe] at hf
   have hf:V0 μ H (.func (.func g) first captured) (zS A f):=hf
   generalize hfa:zS A f=fa at hf
   cases hf with
   | sg hs=>simp [Go.Abs.sg] at hs
   | func _ hx hcs h1 h2 =>
    rename_i x' c'
    dsimp only
    have l1:L0 μ H first.toList x'.toList:=⟨by simpa using hx,fun i=>by rw [getD_toList,getD_toList];exact h1 i⟩
    have l2:L0 μ H captured.toList c'.toList:=⟨by simpa using hcs,fun i=>by rw [getD_toList,getD_toList];exact h2 i⟩
    have hm:moved ⟨dst,.call c,type,pos,after,guard⟩ T=T:=by simp only [moved,hcal]
    rw [hm]
    exact acI hc hG hT h ((l1.append (adS hT _ hcargs)).append l2)
  | invoke r m=>rw [hcal] at h;cases h
  | builtin b =>
   rw [hcal] at h
   dsimp only at h ⊢
   unfold Zy at h
   unfold qx
   cases b <;> dsimp only at h ⊢ <;> first | (cases h;done) | skip
   case len =>
    split at h <;> first | (cases h;done) | skip
    rename_i t x0 ht ha
    obtain ⟨x,hx,rfl⟩:∃ x,c.args.toList=[x]∧zS T x=x0:=by
     match hl:c.args.toList with
     | []=>rw [hl] at ha;cases ha
     | [y]=>rw [hl] at ha;simp at ha;exact ⟨y,rfl,ha⟩
     | y::z::w=>rw [hl] at ha;simp at ha
    have hm:moved ⟨dst,.call c,type,pos,after,guard⟩ T=T:=by simp only [moved,hcal]
    rw [hm,ht,hx]
    rw [hx] at hcargs
    obtain ⟨rfl,a,h1,h2⟩:=aaW h (hT.eval (List.all_eq_true.1 hcargs x (by simp)))
    simp only [List.map_cons,List.map_nil]
    rw [h1]
    exact Out.same hG hT h2
   case append =>
    split at h <;> first | (cases h;done) | skip
    rename_i t tx s0 x0 ht ha
    obtain ⟨so,x,hx,rfl,rfl⟩:∃ so x,c.args.toList=[so,x]∧zS T so=s0∧zS T x=x0:=by
     match hl:c.args.toList with
     | []=>rw [hl] at ha;cases ha
     | [y]=>rw [hl] at ha;simp at ha
     | [y,z]=>rw [hl] at ha;simp at ha;exact ⟨y,z,rfl,ha.1,ha.2⟩
     | y::z::w::u=>rw [hl] at ha;simp at ha
    rw [hx] at hcargs
    have hso:=List.all_eq_true.1 hcargs so (by simp)
    have hm:moved ⟨dst,.call c,type,pos,after,guard⟩ T=jU T so:=by
     simp only [moved,hcal,hx]
     cases so <;> rfl
    rw [hm,ht,hx]
    exact Vg hG hT hso h (hT.eval (List.all_eq_true.1 hcargs x (by simp)))
   case copy =>
    split at h <;> first | (cases h;done) | skip
    rename_i t tx s0 x0 ht ha
    obtain ⟨so,x,hx,rfl,rfl⟩:∃ so x,c.args.toList=[so,x]∧zS T so=s0∧zS T x=x0:=by
     match hl:c.args.toList with
     | []=>rw [hl] at ha;cases ha
     | [y]=>rw [hl] at ha;simp at ha
     | [y,z]=>rw [hl] at ha;simp at ha;exact ⟨y,z,rfl,ha.1,ha.2⟩
     | y::z::w::u=>rw [hl] at ha;simp at ha
    rw [hx] at hcargs
    have hm:moved ⟨dst,.call c,type,pos,after,guard⟩ T=T:=by simp only [moved,hcal]
    rw [hm,ht,hx]
    exact acd hG hT h (hT.eval (List.all_eq_true.1 hcargs so (by simp))) (hT.eval (List.all_eq_true.1 hcargs x (by simp)))
   case clear =>
    split at h <;> first | (cases h;done) | skip
    rename_i t x0 ht ha
    obtain ⟨x,hx,rfl⟩:∃ x,c.args.toList=[x]∧zS T x=x0:=by
     match hl:c.args.toList with
     | []=>rw [hl] at ha;cases ha
     | [y]=>rw [hl] at ha;simp at ha;exact ⟨y,rfl,ha⟩
     | y::z::w=>rw [hl] at ha;simp at ha
    have hm:moved ⟨dst,.call c,type,pos,after,guard⟩ T=T:=by simp only [moved,hcal]
    rw [hm,ht,hx]
    rw [hx] at hcargs
    exact abd hG hT h (hT.eval (List.all_eq_true.1 hcargs x (by simp)))
   case min =>
    obtain ⟨rfl,hg,hga,hh⟩:=jP (H:=H) h
    have hm:moved ⟨dst,.call c,type,pos,after,guard⟩ T=T:=by simp only [moved,hcal]
    rw [hm,J8 hT hcargs hga,hh]
    exact Out.same hG hT (V0.ground hg)
   case max =>
    obtain ⟨rfl,hg,hga,hh⟩:=jP (H:=H) h
    have hm:moved ⟨dst,.call c,type,pos,after,guard⟩ T=T:=by simp only [moved,hcal]
    rw [hm,J8 hT hcargs hga,hh]
    exact Out.same hG hT (V0.ground hg)
 ·
  have hnc:∀ c,op≠.call c:=fun c hc=>hcall ⟨c,hc⟩
  have hV:vOp P fx (zS T) ⟨dst,op,type,pos,after,guard⟩ S=some (v,S'):=by
   cases op <;> first | exact h | exact absurd rfl (hnc _)
  suffices hs:Out μ ω H A (moved ⟨dst,op,type,pos,after,guard⟩ T) S' v (aOp P (zS A) ⟨dst,op,type,pos,after,guard⟩ H) by
   cases op <;> first | exact hs | exact absurd rfl (hnc _)
  by_cases hh:hands ⟨dst,op,type,pos,after,guard⟩=true
  ·
   cases op <;> first | (cases hh;done) | skip
   case move x =>
    cases hV
    have:=XD hG hT (hoka x (by simp [Op.operands]))
    have hm:moved ⟨dst,.move x,type,pos,after,guard⟩ T=jU T x:=by cases x <;> rfl
    rw [hm];exact this
   case assign x =>
    cases hV
    have:=XD hG hT (hoka x (by simp [Op.operands]))
    have hm:moved ⟨dst,.assign x,type,pos,after,guard⟩ T=jU T x:=by cases x <;> rfl
    rw [hm];exact this
   case extract x i =>
    have:=Xa hG hT (hoka x (by simp [Op.operands])) hV
    have hm:moved ⟨dst,.extract x i,type,pos,after,guard⟩ T=(ZP T i x):=by cases x <;> rfl
    rw [hm];exact this
  ·
   have hh:hands ⟨dst,op,type,pos,after,guard⟩=false:=by simpa using hh
   rw [acO hh hnc]
   by_cases hch:xI P ⟨dst,op,type,pos,after,guard⟩=false
   ·
    obtain ⟨rfl,a,h1,h2,h3⟩:=QG hV hch hev (.inr hG) (.inr hG)
    rw [h1]
    exact Out.same hG hT (h3 hh)
   ·
    unfold vOp at hV
    unfold aOp
    cases op <;> dsimp only at hV hev ⊢ <;> first | (cases hV;done) | (exact absurd rfl hch) | (cases hh;done) | skip
    case alloc e=>exact aaL hG hT hV
    case box x _=>exact aee hG hT hV (hev x (by simp [Op.operands]))
    case buildSlice t len parts _ =>
     have hps:=Qz (μ:=μ) (H:=H) (parts:=parts.toList) (ρ:=zS T) (ρA:=zS A) fun p hp=>hev p.2 (by simp [Op.operands];exact ⟨p.1,by simpa using hp⟩)
     split at hV
     ·
      exact QK hG hT hV hps
     ·
      exact Wv hG hT hV hps
    case makeMap t r _=>exact Xy hG hT hV (fun h=>by cases r <;> simp at h ⊢)
    case mapUpdate t x k w _=>exact Y3 hG hT hV (hev x (by simp [Op.operands])) (hev k (by simp [Op.operands])) (hev w (by simp [Op.operands]))
    case store a x _=>exact abG hG hT hV (hev a (by simp [Op.operands])) (hev x (by simp [Op.operands]))
    case makeSlice l c _ =>
     split at hV
     ·
      exact Xc hG hT hV (hev l (by simp [Op.operands])) (hev c (by simp [Op.operands]))
     ·
      exact Yx hG hT hV (hev l (by simp [Op.operands])) (hev c (by simp [Op.operands]))
    case convert dst' x _ =>
     have hd:∃ e,P.underlying dst'=some (.slice e):=by
      unfold xI at hch
      dsimp only at hch
      split at hch
      ·
       exact ⟨_,by assumption⟩
      ·
       exact absurd rfl hch
     obtain ⟨e,hd⟩:=hd
     cases x with
     | tmp t=>exact JU hG hT hV (hT.slots t) hd
     | const w=>exact JU hG hT hV (VV.wo (ℓ:=none) (hoka (.const w) (by simp [Op.operands]))) hd
     | global g=>have:=hoka (.global g) (by simp [Op.operands]);cases this
     | func f=>exact JU hG hT hV (ℓ:=none) ((hT.eval (x:=.func f) rfl).at0) hd
theorem aaR {ops:Array Oper} (hT:TI μ H ω T A) (j:Nat):ynd ops T j=ynd ops A j:=by
 unfold ynd
 cases hd:(ops[j]?).bind (·.dst) with
 | none=>rfl
 | some d =>
  simp only [Option.bind_some]
  have:=hT.slots d
  have e:=hT.len
  by_cases hlt:d < T.length
  ·
   have hlt':d < A.length:=by rw [← e];exact hlt
   simp only [List.getD_eq_getElem?_getD,List.getElem?_eq_getElem hlt,List.getElem?_eq_getElem hlt',Option.getD_some] at this
   rw [List.getElem?_eq_getElem hlt,List.getElem?_eq_getElem hlt']
   generalize T[d]=u at *
   generalize A[d]=u' at *
   cases this <;> rfl
  ·
   have hlt':A.length≤d:=by rw [← e];exact Nat.le_of_not_lt hlt
   rw [List.getElem?_eq_none (Nat.le_of_not_lt hlt),List.getElem?_eq_none hlt']
theorem TI.moved (hT:TI μ H ω T A) (o:Oper):TI μ H ω (moved o T) A:=by
 have slot:∀ t,TI μ H ω (yK T t) A:=by
  intro t
  refine ⟨by simp [yK,hT.len],fun i=>?_,hT.dom,hT.nores⟩
  rw [yK,wV]
  split
  ·
   rename_i h;rw [h.1];exact (hT.slots t).dem
  ·
   exact hT.slots i
 unfold Go.Abs.moved
 split
 ·
  exact slot _
 ·
  exact slot _
 ·
  rename_i t i _
  refine ⟨by simp [hT.len],fun k=>?_,hT.dom,hT.nores⟩
  rw [wV]
  split
  ·
   rename_i h
   rw [h.1]
   have:=hT.slots t
   generalize T.getD t zh=w at this
   cases w with
   | tuple vs =>
    simp only [jv]
    generalize A.getD t zh=a at this
    cases this with
    | sg hs=>simp [Go.Abs.sg] at hs
    | nores=>rw [show (#[]:Array Value).modify i Go.Abs.qA=#[] by simp];exact .nores
    | @tuple _ _ y hxs hxx =>
     refine .tuple (by simpa using hxs) fun j=>?_
     rw [getD_modify _ _ _ _ rfl]
     by_cases hj:j=i
     ·
      subst hj
      rw [if_pos rfl]
      exact (hxx j).part (fun s hs k=>by cases hs;rfl)
     ·
      rw [if_neg hj];exact hxx j
   | _=>exact this
  ·
   exact hT.slots k
 ·
  split
  ·
   exact slot _
  ·
   exact hT
 ·
  exact hT
def After (μ:Mu) (ω:Nat→Option wL) (H:zy) (T':List Value) (S':zy) (R:Option (List Value×zy)):Prop :=
 ∃ A' H' μ' ω',R=some (A',H')∧GI μ' S' H'∧Later μ H μ' H'∧Kept ω H ω' H'∧TI μ' H' ω' T' A'
theorem Vb {fx:Fx} (hc:Jk P call) {o:Oper} {rest:List Oper} {v:Value} (hG:GI μ S H) (hT:TI μ H ω T A) (h:jZ P fx call T o S=some (v,S')) :
  ∃ a H' μ' ω',wz P (lim P) A o H=some (a,H')∧GI μ' S' H'∧Later μ H μ' H'∧Kept ω H ω' H'∧TI μ' H' ω' (xG o rest T v) (Zr A o.dst a):=by
 unfold xG
 split
 ·
  rename_i hl
  have hm:∃ x,o.op=.move x:=by
   unfold afG at hl
   split at hl
   ·
    rename_i x _ he _;exact ⟨x,he⟩
   ·
    cases hl
  obtain ⟨x,hx⟩:=hm
  unfold jZ at h
  split at h <;> first | (cases h;done) | skip
  rename_i hok
  have hox:yM x=true:=List.all_eq_true.1 (show o.op.operands.toList.all yM=true from hok) x (by rw [hx];simp [Op.operands])
  rw [hx] at h
  dsimp only at h
  unfold vOp at h
  rw [hx] at h
  cases h
  have ha:wz P (lim P) A o H=some (zS A x,H):=by
   unfold wz
   rw [if_pos hok,hx]
   dsimp only
   unfold aOp
   rw [hx]
   rfl
  rw [ha]
  exact (Out.same hG hT (hT.eval hox)).put o.dst
 ·
  exact (acJ hc hG hT h).put o.dst
theorem Jf {o:Oper} {rest:List Oper} (hG:GI μ S H) (hT:TI μ H ω T A):∃ μ' ω',GI μ' S H∧Later μ H μ' H∧Kept ω H ω' H∧TI μ' H ω' (xG o rest T zh) (Zr A o.dst zh):=by
 unfold xG
 split
 ·
  rw [show dem zh=zh from xP]
  obtain ⟨a,H1,μ1,ω1,h1,h2,h3,h4,h5⟩:=(Out.same hG hT (VV.zh)).put o.dst
  cases h1
  exact ⟨μ1,ω1,h2,h3,h4,h5⟩
 ·
  obtain ⟨a,H1,μ1,ω1,h1,h2,h3,h4,h5⟩:=(Out.same hG (hT.moved o) (VV.zh)).put o.dst
  cases h1
  exact ⟨μ1,ω1,h2,h3,h4,h5⟩
theorem aed {fx:Fx} (hc:Jk P call) {ops:Array Oper}:∀ (l:List Oper) (T T' A:List Value) (S S' H:zy) (μ:Mu) (ω:Nat→Option wL),jk P fx call ops l T S=some (T',S')→GI μ S H→TI μ H ω T A→After μ ω H T' S' (KL P (lim P) ops l A H):=by
 intro l
 induction l with
 | nil =>
  intro T T' A S S' H μ ω h hG hT
  simp only [jk,Option.some.injEq,Prod.mk.injEq] at h
  obtain ⟨rfl,rfl⟩:=h
  exact ⟨A,H,μ,ω,rfl,hG,Later.refl _ _,Kept.refl _ _,hT⟩
 | cons o l ih =>
  intro T T' A S S' H μ ω h hG hT
  have hy:(ynd ops T)=ynd ops A:=funext fun j=>aaR hT j
  simp only [jk] at h
  simp only [KL,← hy]
  split at h
  ·
   rename_i hw
   split at h
   ·
    rename_i v S1 hs
    obtain ⟨a,H1,μ1,ω1,h1,h2,h3,h4,h5⟩:=Vb (rest:=l) hc hG hT hs
    obtain ⟨A2,H2,μ2,ω2,k1,k2,k3,k4,k5⟩:=ih _ _ _ _ _ _ _ _ h h2 h5
    refine ⟨A2,H2,μ2,ω2,?_,k2,h3.trans k3,h4.trans k4,k5⟩
    rw [if_pos hw,h1]
    exact k1
   ·
    cases h
  ·
   rename_i hw
   obtain ⟨μ1,ω1,h2,h3,h4,h5⟩:=Jf (o:=o) (rest:=l) hG hT
   obtain ⟨A2,H2,μ2,ω2,k1,k2,k3,k4,k5⟩:=ih _ _ _ _ _ _ _ _ h h2 h5
   refine ⟨A2,H2,μ2,ω2,?_,k2,h3.trans k3,h4.trans k4,k5⟩
   rw [if_neg hw]
   exact k1
end
end Go.Abs
namespace Go.Abs
open Go.RowKit
section
variable {P:Program} {call:FuncId→List Value→M Value} {μ μ2:Mu} {S S' G H H2:zy} {T A:List Value}
theorem xK.two {s:M Value} (hs:xK s) {a:Value} {G':zy} (h:s G=some (a,G')):∀ H,s H=some (a,H):=by
 obtain ⟨o,ho⟩:=hs
 rw [ho] at h
 cases o with
 | none=>cases h
 | some w =>
  simp only [Option.map_some,Option.some.injEq,Prod.mk.injEq] at h
  intro H
  rw [ho,h.1];rfl
theorem Xn {t:TypeId} {ps:List (Nat×Value)}:xK (wK P t ps):=by
 refine ⟨(wK P t ps zy.empty).map (·.1),fun H=>?_⟩
 unfold wK
 split
 ·
  split
  ·
   split
   ·
    split
    ·
     split <;> rfl
    ·
     rfl
   ·
    split
    ·
     split <;> rfl
    ·
     rfl
   ·
    rfl
  ·
   rfl
 ·
  rfl
theorem Wy {x:Value}:xK (qI x):=by
 refine ⟨(qI x zy.empty).map (·.1),fun H=>?_⟩
 unfold qI
 split <;> rfl
theorem KT {t:TypeId} {x i:Value}:xK (kF P t x i):=by
 unfold kF
 refine ⟨(kF P t x i zy.empty).map (·.1),fun H=>?_⟩
 unfold kF
 dsimp only
 split
 ·
  split
  ·
   split
   ·
    split <;> rfl
   ·
    rfl
  ·
   rfl
 ·
  obtain ⟨o,ho⟩:=wH (P:=P) _ _
  rw [ho,ho]
  cases o <;> rfl
 ·
  rfl
theorem aaj {t:TypeId} {x:Value} (hx:∀ m,x≠.map m):xK (QO P t x):=by
 refine ⟨(QO P t x zy.empty).map (·.1),fun H=>?_⟩
 unfold QO
 split <;> first | rfl | exact absurd rfl (hx _)
theorem Wp {d:Nat} {v:Value} (h:okq d v=true):okq d (dem v)=true:=by
 cases v with
 | iface k v=>cases d <;> rfl
 | tuple vs=>cases d <;> cases h
 | _=>exact h
theorem Jw:∀ (d:Nat) {v a:Value},okq d v=true→V0 μ H v a→V7 d a a=true:=by
 intro d
 induction d with
 | zero =>
  intro v a h hv
  cases hv <;> first | (cases h;done) | (simp [V7];done) | skip
  rename_i hs
  cases v <;> first | (simp [V7];done) | (simp [Go.Abs.sg] at hs;done) | skip
 | succ d ih =>
  intro v a h hv
  cases hv <;> first | (cases h;done) | (simp [V7];done) | skip
  ·
   rename_i hs
   cases v <;> first | (simp [V7];done) | (simp [Go.Abs.sg] at hs;done) | skip
  ·
   rename_i x x' hx hh
   unfold V7
   simp only [decide_true,Bool.true_and]
   rw [List.all_eq_true]
   intro p hp
   obtain ⟨i,hi,he⟩:=List.mem_iff_getElem.1 hp
   simp only [List.length_zip,Nat.min_self] at hi
   rw [List.getElem_zip] at he
   subst he
   have hi':i < x'.size:=by simpa using hi
   have hi2:i < x.size:=by rw [hx];exact hi'
   have h2:=hh i
   rw [Array.getD_eq_getD_getElem?,Array.getElem?_eq_getElem hi2,Array.getD_eq_getD_getElem?,Array.getElem?_eq_getElem hi'] at h2
   have h3:okq d x[i]=true:=List.all_eq_true.1 (show x.toList.all (okq d)=true from h) _ (by simp)
   have:=ih h3 h2
   simpa using this
theorem XT (x:Value):vT (dem x)=vT x:=by cases x <;> rfl
theorem adr {fx:Fx} {o:Oper} {v:Value} (hdr:fx.dr=true) (h:jZ P fx call T o S=some (v,S')) (hn:xI P o=false) (hr:qC o=false) (ho:∀ x ∈ o.op.operands.toList,V0 μ G (dem (zS T x)) (zS A x)) :
  ∃ a,V0 μ G (dem v) a∧∀ H,aOp P (zS A) o H=some (a,H)∧wz P (lim P) A o H=some (a,H):=by
 have hrm:yX o=false:=by
  unfold qC at hr
  unfold yX
  split <;> simp_all
 unfold jZ at h
 split at h <;> first | (cases h;done) | skip
 rename_i hok
 obtain ⟨dst,op,type,pos,after,guard⟩:=o
 by_cases hcall:∃ c,op=.call c
 ·
  obtain ⟨c,rfl⟩:=hcall
  dsimp only at h ho
  unfold xI at hn
  dsimp only at hn
  have hcargs:∀ x ∈ c.args.toList,V0 μ G (dem (zS T x)) (zS A x):=by
   intro x hx
   refine ho x ?_
   simp only [Op.operands,Call.operands]
   cases c.callee <;> simp <;> first | exact .inr (by simpa using hx) | exact (by simpa using hx)
  have step:∀ {b:Builtin} (a:Value),c.callee=.builtin b→(∀ H,qx P b c.argTypes type (c.args.toList.map (zS A)) H=some (a,H))→∀ H,aOp P (zS A) ⟨dst,.call c,type,pos,after,guard⟩ H=some (a,H)∧wz P (lim P) A ⟨dst,.call c,type,pos,after,guard⟩ H=some (a,H):=by
   intro b a hb hall H
   constructor
   ·
    unfold aOp;dsimp only;rw [hb];exact hall H
   ·
    unfold wz;rw [if_pos hok];dsimp only;rw [hb];exact hall H
  cases hcal:c.callee with
  | value f=>rw [hcal] at hn;cases hn
  | invoke r m=>rw [hcal] at hn;cases hn
  | builtin b =>
   rw [hcal] at h
   dsimp only at h
   unfold Zy at h
   rw [hcal] at hn
   have gargs:(c.args.toList.map (zS T)).all ground=true→c.args.toList.map (zS A)=c.args.toList.map (zS T):=by
    intro hg
    apply List.map_congr_left
    intro x hx
    exact jd (hcargs x hx) (List.all_eq_true.1 hg _ (List.mem_map.2 ⟨x,hx,rfl⟩))
   cases b <;> dsimp only at h hn <;> first | (cases h;done) | (cases hn;done) | skip
   case len =>
    split at h <;> first | (cases h;done) | skip
    rename_i t x0 ht ha
    obtain ⟨x,hx,rfl⟩:∃ x,c.args.toList=[x]∧zS T x=x0:=by
     match hl:c.args.toList with
     | []=>rw [hl] at ha;cases ha
     | [y]=>rw [hl] at ha;simp at ha;exact ⟨y,rfl,ha⟩
     | y::z::w=>rw [hl] at ha;simp at ha
    have hxv:=hcargs x (by rw [hx];simp)
    obtain ⟨rfl,a,h1,h2⟩:=aaW h hxv
    have hmap:∀ m,zS A x≠.map m:=by
     intro m hm
     rw [hm] at hxv
     generalize hu:dem (zS T x)=u at hxv
     have hum:∃ m',u=.map m':=by cases hxv <;> exact ⟨_,rfl⟩
     obtain ⟨m',rfl⟩:=hum
     have:zS T x=.map m':=by
      cases hv:zS T x <;> rw [hv] at hu <;> simp [dem,qA] at hu <;> rw [hu]
     rw [this] at h
     simp [xY] at h
    refine ⟨a,h2.dem,step a hcal fun H=>?_⟩
    unfold qx
    dsimp only
    rw [ht,hx]
    exact (aaj hmap).two h1 H
   case min =>
    obtain ⟨rfl,hg,hga,hh⟩:=jP (H:=G) h
    refine ⟨v,(V0.ground hg).dem,step v hcal fun H=>?_⟩
    unfold qx
    dsimp only
    rw [gargs hga]
    exact (wH _ _).two hh H
   case max =>
    obtain ⟨rfl,hg,hga,hh⟩:=jP (H:=G) h
    refine ⟨v,(V0.ground hg).dem,step v hcal fun H=>?_⟩
    unfold qx
    dsimp only
    rw [gargs hga]
    exact (wH _ _).two hh H
 ·
  have hnc:∀ c,op≠.call c:=fun c hc=>hcall ⟨c,hc⟩
  have hV:vOp P fx (zS T) ⟨dst,op,type,pos,after,guard⟩ S=some (v,S'):=by
   cases op <;> first | exact h | exact absurd rfl (hnc _)
  obtain ⟨rfl,a,h1,h2,h3⟩:=QG (ρA:=zS A) hV hn ho (.inl (ZQ hrm)) (.inl hdr)
  have hA:∀ H,wz P (lim P) A ⟨dst,op,type,pos,after,guard⟩ H=aOp P (zS A) ⟨dst,op,type,pos,after,guard⟩ H:=by
   intro H
   unfold wz
   rw [if_pos hok]
   cases op <;> first | rfl | exact absurd rfl (hnc _)
  refine ⟨a,h2,fun H=>?_⟩
  rw [hA]
  have key:aOp P (zS A) ⟨dst,op,type,pos,after,guard⟩ H=some (a,H):=by
   have hf:xK (aOp P (zS A) ⟨dst,op,type,pos,after,guard⟩):=by
    unfold xI at hn
    unfold qC at hr
    unfold aOp
    unfold vOp at hV
    cases op <;> dsimp only at hn hr hV ⊢ <;> first | (cases hn;done) | (cases hr;done) | (cases hV;done) | skip
    ·
     exact JY _
    ·
     exact JY _
    ·
     exact Vp _ _ _
    ·
     exact Xn
    ·
     exact Wy
    ·
     exact QB _ _ _ _
    ·
     exact acH _ _
    ·
     exact JY _
    ·
     exact JW _ _ _
    ·
     exact KO _ _ _
    ·
     exact Ws _ _ _
    ·
     exact KT
    ·
     exact YP _ _
   exact hf.two h1 H
  exact ⟨key,key⟩
theorem aa9 {t:TypeId} {r o e:Nat} {l:List Value} {own own':Own} {a:Value} (hg:G.get r=some (.cells l own e)) (hg':H2.get r=some (.cells l own' e)) (h:yg P t (.pointer (some ⟨r,o,none⟩)) G=some (a,G)) :
  yg P t (.pointer (some ⟨r,o,none⟩)) H2=some (a,H2):=by
 simp only [yg,hg] at h
 simp only [yg,hg']
 (repeat' split at h) <;> first | (cases h;done) | skip
 all_goals simp_all
theorem VV.backed {v:Value} {r o n c:Nat} (h:V0 μ G v (.slice (some ⟨r,o,none⟩) n c)) (hv:vT v=false):∃ l own e,r < G.next∧Zk μ r∧G.get r=some (.cells l own e):=by
 cases h with
 | sg hs=>simp [Go.Abs.sg] at hs
 | slm hm=>simp [vT] at hv
 | sl hr hp hg _ _ _=>exact ⟨_,_,_,hr,hp,hg⟩
theorem VX {x:Value} {n:Nat} {cs:List Value} (hx:∀ r o n c,x=.slice (some ⟨r,o,none⟩) n c→∃ l own own' e,G.get r=some (.cells l own e)∧H2.get r=some (.cells l own' e)) (h:wX x n G=some cs):wX x n H2=some cs:=by
 unfold wX at h ⊢
 split at h
 ·
  rename_i r o k c
  obtain ⟨l,own,own',e,hg,hg'⟩:=hx _ _ _ _ rfl
  rw [hg] at h
  rw [hg']
  exact h
 ·
  exact h
 ·
  exact h
 ·
  cases h
theorem aaG {src dst:TypeId} {x a:Value} (hd:∀ e,P.underlying dst≠some (.slice e)) (hx:∀ r o n c,x=.slice (some ⟨r,o,none⟩) n c→∃ l own own' e,G.get r=some (.cells l own e)∧H2.get r=some (.cells l own' e)) (h:wO P src dst x G=some (a,G)) :
  wO P src dst x H2=some (a,H2):=by
 unfold wO at h ⊢
 split at h
 ·
  rename_i b n c
  (try dsimp only)
  split at h
  ·
   rename_i e hs hdd
   split at h <;> first | (cases h;done) | skip
   rename_i he
   split at h <;> first | (cases h;done) | skip
   rename_i cs hcs
   rw [VX hx hcs]
   (try dsimp only)
   split at h <;> first | (cases h;done) | skip
   rename_i bs hbs
   (try rw [hbs])
   cases h
   rfl
  ·
   rename_i e0 e hs hdd
   exact absurd hdd (hd e)
  ·
   cases h
 ·
  rename_i s
  (try dsimp only)
  split at h
  ·
   rename_i d e hs hdd
   exact absurd hdd (hd e)
  ·
   exact (wH _ _).two h H2
 ·
  exact (wH _ _).two h H2
theorem V4 {t:TypeId} {x a:Value} {lo hi:Option Value} (hx:∀ r o n c,x=.slice (some ⟨r,o,none⟩) n c→∃ l own own' e,G.get r=some (.cells l own e)∧H2.get r=some (.cells l own' e)) (h:yY P t x lo hi G=some (a,G)) :
  yY P t x lo hi H2=some (a,H2):=by
 unfold yY at h ⊢
 split at h
 ·
  rename_i s hu
  exact (wH _ _).two h H2
 ·
  rename_i e b n c hu
  (try dsimp only)
  split at h <;> first | (cases h;done) | skip
  rename_i size l hh hs hl hhi
  (try simp only [hs,hl,hhi])
  split at h <;> first | (cases h;done) | skip
  rename_i c0
  split at h <;> first | (cases h;done) | skip
  rename_i c1
  split at h <;> first | (cases h;done) | skip
  rename_i c2
  rw [if_pos c0,if_pos c1,if_pos c2]
  split at h
  ·
   split at h <;> first | (cases h;done) | skip
   rename_i hn
   cases h
   rw [if_pos hn]
  ·
   rename_i r o
   obtain ⟨l2,own,own',e2,hg,hg'⟩:=hx _ _ _ _ rfl
   rw [hg] at h
   rw [hg']
   dsimp only at h ⊢
   split at h <;> first | (cases h;done) | skip
   rename_i he
   rw [if_pos he]
   cases h
   rfl
  ·
   split at h <;> first | (cases h;done) | skip
   rename_i hn
   cases h
   rw [if_pos hn]
  ·
   cases h
 ·
  cases h
theorem Vx {t:TypeId} {r o:Nat} {a:Value} {G':zy} (hg:H2.get r=G.get r) (h:yg P t (.pointer (some ⟨r,o,none⟩)) G=some (a,G')):yg P t (.pointer (some ⟨r,o,none⟩)) H2=some (a,H2):=by
 simp only [yg] at h ⊢
 rw [hg]
 (repeat' split at h) <;> first | (cases h;done) | skip
 all_goals simp_all
theorem Qm {t:TypeId} {x k:Value} {ok:Bool} {a:Value} {G':zy} (hg:∀ r,x=.map (some r)→H2.get r=G.get r) (h:jT P t x k ok G=some (a,G')):jT P t x k ok H2=some (a,H2):=by
 have e:∀ H:zy,jT P t x k ok H=(jT P t x k ok H).map (fun r=>(r.1,H)):=by
  intro H
  unfold jT
  (try dsimp only)
  (repeat' split) <;> rfl
 have e2:(jT P t x k ok H2).map (·.1)=(jT P t x k ok G).map (·.1):=by
  cases x with
  | map b =>
   cases b with
   | none=>unfold jT;dsimp only;(repeat' split) <;> rfl
   | some r =>
    unfold jT
    dsimp only
    rw [hg r rfl]
    (repeat' split) <;> rfl
  | _=>unfold jT;(try dsimp only) <;> (try ((repeat' split) <;> rfl))
 rw [h] at e2
 rw [e H2]
 cases hh:jT P t x k ok H2 with
 | none=>rw [hh] at e2;cases e2
 | some w =>
  rw [hh] at e2
  simp only [Option.map_some,Option.some.injEq] at e2 ⊢
  rw [e2]
theorem aem {fx:Fx} {o:Oper} {v:Value} (hdr:fx.dr=true) (h:jZ P fx call T o S=some (v,S')) (hn:xI P o=false) (hm:xA (zS T) o) (ho:∀ x ∈ o.op.operands.toList,V0 μ G (dem (zS T x)) (zS A x)) (hL:Later μ G μ2 H2) :
  ∃ a,V0 μ G (dem v) a∧aOp P (zS A) o G=some (a,G)∧aOp P (zS A) o H2=some (a,H2)∧wz P (lim P) A o G=some (a,G)∧wz P (lim P) A o H2=some (a,H2):=by
 by_cases hr:qC o=false
 ·
  obtain ⟨a,h1,h2⟩:=adr hdr h hn hr ho
  exact ⟨a,h1,(h2 G).1,(h2 H2).1,(h2 G).2,(h2 H2).2⟩
 ·
  unfold jZ at h
  split at h <;> first | (cases h;done) | skip
  rename_i hok
  obtain ⟨dst,op,type,pos,after,guard⟩:=o
  unfold qC at hr
  cases op <;> dsimp only at h hr <;> first | (exact absurd rfl hr) | skip
  case load t addr =>
   obtain ⟨rfl,a,h1,h2,h3⟩:=QG (ρA:=zS A) h hn ho (.inl hm) (.inl hdr)
   have hA:∀ H,wz P (lim P) A ⟨dst,.load t addr,type,pos,after,guard⟩ H=aOp P (zS A) ⟨dst,.load t addr,type,pos,after,guard⟩ H:=fun H=>by unfold wz;rw [if_pos hok]
   have key:aOp P (zS A) ⟨dst,.load t addr,type,pos,after,guard⟩ H2=some (a,H2):=by
    have hx:=ho addr (by simp [Op.operands])
    have h:zW P fx.nm t (zS T addr) S'=some (v,S'):=h
    unfold aOp at h1 ⊢
    dsimp only at h1 ⊢
    unfold zW at h
    split at h
    ·
     rename_i k cs he
     split at h <;> first | (cases h;done) | skip
     rename_i hk
     subst hk
     rw [he] at hx
     have hx:V0 μ G (.iface 3 (.agg cs)) (zS A addr):=hx
     generalize hq:zS A addr=q at hx h1 ⊢
     cases hx with
     | sg hs=>simp [Go.Abs.sg] at hs
     | ep hr hp hg hl hc =>
      obtain ⟨own',hg'⟩:=hL.cells _ _ _ _ hr hp hg
      exact aa9 hg hg' h1
    ·
     rename_i ad he
     exact absurd he (hm ad)
    ·
     cases h
   exact ⟨a,h2,h1,key,by rw [hA];exact h1,by rw [hA];exact key⟩
  case convert src d x =>
   obtain ⟨rfl,a,h1,h2,h3⟩:=QG (ρA:=zS A) h hn ho (.inl hm) (.inl hdr)
   have hA:∀ H,wz P (lim P) A ⟨dst,.convert src d x,type,pos,after,guard⟩ H=aOp P (zS A) ⟨dst,.convert src d x,type,pos,after,guard⟩ H:=fun H=>by unfold wz;rw [if_pos hok]
   have key:aOp P (zS A) ⟨dst,.convert src d x,type,pos,after,guard⟩ H2=some (a,H2):=by
    have hx:=ho x (by simp [Op.operands])
    unfold aOp at h1 ⊢
    dsimp only at h1 ⊢
    refine aaG (fun e he=>?_) (fun r o n c hq=>?_) h1
    ·
     unfold xI at hn
     dsimp only at hn
     rw [he] at hn;cases hn
    ·
     rw [hq] at hx
     have hh:vT (dem (zS T x))=false:=by
      rw [XT]
      have h:kP P fx.hp fx.dr src d (zS T x) S'=some (v,S'):=h
      unfold kP at h
      split at h
      ·
       first | (cases h;done) | (rw [hdr] at h;simp at h)
      ·
       rename_i hh;simpa using hh
     obtain ⟨l,own,e,hr,hp,hg⟩:=hx.backed hh
     obtain ⟨own',hg'⟩:=hL.cells _ _ _ _ hr hp hg
     exact ⟨l,own,own',e,hg,hg'⟩
   exact ⟨a,h2,h1,key,by rw [hA];exact h1,by rw [hA];exact key⟩
  case slice t x lo hi mx =>
   obtain ⟨rfl,a,h1,h2,h3⟩:=QG (ρA:=zS A) h hn ho (.inl hm) (.inl hdr)
   have hA:∀ H,wz P (lim P) A ⟨dst,.slice t x lo hi mx,type,pos,after,guard⟩ H=aOp P (zS A) ⟨dst,.slice t x lo hi mx,type,pos,after,guard⟩ H:=fun H=>by unfold wz;rw [if_pos hok]
   have key:aOp P (zS A) ⟨dst,.slice t x lo hi mx,type,pos,after,guard⟩ H2=some (a,H2):=by
    have hx:=ho x (by simp [Op.operands])
    unfold aOp at h1 ⊢
    cases mx with
    | some m=>cases h1
    | none =>
     dsimp only at h1 ⊢
     refine V4 (fun r o n c hq=>?_) h1
     rw [hq] at hx
     have hh:vT (dem (zS T x))=false:=by
      rw [XT]
      have h:yP P fx.dr t (zS T x) (lo.map (zS T)) (hi.map (zS T)) S'=some (v,S'):=h
      unfold yP at h
      split at h
      ·
       first | (cases h;done) | (rw [hdr] at h;simp at h)
      ·
       rename_i hh;simpa using hh
     obtain ⟨l,own,e,hr,hp,hg⟩:=hx.backed hh
     obtain ⟨own',hg'⟩:=hL.cells _ _ _ _ hr hp hg
     exact ⟨l,own,own',e,hg,hg'⟩
   exact ⟨a,h2,h1,key,by rw [hA];exact h1,by rw [hA];exact key⟩
  case lookup t x k ok =>
   exact hm.elim
end
end Go.Abs
namespace Go.Abs
open Go.RowKit
structure Line (P : Program) (fx : Fx) (chk : List Nat) (call : FuncId → List Value → M Value) (ops : Array Oper) (k0 : Nat) (l : List Oper) (Ts As : Nat → List Value) (Ss Hs : Nat → zy) (μs : Nat → Mu) (ωs : Nat → Nat → Option wL) (vs zf : Nat → Value) : Prop where
  inv : ∀ k, k ≤ l.length → GI (μs k) (Ss k) (Hs k) ∧ TI (μs k) (Hs k) (ωs k) (Ts k) (As k)
  step : ∀ k o, l[k]? = some o → Later (μs k) (Hs k) (μs (k + 1)) (Hs (k + 1)) ∧ Kept (ωs k) (Hs k) (ωs (k + 1)) (Hs (k + 1)) ∧
    ((Region.wanted o (ynd ops (As k)) = true ∧ jZ P fx call (Ts k) o (Ss k) = some (vs k, Ss (k + 1)) ∧ wz P (lim P) (As k) o (Hs k) = some (zf k, Hs (k + 1)) ∧
        Ts (k + 1) = xG o (l.drop (k + 1)) (Ts k) (vs k) ∧ As (k + 1) = Zr (As k) o.dst (zf k) ∧ (chk.contains (k0 + k) = true → okq 3 (vs k) = true)) ∨
     (Region.wanted o (ynd ops (As k)) = false ∧ zf k = zh ∧ Ts (k + 1) = xG o (l.drop (k + 1)) (Ts k) zh ∧ As (k + 1) = Zr (As k) o.dst zh ∧ Hs (k + 1) = Hs k))
section
variable {P:Program} {call:FuncId→List Value→M Value}
theorem line_of {fx : Fx} {chk : List Nat} {nl : List (Nat × Nat)} (hc : Jk P call) {ops : Array Oper} : ∀ (l : List Oper) (k0 : Nat) (hist : List (Value × zy)) (T T' A : List Value) (S S' H : zy) (μ : Mu) (ω : Nat → Option wL), jO P fx chk nl call ops k0 hist l T S = some (T', S') → GI μ S H → TI μ H ω T A →
    ∃ Ts As Ss Hs μs ωs vs zf tr, Line P fx chk call ops k0 l Ts As Ss Hs μs ωs vs zf ∧ Ts 0 = T ∧ As 0 = A ∧ Ss 0 = S ∧ Hs 0 = H ∧ μs 0 = μ ∧ ωs 0 = ω ∧ Ts l.length = T' ∧ Ss l.length = S' ∧
      yJ P (lim P) ops l A H = some (tr, As l.length, Hs l.length) ∧ (∀ k, k < l.length → tr[k]? = some (As k, Hs k, zf k)) ∧ (∀ k, k ≤ l.length → (tr.map (·.2.1) ++ [Hs l.length])[k]? = some (Hs k)) ∧
      ∃ hs : List (Value × zy), hs.length = l.length ∧ (∀ k o, l[k]? = some o → hs[k]? = some (xM (Ts k) o, Ss k)) ∧ (nl.isEmpty = false → nl.all (XL (hist ++ hs ++ [(zh, S')])) = true) := by
  intro l
  induction l with
  | nil =>
    intro k0 hist T T' A S S' H μ ω h hG hT
    simp only [jO] at h
    split at h <;> first | (cases h; done) | skip
    rename_i hst
    cases h
    refine ⟨fun _ => T, fun _ => A, fun _ => S, fun _ => H, fun _ => μ, fun _ => ω, fun _ => zh, fun _ => zh, [], ⟨fun k _ => ⟨hG, hT⟩, fun k o ho => by simp at ho⟩, rfl, rfl, rfl, rfl, rfl, rfl, rfl, rfl, rfl, fun k hk => by simp at hk, fun k hk => ?_, [], rfl, fun k o ho => by simp at ho, fun he => ?_⟩
    · have : k = 0 := by simpa using hk
      subst this
      rfl
    · simpa [qV, he] using hst
  | cons o l ih =>
    intro k0 hist T T' A S S' H μ ω h hG hT
    have hy : (ynd ops T) = ynd ops A := funext fun j => aaR hT j
    simp only [jO] at h
    have glue : ∀ (T1 A1 : List Value) (S1 H1 : zy) (μ1 : Mu) (ω1 : Nat → Option wL) (v a : Value), jO P fx chk nl call ops (k0 + 1) (qV nl hist (xM T o) S) l T1 S1 = some (T', S') → GI μ1 S1 H1 → TI μ1 H1 ω1 T1 A1 → Later μ H μ1 H1 → Kept ω H ω1 H1 →
        ((Region.wanted o (ynd ops A) = true ∧ jZ P fx call T o S = some (v, S1) ∧ wz P (lim P) A o H = some (a, H1) ∧ T1 = xG o l T v ∧ A1 = Zr A o.dst a ∧ (chk.contains k0 = true → okq 3 v = true)) ∨
         (Region.wanted o (ynd ops A) = false ∧ a = zh ∧ T1 = xG o l T zh ∧ A1 = Zr A o.dst zh ∧ H1 = H)) →
        (∀ tr A2 H2, yJ P (lim P) ops l A1 H1 = some (tr, A2, H2) → yJ P (lim P) ops (o :: l) A H = some ((A, H, a) :: tr, A2, H2)) →
        ∃ Ts As Ss Hs μs ωs vs zf tr, Line P fx chk call ops k0 (o :: l) Ts As Ss Hs μs ωs vs zf ∧ Ts 0 = T ∧ As 0 = A ∧ Ss 0 = S ∧ Hs 0 = H ∧ μs 0 = μ ∧ ωs 0 = ω ∧ Ts (o :: l).length = T' ∧ Ss (o :: l).length = S' ∧
          yJ P (lim P) ops (o :: l) A H = some (tr, As (o :: l).length, Hs (o :: l).length) ∧ (∀ k, k < (o :: l).length → tr[k]? = some (As k, Hs k, zf k)) ∧ (∀ k, k ≤ (o :: l).length → (tr.map (·.2.1) ++ [Hs (o :: l).length])[k]? = some (Hs k)) ∧
          ∃ hs : List (Value × zy), hs.length = (o :: l).length ∧ (∀ k o', (o :: l)[k]? = some o' → hs[k]? = some (xM (Ts k) o', Ss k)) ∧ (nl.isEmpty = false → nl.all (XL (hist ++ hs ++ [(zh, S')])) = true) := by
      intro T1 A1 S1 H1 μ1 ω1 v a hrest hG1 hT1 hL hK hstep htr
      obtain ⟨Ts, As, Ss, Hs, μs, ωs, vs, zf, tr, hline, e1, e2, e3, e4, e5, e6, e7, e8, e9, e10, e11, hs, e12, e13, e14⟩ := ih _ _ _ _ _ _ _ _ _ _ hrest hG1 hT1
      refine ⟨fun k => match k with | 0 => T | k + 1 => Ts k, fun k => match k with | 0 => A | k + 1 => As k, fun k => match k with | 0 => S | k + 1 => Ss k, fun k => match k with | 0 => H | k + 1 => Hs k,
        fun k => match k with | 0 => μ | k + 1 => μs k, fun k => match k with | 0 => ω | k + 1 => ωs k, fun k => match k with | 0 => v | k + 1 => vs k, fun k => match k with | 0 => a | k + 1 => zf k, (A, H, a) :: tr,
        ⟨fun k hk => ?_, fun k o' ho => ?_⟩, rfl, rfl, rfl, rfl, rfl, rfl, e7, e8, htr _ _ _ e9, fun k hk => ?_, fun k hk => ?_, (xM T o, S) :: hs, by simp [e12], fun k o' ho => ?_, fun he => ?_⟩
      · cases k with
        | zero => exact ⟨hG, hT⟩
        | succ k => exact hline.inv k (by simpa using hk)
      · cases k with
        | zero =>
          simp only [List.getElem?_cons_zero, Option.some.injEq] at ho
          subst ho
          dsimp only
          rw [e1, e2, e3, e4, e5, e6]
          exact ⟨hL, hK, hstep⟩
        | succ k =>
          have := hline.step k o' (by simpa using ho)
          rw [show k0 + 1 + k = k0 + (k + 1) by omega] at this
          exact this
      · cases k with
        | zero => rfl
        | succ k => simpa using e10 k (by simpa using hk)
      · cases k with
        | zero => rfl
        | succ k => simpa using e11 k (by simpa using hk)
      · cases k with
        | zero =>
          simp only [List.getElem?_cons_zero, Option.some.injEq] at ho
          subst ho
          rfl
        | succ k => simpa using e13 k o' (by simpa using ho)
      · have := e14 he
        rw [show qV nl hist (xM T o) S = hist ++ [(xM T o, S)] by simp [qV, he]] at this
        simpa using this
    split at h
    · rename_i hw
      split at h
      · rename_i v S1 hs
        split at h <;> first | (cases h; done) | skip
        rename_i hchk
        obtain ⟨a, H1, μ1, ω1, h1, h2, h3, h4, h5⟩ := Vb (rest := l) hc hG hT hs
        have hw' : Region.wanted o (ynd ops A) = true := by rw [← hy]; exact hw
        refine glue _ _ _ H1 μ1 ω1 v a h h2 h5 h3 h4 (.inl ⟨hw', hs, h1, rfl, rfl, fun hk => ?_⟩) (fun tr A2 H2 ht => ?_)
        · rw [hk] at hchk; simpa using hchk
        · simp only [yJ, hw', if_true, h1, ht]
      · cases h
    · rename_i hw
      obtain ⟨μ1, ω1, h2, h3, h4, h5⟩ := Jf (o := o) (rest := l) hG hT
      have hw' : Region.wanted o (ynd ops A) = false := by rw [← hy]; simpa using hw
      refine glue _ _ _ H μ1 ω1 zh zh h h2 h5 h3 h4 (.inr ⟨hw', rfl, rfl, rfl, rfl⟩) (fun tr A2 H2 ht => ?_)
      simp only [yJ, hw', ht]
      rfl
variable {fx:Fx} {chk:List Nat} {ops:Array Oper} {k0:Nat} {l:List Oper} {Ts As:Nat→List Value} {Ss Hs:Nat→zy} {μs:Nat→Mu} {ωs:Nat→Nat→Option wL} {vs zf:Nat→Value}
theorem Line.later (hl:Line P fx chk call ops k0 l Ts As Ss Hs μs ωs vs zf) {i:Nat}:∀ (d:Nat),i+d≤l.length→Later (μs i) (Hs i) (μs (i+d)) (Hs (i+d)):=by
 intro d
 induction d with
 | zero=>intro _;exact Later.refl _ _
 | succ d ih =>
  intro hd
  have ho:l[i+d]?=some l[i+d]:=List.getElem?_eq_getElem (by omega)
  exact (ih (by omega)).trans (hl.step (i+d) _ ho).1
theorem Line.kept (hl:Line P fx chk call ops k0 l Ts As Ss Hs μs ωs vs zf):∀ (d:Nat),d≤l.length→Kept (ωs 0) (Hs 0) (ωs d) (Hs d):=by
 intro d
 induction d with
 | zero=>intro _;exact Kept.refl _ _
 | succ d ih =>
  intro hd
  have ho:l[d]?=some l[d]:=List.getElem?_eq_getElem (by omega)
  exact (ih (by omega)).trans (hl.step d _ ho).2.1
theorem Xo (i:Nat) (w:Value):dem (jv i w)=dem w:=by
 cases w with
 | tuple vs =>
  simp only [jv,dem]
  congr 1
  apply Array.ext (by simp)
  intro k h1 h2
  rw [Array.getElem_map,Array.getElem_map,Array.getElem_modify]
  split
  ·
   have:∀ v,qA (qA v)=qA v:=by
    intro v
    cases v with
    | iface k v =>
     simp only [qA]
     by_cases h:k=2
     ·
      rw [if_pos h,if_neg (by decide)]
     ·
      rw [if_neg h,if_neg h]
    | _=>rfl
   exact this _
  ·
   rfl
 | _=>rfl
theorem QY (o:Oper) (T:List Value) (t:Nat):dem ((moved o T).getD t zh)=dem (T.getD t zh):=by
 have slot:∀ t',dem ((yK T t').getD t zh)=dem (T.getD t zh):=by
  intro t'
  rw [yK,wV]
  split
  ·
   rename_i h;rw [h.1,Qe]
  ·
   rfl
 unfold moved
 split
 ·
  exact slot _
 ·
  exact slot _
 ·
  rw [wV]
  split
  ·
   rename_i h;rw [h.1,Xo]
  ·
   rfl
 ·
  split
  ·
   exact slot _
  ·
   rfl
 ·
  rfl
theorem moved_length (o:Oper) (T:List Value):(moved o T).length=T.length:=by
 unfold moved
 split <;> first | simp [yK] | rfl | skip
 split <;> first | simp [yK] | rfl
theorem Qh {o:Oper} {rest:List Oper} {T:List Value} {v:Value} (hd:o.dst=none) (t:Nat):dem ((xG o rest T v).getD t zh)=dem (T.getD t zh):=by
 unfold xG
 rw [hd]
 split
 ·
  rfl
 ·
  exact QY o T t
theorem Kt {o:Oper} {rest:List Oper} {T:List Value} {v:Value} {d:Nat} (hd:o.dst=some d) (t:Nat):dem ((xG o rest T v).getD t zh)=if t=d∧d < T.length then dem v else dem (T.getD t zh):=by
 unfold xG
 rw [hd]
 split
 ·
  simp only [Zr]
  rw [wV]
  split
  ·
   exact Qe v
  ·
   rfl
 ·
  simp only [Zr]
  rw [wV,moved_length]
  split
  ·
   rfl
  ·
   exact QY o T t
def Clear (μ:Mu) (G:zy) (bad:List Nat) (T A:List Value):Prop:=∀ t,bad.contains t=false→V0 μ G (dem (T.getD t zh)) (A.getD t zh)
theorem Clear.operands {μ:Mu} {G:zy} {bad:List Nat} {T A:List Value} (h:Clear μ G bad T A) {o:Oper} (hok:acP o=true) (hc:yH bad o=true):∀ x ∈ o.op.operands.toList,V0 μ G (dem (zS T x)) (zS A x):=by
 intro x hx
 have h1:=List.all_eq_true.1 (show o.op.operands.toList.all yM=true from hok) x hx
 have h2:=List.all_eq_true.1 hc x hx
 cases x with
 | tmp t=>exact h t (by simpa using h2)
 | const v=>exact (VV.wo (μ:=μ) (H:=G) (ω:=W0) (ℓ:=none) h1).v0
 | global g=>cases h1
 | func f =>
  have:V0 μ G (.func (.func f) #[] #[]) (.func (.func f) #[] #[]):=.func _ rfl rfl (fun i=>by simpa using VV.zh) (fun i=>by simpa using VV.zh)
  exact this
theorem vk {T:List Value} {o:Oper} {S S':zy} {v:Value} (h:jZ P fx call T o S=some (v,S')):acP o=true:=by
 unfold jZ at h
 split at h
 ·
  assumption
 ·
  cases h
theorem VE {fx:Fx} {o:Oper} {T A:List Value} {v:Value} {S S' H:zy} {μ:Mu} (h:jZ P fx call T o S=some (v,S')) (hnm:fx.nm=true) (hm:¬ xA (zS T) o) (hG:GI μ S H) (ho:∀ x ∈ o.op.operands.toList,V0 μ H (dem (zS T x)) (zS A x)) :
  ground v=true∧∃ a,wz P (lim P) A o H=some (a,H)∧a=v:=by
 have hok:=vk h
 unfold jZ at h
 rw [if_pos hok] at h
 obtain ⟨dst,op,type,pos,after,guard⟩:=o
 unfold xA at hm
 cases op <;> dsimp only at h hm <;> first | (exact absurd True.intro hm) | skip
 case load t a =>
  have h:zW P fx.nm t (zS T a) S=some (v,S'):=h
  obtain ⟨q,hq⟩:∃ q,zS T a=.pointer q:=Classical.byContradiction fun hn=>hm fun q hq=>hn ⟨q,hq⟩
  obtain ⟨rfl,w,k1,k2⟩:=Jo h (ho a (by simp [Op.operands])) (.inr hG)
  rw [hnm] at h
  have hgr:ground v=true:=by
   unfold zW at h
   rw [hq] at h
   dsimp only at h
   split at h <;> first | (cases h;done) | skip
   ·
    split at h
    ·
     split at h <;> first | (cases h;done) | skip
     rename_i hg
     cases h
     exact hg
    ·
     rename_i hf;exact absurd rfl hf
   ·
    split at h
    ·
     split at h <;> first | (cases h;done) | skip
     rename_i hg
     cases h
     exact hg
    ·
     rename_i hf;exact absurd rfl hf
  refine ⟨hgr,w,?_,k2.qH hgr⟩
  unfold wz
  rw [if_pos hok]
  exact k1
 case lookup t x k ok =>
  have h:ZO P fx.nm t (zS T x) (zS T k) ok S=some (v,S'):=h
  unfold ZO at h
  rw [hnm] at h
  simp at h
theorem Line.clear (hdr:fx.dr=true) (hl:Line P fx chk call ops k0 l Ts As Ss Hs μs ωs vs zf) {j:Nat} (hj:j≤l.length):∀ (rest:List Oper) (bad:List Nat) (k:Nat),j≤k→l.drop k=rest→Clear (μs j) (Hs j) bad (Ts k) (As k) →
  ∀ d,d≤rest.length→Clear (μs j) (Hs j) ((aaO P fx.nm rest bad).getD d []) (Ts (k+d)) (As (k+d)):=by
 intro rest
 induction rest with
 | nil =>
  intro bad k hjk hr hC d hd
  have:d=0:=by simpa using hd
  subst this
  exact hC
 | cons o rest ih =>
  intro bad k hjk hr hC d hd
  have hkl:k < l.length:=by
   have:=congrArg List.length hr
   simp at this;omega
  have ho:l[k]?=some o:=by
   have:=congrArg (·[0]?) hr
   simpa [List.getElem?_drop] using this
  cases d with
  | zero=>exact hC
  | succ d =>
   simp only [aaO,List.getD_cons_succ]
   rw [show k+(d+1)=k+1+d by omega]
   refine ih _ (k+1) (by omega) ?_ ?_ d (by simpa using hd)
   ·
    rw [← List.drop_drop,hr];rfl
   ·
    obtain ⟨hL,_,hor⟩:=hl.step k o ho
    obtain ⟨hG,hT⟩:=hl.inv k (by omega)
    have hlen:=hT.len
    intro t ht
    cases hd:o.dst with
    | none =>
     rw [hd] at ht
     rcases hor with ⟨_,_,_,e1,e2,_⟩ | ⟨_,_,e1,e2,_⟩
     ·
      rw [e1,Qh hd,e2,hd];exact hC t ht
     ·
      rw [e1,Qh hd,e2,hd];exact hC t ht
    | some dd =>
     rw [hd] at ht
     dsimp only at ht
     have htb:bad.contains t=false:=by
      split at ht
      ·
       simp only [List.contains_cons,Bool.or_eq_false_iff] at ht;exact ht.2
      ·
       exact ht
     rcases hor with ⟨hw,hv,ha,e1,e2,_⟩ | ⟨_,_,e1,e2,_⟩
     ·
      rw [e1,Kt hd,e2,hd]
      simp only [Zr]
      rw [wV,hlen]
      by_cases hc:t=dd∧dd < (As k).length
      ·
       rw [if_pos hc,if_pos hc]
       have hcond:¬ (xI P o || !yH bad o || (yX o && !fx.nm))=true:=by
        intro hh
        rw [if_pos hh] at ht
        simp [hc.1] at ht
       simp only [Bool.or_eq_true,not_or,Bool.not_eq_true,Bool.not_eq_eq_eq_not,Bool.not_true,Bool.and_eq_true,not_and] at hcond
       obtain ⟨⟨q1,q2⟩,q3⟩:=hcond
       have q2':yH bad o=true:=by simpa using q2
       have hLj:Later (μs j) (Hs j) (μs k) (Hs k):=by
        have:=hl.later (i:=j) (k - j) (by omega)
        rwa [show j+(k - j)=k by omega] at this
       by_cases hm:xA (zS (Ts k)) o
       ·
        obtain ⟨a,h1,_,_,_,h5⟩:=aem hdr hv q1 hm (hC.operands (vk hv) q2') hLj
        rw [ha] at h5
        have e:zf k=a:=by simpa using congrArg (Option.map Prod.fst) h5
        subst e
        exact h1
       ·
        have hrm:yX o=true:=by
         cases hrm:yX o with
         | true=>rfl
         | false=>exact absurd (ZQ hrm) hm
        have hnm:fx.nm=true:=by have:=q3 hrm;simpa using this
        obtain ⟨g1,a,g2,g3⟩:=VE hv hnm hm hG (fun x hx=>hT.eval (List.all_eq_true.1 (show o.op.operands.toList.all yM=true from vk hv) x hx))
        rw [ha] at g2
        have e:zf k=a:=by simpa using congrArg (Option.map Prod.fst) g2
        subst e
        rw [g3,Yr g1]
        exact V0.ground g1
      ·
       rw [if_neg hc,if_neg hc]
       exact hC t htb
     ·
      rw [e1,Kt hd,e2,hd]
      simp only [Zr]
      rw [wV,hlen]
      by_cases hc:t=dd∧dd < (As k).length
      ·
       rw [if_pos hc,if_pos hc,show dem zh=zh from xP]
       exact .nores
      ·
       rw [if_neg hc,if_neg hc]
       exact hC t htb
theorem abe {hp0:Bool} (hc:Jk P call) {T T' A:List Value} {S S' H:zy} {μ:Mu} {ω:Nat→Option wL} (hd:qL P ops=true) (h:jO P ⟨hp0,!(checked P ops).isEmpty,fixed P ops⟩ (checked P ops) (again P ops) call ops 0 [] ops.toList T S=some (T',S')) (hG:GI μ S H) (hT:TI μ H ω T A) :
  After μ ω H T' S' (xE P (lim P) ops A H):=by
 obtain ⟨Ts,As,Ss,Hs,μs,ωs,vs,zf,tr,hline,rfl,rfl,rfl,rfl,rfl,rfl,rfl,rfl,e9,e10,e11,hs,e12,e13,e14⟩:=line_of hc _ _ _ _ _ _ _ _ _ _ _ h hG hT
 obtain ⟨hGn,hTn⟩:=hline.inv ops.toList.length (Nat.le_refl _)
 have hLn:=hline.later (i:=0) ops.toList.length (by omega)
 rw [Nat.zero_add] at hLn
 refine ⟨As ops.toList.length,Hs ops.toList.length,μs ops.toList.length,ωs ops.toList.length,?_,hGn,hLn,hline.kept _ (Nat.le_refl _),hTn⟩
 simp only [qL,YK,Bool.and_eq_true] at hd
 refine abV hd.1 e9 fun p hp=>?_
 have hchk:(checked P ops).contains p.1=true:=by
  unfold checked
  simp only [List.contains_eq_mem,decide_eq_true_eq]
  exact List.mem_map.2 ⟨p,hp,rfl⟩
 have hdr:(Fx.mk hp0 (!(checked P ops).isEmpty) (fixed P ops)).dr=true:=by
  show (!(checked P ops).isEmpty)=true
  cases hl:checked P ops with
  | nil=>rw [hl] at hchk;cases hchk
  | cons a b=>rfl
 have hp2:=List.all_eq_true.1 hd.2 p hp
 have hp0:=hp
 unfold need at hp
 obtain ⟨i,hi,hp⟩:=List.mem_flatMap.1 hp
 obtain ⟨j,hj,hp⟩:=List.mem_filterMap.1 hp
 have hi:i < ops.toList.length:=List.mem_range.1 hi
 have hj:j < ops.toList.length:=List.mem_range.1 hj
 split at hp <;> first | (cases hp;done) | skip
 rename_i oi oj hoi hoj
 split at hp <;> first | (cases hp;done) | skip
 rename_i hcond
 cases hp
 simp only [Bool.and_eq_true,Bool.not_eq_true'] at hcond
 obtain ⟨⟨hni,hcj⟩,_⟩:=hcond
 dsimp only at hp2 hchk ⊢
 rw [hoi] at hp2
 dsimp only at hp2
 have hij:i≠j:=by
  intro e;subst e
  rw [hoi] at hoj;cases hoj
  rw [hni] at hcj;cases hcj
 have hGj:(tr.map (·.2.1)++[Hs ops.toList.length])[if j < i then j else j+1]?=some (Hs (if j < i then j else j+1)):=e11 _ (by split <;> omega)
 unfold J3
 rw [hoi,e10 i hi,hGj]
 dsimp only
 obtain ⟨_,_,hor⟩:=hline.step i oi hoi
 rcases hor with ⟨hw,hv,ha,heT,heA,hq⟩ | ⟨hw,_⟩
 ·
  rw [hw]
  simp only [Bool.not_true,Bool.false_or]
  obtain ⟨hGi,hTi⟩:=hline.inv i (by omega)
  have hops:∀ x ∈ oi.op.operands.toList,V0 (μs i) (Hs i) (dem (zS (Ts i) x)) (zS (As i) x):=fun x hx=>hTi.eval (List.all_eq_true.1 (show oi.op.operands.toList.all yM=true from vk hv) x hx)
  have hq3:okq 3 (vs i)=true:=hq (by rw [Nat.zero_add];exact hchk)
  have same:∃ G',aOp P (zS (As i)) oi (Hs (if j < i then j else j+1))=some (zf i,G')∧V7 3 (zf i) (zf i)=true:=by
   by_cases hm:xA (zS (Ts i)) oi
   case neg =>
    have hrm:yX oi=true:=by
     cases hrm:yX oi with
     | true=>rfl
     | false=>exact absurd (ZQ hrm) hm
    have hin:(i,j) ∈ again P ops:=List.mem_filter.2 ⟨hp0,by dsimp only;rw [hoi];exact hrm⟩
    have hne:(again P ops).isEmpty=false:=by
     cases hl:again P ops with
     | nil=>rw [hl] at hin;cases hin
     | cons a b=>rfl
    have hst:=List.all_eq_true.1 (e14 hne) _ hin
    rw [List.nil_append] at hst
    have hi1:(hs++[(zh,Ss ops.toList.length)])[i]?=some (xM (Ts i) oi,Ss i):=by
     rw [List.getElem?_append_left (by omega)];exact e13 i oi hoi
    have hj1:∃ p2,(hs++[(zh,Ss ops.toList.length)])[if j < i then j else j+1]?=some (p2,Ss (if j < i then j else j+1)):=by
     by_cases hjl:(if j < i then j else j+1) < ops.toList.length
     ·
      rw [List.getElem?_append_left (by omega)]
      exact ⟨_,e13 _ _ (List.getElem?_eq_getElem hjl)⟩
     ·
      have:(if j < i then j else j+1)=ops.toList.length:=by split at hjl <;> (rename_i hh;simp only [hh,if_true,if_false];omega)
      rw [this,List.getElem?_append_right (by omega),e12,Nat.sub_self]
      exact ⟨_,rfl⟩
    obtain ⟨p2,hj1⟩:=hj1
    unfold XL at hst
    dsimp only at hst
    rw [hi1,hj1] at hst
    dsimp only at hst
    have obj:∀ q r b,μs i q=some (r,b)→(∀ Sa Sb,kM (xM (Ts i) oi) Sa Sb=true→(∃ o,Sa.get q=some o∧o.alive=true)∧q ∉ Sb.log.take (Sb.log.length - Sa.log.length))→(Hs (if j < i then j else j+1)).get r=(Hs i).get r:=by
     intro q r b hq hQ
     by_cases hji:j < i
     ·
      rw [if_pos hji] at hst ⊢
      rw [if_pos hji] at hst
      obtain ⟨⟨o1,g1,g2⟩,g3⟩:=hQ _ _ hst
      obtain ⟨hGj3,_⟩:=hline.inv j (by omega)
      obtain ⟨r0,_,g4,_⟩:=hGj3.obj q o1 g1 g2
      have hL:=hline.later (i:=j) (i - j) (by omega)
      rw [show j+(i - j)=i by omega] at hL
      obtain ⟨b',hb'⟩:=hL.mu q r0 true g4
      rw [hq] at hb'
      cases hb'
      obtain ⟨new,n1,n2⟩:=hL.still
      rw [hGj3.log,hGi.log] at n1
      rw [n1] at g3
      simp only [List.length_append,Nat.add_sub_cancel,List.take_left] at g3
      exact (n2 q r g4 g3).2.symm
     ·
      rw [if_neg hji] at hst ⊢
      rw [if_neg hji] at hst
      obtain ⟨⟨o1,g1,g2⟩,g3⟩:=hQ _ _ hst
      have hb:=hGi.at hq g1 g2
      subst hb
      have hL:=hline.later (i:=i) (j+1 - i) (by omega)
      rw [show i+(j+1 - i)=j+1 by omega] at hL
      obtain ⟨hGj3,_⟩:=hline.inv (j+1) (by omega)
      obtain ⟨new,n1,n2⟩:=hL.still
      rw [hGj3.log,hGi.log] at n1
      rw [n1] at g3
      simp only [List.length_append,Nat.add_sub_cancel,List.take_left] at g3
      exact (n2 q r hq g3).2
    clear hst hi1 hj1
    have hok:=vk hv
    have hvo:=hv
    unfold jZ at hv
    rw [if_pos hok] at hv
    obtain ⟨dst,op,type,pos,after,guard⟩:=oi
    unfold xA at hm
    cases op <;> dsimp only at hv hm <;> first | (exact absurd True.intro hm) | skip
    case load t a =>
     have hv:zW P (fixed P ops) t (zS (Ts i) a) (Ss i)=some (vs i,Ss (i+1)):=hv
     obtain ⟨ad,hq⟩:∃ q,zS (Ts i) a=.pointer q:=Classical.byContradiction fun hn=>hm fun q hq=>hn ⟨q,hq⟩
     have hx:=hops a (by simp [Op.operands])
     obtain ⟨_,w,k1,k2⟩:=Jo hv hx (.inr hGi)
     have hA:wz P (lim P) (As i) ⟨dst,.load t a,type,pos,after,guard⟩ (Hs i)=yg P t (zS (As i) a) (Hs i):=by unfold wz;rw [if_pos hok];rfl
     rw [hA,k1] at ha
     have e:w=zf i:=by simpa using congrArg (Option.map Prod.fst) ha
     subst e
     rw [hq] at hx
     have hx:V0 (μs i) (Hs i) (.pointer ad) (zS (As i) a):=hx
     generalize hpa:zS (As i) a=pa at hx k1
     have hres:yg P t pa (Hs (if j < i then j else j+1))=some (zf i,Hs (if j < i then j else j+1)):=by
      cases hx with
      | sg hs =>
       cases ad with
       | none=>simp [yg] at k1
       | some ad=>simp [Go.Abs.sg] at hs
      | @ptr _ q o r b hmq =>
       refine Vx (obj q r b hmq fun Sa Sb hQ=>?_) k1
       have hQ:kM (zS (Ts i) a) Sa Sb=true:=hQ
       rw [hq] at hQ
       simp only [kM,Bool.and_eq_true,Bool.not_eq_true',List.contains_eq_mem,decide_eq_false_iff_not] at hQ
       refine ⟨?_,hQ.2⟩
       have h1:=hQ.1
       split at h1 <;> first | (cases h1;done) | skip
       rename_i hsa
       exact ⟨_,hsa,rfl⟩
     rw [← hpa] at hres
     exact ⟨_,hres,Jw 3 (Wp hq3) k2.dem⟩
    case lookup t x k ok =>
     have hv:ZO P (fixed P ops) t (zS (Ts i) x) (zS (Ts i) k) ok (Ss i)=some (vs i,Ss (i+1)):=hv
     have hx:=hops x (by simp [Op.operands])
     obtain ⟨_,w,k1,k2⟩:=WU hv hx (hops k (by simp [Op.operands])) (.inr hGi)
     have hA:wz P (lim P) (As i) ⟨dst,.lookup t x k ok,type,pos,after,guard⟩ (Hs i)=jT P t (zS (As i) x) (zS (As i) k) ok (Hs i):=by unfold wz;rw [if_pos hok];rfl
     rw [hA,k1] at ha
     have e:w=zf i:=by simpa using congrArg (Option.map Prod.fst) ha
     subst e
     have hres:jT P t (zS (As i) x) (zS (As i) k) ok (Hs (if j < i then j else j+1))=some (zf i,Hs (if j < i then j else j+1)):=by
      refine Qm (fun r hr=>?_) k1
      rw [hr] at hx
      generalize hu:dem (zS (Ts i) x)=u at hx
      have hum:∃ q b,u=.map (some q)∧μs i q=some (r,b):=by
       cases hx with
       | sg hs=>simp [Go.Abs.sg] at hs
       | map hmq=>exact ⟨_,_,rfl,hmq⟩
      obtain ⟨q,b,rfl,hmq⟩:=hum
      have hxe:zS (Ts i) x=.map (some q):=by
       cases hvx:zS (Ts i) x <;> rw [hvx] at hu <;> simp [dem,qA] at hu <;> rw [hu]
      refine obj q r b hmq fun Sa Sb hQ=>?_
      have hQ:kM (zS (Ts i) x) Sa Sb=true:=hQ
      rw [hxe] at hQ
      simp only [kM,Bool.and_eq_true,Bool.not_eq_true',List.contains_eq_mem,decide_eq_false_iff_not] at hQ
      refine ⟨?_,hQ.2⟩
      have h1:=hQ.1
      split at h1 <;> first | (cases h1;done) | skip
      rename_i hsa
      exact ⟨_,hsa,rfl⟩
     exact ⟨_,hres,Jw 3 (Wp hq3) k2.dem⟩
   by_cases hrd:qC oi=false
   ·
    obtain ⟨a,h1,h2⟩:=adr hdr hv hni hrd hops
    have h3:=(h2 (Hs i)).2
    rw [ha] at h3
    have e:zf i=a:=by simpa using congrArg (Option.map Prod.fst) h3
    subst e
    exact ⟨_,(h2 _).1,Jw 3 (Wp hq3) h1⟩
   ·
    have hrd:qC oi=true:=by simpa using hrd
    by_cases hlt:i < j
    ·
     rw [if_neg (by omega)]
     have hL:=hline.later (i:=i) (j+1 - i) (by omega)
     rw [show i+(j+1 - i)=j+1 by omega] at hL
     obtain ⟨a,h1,_,h3,h4,_⟩:=aem hdr hv hni hm hops hL
     rw [ha] at h4
     have e:zf i=a:=by simpa using congrArg (Option.map Prod.fst) h4
     subst e
     exact ⟨_,h3,Jw 3 (Wp hq3) h1⟩
    ·
     rw [if_pos (by omega)]
     rw [hrd] at hp2
     have hcl:yH ((aaO P (fixed P ops) (ops.toList.drop j) []).getD (i - j) []) oi=true:=by
      simpa [hlt] using hp2
     obtain ⟨hGj2,hTj⟩:=hline.inv j (by omega)
     have hC0:Clear (μs j) (Hs j) [] (Ts j) (As j):=fun t _=>(hTj.slots t).v0
     have hC:=hline.clear hdr (j:=j) (by omega) _ [] j (Nat.le_refl _) rfl hC0 (i - j) (by rw [List.length_drop];omega)
     rw [show j+(i - j)=i by omega] at hC
     have hL:=hline.later (i:=j) (i - j) (by omega)
     rw [show j+(i - j)=i by omega] at hL
     obtain ⟨a,h1,h2,_,_,h5⟩:=aem hdr hv hni hm (hC.operands (vk hv) hcl) hL
     rw [ha] at h5
     have e:zf i=a:=by simpa using congrArg (Option.map Prod.fst) h5
     subst e
     exact ⟨_,h2,Jw 3 (Wp hq3) h1⟩
  obtain ⟨G',h1,h2⟩:=same
  unfold recheck
  rw [h1]
  exact h2
 ·
  rw [hw]
  rfl
end
end Go.Abs
namespace Go.Abs
open Go.RowKit
section
variable {P:Program} {call:FuncId→List Value→M Value}
def adp (μ:Mu) (ω:Nat→Option wL) (H:zy) (e:AEx) (T':List Value) (S':zy) (R:St):Prop :=
 ∃ A' H' μ' ω',R=some (e,A',H')∧GI μ' S' H'∧Later μ H μ' H'∧Kept ω H ω' H'∧TI μ' H' ω' T' A'
theorem acF {hp:Bool} (hc:Jk P call) (fuel:Nat):∀ (c:Code) (T T' A:List Value) (S S' H:zy) (μ:Mu) (ω:Nat→Option wL) (e:AEx),wG P hp call fuel c T S=some (e,T',S')→GI μ S H→TI μ H ω T A→adp μ ω H e T' S' (wJ P c A H):=by
 intro c
 induction c with
 | skip =>
  intro T T' A S S' H μ ω e h hG hT
  simp only [wG,Option.some.injEq,Prod.mk.injEq] at h
  obtain ⟨rfl,rfl,rfl⟩:=h
  exact ⟨A,H,μ,ω,rfl,hG,Later.refl _ _,Kept.refl _ _,hT⟩
 | exit id =>
  intro T T' A S S' H μ ω e h hG hT
  simp only [wG,Option.some.injEq,Prod.mk.injEq] at h
  obtain ⟨rfl,rfl,rfl⟩:=h
  exact ⟨A,H,μ,ω,rfl,hG,Later.refl _ _,Kept.refl _ _,hT⟩
 | ret =>
  intro T T' A S S' H μ ω e h hG hT
  simp only [wG,Option.some.injEq,Prod.mk.injEq] at h
  obtain ⟨rfl,rfl,rfl⟩:=h
  exact ⟨A,H,μ,ω,rfl,hG,Later.refl _ _,Kept.refl _ _,hT⟩
 | region i ops d =>
  intro T T' A S S' H μ ω e h hG hT
  cases d with
  | false =>
   simp only [wG] at h
   split at h <;> first | (cases h;done) | skip
   rename_i T1 S1 ho
   cases h
   obtain ⟨A',H',μ',ω',h1,h2,h3,h4,h5⟩:=aed hc _ _ _ _ _ _ _ _ _ ho hG hT
   exact ⟨A',H',μ',ω',by simp only [wJ,h1],h2,h3,h4,h5⟩
  | true =>
   simp only [wG] at h
   split at h <;> first | (cases h;done) | skip
   rename_i hd
   split at h <;> first | (cases h;done) | skip
   rename_i T1 S1 ho
   cases h
   obtain ⟨A',H',μ',ω',h1,h2,h3,h4,h5⟩:=abe hc hd ho hG hT
   exact ⟨A',H',μ',ω',by simp only [wJ,h1],h2,h3,h4,h5⟩
 | seq x y ihx ihy =>
  intro T T' A S S' H μ ω e h hG hT
  simp only [wG] at h
  split at h
  ·
   rename_i T1 S1 hx
   obtain ⟨A1,H1,μ1,ω1,h1,h2,h3,h4,h5⟩:=ihx _ _ _ _ _ _ _ _ _ hx hG hT
   obtain ⟨A2,H2,μ2,ω2,k1,k2,k3,k4,k5⟩:=ihy _ _ _ _ _ _ _ _ _ h h2 h5
   exact ⟨A2,H2,μ2,ω2,by simp only [wJ,h1];exact k1,k2,h3.trans k3,h4.trans k4,k5⟩
  ·
   rename_i hne
   obtain ⟨A1,H1,μ1,ω1,h1,h2,h3,h4,h5⟩:=ihx _ _ _ _ _ _ _ _ _ h hG hT
   refine ⟨A1,H1,μ1,ω1,?_,h2,h3,h4,h5⟩
   simp only [wJ,h1]
   cases e with
   | normal=>exact absurd h (hne _ _)
   | exit id=>rfl
   | ret=>rfl
 | cond c x y ihx ihy =>
  intro T T' A S S' H μ ω e h hG hT
  simp only [wG] at h
  split at h <;> first | (cases h;done) | skip
  rename_i hok
  have hv:=hT.eval hok
  split at h
  ·
   rename_i hb
   have:zS A c=.bool true:=jd hv (by rw [hb];rfl) |>.trans hb
   obtain ⟨A1,H1,μ1,ω1,h1,h2,h3,h4,h5⟩:=ihx _ _ _ _ _ _ _ _ _ h hG hT
   exact ⟨A1,H1,μ1,ω1,by simp only [wJ,hok,if_true,this];exact h1,h2,h3,h4,h5⟩
  ·
   rename_i hb
   have:zS A c=.bool false:=jd hv (by rw [hb];rfl) |>.trans hb
   obtain ⟨A1,H1,μ1,ω1,h1,h2,h3,h4,h5⟩:=ihy _ _ _ _ _ _ _ _ _ h hG hT
   exact ⟨A1,H1,μ1,ω1,by simp only [wJ,hok,if_true,this];exact h1,h2,h3,h4,h5⟩
  ·
   cases h
 | block id c ih =>
  intro T T' A S S' H μ ω e h hG hT
  simp only [wG] at h
  split at h
  ·
   rename_i id' T1 S1 hx
   obtain ⟨A1,H1,μ1,ω1,h1,h2,h3,h4,h5⟩:=ih _ _ _ _ _ _ _ _ _ hx hG hT
   by_cases hid:id'=id
   ·
    rw [if_pos hid] at h
    cases h
    exact ⟨A1,H1,μ1,ω1,by simp only [wJ,h1,if_pos hid],h2,h3,h4,h5⟩
   ·
    rw [if_neg hid] at h
    cases h
    exact ⟨A1,H1,μ1,ω1,by simp only [wJ,h1,if_neg hid],h2,h3,h4,h5⟩
  ·
   rename_i hne
   obtain ⟨A1,H1,μ1,ω1,h1,h2,h3,h4,h5⟩:=ih _ _ _ _ _ _ _ _ _ h hG hT
   refine ⟨A1,H1,μ1,ω1,?_,h2,h3,h4,h5⟩
   simp only [wJ,h1]
   cases e with
   | normal=>rfl
   | exit id'=>exact absurd h (hne _ _ _)
   | ret=>rfl
 | loop c ih =>
  have key:∀ (n:Nat) (T T' A:List Value) (S S' H:zy) (μ:Mu) (ω:Nat→Option wL) (e:AEx),yA n (wG P hp call fuel c) T S=some (e,T',S')→GI μ S H→TI μ H ω T A→adp μ ω H e T' S' (wQ (wJ P c) A H):=by
   intro n
   induction n with
   | zero=>intro T T' A S S' H μ ω e h;cases h
   | succ n ihn =>
    intro T T' A S S' H μ ω e h hG hT
    simp only [yA] at h
    split at h
    ·
     rename_i T1 S1 hx
     obtain ⟨A1,H1,μ1,ω1,h1,h2,h3,h4,h5⟩:=ih _ _ _ _ _ _ _ _ _ hx hG hT
     obtain ⟨A2,H2,μ2,ω2,k1,k2,k3,k4,k5⟩:=ihn _ _ _ _ _ _ _ _ _ h h2 h5
     exact ⟨A2,H2,μ2,ω2,by rw [jK h1];exact k1,k2,h3.trans k3,h4.trans k4,k5⟩
    ·
     rename_i hne
     obtain ⟨A1,H1,μ1,ω1,h1,h2,h3,h4,h5⟩:=ih _ _ _ _ _ _ _ _ _ h hG hT
     exact ⟨A1,H1,μ1,ω1,jw h1 (fun he=>by subst he;exact hne _ _ h),h2,h3,h4,h5⟩
  intro T T' A S S' H μ ω e h hG hT
  simp only [wG] at h
  obtain ⟨A1,H1,μ1,ω1,h1,h2⟩:=key fuel _ _ _ _ _ _ _ _ _ h hG hT
  exact ⟨A1,H1,μ1,ω1,by simp only [wJ];exact h1,h2⟩
 | _=>intro T T' A S S' H μ ω e h;simp only [wG] at h;cases h
theorem VV.ae7 {μ:Mu} {H:zy} {ω ω':Nat→Option wL} {f:wL→Option wL} (hω:∀ r,ω' r=(ω r).bind f) {s s':wL} (hs:f s=some s') {v a:Value} (h:VV μ H ω (some s) v a) (hv:jV v=true):VV μ H ω' (some s') v a:=by
 cases h with
 | sg h=>exact .sg h
 | ptr h=>exact .ptr h
 | map h=>exact .map h
 | slm h=>exact .slm h
 | slE=>exact .slE
 | sl hr hp hg hl hl' hc=>exact .sl hr hp hg hl hl' (fun i hi=>(hc i hi).at0)
 | so h hr hp hg hl hl' hc=>exact .so (by rw [hω,h];exact hs) hr hp hg hl hl' (fun i hi=>(hc i hi).at0)
 | ep hr hp hg hl hc=>exact .ep hr hp hg hl (fun i hi=>(hc i hi).at0)
 | func fn hx hc h1 h2=>exact .func fn hx hc (fun i=>(h1 i).at0) (fun i=>(h2 i).at0)
 | agg hx hh=>exact .agg hx (fun i=>(hh i).at0)
 | nores=>exact .nores
 | @tuple _ x x' hx hh =>
  have h0:x.size=0:=by simpa [jV] using hv
  have e1:x=#[]:=Array.eq_empty_of_size_eq_zero h0
  have e2:x'=#[]:=Array.eq_empty_of_size_eq_zero (by rw [← hx];exact h0)
  subst e1 e2
  exact .nores
def place (rs:List ResultVar):wL→Option wL
 | .ext=>some .ext
 | .res _=>none
 | .slot i j=>match rs with
  | [.tmp t]=>if i=t then some (.res j) else none
  | _=>match j with
   | none=>(rs.findIdx? (acN i)).map fun k=>.res (some k)
   | some _=>none
theorem VI {rs:List ResultVar} {i:Nat} (h:∀ t,rs≠[.tmp t]):place rs (.slot i none)=(rs.findIdx? (acN i)).map fun k=>.res (some k):=by
 match rs,h with
 | [],_=>rfl
 | [.tmp t],h=>exact absurd rfl (h t)
 | [.cell _ _],_=>rfl
 | .tmp _::_::_,_=>rfl
 | .cell _ _::_::_,_=>rfl
theorem Xl {μ:Mu} {ω:Nat→Option wL} {S H:zy} {T A:List Value} (hG:GI μ S H) (hT:TI μ H ω T A):∀ (l:List ResultVar) (vs:List Value),zN P T S l=some vs →
  ∃ zf,kJ P A H l=some zf∧vs.length=l.length∧zf.length=l.length∧∀ i:Nat,match (l[i]?:Option ResultVar) with
   | some (.tmp t)=>vs.getD i zh=T.getD t zh∧zf.getD i zh=A.getD t zh
   | _=>V0 μ H (vs.getD i zh) (zf.getD i zh):=by
 intro l
 induction l with
 | nil =>
  intro vs h
  simp only [zN,Option.some.injEq] at h
  subst h
  exact ⟨[],rfl,rfl,rfl,fun i=>by simpa using VV.zh⟩
 | cons x l ih =>
  intro vs h
  cases x with
  | tmp t =>
   simp only [zN] at h
   split at h <;> first | (cases h;done) | skip
   rename_i vs' hr
   cases h
   obtain ⟨zf,h1,h2,h3,h4⟩:=ih _ hr
   refine ⟨A.getD t zh::zf,by simp only [kJ,h1],by simp [h2],by simp [h3],fun i=>?_⟩
   cases i with
   | zero=>exact ⟨rfl,rfl⟩
   | succ i=>simpa using h4 i
  | cell a t =>
   simp only [zN] at h
   split at h <;> first | (cases h;done) | skip
   rename_i v S1 vs' hl hr
   cases h
   obtain ⟨zf,h1,h2,h3,h4⟩:=ih _ hr
   obtain ⟨_,w,k1,k2⟩:=Jo hl (hT.slots a).v0 (.inr hG)
   refine ⟨w::zf,by simp only [kJ,k1,h1],by simp [h2],by simp [h3],fun i=>?_⟩
   cases i with
   | zero=>exact k2
   | succ i=>simpa using h4 i
theorem adR {μ:Mu} {ω:Nat→Option wL} {S S' H:zy} {T A:List Value} {fn:Func} {v:Value} (hG:GI μ S H) (hT:TI μ H ω T A) (h:V8 P fn T S=some (v,S')) :
  S'=S∧∃ a,acU P fn A H=some (a,H)∧VV μ H (fun r=>(ω r).bind (place fn.results.toList)) (some (.res none)) v a:=by
 unfold V8 at h
 split at h <;> first | (cases h;done) | skip
 rename_i vs hvs
 split at h <;> first | (cases h;done) | skip
 rename_i hok
 obtain ⟨zf,h1,h2,h3,h4⟩:=Xl hG hT _ _ hvs
 generalize hrs:fn.results.toList=rs at *
 split at h
 ·
  rename_i v1
  cases h
  obtain ⟨a,rfl⟩:∃ a,zf=[a]:=by
   match zf,h3.trans h2.symm with
   | [a],_=>exact ⟨a,rfl⟩
  refine ⟨rfl,a,by simp only [acU,hrs,h1],?_⟩
  match rs,h2 with
  | [x],_ =>
   have:=h4 0
   cases x with
   | tmp t =>
    simp only [List.getElem?_cons_zero,List.getD_cons_zero] at this
    obtain ⟨rfl,rfl⟩:=this
    refine (hT.slots t).Y9 (fun _=>rfl) _ (fun s hs=>?_)
    cases hs
    refine ⟨_,rfl,by simp only [place,if_true],fun k t' ht=>?_⟩
    cases ht
    exact ⟨_,rfl,by simp only [place,if_true]⟩
   | cell b t=>exact (show V0 μ H v a from this).at0
 ·
  rename_i hne
  split at h <;> first | (cases h;done) | skip
  rename_i hnt
  cases h
  refine ⟨rfl,.tuple zf.toArray,?_,.tuple (by simp [h2,h3]) fun i=>?_⟩
  ·
   simp only [acU,hrs,h1]
   match zf,vs,h3.trans h2.symm,hne with
   | [],_,_,_=>rfl
   | [a],[v],_,hne=>exact absurd rfl (hne v)
   | a::b::c,_,_,_=>rfl
  ·
   have e1:vs.toArray.getD i zh=vs.getD i zh:=by rw [← getD_toList,List.toList_toArray]
   have e2:zf.toArray.getD i zh=zf.getD i zh:=by rw [← getD_toList,List.toList_toArray]
   rw [e1,e2]
   have h5:=h4 i
   cases hx:rs[i]? with
   | none=>rw [hx] at h5;exact (show V0 μ H _ _ from h5).at0
   | some x =>
    rw [hx] at h5
    cases x with
    | cell b t=>exact (show V0 μ H _ _ from h5).at0
    | tmp t =>
     dsimp only at h5
     have hi:i < rs.length:=(List.getElem?_eq_some_iff.1 hx).1
     have hid:rs.findIdx? (acN t)=some i:=by
      have:=List.all_eq_true.1 hok i (List.mem_range.2 hi)
      rw [hx] at this
      simpa using this
     have hnt2:jV (T.getD t zh)=true:=by
      rw [← h5.1,List.getD_eq_getElem?_getD,List.getElem?_eq_getElem (by omega)]
      exact List.all_eq_true.1 hnt _ (List.getElem_mem _)
     rw [h5.1,h5.2]
     refine (hT.slots t).ae7 (fun _=>rfl) (s':=.res (some i)) ?_ hnt2
     have hne1:∀ t',rs≠[.tmp t']:=by
      intro t' e
      rw [e] at h2
      match vs,h2 with
      | [v],_=>exact hne v rfl
     rw [VI hne1,hid];rfl
def abN (P:Program) (O:Ora):Prop:=∀ f q,O.fn f=some q→Jk P (fun g args=>if g=f then q args else fun _=>none)
theorem adE {s t:wL} {i:Nat} (h:s.comp i=some t):t≠.ext:=by
 cases s with
 | ext=>cases h
 | slot a b=>cases b <;> first | (cases h;exact fun h=>by cases h) | cases h
 | res b=>cases b <;> first | (cases h;exact fun h=>by cases h) | cases h
theorem VV.qj {μ μ':Mu} {H:zy} {ω ω':Nat→Option wL} {es:List Nat} (hp:∀ r l own e,H.get r=some (.cells l own e)→e ∉ es→Zk μ r→Zk μ' r) (hω:∀ r s,s≠.ext→ω r=some s→ω' r=some s)
  {ℓ:Option wL} {v a:Value} (h:VV μ H ω ℓ v a):∀ d,Go.Abs.qj es d v=true→(∀ s,ℓ=some s→s≠.ext)→VV μ' H ω' ℓ v a:=by
 induction h with
 | sg h=>exact fun _ _ _=>.sg h
 | ptr h=>intro d hc;cases d <;> simp [Go.Abs.qj] at hc
 | map h=>intro d hc;cases d <;> simp [Go.Abs.qj] at hc
 | slm h=>intro d hc;cases d <;> simp [Go.Abs.qj] at hc
 | slE=>exact fun _ _ _=>.slE
 | @sl ℓ e n r o cs l own hr hpr hg hl hn hc ih =>
  intro d hcl _
  cases d with
  | zero=>cases hcl
  | succ d =>
   have hv:Go.Abs.qj es (d+1) (.iface 1 (.iface e (.iface n (.agg cs))))=(!es.contains e && cs.toList.all (Go.Abs.qj es d)):=rfl
   rw [hv,Bool.and_eq_true] at hcl
   have he:e ∉ es:=by simpa using hcl.1
   refine .sl hr (hp _ _ _ _ hg he hpr) hg hl hn (fun i hi=>ih i hi d ?_ (fun s hs=>by cases hs))
   rw [List.getD_eq_getElem?_getD,List.getElem?_eq_getElem (by omega)]
   exact List.all_eq_true.1 hcl.2 _ (List.getElem_mem _)
 | @so s e n r cs l anc hw hr hpr hg hl hn hc ih =>
  intro d hcl hs
  cases d with
  | zero=>cases hcl
  | succ d =>
   have hv:Go.Abs.qj es (d+1) (.iface 2 (.iface e (.iface n (.agg cs))))=(!es.contains e && cs.toList.all (Go.Abs.qj es d)):=rfl
   rw [hv,Bool.and_eq_true] at hcl
   have he:e ∉ es:=by simpa using hcl.1
   refine .so (hω _ _ (hs _ rfl) hw) hr (hp _ _ _ _ hg he hpr) hg hl hn (fun i hi=>ih i hi d ?_ (fun s hs=>by cases hs))
   rw [List.getD_eq_getElem?_getD,List.getElem?_eq_getElem (by omega)]
   exact List.all_eq_true.1 hcl.2 _ (List.getElem_mem _)
 | ep hr hpr hg hl hc ih =>
  intro d hcl
  cases d with
  | zero=>cases hcl
  | succ d=>simp [Go.Abs.qj,vSl] at hcl
 | func fn hx hc h1 h2=>intro d hc;cases d <;> simp [Go.Abs.qj] at hc
 | @agg ℓ x x' hx hh ih =>
  intro d hcl _
  cases d with
  | zero=>cases hcl
  | succ d =>
   have hcl:x.toList.all (Go.Abs.qj es d)=true:=hcl
   refine .agg hx (fun i=>?_)
   by_cases hi:i < x.size
   ·
    refine ih i d ?_ (fun s hs=>by cases hs)
    rw [Array.getD_eq_getD_getElem?,Array.getElem?_eq_getElem hi]
    exact List.all_eq_true.1 hcl _ (by simp)
   ·
    rw [Array.getD_eq_getD_getElem?,Array.getElem?_eq_none (Nat.le_of_not_lt hi),Array.getD_eq_getD_getElem?,Array.getElem?_eq_none (by omega)]
    exact .nores
 | nores=>exact fun _ _ _=>.nores
 | @tuple ℓ x x' hx hh ih =>
  intro d hcl hs
  cases d with
  | zero=>cases hcl
  | succ d =>
   have hcl:x.toList.all (Go.Abs.qj es d)=true:=hcl
   refine .tuple hx (fun i=>?_)
   by_cases hi:i < x.size
   ·
    refine ih i d ?_ (fun s hb=>?_)
    ·
     rw [Array.getD_eq_getD_getElem?,Array.getElem?_eq_getElem hi]
     exact List.all_eq_true.1 hcl _ (by simp)
    ·
     cases ℓ with
     | none=>cases hb
     | some s0=>exact adE (s:=s0) hb
   ·
    rw [Array.getD_eq_getD_getElem?,Array.getElem?_eq_none (Nat.le_of_not_lt hi),Array.getD_eq_getD_getElem?,Array.getElem?_eq_none (by omega)]
    exact .nores
open Classical in
noncomputable def aff (μ:Mu) (ω:Nat→Option wL):Nat→Option wL:=fun r=>if ∃ q,μ q=some (r,true) then none else ω r
open Classical in
noncomputable def Yw (μ μ1:Mu) (ω:Nat→Option wL):Nat→Option wL:=fun r=>if ∃ q,μ q=some (r,true)∧¬ μ1 q=some (r,true) then some .ext else ω r
theorem acQ {call:FuncId→List Value→M Value} (hc:Jk P call) {hps:FuncId→Bool} {hp:Bool}:Jk P (jM hps hp call):=by
 cases hp with
 | false=>exact hc
 | true =>
  intro g args aargs S v S' h μ H ω hG hA hD hE
  unfold jM at h
  dsimp only at h
  split at h
  ·
   exact hc g args aargs S v S' h μ H ω hG hA hD hE
  ·
   split at h <;> first | (cases h;done) | skip
   rename_i m S1 hf
   obtain ⟨μ1,h1,h2,h3,hsz⟩:=Xj _ _ _ _ _ _ hf hG hA
   split at h <;> first | (cases h;done) | skip
   rename_i r0 hr0
   obtain ⟨v0,S2⟩:=r0
   simp only [Option.some.injEq] at h
   unfold KE at h
   dsimp only at h
   split at h
   ·
    rename_i hb
    cases h
    simp only [Bool.and_eq_true,beq_iff_eq] at hb
    obtain ⟨⟨_,hgr⟩,hlog⟩:=hb
    have hlent:∀ q r,μ q=some (r,true)→¬ μ1 q=some (r,true)→r < H.next∧Zk μ1 r:=fun q r hq hn =>
     ⟨hG.lt q r _ hq,fun q' hq'=>by
      rcases h2.new q' r hq' with h5 | h5
      ·
       have:=hG.inj q q' r hq h5
       subst this
       exact hn hq'
      ·
       have:=hG.lt q r _ hq;omega,by rw [h2.hid];exact hG.vis q r hq⟩
    have hDL:Dom μ1 H (Yw μ μ1 ω):=fun r s hs=>by
     unfold Yw at hs
     split at hs
     ·
      rename_i hx
      obtain ⟨q,hq,hn⟩:=hx
      exact hlent q r hq hn
     ·
      exact ⟨(hD r s hs).1,h2.priv (hD r s hs).1 (hD r s hs).2⟩
    have hEL:∀ r s,Yw μ μ1 ω r=some s→s=.ext:=fun r s hs=>by
     unfold Yw at hs
     split at hs
     ·
      cases hs;rfl
     ·
      exact hE r s hs
    obtain ⟨a,H',μ',ω',k1,k2,k3,k4,k5,k6⟩:=hc g m aargs S1 v S2 hr0 μ1 H (Yw μ μ1 ω) h1 h3 hDL hEL
    have hsame:∀ q r,μ q=some (r,true)→H'.get r=H.get r:=fun q r hq=>by
     by_cases hn:μ1 q=some (r,true)
     ·
      obtain ⟨new,e1,e2⟩:=k3.still
      have:new=[]:=by
       rw [k2.log,h1.log,hlog] at e1
       exact List.append_cancel_right (bs:=S1.log) (by rw [← e1];rfl)
      subst this
      exact (e2 q r hn (by simp)).2
     ·
      exact (k4 r (by unfold Yw;rw [if_pos ⟨q,hq,hn⟩])).2
    have hL:Later μ H μ H':=⟨fun _ _ b h=>⟨b,h⟩,k3.next,fun _ _ h=>.inl h,rfl,fun r hr hh=>k3.same r hr (by rw [h2.hid];exact hh),⟨[],rfl,fun q r hq _=>⟨hq,hsame q r hq⟩⟩,
     fun r l own e hr hp hg=>k3.cells r l own e hr (h2.priv hr hp) hg⟩
    rcases Bool.or_eq_true _ _ |>.mp hgr with hgr | hgr
    ·
     refine ⟨a,H',μ,ω,k1,hG.later hL rfl hsame,hL,fun r hr=>⟨hr,(k4 r ?_).2⟩,fun r s hs=>⟨Nat.lt_of_lt_of_le (hD r s hs).1 k3.next,(hD r s hs).2⟩,?_⟩
     ·
      unfold Yw
      split
      ·
       rfl
      ·
       exact hr
     ·
      rw [VV.qH hgr k6]
      exact VV.wo hgr
    ·
     have hpr:∀ r l own e,H'.get r=some (.cells l own e)→e ∉ szs S args→Zk μ' r→Zk μ r:=fun r l own e hg he hp=>by
      refine ⟨fun q hq=>?_,by rw [← h2.hid,← k3.hid];exact hp.2⟩
      rcases hsz q r hq with hn | ⟨l1,own1,e1,he1,hg1⟩
      ·
       obtain ⟨new,e1,e2⟩:=k3.still
       have:new=[]:=by
        rw [k2.log,h1.log,hlog] at e1
        exact List.append_cancel_right (bs:=S1.log) (by rw [← e1];rfl)
       subst this
       exact hp.1 q (e2 q r hn (by simp)).1
      ·
       rw [hsame q r hq,hg1] at hg
       cases hg
       exact he he1
     have hno:∀ r s,ω r=some s→¬ ∃ q,μ q=some (r,true):=fun r s hs ⟨q,hq⟩=>(hD r s hs).2.1 q hq
     have hst:∀ r,(∃ q,μ q=some (r,true))→∀ s,ω' r=some s→s=.ext:=fun r ⟨q,hq⟩ s hs=>by
      by_cases hn:μ1 q=some (r,true)
      ·
       exfalso
       obtain ⟨new,e1,e2⟩:=k3.still
       have:new=[]:=by
        rw [k2.log,h1.log,hlog] at e1
        exact List.append_cancel_right (bs:=S1.log) (by rw [← e1];rfl)
       subst this
       exact (k5 r s hs).2.1 q (e2 q r hn (by simp)).1
      ·
       have:=(k4 r (by unfold Yw;rw [if_pos ⟨q,hq,hn⟩])).1
       rw [hs] at this
       cases this
       rfl
     refine ⟨a,H',μ,aff μ ω',k1,hG.later hL rfl hsame,hL,fun r hr=>?_,fun r s hs=>?_,?_⟩
     ·
      have hnr:=hno r _ hr
      unfold aff
      rw [if_neg hnr]
      refine k4 r ?_
      unfold Yw
      rw [if_neg (fun ⟨q,hq,_⟩=>hnr ⟨q,hq⟩)]
      exact hr
     ·
      unfold aff at hs
      split at hs
      ·
       cases hs
      ·
       rename_i hnr
       exact ⟨(k5 r s hs).1,fun q hq=>hnr ⟨q,hq⟩,by rw [← h2.hid,← k3.hid];exact (k5 r s hs).2.2⟩
     ·
      refine k6.qj hpr (fun r s hne hs=>?_) 16 hgr (fun s hs=>by cases hs;exact fun h=>by cases h)
      unfold aff
      rw [if_neg (fun hx=>hne (hst r hx s hs))]
      exact hs
   ·
    cases h
    obtain ⟨a,H',μ',ω',k1,k2,k3,k4,k5,k6⟩:=hc g m aargs S1 v S' hr0 μ1 H ω h1 h3 (fun r s hs=>⟨(hD r s hs).1,h2.priv (hD r s hs).1 (hD r s hs).2⟩) hE
    exact ⟨a,H',μ',ω',k1,k2,h2.trans k3,k4,k5,k6⟩
theorem VV.clean {μ μ':Mu} {H:zy} {ω:Nat→Option wL} (hp:∀ r,Zk μ r→Zk μ' r) {ℓ:Option wL} {v a:Value} (h:VV μ H ω ℓ v a):∀ d,jc d v=true→VV μ' H ω ℓ v a:=by
 induction h with
 | sg h=>exact fun _ _=>.sg h
 | ptr h=>intro d hc;cases d <;> simp [jc] at hc
 | map h=>intro d hc;cases d <;> simp [jc] at hc
 | slm h=>intro d hc;cases d <;> simp [jc] at hc
 | slE=>exact fun _ _=>.slE
 | sl hr hpr hg hl hn hc ih =>
  intro d hcl
  obtain ⟨d,rfl⟩:∃ k,d=k+4:=by
   match d,hcl with
   | 0,h=>cases h
   | 1,h=>simp [jc] at h
   | 2,h=>simp [jc] at h
   | 3,h=>simp [jc] at h
   | k+4,_=>exact ⟨k,rfl⟩
  simp only [jc] at hcl
  refine .sl hr (hp _ hpr) hg hl hn (fun i hi=>ih i hi d ?_)
  rw [List.getD_eq_getElem?_getD,List.getElem?_eq_getElem (by omega)]
  exact List.all_eq_true.1 hcl _ (List.getElem_mem _)
 | so hω hr hpr hg hl hn hc ih =>
  intro d hcl
  obtain ⟨d,rfl⟩:∃ k,d=k+4:=by
   match d,hcl with
   | 0,h=>cases h
   | 1,h=>simp [jc] at h
   | 2,h=>simp [jc] at h
   | 3,h=>simp [jc] at h
   | k+4,_=>exact ⟨k,rfl⟩
  simp only [jc] at hcl
  refine .so hω hr (hp _ hpr) hg hl hn (fun i hi=>ih i hi d ?_)
  rw [List.getD_eq_getElem?_getD,List.getElem?_eq_getElem (by omega)]
  exact List.all_eq_true.1 hcl _ (List.getElem_mem _)
 | ep hr hpr hg hl hc ih =>
  intro d hcl
  obtain ⟨d,rfl⟩:∃ k,d=k+2:=by
   match d,hcl with
   | 0,h=>cases h
   | 1,h=>simp [jc] at h
   | k+2,_=>exact ⟨k,rfl⟩
  simp only [jc] at hcl
  refine .ep hr (hp _ hpr) hg hl (fun i hi=>ih i hi d ?_)
  rw [List.getD_eq_getElem?_getD,List.getElem?_eq_getElem hi]
  exact List.all_eq_true.1 hcl _ (List.getElem_mem _)
 | func fn hx hc h1 h2=>intro d hc;cases d <;> simp [jc] at hc
 | @agg ℓ x x' hx hh ih =>
  intro d hcl
  obtain ⟨d,rfl⟩:∃ k,d=k+1:=by
   match d,hcl with
   | 0,h=>cases h
   | k+1,_=>exact ⟨k,rfl⟩
  simp only [jc] at hcl
  refine .agg hx (fun i=>?_)
  by_cases hi:i < x.size
  ·
   refine ih i d ?_
   rw [Array.getD_eq_getD_getElem?,Array.getElem?_eq_getElem hi]
   exact List.all_eq_true.1 hcl _ (by simp)
  ·
   rw [Array.getD_eq_getD_getElem?,Array.getElem?_eq_none (Nat.le_of_not_lt hi),Array.getD_eq_getD_getElem?,Array.getElem?_eq_none (by omega)]
   exact .nores
 | nores=>exact fun _ _=>.nores
 | @tuple ℓ x x' hx hh ih =>
  intro d hcl
  obtain ⟨d,rfl⟩:∃ k,d=k+1:=by
   match d,hcl with
   | 0,h=>cases h
   | k+1,_=>exact ⟨k,rfl⟩
  simp only [jc] at hcl
  refine .tuple hx (fun i=>?_)
  by_cases hi:i < x.size
  ·
   refine ih i d ?_
   rw [Array.getD_eq_getD_getElem?,Array.getElem?_eq_getElem hi]
   exact List.all_eq_true.1 hcl _ (by simp)
  ·
   rw [Array.getD_eq_getD_getElem?,Array.getElem?_eq_none (Nat.le_of_not_lt hi),Array.getD_eq_getD_getElem?,Array.getElem?_eq_none (by omega)]
   exact .nores
theorem VV.lower {μ μ' : Mu} {S H : zy} {ω : Nat → Option wL} (hG : GI μ S H) (hp : ∀ r, Zk μ r → Zk μ' r) (hq : ∀ q r, μ q = some (r, true) → Zk μ' r) {ℓ : Option wL} {v a : Value} (h : VV μ H ω ℓ v a) :
    ∀ d d', jc d (jB S d' v) = true → VV μ' H ω ℓ (jB S d' v) a := by
  induction h with
  | sg h =>
    intro d d' hc
    rename_i v
    have e : jB S d' v = v := by
      cases d' with
      | zero => rfl
      | succ d' => cases v <;> first | rfl | (simp [Go.Abs.sg] at h; done) | skip
                   rename_i a n c
                   cases a <;> first | rfl | (simp [Go.Abs.sg] at h; done)
    rw [e]; exact .sg h
  | ptr h => intro d d' hc; cases d' <;> cases d <;> simp [jB, jc] at hc
  | map h => intro d d' hc; cases d' <;> cases d <;> simp [jB, jc] at hc
  | @slm ℓ r o r' b n hm =>
    intro d d' hc
    cases d' with
    | zero => cases d <;> simp [jB, jc] at hc
    | succ d' =>
      by_cases ho : o = 0
      · subst ho
        cases hg : S.get r with
        | none => rw [show jB S (d' + 1) (.slice (some ⟨r, 0, none⟩) n n) = .slice (some ⟨r, 0, none⟩) n n by simp only [jB, hg]] at hc; cases d <;> simp [jc] at hc
        | some ob =>
          cases ob with
          | map es c => rw [show jB S (d' + 1) (.slice (some ⟨r, 0, none⟩) n n) = .slice (some ⟨r, 0, none⟩) n n by simp only [jB, hg]] at hc; cases d <;> simp [jc] at hc
          | dead => rw [show jB S (d' + 1) (.slice (some ⟨r, 0, none⟩) n n) = .slice (some ⟨r, 0, none⟩) n n by simp only [jB, hg]] at hc; cases d <;> simp [jc] at hc
          | cells cs own e =>
            by_cases hle : n * e ≤ cs.length
            · have e1 : jB S (d' + 1) (.slice (some ⟨r, 0, none⟩) n n) = SL 1 e n (cs.take (n * e)) := by simp only [jB, hg, hle, and_self, if_true]
              rw [e1] at hc ⊢
              obtain ⟨r2, cs', own', _, hm', hg', hl⟩ := hG.cells hg
              rw [hm] at hm'; cases hm'
              have hlen := hl.1
              refine .sl (o := 0) (hG.lt r r' _ hm) (hq r r' hm) hg' (by omega) (by simp; omega) fun i hi => ?_
              have hv : VV μ H W0 none (cs.getD i Go.undef) (cs'.getD i Go.undef) := hl.2 i
              have e2 : (cs.take (n * e)).toArray.toList.getD i Go.undef = cs.getD i Go.undef := by
                rw [List.toList_toArray, List.getD_eq_getElem?_getD, List.getElem?_take, if_pos hi, ← List.getD_eq_getElem?_getD]
              rw [e2, Nat.zero_add]
              obtain ⟨d, rfl⟩ : ∃ k, d = k + 4 := by
                match d, hc with
                | 0, h => cases h
                | 1, h => simp [SL, jc] at h
                | 2, h => simp [SL, jc] at h
                | 3, h => simp [SL, jc] at h
                | k + 4, _ => exact ⟨k, rfl⟩
              simp only [SL, jc, List.toList_toArray] at hc
              have hci : jc d (cs.getD i Go.undef) = true := by
                have h2 : i < cs.length := by omega
                rw [List.getD_eq_getElem?_getD, List.getElem?_eq_getElem h2, Option.getD_some]
                exact List.all_eq_true.1 hc _ (by rw [List.mem_take_iff_getElem]; exact ⟨i, by omega, rfl⟩)
              exact (hv.clean hp d hci).at0
            · rw [show jB S (d' + 1) (.slice (some ⟨r, 0, none⟩) n n) = .slice (some ⟨r, 0, none⟩) n n by simp only [jB, hg, hle, and_false, if_false]] at hc; cases d <;> simp [jc] at hc
      · rw [show jB S (d' + 1) (.slice (some ⟨r, o, none⟩) n n) = .slice (some ⟨r, o, none⟩) n n by
          simp only [jB]
          split
          · rename_i h; simp only [Value.slice.injEq, Option.some.injEq, Addr.mk.injEq] at h; exact absurd h.1.2.1 ho
          · rename_i h; cases h
          · rename_i h; cases h
          · rfl] at hc
        cases d <;> simp [jc] at hc
  | slE => intro d d' _; cases d' <;> exact .slE
  | sl hr hpr hg hl hn hc ih => intro d d' hcl; cases d' <;> exact (VV.sl hr hpr hg hl hn hc).clean hp d hcl
  | so hω hr hpr hg hl hn hc ih => intro d d' hcl; cases d' <;> exact (VV.so hω hr hpr hg hl hn hc).clean hp d hcl
  | ep hr hpr hg hl hc ih => intro d d' hcl; cases d' <;> exact (VV.ep hr hpr hg hl hc).clean hp d hcl
  | func fn hx hc h1 h2 => intro d d' hcl; cases d' <;> cases d <;> simp [jB, jc] at hcl
  | @agg ℓ x x' hx hh ih =>
    intro d d' hcl
    cases d' with
    | zero => exact (VV.agg hx hh).clean hp d hcl
    | succ d' =>
      have e : jB S (d' + 1) (.agg x) = .agg (x.map (jB S d')) := rfl
      rw [e] at hcl ⊢
      cases d with
      | zero => cases hcl
      | succ d =>
        simp only [jc] at hcl
        refine .agg (by simpa using hx) fun i => ?_
        by_cases hi : i < x.size
        · have e2 : (x.map (jB S d')).getD i Go.undef = jB S d' (x.getD i Go.undef) := by simp [Array.getD_eq_getD_getElem?, Array.getElem?_eq_getElem hi]
          rw [e2]
          refine ih i d d' ?_
          refine List.all_eq_true.1 hcl _ ?_
          simp only [Array.toList_map, List.mem_map]
          exact ⟨x[i], by simp, by rw [Array.getD_eq_getD_getElem?, Array.getElem?_eq_getElem hi]; rfl⟩
        · rw [Array.getD_eq_getD_getElem?, Array.getElem?_eq_none (by simpa using Nat.le_of_not_lt hi), Array.getD_eq_getD_getElem?, Array.getElem?_eq_none (by omega)]
          exact .nores
  | nores =>
    intro d d' hcl
    cases d' with
    | zero => exact .nores
    | succ d' => rw [show jB S (d' + 1) (.tuple #[]) = .tuple #[] by simp [jB]]; exact .nores
  | @tuple ℓ x x' hx hh ih =>
    intro d d' hcl
    cases d' with
    | zero => exact (VV.tuple hx hh).clean hp d hcl
    | succ d' =>
      have e : jB S (d' + 1) (.tuple x) = .tuple (x.map (jB S d')) := rfl
      rw [e] at hcl ⊢
      cases d with
      | zero => cases hcl
      | succ d =>
        simp only [jc] at hcl
        refine .tuple (by simpa using hx) fun i => ?_
        by_cases hi : i < x.size
        · have e2 : (x.map (jB S d')).getD i Go.undef = jB S d' (x.getD i Go.undef) := by simp [Array.getD_eq_getD_getElem?, Array.getElem?_eq_getElem hi]
          rw [e2]
          refine ih i d d' ?_
          refine List.all_eq_true.1 hcl _ ?_
          simp only [Array.toList_map, List.mem_map]
          exact ⟨x[i], by simp, by rw [Array.getD_eq_getD_getElem?, Array.getElem?_eq_getElem hi]; rfl⟩
        · rw [Array.getD_eq_getD_getElem?, Array.getElem?_eq_none (by simpa using Nat.le_of_not_lt hi), Array.getD_eq_getD_getElem?, Array.getElem?_eq_none (by omega)]
          exact .nores
open Classical in
noncomputable def vg (μ:Mu):Mu:=⟨fun _=>none,fun r=>μ.hid r || decide (∃ q,μ q=some (r,true)),[]⟩
theorem JJ {μ:Mu} {r:Nat} (h:Zk μ r):Zk (vg μ) r:=⟨fun q hq=>(by cases hq),by
 simp only [vg,h.2,Bool.false_or,decide_eq_false_iff_not]
 rintro ⟨q,hq⟩
 exact h.1 q hq⟩
theorem abv {μ:Mu} {r:Nat} (h:(vg μ).hid r=false):Zk μ r:=by
 simp only [vg,Bool.or_eq_false_iff,decide_eq_false_iff_not] at h
 exact ⟨fun q hq=>h.2 ⟨q,hq⟩,h.1⟩
def afq (P:Program) (g:FuncId) (args:List Value) (run:M Value):Prop:=∀ aargs S v S',run S=some (v,S')→∀ μ H ω,GI μ S H→L0 μ H args aargs→Dom μ H ω→(∀ r s,ω r=some s→s=.ext) →
 ∃ a H' μ' ω',lim P g aargs H=some (a,H')∧GI μ' S' H'∧Later μ H μ' H'∧Kept ω H ω' H'∧Dom μ' H' ω'∧VV μ' H' ω' (some (.res none)) v a
theorem ace {g:FuncId} {args:List Value} {run:M Value} (hr:afq P g args run):afq P g args (aaU run args):=by
 intro aargs S v S' h μ H ω hG hA hD hE
 unfold aaU at h
 split at h <;> first | (cases h;done) | skip
 rename_i hca
 split at h <;> first | (cases h;done) | skip
 rename_i w S1 hrun
 split at h <;> first | (cases h;done) | skip
 rename_i hcw
 cases h
 have hG0:GI (vg μ) zy.empty H:=⟨fun q o h=>(by cases h),fun q q' r h=>(by cases h),fun q r b h=>(by cases h),fun q _=>rfl,fun q r h=>(by cases h),fun r h=>by
  simp only [vg,Bool.or_eq_true,decide_eq_true_eq] at h
  rcases h with h | ⟨q,hq⟩
  ·
   exact hG.hlt r h
  ·
   exact hG.lt q r _ hq,rfl,fun q cs anc e h=>(by cases h)⟩
 have hA0:L0 (vg μ) H args aargs:=⟨hA.1,fun i=>by
  by_cases hi:i < args.length
  ·
   refine (hA.2 i).clean (fun r h=>JJ h) 16 ?_
   rw [List.getD_eq_getElem?_getD,List.getElem?_eq_getElem hi]
   exact List.all_eq_true.1 hca _ (List.getElem_mem _)
  ·
   rw [List.getD_eq_getElem?_getD,List.getElem?_eq_none (Nat.le_of_not_lt hi),List.getD_eq_getElem?_getD,List.getElem?_eq_none (by rw [← hA.1];omega)]
   exact .nores⟩
 obtain ⟨a,H1,μ1,ω1,k1,k2,k3,k4,k5,k6⟩:=hr aargs _ _ _ hrun (vg μ) H ω hG0 hA0 (fun r s h=>⟨(hD r s h).1,JJ (hD r s h).2⟩) hE
 have hp1:∀ r,Zk μ1 r→Zk μ r:=fun r h=>abv (by rw [← k3.hid];exact h.2)
 have hL:Later μ H μ H1:=⟨fun _ _ b h=>⟨b,h⟩,k3.next,fun _ _ h=>.inl h,rfl,fun r hr hh=>k3.same r hr (by simp only [vg,hh,Bool.true_or]),⟨[],rfl,fun q r hq _=>⟨hq,k3.same r (hG.lt q r _ hq) (by
  simp only [vg,Bool.or_eq_true,decide_eq_true_eq]
  exact .inr ⟨q,hq⟩)⟩⟩,fun r l own e hr hp hg=>k3.cells r l own e hr (JJ hp) hg⟩
 have hq1:∀ q r,μ1 q=some (r,true)→Zk μ r:=fun q r h=>by
  rcases k3.new q r h with h5 | h5
  ·
   cases h5
  ·
   exact ⟨fun q' hq'=>by have:=hG.lt q' r _ hq';omega,by
    cases hh:μ.hid r with
    | false=>rfl
    | true=>have:=hG.hlt r hh;omega⟩
 refine ⟨a,H1,μ,ω1,k1,?_,hL,k4,fun r s h=>⟨(k5 r s h).1,hp1 r (k5 r s h).2⟩,k6.lower k2 hp1 hq1 16 16 hcw⟩
 exact hG.later hL rfl fun q r hq=>k3.same r (hG.lt q r _ hq) (by
  simp only [vg,Bool.or_eq_true,decide_eq_true_eq]
  exact .inr ⟨q,hq⟩)
theorem ab8 {O:Ora} (hO:abN P O):∀ n,Jk P (kU P O n):=by
 intro n
 induction n with
 | zero=>intro g args aargs S v S' h;cases h
 | succ n ih =>
  intro g args aargs S v S' h μ H ω hG hA hD hE
  simp only [kU] at h
  cases ho:O.fn g with
  | some q =>
   rw [ho] at h
   exact hO g q ho g args aargs S v S' (by simpa using h) μ H ω hG hA hD hE
  | none =>
   rw [ho] at h
   dsimp only at h
   cases hf:P.funcs[g]? with
   | none=>rw [hf] at h;cases h
   | some fn =>
    rw [hf] at h
    dsimp only at h
    split at h <;> first | (cases h;done) | skip
    rename_i hn
    cases hb:fn.body with
    | none=>rw [hb] at h;cases h
    | some c =>
     rw [hb] at h
     dsimp only at h
     have hrun:afq P g args (abS P (O.hp g) (jM O.hp (O.hp g) (kU P O n)) n fn c args):=by
      intro aargs S v S' h μ H ω hG hA hD hE
      have hT0:TI μ H ω (args++List.replicate (fn.ntmps - args.length) zh) (aargs++List.replicate (fn.ntmps - aargs.length) zh):=by
       have hl:L0 μ H (args++List.replicate (fn.ntmps - args.length) zh) (aargs++List.replicate (fn.ntmps - aargs.length) zh):=by
        refine hA.append (VL.ofRange (by rw [hA.1]) fun i hi=>?_)
        have hi2:i < fn.ntmps - args.length:=by simpa using hi
        rw [List.getD_eq_getElem?_getD,List.getElem?_replicate,if_pos hi2,List.getD_eq_getElem?_getD,List.getElem?_replicate,if_pos (by rw [← hA.1];exact hi2)]
        exact .nores
       exact ⟨hl.1,fun i=>(hl.2 i).at0,hD,fun r j hr=>by have:=hE r _ hr;cases this⟩
      have fin:∀ (e:AEx) (T1:List Value) (S1:zy),(e=.normal∨e=.ret)→wG P (O.hp g) (jM O.hp (O.hp g) (kU P O n)) n c (args++List.replicate (fn.ntmps - args.length) zh) S=some (e,T1,S1)→V8 P fn T1 S1=some (v,S') →
        ∃ a H' μ' ω',lim P g aargs H=some (a,H')∧GI μ' S' H'∧Later μ H μ' H'∧Kept ω H ω' H'∧Dom μ' H' ω'∧VV μ' H' ω' (some (.res none)) v a:=by
       intro e T1 S1 he hcode hres
       obtain ⟨A1,H1,μ1,ω1,h1,h2,h3,h4,h5⟩:=acF (acQ ih) n c _ _ _ _ _ _ _ _ _ hcode hG hT0
       obtain ⟨rfl,a,k1,k2⟩:=adR (P:=P) h2 h5 hres
       refine ⟨a,H1,μ1,fun r=>(ω1 r).bind (place fn.results.toList),acr hf hn hb h1 he k1,h2,h3,fun r hr=>?_,fun r s hs=>?_,k2⟩
       ·
        obtain ⟨q1,q2⟩:=h4 r hr
        exact ⟨by simp [q1,place],q2⟩
       ·
        cases hr:ω1 r with
        | none=>simp [hr] at hs
        | some s0=>exact h5.dom r s0 hr
      unfold abS at h
      split at h
      ·
       rename_i T1 S1 hx;exact fin .normal _ _ (.inl rfl) hx h
      ·
       rename_i T1 S1 hx;exact fin .ret _ _ (.inr rfl) hx h
      ·
       cases h
     split at h
     ·
      exact ace hrun aargs S v S' h μ H ω hG hA hD hE
     ·
      exact hrun aargs S v S' h μ H ω hG hA hD hE
end
end Go.Abs
namespace Go.Abs
open Go.RowKit
open Classical
noncomputable def zU (P:Program) (O:Ora) (g:FuncId) (args:List Value):M Value:=fun S =>
 if h:∃ r,∃ k0,∀ k,k0≤k→kU P O k g args S=some r then some (Classical.choose h) else none
section
variable {P:Program} {O:Ora}
theorem QC {g:FuncId} {args:List Value} {S:zy} {r:Value×zy} (h:zU P O g args S=some r):∃ k0,∀ k,k0≤k→kU P O k g args S=some r:=by
 unfold zU at h
 split at h
 ·
  rename_i hx
  have:=Classical.choose_spec hx
  cases h
  exact this
 ·
  cases h
theorem Xw {g:FuncId} {args:List Value} {S:zy} {r:Value×zy} (h:∃ k0,∀ k,k0≤k→kU P O k g args S=some r):zU P O g args S=some r:=by
 have hx:∃ r,∃ k0,∀ k,k0≤k→kU P O k g args S=some r:=⟨r,h⟩
 unfold zU
 rw [dif_pos hx]
 obtain ⟨k0,h0⟩:=h
 obtain ⟨k1,h1⟩:=Classical.choose_spec hx
 have e0:=h0 (max k0 k1) (Nat.le_max_left _ _)
 have e1:=h1 (max k0 k1) (Nat.le_max_right _ _)
 rw [e0] at e1
 exact e1.symm
theorem adY (hO:abN P O):Jk P (zU P O):=by
 intro g args aargs S v S' h
 obtain ⟨k,hk⟩:=QC h
 exact ab8 hO k g args aargs S v S' (hk k (Nat.le_refl k))
def aeB (c:FuncId→List Value→M Value) (ck:Nat→FuncId→List Value→M Value):Prop:=∀ g args S r,c g args S=some r→∃ k0,∀ k,k0≤k→ck k g args S=some r
theorem Qi:aeB (zU P O) (fun k=>kU P O k):=fun g args S r h=>QC h
theorem WQ {c:FuncId→List Value→M Value} {ck:Nat→FuncId→List Value→M Value} (hl:aeB c ck) {hps:FuncId→Bool} {hp:Bool}:aeB (jM hps hp c) (fun k=>jM hps hp (ck k)):=by
 cases hp with
 | false=>exact hl
 | true =>
  intro g args S r h
  unfold jM at h
  dsimp only at h
  split at h
  ·
   rename_i hg
   obtain ⟨k0,h0⟩:=hl _ _ _ _ h
   exact ⟨k0,fun k hk=>by unfold jM;dsimp only;rw [if_pos hg];exact h0 k hk⟩
  ·
   rename_i hg
   split at h <;> first | (cases h;done) | skip
   rename_i m S1 hf
   split at h <;> first | (cases h;done) | skip
   rename_i r0 hr0
   obtain ⟨k0,h0⟩:=hl _ _ _ _ hr0
   exact ⟨k0,fun k hk=>by unfold jM;dsimp only;rw [if_neg hg,hf];dsimp only;rw [h0 k hk];exact h⟩
section
variable {c:FuncId→List Value→M Value} {ck:Nat→FuncId→List Value→M Value}
theorem Kr (hl:aeB c ck) {fx:Fx} {T:List Value} {o:Oper} {S:zy} {r:Value×zy} (h:jZ P fx c T o S=some r):∃ k0,∀ k,k0≤k→jZ P fx (ck k) T o S=some r:=by
 unfold jZ at h
 split at h
 ·
  rename_i hok
  split at h
  ·
   rename_i q0 hop
   split at h
   ·
    rename_i f hf
    split at h
    ·
     rename_i g first captured hev
     obtain ⟨k0,hk⟩:=hl _ _ _ _ h
     refine ⟨k0,fun k hkk=>?_⟩
     unfold jZ
     rw [if_pos hok]
     simp only [hop,hf,hev]
     exact hk k hkk
    ·
     cases h
   ·
    rename_i b hb
    refine ⟨0,fun k _=>?_⟩
    unfold jZ
    rw [if_pos hok]
    simp only [hop,hb]
    exact h
   ·
    cases h
  ·
   rename_i hop
   refine ⟨0,fun k _=>?_⟩
   unfold jZ
   rw [if_pos hok]
   split
   ·
    rename_i q0 hc;exact absurd hc (hop q0)
   ·
    exact h
 ·
  cases h
theorem abY (hl:aeB c ck) {fx:Fx} {ops:Array Oper}:∀ (l:List Oper) (T:List Value) (S:zy) (r:List Value×zy),jk P fx c ops l T S=some r→∃ k0,∀ k,k0≤k→jk P fx (ck k) ops l T S=some r:=by
 intro l
 induction l with
 | nil=>intro T S r h;exact ⟨0,fun k _=>h⟩
 | cons o l ih =>
  intro T S r h
  simp only [jk] at h
  split at h
  ·
   rename_i hw
   split at h
   ·
    rename_i v S' hs
    obtain ⟨k1,h1⟩:=Kr hl hs
    obtain ⟨k2,h2⟩:=ih _ _ _ h
    refine ⟨max k1 k2,fun k hk=>?_⟩
    simp only [jk,hw,if_true,h1 k (by omega)]
    exact h2 k (by omega)
   ·
    cases h
  ·
   rename_i hw
   obtain ⟨k2,h2⟩:=ih _ _ _ h
   refine ⟨k2,fun k hk=>?_⟩
   simp only [jk,hw,if_false]
   exact h2 k hk
theorem aa5 (hl:aeB c ck) {fx:Fx} {chk:List Nat} {nl:List (Nat×Nat)} {ops:Array Oper}:∀ (l:List Oper) (i:Nat) (hist:List (Value×zy)) (T:List Value) (S:zy) (r:List Value×zy),jO P fx chk nl c ops i hist l T S=some r→∃ k0,∀ k,k0≤k→jO P fx chk nl (ck k) ops i hist l T S=some r:=by
 intro l
 induction l with
 | nil=>intro i hist T S r h;exact ⟨0,fun k _=>h⟩
 | cons o l ih =>
  intro i hist T S r h
  simp only [jO] at h
  split at h
  ·
   rename_i hw
   split at h
   ·
    rename_i v S' hs
    split at h
    ·
     rename_i hq
     obtain ⟨k1,h1⟩:=Kr hl hs
     obtain ⟨k2,h2⟩:=ih _ _ _ _ _ h
     refine ⟨max k1 k2,fun k hk=>?_⟩
     simp only [jO,hw,if_true,h1 k (by omega),hq]
     exact h2 k (by omega)
    ·
     cases h
   ·
    cases h
  ·
   rename_i hw
   obtain ⟨k2,h2⟩:=ih _ _ _ _ _ h
   refine ⟨k2,fun k hk=>?_⟩
   simp only [jO,hw,if_false]
   exact h2 k hk
end
noncomputable def zJ (P:Program) (O:Ora) (hp:Bool):Code→List Value→zy→St
 | .skip,T,H=>some (.normal,T,H)
 | .region _ ops false,T,H=>match jk P ⟨hp,false,false⟩ (jM O.hp hp (zU P O)) ops ops.toList T H with
  | some (T1,H1)=>some (.normal,T1,H1)
  | none=>none
 | .region _ ops true,T,H=>if qL P ops then match jO P ⟨hp,!(checked P ops).isEmpty,fixed P ops⟩ (checked P ops) (again P ops) (jM O.hp hp (zU P O)) ops 0 [] ops.toList T H with
  | some (T1,H1)=>some (.normal,T1,H1)
  | none=>none
  else none
 | .seq x y,T,H=>match zJ P O hp x T H with
  | some (.normal,T1,H1)=>zJ P O hp y T1 H1
  | r=>r
 | .cond c x y,T,H=>if yM c then
   match zS T c with
   | .bool true=>zJ P O hp x T H
   | .bool false=>zJ P O hp y T H
   | _=>none
  else none
 | .block id c,T,H=>match zJ P O hp c T H with
  | some (.exit id',T1,H1)=>if id'=id then some (.normal,T1,H1) else some (.exit id',T1,H1)
  | r=>r
 | .loop c,T,H=>wQ (zJ P O hp c) T H
 | .exit id,T,H=>some (.exit id,T,H)
 | .ret,T,H=>some (.ret,T,H)
 | _,_,_=>none
theorem WG {hp:Bool}:∀ (c:Code) (T:List Value) (H:zy) (r),zJ P O hp c T H=some r→∃ k0,∀ k fuel,k0≤k→k0≤fuel→wG P hp (jM O.hp hp (kU P O k)) fuel c T H=some r:=by
 intro c
 induction c with
 | skip=>intro T H r h;exact ⟨0,fun k fuel _ _=>h⟩
 | region i ops d =>
  intro T H r h
  cases d with
  | false =>
   simp only [zJ] at h
   split at h
   ·
    rename_i T1 H1 ho
    obtain ⟨k0,h0⟩:=abY (WQ Qi) _ _ _ _ ho
    exact ⟨k0,fun k fuel hk _=>by simp only [wG,h0 k hk];exact h⟩
   ·
    cases h
  | true =>
   simp only [zJ] at h
   split at h
   ·
    rename_i hd
    split at h
    ·
     rename_i T1 H1 ho
     obtain ⟨k0,h0⟩:=aa5 (WQ Qi) _ _ _ _ _ _ ho
     exact ⟨k0,fun k fuel hk _=>by simp only [wG,hd,if_true,h0 k hk];exact h⟩
    ·
     cases h
   ·
    cases h
 | seq x y ihx ihy =>
  intro T H r h
  simp only [zJ] at h
  split at h
  ·
   rename_i T1 H1 hx
   obtain ⟨k1,h1⟩:=ihx _ _ _ hx
   obtain ⟨k2,h2⟩:=ihy _ _ _ h
   exact ⟨max k1 k2,fun k fuel hk hf=>by simp only [wG,h1 k fuel (by omega) (by omega)];exact h2 k fuel (by omega) (by omega)⟩
  ·
   rename_i hne
   obtain ⟨k1,h1⟩:=ihx _ _ _ h
   refine ⟨k1,fun k fuel hk hf=>?_⟩
   simp only [wG,h1 k fuel hk hf]
   split
   ·
    rename_i T1 H1 he;exact absurd (h.trans he) (hne T1 H1)
   ·
    rfl
 | cond c x y ihx ihy =>
  intro T H r h
  simp only [zJ] at h
  split at h
  ·
   rename_i hok
   split at h
   ·
    rename_i hb
    obtain ⟨k1,h1⟩:=ihx _ _ _ h
    exact ⟨k1,fun k fuel hk hf=>by simp only [wG,hok,if_true,hb];exact h1 k fuel hk hf⟩
   ·
    rename_i hb
    obtain ⟨k1,h1⟩:=ihy _ _ _ h
    exact ⟨k1,fun k fuel hk hf=>by simp only [wG,hok,if_true,hb];exact h1 k fuel hk hf⟩
   ·
    cases h
  ·
   cases h
 | block id c ih =>
  intro T H r h
  simp only [zJ] at h
  split at h
  ·
   rename_i id' T1 H1 hc
   obtain ⟨k1,h1⟩:=ih _ _ _ hc
   exact ⟨k1,fun k fuel hk hf=>by simp only [wG,h1 k fuel hk hf];exact h⟩
  ·
   rename_i hne
   obtain ⟨k1,h1⟩:=ih _ _ _ h
   refine ⟨k1,fun k fuel hk hf=>?_⟩
   simp only [wG,h1 k fuel hk hf]
   split
   ·
    rename_i id' T1 H1 he;exact absurd (h.trans he) (hne id' T1 H1)
   ·
    rfl
 | loop c ih =>
  intro T H r h
  simp only [zJ] at h
  obtain ⟨n,hn⟩:=vF h
  have key:∀ (n:Nat) (T:List Value) (H:zy),yA n (zJ P O hp c) T H=some r→∃ k0,∀ k fuel,k0≤k→k0≤fuel→∀ j,n≤j→yA j (wG P hp (jM O.hp hp (kU P O k)) fuel c) T H=some r:=by
   intro n
   induction n with
   | zero=>intro T H h;cases h
   | succ n ihn =>
    intro T H h
    simp only [yA] at h
    split at h
    ·
     rename_i T1 H1 hf
     obtain ⟨k1,h1⟩:=ih _ _ _ hf
     obtain ⟨k2,h2⟩:=ihn _ _ h
     refine ⟨max k1 k2,fun k fuel hk hfu j hj=>?_⟩
     obtain ⟨j,rfl⟩:∃ i,j=i+1:=⟨j - 1,by omega⟩
     simp only [yA,h1 k fuel (by omega) (by omega)]
     exact h2 k fuel (by omega) (by omega) j (by omega)
    ·
     rename_i hne
     obtain ⟨k1,h1⟩:=ih _ _ _ h
     refine ⟨k1,fun k fuel hk hfu j hj=>?_⟩
     obtain ⟨j,rfl⟩:∃ i,j=i+1:=⟨j - 1,by omega⟩
     simp only [yA,h1 k fuel hk hfu]
     split
     ·
      rename_i T1 H1 he;exact absurd (h.trans he) (hne T1 H1)
     ·
      rfl
  obtain ⟨k0,h0⟩:=key n T H hn
  exact ⟨max k0 n,fun k fuel hk hf=>by simp only [wG];exact h0 k fuel (by omega) (by omega) fuel (by omega)⟩
 | exit id=>intro T H r h;exact ⟨0,fun k fuel _ _=>h⟩
 | ret=>intro T H r h;exact ⟨0,fun k fuel _ _=>h⟩
 | _=>intro T H r h;simp only [zJ] at h;cases h
theorem jS {f:FuncId} {fn:Func} {c:Code} {args:List Value} {H H1 H':zy} {e:AEx} {T:List Value} {v:Value} (ho:O.fn f=none) (hpu:O.pu f=false) (hf:P.funcs[f]?=some fn) (hn:fn.name≠ "runtime.NumGoroutine") (hb:fn.body=some c)
  (h:zJ P O (O.hp f) c (args++List.replicate (fn.ntmps - args.length) zh) H=some (e,T,H1)) (he:e=.normal∨e=.ret) (hres:V8 P fn T H1=some (v,H')):zU P O f args H=some (v,H'):=by
 obtain ⟨k0,h0⟩:=WG _ _ _ _ h
 refine Xw ⟨k0+1,fun k hk=>?_⟩
 obtain ⟨k,rfl⟩:∃ i,k=i+1:=⟨k - 1,by omega⟩
 simp only [kU,ho,hf,if_neg hn,hb,hpu,Bool.false_eq_true,if_false,abS,h0 k k (by omega) (by omega)]
 rcases he with rfl | rfl <;> exact hres
theorem WE {f:FuncId} {fn:Func} {c:Code} {args:List Value} {S H1 H':zy} {e:AEx} {T:List Value} {v:Value} (ho:O.fn f=none) (hpu:O.pu f=true) (hf:P.funcs[f]?=some fn) (hn:fn.name≠ "runtime.NumGoroutine") (hb:fn.body=some c)
  (h:zJ P O (O.hp f) c (args++List.replicate (fn.ntmps - args.length) zh) zy.empty=some (e,T,H1)) (he:e=.normal∨e=.ret) (hres:V8 P fn T H1=some (v,H')) (hca:args.all (jc 16)=true) (hcv:jc 16 (jB H' 16 v)=true):zU P O f args S=some (jB H' 16 v,S):=by
 obtain ⟨k0,h0⟩:=WG _ _ _ _ h
 refine Xw ⟨k0+1,fun k hk=>?_⟩
 obtain ⟨k,rfl⟩:∃ i,k=i+1:=⟨k - 1,by omega⟩
 have hr:abS P (O.hp f) (jM O.hp (O.hp f) (kU P O k)) k fn c args zy.empty=some (v,H'):=by
  simp only [abS,h0 k k (by omega) (by omega)]
  rcases he with rfl | rfl <;> exact hres
 simp only [kU,ho,hf,if_neg hn,hb,hpu,if_true,aaU,if_pos hca,hr,if_pos hcv]
theorem QF (S:zy):∀ (d d':Nat) (v:Value),jc d v=true→jB S d' v=v:=by
 intro d
 induction d with
 | zero=>intro d' v h;cases h
 | succ d ih =>
  intro d' v h
  cases d' with
  | zero=>rfl
  | succ d' =>
   cases v with
   | agg cs =>
    simp only [jc] at h
    show Value.agg (cs.map (jB S d'))=.agg cs
    congr 1
    apply Array.ext (by simp)
    intro i h1 h2
    rw [Array.getElem_map]
    exact ih d' _ (List.all_eq_true.1 h _ (by simp))
   | tuple cs =>
    simp only [jc] at h
    show Value.tuple (cs.map (jB S d'))=.tuple cs
    congr 1
    apply Array.ext (by simp)
    intro i h1 h2
    rw [Array.getElem_map]
    exact ih d' _ (List.all_eq_true.1 h _ (by simp))
   | slice a n c =>
    cases a with
    | none=>rfl
    | some a=>simp [jc] at h
   | _=>rfl
theorem J4 {f:FuncId} {fn:Func} {c:Code} {args:List Value} {S H1 H':zy} {e:AEx} {T:List Value} {v:Value} (ho:O.fn f=none) (hpu:O.pu f=true) (hf:P.funcs[f]?=some fn) (hn:fn.name≠ "runtime.NumGoroutine") (hb:fn.body=some c)
  (h:zJ P O (O.hp f) c (args++List.replicate (fn.ntmps - args.length) zh) zy.empty=some (e,T,H1)) (he:e=.normal∨e=.ret) (hres:V8 P fn T H1=some (v,H')) (hca:args.all (jc 16)=true) (hcv:jc 16 v=true):zU P O f args S=some (v,S):=by
 have e1:=QF H' 16 16 v hcv
 have:=WE (S:=S) ho hpu hf hn hb h he hres hca (by rw [e1];exact hcv)
 rwa [e1] at this
def Ty.Jq:(t:Ty)→t.Val→List Value
 | .int k,n=>[.int k n]
 | .bool,b=>[.bool b]
 | .str,s=>[.string s]
 | .slc _ e,l=>match l with
  | none=>[.slice none 0 0]
  | some l=>[SL 1 e.sz l.length (l.flatMap e.Jq)]
 | .pair a b,(x,y)=>a.Jq x++b.Jq y
 | .unit,_=>[]
theorem Ty.KN:∀ (t:Ty) (x:t.Val),(t.Jq x).length=t.sz:=by
 intro t
 induction t with
 | pair a b iha ihb=>rintro ⟨x,y⟩;simp [Ty.Jq,Ty.sz,iha,ihb]
 | slc bytes e ih=>intro x;cases x <;> rfl
 | _=>intro x;rfl
theorem Z8 {e:Ty} (l:List e.Val):(l.flatMap e.Jq).length=l.length * e.sz:=by
 induction l with
 | nil=>simp
 | cons x l ih=>simp [List.flatMap_cons,Ty.KN,ih,Nat.add_mul];omega
def M0:Mu:=⟨fun _=>none,fun _=>false,[]⟩
theorem GI.none {H:zy}:GI M0 zy.empty H:=⟨(fun q o h=>by cases h),(fun q q' r h=>by cases h),(fun q r b h=>by cases h),(fun q _=>rfl),(fun q r h=>by cases h),(fun r h=>by cases h),rfl,(fun q cs anc e h=>by cases h)⟩
theorem Ty.YS:∀ (t:Ty) (x:t.Val) (H:zy),Later M0 H M0 (t.place x H).2∧L0 M0 (t.place x H).2 (t.Jq x) (t.place x H).1:=by
 intro t
 induction t with
 | int k=>intro x H;exact ⟨Later.refl _ _,VL.cons (.sg rfl) VL.nil⟩
 | bool=>intro x H;exact ⟨Later.refl _ _,VL.cons (.sg rfl) VL.nil⟩
 | str=>intro x H;exact ⟨Later.refl _ _,VL.cons (.sg rfl) VL.nil⟩
 | unit=>intro x H;exact ⟨Later.refl _ _,VL.nil⟩
 | pair a b iha ihb =>
  rintro ⟨x,y⟩ H
  obtain ⟨h1,h2⟩:=iha x H
  obtain ⟨h3,h4⟩:=ihb y (a.place x H).2
  exact ⟨h1.trans h3,(h2.later h3).append h4⟩
 | slc bytes e ih =>
  intro x H
  match x with
  | none=>exact ⟨Later.refl _ _,VL.cons (.sg rfl) VL.nil⟩
  | some []=>exact ⟨Later.refl _ _,VL.cons (.slE (e:=e.sz)) VL.nil⟩
  | some (x::l) =>
   have key:∀ (l:List e.Val) (H:zy),Later M0 H M0 (jR e.place l H).2∧L0 M0 (jR e.place l H).2 (l.flatMap e.Jq) (jR e.place l H).1:=by
    intro l
    induction l with
    | nil=>intro H;exact ⟨Later.refl _ _,VL.nil⟩
    | cons x l ihl =>
     intro H
     obtain ⟨h1,h2⟩:=ih x H
     obtain ⟨h3,h4⟩:=ihl (e.place x H).2
     exact ⟨h1.trans h3,(h2.later h3).append h4⟩
   obtain ⟨h1,h2⟩:=key (x::l) H
   have hL:Later M0 (jR e.place (x::l) H).2 M0 ((jR e.place (x::l) H).2.push (.cells (jR e.place (x::l) H).1 .ro e.sz)):=WR (fun q r h=>by cases h) _
   refine ⟨h1.trans hL,VL.cons ?_ VL.nil⟩
   have hlen:(jR e.place (x::l) H).1.length=(l.length+1) * e.sz:=by rw [← h2.1,Z8];rfl
   show V0 M0 ((jR e.place (x::l) H).2.push (.cells (jR e.place (x::l) H).1 .ro e.sz)) (SL 1 e.sz (l.length+1) ((x::l).flatMap e.Jq)) (.slice (some ⟨(jR e.place (x::l) H).2.next,0,none⟩) (l.length+1) (l.length+1))
   refine VV.sl (o:=0) (l:=(jR e.place (x::l) H).1) (own:=.ro) (by simp) ⟨fun q h=>(by cases h),rfl⟩ (by rw [zy.zZ,if_pos rfl]) (by omega) (by rw [List.toList_toArray,Z8];rfl) (fun i hi=>?_)
   rw [Nat.zero_add,List.toList_toArray]
   exact (h2.2 i).kS hL
def Args.Jq:(l:List (Bool×Ty))→Args l→List Value
 | [],_=>[]
 | (b,c)::l,(x,xs)=>xJ b (c.Jq x)::Args.Jq l xs
theorem aco {H:zy} {b:Bool} {cs cs':List Value} (h:L0 M0 H cs cs'):V0 M0 H (xJ b cs) (xJ b cs'):=by
 unfold xJ
 split
 ·
  exact J5 h
 ·
  rw [vJ,vJ];exact h.2 0
theorem Args.YS:∀ (l:List (Bool×Ty)) (x:Args l) (H:zy),Later M0 H M0 (Args.place l x H).2∧L0 M0 (Args.place l x H).2 (Args.Jq l x) (Args.place l x H).1:=by
 intro l
 induction l with
 | nil=>intro x H;exact ⟨Later.refl _ _,VL.nil⟩
 | cons p l ih =>
  obtain ⟨b,c⟩:=p
  rintro ⟨x,xs⟩ H
  obtain ⟨h1,h2⟩:=c.YS x H
  obtain ⟨h3,h4⟩:=ih xs (c.place x H).2
  exact ⟨h1.trans h3,VL.cons ((aco h2).kS h3) h4⟩
theorem Xq (hO:abN P O) {f:FuncId} {codes:List (Bool×Ty)} {x:Args codes} {S':zy} (h:zU P O f (Args.Jq codes x) zy.empty=some (.bool true,S')) :
  ∃ k,(kL P k f (Args.place codes x zy.empty).1 (Args.place codes x zy.empty).2).map (·.1)=some (.bool true):=by
 obtain ⟨h1,h2⟩:=Args.YS codes x zy.empty
 obtain ⟨a,H',μ',ω',k1,k2,k3,k4,k5,k6⟩:=adY hO f _ _ _ _ _ h M0 _ W0 GI.none h2 (fun r s hs=>by cases hs) (fun r s hs=>by cases hs)
 have:a=.bool true:=jd (k6.v0) rfl
 subst this
 exact Vw k1
theorem acy {hps pus:FuncId→Bool}:abN P ⟨fun _=>none,hps,pus⟩:=fun f q h=>by cases h
end
end Go.Abs
namespace Go.Abs
open Go.RowKit
section
variable {R:Type} {P:Program} {O:Ora} {fx:Fx} {hp nm:Bool} {chk:List Nat} {call:FuncId→List Value→M Value} {ops:Array Oper}
def okC (v:Value) (r:Option R):Option R:=if okq 3 v=true then r else none
@[simp] theorem Ve (b:Bool) (r:Option R):okC (.bool b) r=r:=Eq.trans rfl rfl
@[simp] theorem aac (k:IntKind) (n:Int) (r:Option R):okC (.int k n) r=r:=Eq.trans rfl rfl
@[simp] theorem Yq (s:ByteArray) (r:Option R):okC (.string s) r=r:=Eq.trans rfl rfl
@[simp] theorem Qw (a:Option Addr) (n c:Nat) (r:Option R):okC (.slice a n c) r=r:=Eq.trans rfl rfl
@[simp] theorem QU (k:Nat) (v:Value) (r:Option R):okC (.iface k v) r=r:=Eq.trans rfl rfl
@[simp] theorem aer (a:Option Addr) (r:Option R):okC (.pointer a) r=r:=Eq.trans rfl rfl
def gdC (v:Value) (b:Bool) (s:M Value) (S:zy) (K:Value→zy→Option R):Option R :=
 if (vb v == some b)=true then andThen (s S) (fun v S1=>okC v (K v S1)) else K zh S
@[simp] theorem adn (s:M Value) (H:zy) (K:Value→zy→Option R):gdC (.bool true) true s H K=andThen (s H) (fun v S1=>okC v (K v S1)):=Eq.trans rfl rfl
@[simp] theorem acY (s:M Value) (H:zy) (K:Value→zy→Option R):gdC (.bool false) false s H K=andThen (s H) (fun v S1=>okC v (K v S1)):=Eq.trans rfl rfl
@[simp] theorem ac4 (s:M Value) (H:zy) (K:Value→zy→Option R):gdC (.bool true) false s H K=K zh H:=Eq.trans rfl rfl
@[simp] theorem ac6 (s:M Value) (H:zy) (K:Value→zy→Option R):gdC (.bool false) true s H K=K zh H:=Eq.trans rfl rfl
@[simp] theorem acV (s:M Value) (b:Bool) (H:zy) (K:Value→zy→Option R):gdC zh b s H K=K zh H:=Eq.trans rfl rfl
abbrev Ja {α:Type} (a:α):Type:=Unit
def zM (s:Option (Value×zy)) (K:Value→zy→Option R) (p:Ja K):Option R:=andThen s K
def gdK (v:Value) (b:Bool) (s:M Value) (S:zy) (K:Value→zy→Option R) (p:Ja K):Option R:=gd v b s S K
def aci (v:Value) (b:Bool) (s:M Value) (S:zy) (K:Value→zy→Option R) (p:Ja K):Option R:=gdC v b s S K
def okK (v:Value) (r:Option R) (p:Ja r):Option R:=okC v r
@[simp] theorem QA (v:Value) (H:zy) (K:Value→zy→Option R) (p:Ja K):zM (some (v,H)) K p=K v H:=Eq.trans rfl rfl
@[simp] theorem adB (s:M Value) (H:zy) (K:Value→zy→Option R) (p:Ja K):gdK (.bool true) true s H K p=zM (s H) K p:=Eq.trans rfl rfl
@[simp] theorem adA (s:M Value) (H:zy) (K:Value→zy→Option R) (p:Ja K):gdK (.bool false) false s H K p=zM (s H) K p:=Eq.trans rfl rfl
@[simp] theorem ads (s:M Value) (H:zy) (K:Value→zy→Option R) (p:Ja K):gdK (.bool true) false s H K p=K zh H:=Eq.trans rfl rfl
@[simp] theorem ac3 (s:M Value) (H:zy) (K:Value→zy→Option R) (p:Ja K):gdK (.bool false) true s H K p=K zh H:=Eq.trans rfl rfl
@[simp] theorem adb (s:M Value) (b:Bool) (H:zy) (K:Value→zy→Option R) (p:Ja K):gdK zh b s H K p=K zh H:=Eq.trans rfl rfl
@[simp] theorem aaf (s:M Value) (H:zy) (K:Value→zy→Option R) (p:Ja K):aci (.bool true) true s H K p=zM (s H) (fun v S1=>okK v (K v S1) ()) ():=Eq.trans rfl rfl
@[simp] theorem aaM (s:M Value) (H:zy) (K:Value→zy→Option R) (p:Ja K):aci (.bool false) false s H K p=zM (s H) (fun v S1=>okK v (K v S1) ()) ():=Eq.trans rfl rfl
@[simp] theorem abq (s:M Value) (H:zy) (K:Value→zy→Option R) (p:Ja K):aci (.bool true) false s H K p=K zh H:=Eq.trans rfl rfl
@[simp] theorem abz (s:M Value) (H:zy) (K:Value→zy→Option R) (p:Ja K):aci (.bool false) true s H K p=K zh H:=Eq.trans rfl rfl
@[simp] theorem abL (s:M Value) (b:Bool) (H:zy) (K:Value→zy→Option R) (p:Ja K):aci zh b s H K p=K zh H:=Eq.trans rfl rfl
@[simp] theorem XE (b:Bool) (r:Option R) (p:Ja r):okK (.bool b) r p=r:=Eq.trans rfl rfl
@[simp] theorem aaZ (k:IntKind) (n:Int) (r:Option R) (p:Ja r):okK (.int k n) r p=r:=Eq.trans rfl rfl
@[simp] theorem Yf (s:ByteArray) (r:Option R) (p:Ja r):okK (.string s) r p=r:=Eq.trans rfl rfl
@[simp] theorem QX (a:Option Addr) (n c:Nat) (r:Option R) (p:Ja r):okK (.slice a n c) r p=r:=Eq.trans rfl rfl
@[simp] theorem JQ (a:Option Addr) (r:Option R) (p:Ja r):okK (.pointer a) r p=r:=Eq.trans rfl rfl
theorem aan {l rest:List Oper} {o:Oper} {T:List Value} {T1:Value→List Value} {S:zy} {v:Value} {r:Option (List Value×zy)} (hl:l=o::rest) (hg:o.guard=none) (hm:∀ v,xG o rest T v=T1 v)
  (hs:jZ P fx call T o S=some (v,S)) (hK:jk P fx call ops rest (T1 v) S=r):jk P fx call ops l T S=r:=by
 subst hl
 simp only [jk,Region.wanted,hg,if_true,hs,hm]
 exact hK
theorem aek {l rest:List Oper} {o:Oper} {T:List Value} {T1:Value→List Value} {S:zy} {s:Option (Value×zy)} {K:Value→zy→Option (List Value×zy)} (hl:l=o::rest) (hg:o.guard=none) (hm:∀ v,xG o rest T v=T1 v)
  (hs:jZ P fx call T o S=s) (hK:∀ v S1,jk P fx call ops rest (T1 v) S1=K v S1):jk P fx call ops l T S=zM s K ():=by
 show _=andThen s K
 subst hl hs
 simp only [jk,Region.wanted,hg,if_true,hm,hK]
 rfl
theorem adJ {l rest:List Oper} {o:Oper} {T:List Value} {T1:Value→List Value} {S:zy} {j:Nat} {b:Bool} {g:Value} {s:M Value} {K:Value→zy→Option (List Value×zy)} (hl:l=o::rest) (hg:o.guard=some (j,b)) (hm:∀ v,xG o rest T v=T1 v)
  (hy:ynd ops T j=vb g) (hs:jZ P fx call T o S=s S) (hK:∀ v S1,jk P fx call ops rest (T1 v) S1=K v S1):jk P fx call ops l T S=gdK g b s S K ():=by
 show _=gd g b s S K
 subst hl
 simp only [jk,Region.wanted,hg,hy,hs,hm,hK,gd]
 rfl
theorem ab6 {l rest:List Oper} {o:Oper} {T:List Value} {T1:Value→List Value} {S:zy} {k:Nat} {s:Option (Value×zy)} {K:Value→zy→Option (List Value×zy)} (hc:chk.contains k=false) (hl:l=o::rest) (hg:o.guard=none) (hm:∀ v,xG o rest T v=T1 v)
  (hs:jZ P fx call T o S=s) (hK:∀ v S1,jO P fx chk [] call ops (k+1) [] rest (T1 v) S1=K v S1):jO P fx chk [] call ops k [] l T S=zM s K ():=by
 show _=andThen s K
 subst hl hs
 simp only [jO,qV,List.isEmpty_nil,if_true,Region.wanted,hg,if_true,hm,hK,hc,Bool.not_false,Bool.true_or]
 rfl
theorem V6 {l rest:List Oper} {o:Oper} {T:List Value} {T1:Value→List Value} {S:zy} {k:Nat} {v:Value} {r:Option (List Value×zy)} (hc:chk.contains k=false) (hl:l=o::rest) (hg:o.guard=none) (hm:∀ v,xG o rest T v=T1 v)
  (hs:jZ P fx call T o S=some (v,S)) (hK:jO P fx chk [] call ops (k+1) [] rest (T1 v) S=r):jO P fx chk [] call ops k [] l T S=r:=by
 subst hl
 simp only [jO,qV,List.isEmpty_nil,if_true,Region.wanted,hg,if_true,hs,hm,hc,Bool.not_false,Bool.true_or]
 exact hK
theorem Xi {l rest:List Oper} {o:Oper} {T:List Value} {T1:Value→List Value} {S:zy} {k:Nat} {v:Value} {r:Option (List Value×zy)} (hc:chk.contains k=true) (hl:l=o::rest) (hg:o.guard=none) (hm:∀ v,xG o rest T v=T1 v)
  (hs:jZ P fx call T o S=some (v,S)) (hK:jO P fx chk [] call ops (k+1) [] rest (T1 v) S=r):jO P fx chk [] call ops k [] l T S=okK v r ():=by
 show _=okC v r
 subst hl
 simp only [jO,qV,List.isEmpty_nil,if_true,Region.wanted,hg,if_true,hs,hm,hc,Bool.not_true,Bool.false_or]
 rw [← hK]
 rfl
theorem acT {l rest:List Oper} {o:Oper} {T:List Value} {T1:Value→List Value} {S:zy} {j k:Nat} {b:Bool} {g:Value} {s:M Value} {K:Value→zy→Option (List Value×zy)} (hc:chk.contains k=false) (hl:l=o::rest) (hg:o.guard=some (j,b)) (hm:∀ v,xG o rest T v=T1 v)
  (hy:ynd ops T j=vb g) (hs:jZ P fx call T o S=s S) (hK:∀ v S1,jO P fx chk [] call ops (k+1) [] rest (T1 v) S1=K v S1):jO P fx chk [] call ops k [] l T S=gdK g b s S K ():=by
 show _=gd g b s S K
 subst hl
 simp only [jO,qV,List.isEmpty_nil,if_true,Region.wanted,hg,hy,hs,hm,hK,gd,hc,Bool.not_false,Bool.true_or,if_true]
 rfl
theorem ach {l rest:List Oper} {o:Oper} {T:List Value} {T1:Value→List Value} {S:zy} {k:Nat} {s:Option (Value×zy)} {K:Value→zy→Option (List Value×zy)} (hc:chk.contains k=false) {x:Nat×Nat} {nl:List (Nat×Nat)} {hist:List (Value×zy)} {pe:Value} (hpe:xM T o=pe) (hl:l=o::rest) (hg:o.guard=none) (hm:∀ v,xG o rest T v=T1 v)
  (hs:jZ P fx call T o S=s) (hK:∀ v S1,jO P fx chk (x::nl) call ops (k+1) (hist++[(pe,S)]) rest (T1 v) S1=K v S1):jO P fx chk (x::nl) call ops k hist l T S=zM s K ():=by
 show _=andThen s K
 subst hl hs
 simp only [jO,qV,List.isEmpty_cons,Bool.false_eq_true,if_false,hpe,Region.wanted,hg,if_true,hm,hK,hc,Bool.not_false,Bool.true_or]
 rfl
theorem VW {l rest:List Oper} {o:Oper} {T:List Value} {T1:Value→List Value} {S:zy} {k:Nat} {v:Value} {r:Option (List Value×zy)} (hc:chk.contains k=false) {x:Nat×Nat} {nl:List (Nat×Nat)} {hist:List (Value×zy)} {pe:Value} (hpe:xM T o=pe) (hl:l=o::rest) (hg:o.guard=none) (hm:∀ v,xG o rest T v=T1 v)
  (hs:jZ P fx call T o S=some (v,S)) (hK:jO P fx chk (x::nl) call ops (k+1) (hist++[(pe,S)]) rest (T1 v) S=r):jO P fx chk (x::nl) call ops k hist l T S=r:=by
 subst hl
 simp only [jO,qV,List.isEmpty_cons,Bool.false_eq_true,if_false,hpe,Region.wanted,hg,if_true,hs,hm,hc,Bool.not_false,Bool.true_or]
 exact hK
theorem acj {l rest:List Oper} {o:Oper} {T:List Value} {T1:Value→List Value} {S:zy} {j k:Nat} {b:Bool} {g:Value} {s:M Value} {K:Value→zy→Option (List Value×zy)} (hc:chk.contains k=false) {x:Nat×Nat} {nl:List (Nat×Nat)} {hist:List (Value×zy)} {pe:Value} (hpe:xM T o=pe) (hl:l=o::rest) (hg:o.guard=some (j,b)) (hm:∀ v,xG o rest T v=T1 v)
  (hy:ynd ops T j=vb g) (hs:jZ P fx call T o S=s S) (hK:∀ v S1,jO P fx chk (x::nl) call ops (k+1) (hist++[(pe,S)]) rest (T1 v) S1=K v S1):jO P fx chk (x::nl) call ops k hist l T S=gdK g b s S K ():=by
 show _=gd g b s S K
 subst hl
 simp only [jO,qV,List.isEmpty_cons,Bool.false_eq_true,if_false,hpe,Region.wanted,hg,hy,hs,hm,hK,gd,hc,Bool.not_false,Bool.true_or,if_true]
 rfl
theorem aby {l rest:List Oper} {o:Oper} {T:List Value} {T1:Value→List Value} {S:zy} {j k:Nat} {b:Bool} {g:Value} {s:M Value} {K:Value→zy→Option (List Value×zy)} (hc:chk.contains k=true) {x:Nat×Nat} {nl:List (Nat×Nat)} {hist:List (Value×zy)} {pe:Value} (hpe:xM T o=pe) (hl:l=o::rest) (hg:o.guard=some (j,b)) (hm:∀ v,xG o rest T v=T1 v)
  (hy:ynd ops T j=vb g) (hs:jZ P fx call T o S=s S) (hK:∀ v S1,jO P fx chk (x::nl) call ops (k+1) (hist++[(pe,S)]) rest (T1 v) S1=K v S1):jO P fx chk (x::nl) call ops k hist l T S=aci g b s S K ():=by
 show _=gdC g b s S K
 subst hl
 simp only [jO,qV,List.isEmpty_cons,Bool.false_eq_true,if_false,hpe,Region.wanted,hg,hy,hs,hm,hK,gdC,hc,Bool.not_true,Bool.false_or]
 rfl
def ckK (c:Bool) (r:Option R) (p:Ja r):Option R:=if c then r else none
@[simp] theorem XP (r:Option R) (p:Ja r):ckK true r p=r:=Eq.trans rfl rfl
noncomputable def adZ (P:Program) (O:Ora) (hp:Bool) (v:Value) (x y:Code) (T:List Value) (S:zy):St:=acB v (zJ P O hp x T S) (zJ P O hp y T S)
@[simp] theorem Yo (x y:Code) (T:List Value) (S:zy):adZ P O hp (.bool true) x y T S=zJ P O hp x T S:=Eq.trans rfl rfl
@[simp] theorem JB (x y:Code) (T:List Value) (S:zy):adZ P O hp (.bool false) x y T S=zJ P O hp y T S:=Eq.trans rfl rfl
@[simp] theorem Jv (T:List Value) (H:zy):zJ P O hp .skip T H=some (.normal,T,H):=Eq.trans rfl rfl
@[simp] theorem Ya (T:List Value) (H:zy):zJ P O hp .ret T H=some (.ret,T,H):=Eq.trans rfl rfl
@[simp] theorem JC (i:Nat) (T:List Value) (H:zy):zJ P O hp (.exit i) T H=some (.exit i,T,H):=Eq.trans rfl rfl
@[simp] theorem Zw (i:Nat) (ops:Array Oper) (T:List Value) (H:zy):zJ P O false (.region i ops false) T H=YO (jk P ⟨false,false,false⟩ (zU P O) ops ops.toList T H):=Eq.trans rfl rfl
@[simp] theorem vZ (i:Nat) (ops:Array Oper) (T:List Value) (H:zy):zJ P O true (.region i ops false) T H=YO (jk P ⟨true,false,false⟩ (jM O.hp true (zU P O)) ops ops.toList T H):=Eq.trans rfl rfl
theorem qF {i:Nat} {ops:Array Oper} (hd:qL P ops=true) (hf:fixed P ops=nm) (hc:checked P ops=chk) {nl:List (Nat×Nat)} (hn:again P ops=nl) (T:List Value) (H:zy):zJ P O false (.region i ops true) T H=YO (jO P ⟨false,!chk.isEmpty,nm⟩ chk nl (zU P O) ops 0 [] ops.toList T H):=by
 subst hf hc hn
 simp only [zJ,hd,if_true,jM]
 rfl
theorem Y2 {i:Nat} {ops:Array Oper} (hd:qL P ops=true) (hf:fixed P ops=nm) (hc:checked P ops=chk) {nl:List (Nat×Nat)} (hn:again P ops=nl) (T:List Value) (H:zy):zJ P O true (.region i ops true) T H=YO (jO P ⟨true,!chk.isEmpty,nm⟩ chk nl (jM O.hp true (zU P O)) ops 0 [] ops.toList T H):=by
 subst hf hc hn
 simp only [zJ,hd,if_true]
 rfl
@[simp] theorem WY (x y:Code) (T:List Value) (H:zy):zJ P O hp (.seq x y) T H=ac5 (zJ P O hp x T H) (zJ P O hp y):=Eq.trans rfl rfl
@[simp] theorem Z7 (i:Nat) (c:Code) (T:List Value) (H:zy):zJ P O hp (.block i c) T H=Jd i (zJ P O hp c T H):=Eq.trans rfl rfl
@[simp] theorem JZ (c:Code) (T:List Value) (H:zy):zJ P O hp (.loop c) T H=wQ (zJ P O hp c) T H:=Eq.trans rfl rfl
@[simp] theorem Wl (t:Tmp) (x y:Code) (T:List Value) (H:zy):zJ P O hp (.cond (.tmp t) x y) T H=adZ P O hp (T.getD t zh) x y T H:=by
 simp only [zJ,yM,if_true,zS]
 rfl
@[simp] theorem Qo:dem zh=zh:=xP
@[simp] theorem abm (k:IntKind) (n:Int):dem (.int k n)=.int k n:=Eq.trans rfl rfl
@[simp] theorem X3 (b:Bool):dem (.bool b)=.bool b:=Eq.trans rfl rfl
@[simp] theorem Yd (s:ByteArray):dem (.string s)=.string s:=Eq.trans rfl rfl
@[simp] theorem aao:dem (.slice none 0 0)=.slice none 0 0:=Eq.trans rfl rfl
@[simp] theorem abj (x:Array Value):dem (.agg x)=.agg x:=Eq.trans rfl rfl
@[simp] theorem qy (f:Fn) (x c:Array Value):dem (.func f x c)=.func f x c:=Eq.trans rfl rfl
@[simp] theorem Zd (a:Option Addr):dem (.pointer a)=.pointer a:=Eq.trans rfl rfl
@[simp] theorem afm (e n:Nat) (cs:List Value):dem (SL 1 e n cs)=SL 1 e n cs:=Eq.trans rfl rfl
@[simp] theorem afk (e n:Nat) (cs:List Value):dem (SL 2 e n cs)=SL 1 e n cs:=Eq.trans rfl rfl
@[simp] theorem adC (k e n:Nat) (cs:List Value) (r:Option R) (p:Ja r):okK (SL k e n cs) r p=r:=Eq.trans rfl rfl
@[simp] theorem adz (cs:List Value) (r:Option R) (p:Ja r):okK (EP cs) r p=r:=Eq.trans rfl rfl
@[simp] theorem afA (k e n:Nat) (cs:List Value) (r:Option R):okC (SL k e n cs) r=r:=Eq.trans rfl rfl
@[simp] theorem adt (cs:List Value) (r:Option R):okC (EP cs) r=r:=Eq.trans rfl rfl
def sv (k e n:Nat) (cs:List Value):Value:=if k=0 then .slice none 0 0 else SL k e n cs
structure Okv (k n:Nat) (cs:List Value):Prop where
 le:k≤2
 nil:k=0→n=0∧cs=[]
theorem sv0 {e n:Nat} {cs:List Value}:sv 0 e n cs=.slice none 0 0:=rfl
theorem sv1 {e n:Nat} {cs:List Value}:sv 1 e n cs=SL 1 e n cs:=rfl
theorem sv2 {e n:Nat} {cs:List Value}:sv 2 e n cs=SL 2 e n cs:=rfl
@[simp] theorem XJ (k e n:Nat) (cs:List Value):dem (sv k e n cs)=sv (if k=2 then 1 else k) e n cs:=by
 unfold sv
 by_cases h0:k=0
 ·
  subst h0;rfl
 ·
  by_cases h2:k=2
  ·
   subst h2;rfl
  ·
   rw [if_neg h0,if_neg h2,if_neg h0]
   simp only [SL,dem,qA,if_neg h2]
@[simp] theorem Qq (k e n:Nat) (cs:List Value) (r:Option R):okC (sv k e n cs) r=r:=by
 unfold sv;split <;> rfl
@[simp] theorem ady (k e n:Nat) (cs:List Value) (r:Option R) (p:Ja r):okK (sv k e n cs) r p=r:=Qq k e n cs r
theorem aat {k e n:Nat} {cs:List Value} (h:Okv k n cs):∃ e',vSl (sv k e n cs)=some (e',n,cs)∧(e'=e∨n=0∧cs=[]):=by
 unfold sv
 by_cases h0:k=0
 ·
  obtain ⟨rfl,rfl⟩:=h.nil h0
  rw [if_pos h0]
  exact ⟨0,rfl,.inr ⟨rfl,rfl⟩⟩
 ·
  rw [if_neg h0]
  have:k=1∨k=2:=by have:=h.le;omega
  exact ⟨e,by simp [SL,vSl,this],.inl rfl⟩
theorem aeu {t te:TypeId} {k e n:Nat} {cs:List Value} {S:zy} (ht:P.underlying t=some (.slice te)) (h:Okv k n cs):xY P t (sv k e n cs) S=some (goInt n,S):=by
 by_cases h0:k=0
 ·
  obtain ⟨rfl,rfl⟩:=h.nil h0
  subst h0
  simp only [sv0,xY,QO,ht]
 ·
  obtain ⟨e',h1,_⟩:=aat (e:=e) h
  simp only [sv,if_neg h0] at h1 ⊢
  simp only [SL] at h1 ⊢
  simp only [xY,ht,h1]
theorem Y8 {t te:TypeId} {k e n:Nat} {cs:List Value} {S:zy} {ki:IntKind} {i:Int} (ht:P.underlying t=some (.slice te)) (he:qg P te=some e) (h:Okv k n cs) (h0:0≤i) (hi:i < n) :
  zO P t (sv k e n cs) (.int ki i) S=some (EP ((cs.drop (i.toNat * e)).take e),S):=by
 have hk:k≠0:=fun e=>by have:=(h.nil e).1;omega
 have hk2:k=1∨k=2:=by have:=h.le;omega
 have h1:vSl (SL k e n cs)=some (e,n,cs):=by simp [SL,vSl,hk2]
 simp only [sv,if_neg hk]
 simp only [SL] at h1 ⊢
 simp only [zO,ht,h1,he,if_true]
 rw [if_pos ⟨h0,hi⟩]
@[simp] theorem QW {t:TypeId} {v:Value} {S:zy} (ht:yx P t=some false):zW P nm t (EP [v]) S=some (v,S):=by
 simp [EP,zW,ht]
theorem Wi {t:TypeId} {n:Nat} {cs:List Value} {S:zy} (ht:yx P t=some true) (hn:qg P t=some n) (hc:cs.length=n):zW P nm t (EP cs) S=some (.agg cs.toArray,S):=by
 simp only [EP,zW,ht,hn,if_true,List.toList_toArray]
 rw [if_pos (by omega),← hc,List.take_length]
@[simp] theorem JO (k e n:Nat) (cs:List Value):vT (sv k e n cs)=false:=by unfold sv;split <;> rfl
@[simp] theorem Z5 (dr:Bool) (t:TypeId) (k e n:Nat) (cs:List Value) (lo hi:Option Value) (S:zy):yP P dr t (sv k e n cs) lo hi S=WL P t (sv k e n cs) lo hi S:=by
 unfold yP;rw [JO];rfl
@[simp] theorem vV (dr:Bool) (t:TypeId) (s:ByteArray) (lo hi:Option Value) (S:zy):yP P dr t (.string s) lo hi S=WL P t (.string s) lo hi S:=Eq.trans rfl rfl
@[simp] theorem JG (hp dr:Bool) (src dst:TypeId) (k e n:Nat) (cs:List Value) (S:zy):kP P hp dr src dst (sv k e n cs) S=Wh P src dst (sv k e n cs) S:=by
 unfold kP
 rw [JO]
 have:∀ s,sv k e n cs≠.string s:=by intro s;unfold sv;split <;> (intro h;cases h)
 cases hp <;> simp only [Bool.false_eq_true,if_false] <;> (split <;> first | rfl | (rename_i h;exact absurd h (this _)) | skip)
@[simp] theorem Yi (hp dr:Bool) (src dst:TypeId) (k:IntKind) (n:Int) (S:zy):kP P hp dr src dst (.int k n) S=Wh P src dst (.int k n) S:=by cases hp <;> rfl
@[simp] theorem ZI (dr:Bool) (src dst:TypeId) (s:ByteArray) (S:zy):kP P false dr src dst (.string s) S=Wh P src dst (.string s) S:=Eq.trans rfl rfl
@[simp] theorem vY (dr:Bool) (src dst:TypeId) (s:ByteArray) (S:zy):kP P true dr src dst (.string s) S=wO P src dst (.string s) S:=Eq.trans rfl rfl
theorem Vj {t te tx tex:TypeId} {k e n j m bytes:Nat} {cs ds:List Value} {z:Value} {S:zy} (ht:P.underlying t=some (.slice te)) (he:qg P te=some e) (hz:zeroOf P te=some z) (hzs:z.cells.size=e) (hb:bytesOf P te=some bytes) (hp:0 < e)
  (htx:P.underlying tx=some (.slice tex)) (h:Okv k n cs) (hk:k≠1) (hx:Okv j m ds) (hn:cs.length=n * e) (hm:ds.length=m * e) (h1:cs.all (·.oneCell')=true) (h2:ds.all (·.oneCell')=true) (hl:(n+m) * bytes≤140737488355328) (hmax:n+m≤4611686018427387903) :
  yj P t tx (sv k e n cs) (sv j e m ds) S=some (sv (if k=0∧m=0 then 0 else 2) e (n+m) (cs++ds),S):=by
 have hel:yu P t=some te:=by simp only [yu,ht]
 have hsrc:adW P tx e (sv j e m ds)=some (m,ds):=by
  obtain ⟨e',q1,q2⟩:=aat (e:=e) hx
  have hns:∀ s,sv j e m ds≠.string s:=by intro s;unfold sv;split <;> (intro h;cases h)
  have hcond:m=0∨e'=e:=q2.elim .inr fun h=>.inl h.1
  unfold adW
  split
  ·
   rename_i s hs;exact absurd hs (hns s)
  ·
   simp only [htx,q1,if_pos hcond,if_pos hm,h2,if_true]
 have hsrc:xZ P tx e (sv j e m ds) S=some (m,ds):=by
  unfold xZ
  rw [JO]
  exact hsrc
 by_cases hk0:k=0
 ·
  obtain ⟨rfl,rfl⟩:=h.nil hk0
  subst hk0
  simp only [sv0,yj,jW,hel,he,hz,hb,if_pos hp,if_pos hzs,hsrc]
  by_cases hm0:m=0
  ·
   subst hm0
   simp [sv0]
  ·
   rw [Nat.zero_add] at hl hmax
   rw [if_neg hm0,if_pos hl,if_pos hmax,if_neg Bool.false_ne_true,if_neg (fun h=>hm0 h.2),sv2,Nat.zero_add,List.nil_append]
 ·
  have hk2:k=2:=by have:=h.le;omega
  subst hk2
  rw [if_neg (fun h=>hk0 h.1)]
  have h1':cs.toArray.toList.all (·.oneCell')=true:=by simpa using h1
  simp only [sv2,SL,yj,jW,hel,he,hz,hb,if_pos hp,if_pos hzs,hsrc,if_true,if_pos hl,if_pos hmax,h1']
@[simp] theorem XU (op:BinOp) (t:TypeId) (k k':IntKind) (a b:Int) (S:zy):wB P op t (.int k a) (.int k' b) S=vO P op t (.int k a) (.int k' b) S:=Eq.trans rfl rfl
@[simp] theorem JI (op:BinOp) (t:TypeId) (a b:ByteArray) (S:zy):wB P op t (.string a) (.string b) S=vO P op t (.string a) (.string b) S:=Eq.trans rfl rfl
@[simp] theorem QH (op:BinOp) (t:TypeId) (a b:Bool) (S:zy):wB P op t (.bool a) (.bool b) S=vO P op t (.bool a) (.bool b) S:=Eq.trans rfl rfl
@[simp] theorem afi (op:BinOp) (t:TypeId) (a b:Array Value) (S:zy):wB P op t (.agg a) (.agg b) S=vO P op t (.agg a) (.agg b) S:=Eq.trans rfl rfl
@[simp] theorem WO (b:Bool) (x y:Value) (S:zy):qJ (.bool b) x y S=some (if b then dem x else dem y,S):=Eq.trans rfl rfl
@[simp] theorem Ql {src dst:TypeId} (k:IntKind) (n:Int) (S:zy):Wh P src dst (.int k n) S=wO P src dst (.int k n) S:=Eq.trans rfl rfl
@[simp] theorem vU (vs:List Value) (i:Nat) (S:zy):zQ (.tuple vs.toArray) i S=(vs[i]?).map (·,S):=by
 simp only [zQ,List.getElem?_toArray]
 cases vs[i]? <;> rfl
end
end Go.Abs
namespace Go.Abs
theorem JE {P:Program} {fn:Func} {a b:Value} {r:List Value} {T:List Value} {S:zy} (h:zN P T S fn.results.toList=some (a::b::r)) (hn:aep fn.results.toList=true) (hall:(a::b::r).all jV=true) :
  V8 P fn T S=some (.tuple (a::b::r).toArray,S):=by
 unfold V8
 rw [h]
 dsimp only
 rw [if_pos hn,if_pos hall]
theorem wI {P:Program} {fn:Func} {a:Value} {T:List Value} {S:zy} (h:zN P T S fn.results.toList=some [a]) (hn:aep fn.results.toList=true):V8 P fn T S=some (a,S):=by
 unfold V8
 rw [h]
 dsimp only
 rw [if_pos hn]
@[simp] theorem adx (k:IntKind) (n:Int):jV (.int k n)=true:=rfl
@[simp] theorem ab4 (b:Bool):jV (.bool b)=true:=rfl
@[simp] theorem Xx (k e n:Nat) (cs:List Value):jV (sv k e n cs)=true:=by unfold sv;split <;> rfl
@[simp] theorem adh (x:Array Value):jV (.agg x)=true:=rfl
@[simp] theorem abU (a:Option Addr) (n c:Nat):jV (.slice a n c)=true:=rfl
end Go.Abs
namespace Go.Abs
open Go.RowKit
def vs {α:Type} (f:α→List Value) (e k:Nat) (l:List α):Value:=sv k e l.length (l.flatMap f)
structure Okl {α:Type} (k:Nat) (l:List α):Prop where
 le:k≤2
 nil:k=0→l=[]
theorem Okl.own {α:Type} {l:List α}:Okl 2 l:=⟨Nat.le_refl 2,(fun h=>by cases h)⟩
theorem Okl.read {α:Type} {l:List α}:Okl 1 l:=⟨by omega,(fun h=>by cases h)⟩
theorem Okl.none {α:Type}:Okl 0 ([]:List α):=⟨by omega,fun _=>rfl⟩
theorem Okl.dem {α:Type} {k:Nat} {l:List α} (h:Okl k l):Okl (if k=2 then 1 else k) l:=⟨by have:=h.le;split <;> omega,fun hk=>h.nil (by split at hk <;> omega)⟩
def ci (n:Int):List Value:=[.int .i64 n]
section
variable {R α:Type} {P:Program} {f:α→List Value} {e k j:Nat} {l m:List α} {t te tx tex:TypeId} {S:zy}
theorem Okl.okv (h:Okl k l):Okv k l.length (l.flatMap f):=⟨h.le,fun h0=>by rw [h.nil h0];exact ⟨rfl,rfl⟩⟩
theorem jD (hf:∀ x,(f x).length=e) (l:List α):(l.flatMap f).length=l.length * e:=by
 induction l with
 | nil=>simp
 | cons x l ih=>simp only [List.flatMap_cons,List.length_append,hf,ih,List.length_cons,Nat.add_mul];omega
theorem Qu (hf:∀ x,(f x).length=e) (l:List α):∀ (i:Nat),(l.flatMap f).drop (i * e)=(l.drop i).flatMap f:=by
 induction l with
 | nil=>intro i;simp
 | cons x l ih =>
  intro i
  cases i with
  | zero=>simp
  | succ i =>
   rw [List.flatMap_cons,List.drop_succ_cons,← ih i,List.drop_append,List.drop_eq_nil_of_le (by rw [hf,Nat.add_mul];omega),List.nil_append,hf]
   congr 1
   rw [Nat.add_mul];omega
theorem Kz (hf:∀ x,(f x).length=e) (l:List α):∀ (i:Nat),(l.flatMap f).take (i * e)=(l.take i).flatMap f:=by
 induction l with
 | nil=>intro i;simp
 | cons x l ih =>
  intro i
  cases i with
  | zero=>simp
  | succ i =>
   rw [List.flatMap_cons,List.take_succ_cons,List.flatMap_cons,← ih i,List.take_append,List.take_of_length_le (by rw [hf,Nat.add_mul];omega),hf]
   congr 2
   rw [Nat.add_mul];omega
@[simp] theorem KA:dem (vs f e k l)=vs f e (if k=2 then 1 else k) l:=XJ _ _ _ _
@[simp] theorem adk (r:Option R):okC (vs f e k l) r=r:=Qq _ _ _ _ _
@[simp] theorem acZ (r:Option R) (p:Ja r):okK (vs f e k l) r p=r:=Qq _ _ _ _ _
@[simp] theorem ad1:vT (vs f e k l)=false:=JO _ _ _ _
@[simp] theorem Yg (dr:Bool) (lo hi:Option Value):yP P dr t (vs f e k l) lo hi S=WL P t (vs f e k l) lo hi S:=Z5 _ _ _ _ _ _ _ _ _
@[simp] theorem KF (hp dr:Bool) (src dst:TypeId):kP P hp dr src dst (vs f e k l) S=Wh P src dst (vs f e k l) S:=JG _ _ _ _ _ _ _ _ _
@[simp] theorem ad9:jV (vs f e k l)=true:=Xx _ _ _ _
theorem Ko (ht:P.underlying t=some (.slice te)) (h:Okl k l):xY P t (vs f e k l) S=some (goInt l.length,S):=aeu ht h.okv
theorem abZ {ki:IntKind} {i:Int} (ht:P.underlying t=some (.slice te)) (he:qg P te=some e) (hf:∀ x,(f x).length=e) (h:Okl k l) (h0:0≤i) (hi:i < l.length) :
  zO P t (vs f e k l) (.int ki i) S=some (EP (f (l[i.toNat]'(by omega))),S):=by
 unfold vs
 rw [Y8 ht he h.okv h0 hi,Qu hf]
 have hlt:i.toNat < l.length:=by omega
 have:=Kz hf (l.drop i.toNat) 1
 rw [Nat.one_mul] at this
 rw [this,List.drop_eq_getElem_cons hlt,List.take_succ_cons,List.take_zero,List.flatMap_cons,List.flatMap_nil,List.append_nil]
theorem Q9 {bytes:Nat} {z:Value} (ht:P.underlying t=some (.slice te)) (he:qg P te=some e) (hz:zeroOf P te=some z) (hzs:z.cells.size=e) (hb:bytesOf P te=some bytes) (hp:0 < e) (htx:P.underlying tx=some (.slice tex))
  (hf:∀ x,(f x).length=e) (h1:∀ x,(f x).all (·.oneCell')=true) (h:Okl k l) (hk:k≠1) (hm:Okl j m) (hl:(l.length+m.length) * bytes≤140737488355328) (hmax:l.length+m.length≤4611686018427387903) :
  yj P t tx (vs f e k l) (vs f e j m) S=some (vs f e (if k=0∧m.length=0 then 0 else 2) (l++m),S):=by
 have hone:∀ l:List α,(l.flatMap f).all (·.oneCell')=true:=by
  intro l
  rw [List.all_flatMap,List.all_eq_true]
  exact fun x _=>h1 x
 unfold vs
 rw [Vj ht he hz hzs hb hp htx h.okv hk hm.okv (jD hf l) (jD hf m) (hone l) (hone m) hl hmax,List.flatMap_append,List.length_append]
theorem Wj (x:Int):(ci x).length=1:=rfl
theorem aa3 (x:Int):(ci x).all (·.oneCell')=true:=rfl
theorem jg {v:Value} {i j:Nat} {S:zy} (h:j≠i):zQ (jv j v) i S=zQ v i S:=by
 cases v with
 | tuple vs=>simp only [jv,zQ,Array.getElem?_modify,if_neg h]
 | _=>rfl
theorem aaI {v:Value} {S:zy}:zQ (jv 0 v) 1 S=zQ v 1 S:=jg (by decide)
theorem aa2 {v:Value} {S:zy}:zQ (jv 0 v) 2 S=zQ v 2 S:=jg (by decide)
theorem abE {v:Value} {S:zy}:zQ (jv 1 v) 2 S=zQ v 2 S:=jg (by decide)
theorem aa8 {v:Value} {S:zy}:zQ (jv 0 v) 3 S=zQ v 3 S:=jg (by decide)
theorem aaS {v:Value} {S:zy}:zQ (jv 1 v) 3 S=zQ v 3 S:=jg (by decide)
theorem aa1 {v:Value} {S:zy}:zQ (jv 2 v) 3 S=zQ v 3 S:=jg (by decide)
theorem aay {v:Value} {S:zy}:zQ (jv 0 v) 4 S=zQ v 4 S:=jg (by decide)
theorem aar {v:Value} {S:zy}:zQ (jv 1 v) 4 S=zQ v 4 S:=jg (by decide)
theorem aah {v:Value} {S:zy}:zQ (jv 2 v) 4 S=zQ v 4 S:=jg (by decide)
theorem aam {v:Value} {S:zy}:zQ (jv 3 v) 4 S=zQ v 4 S:=jg (by decide)
theorem abh {v:Value} {S:zy}:zQ (jv 0 v) 5 S=zQ v 5 S:=jg (by decide)
theorem aaA {v:Value} {S:zy}:zQ (jv 1 v) 5 S=zQ v 5 S:=jg (by decide)
theorem abu {v:Value} {S:zy}:zQ (jv 2 v) 5 S=zQ v 5 S:=jg (by decide)
theorem abf {v:Value} {S:zy}:zQ (jv 3 v) 5 S=zQ v 5 S:=jg (by decide)
theorem abC {v:Value} {S:zy}:zQ (jv 4 v) 5 S=zQ v 5 S:=jg (by decide)
abbrev iz (k:Nat) (l:List Int):Value:=vs ci 1 k l
end
end Go.Abs
namespace Go.Abs
open Go.RowKit
def CLe (c d:FuncId→List Value→M Value):Prop:=∀ g a S r,c g a S=some r→d g a S=some r
section
variable {P:Program} {O:Ora} {c d:FuncId→List Value→M Value}
theorem WS (h:CLe c d) {fx:Fx} {T:List Value} {o:Oper} {S:zy} {r:Value×zy} (hs:jZ P fx c T o S=some r):jZ P fx d T o S=some r:=by
 unfold jZ at hs ⊢
 split at hs
 ·
  rename_i hok
  rw [if_pos hok]
  cases hop:o.op with
  | call q =>
   rw [hop] at hs
   dsimp only at hs ⊢
   cases hcal:q.callee with
   | value f =>
    rw [hcal] at hs
    dsimp only at hs ⊢
    split at hs
    ·
     rename_i g first captured hev
     exact h _ _ _ _ hs
    ·
     cases hs
   | builtin b=>rw [hcal] at hs;exact hs
   | invoke a b=>rw [hcal] at hs;cases hs
  | _=>rw [hop] at hs;exact hs
 ·
  cases hs
theorem aaQ (h:CLe c d) {fx:Fx} {ops:Array Oper}:∀ (l:List Oper) (T:List Value) (S:zy) (r:List Value×zy),jk P fx c ops l T S=some r→jk P fx d ops l T S=some r:=by
 intro l
 induction l with
 | nil=>intro T S r hs;exact hs
 | cons o l ih =>
  intro T S r hs
  simp only [jk] at hs ⊢
  split at hs
  ·
   rename_i hw
   rw [if_pos hw]
   split at hs
   ·
    rename_i v S' he
    rw [WS h he]
    exact ih _ _ _ hs
   ·
    cases hs
  ·
   rename_i hw
   rw [if_neg hw]
   exact ih _ _ _ hs
theorem VT (h:CLe c d) {fx:Fx} {chk:List Nat} {nl:List (Nat×Nat)} {ops:Array Oper}:∀ (l:List Oper) (i:Nat) (hist:List (Value×zy)) (T:List Value) (S:zy) (r:List Value×zy),jO P fx chk nl c ops i hist l T S=some r→jO P fx chk nl d ops i hist l T S=some r:=by
 intro l
 induction l with
 | nil=>intro i hist T S r hs;exact hs
 | cons o l ih =>
  intro i hist T S r hs
  simp only [jO] at hs ⊢
  split at hs
  ·
   rename_i hw
   rw [if_pos hw]
   split at hs
   ·
    rename_i v S' he
    rw [WS h he]
    dsimp only
    split at hs
    ·
     rename_i hq
     rw [if_pos hq]
     exact ih _ _ _ _ _ hs
    ·
     cases hs
   ·
    cases hs
  ·
   rename_i hw
   rw [if_neg hw]
   exact ih _ _ _ _ _ hs
theorem WH (h:CLe c d) {hp:Bool} {n m:Nat} (hn:n≤m):∀ (q:Code) (T:List Value) (S:zy) (r),wG P hp c n q T S=some r→wG P hp d m q T S=some r:=by
 intro q
 induction q with
 | skip=>intro T S r hs;exact hs
 | exit id=>intro T S r hs;exact hs
 | ret=>intro T S r hs;exact hs
 | region i ops dr =>
  intro T S r hs
  cases dr with
  | false =>
   simp only [wG] at hs ⊢
   split at hs
   ·
    rename_i T1 S1 ho
    rw [aaQ h _ _ _ _ ho];exact hs
   ·
    cases hs
  | true =>
   simp only [wG] at hs ⊢
   split at hs
   ·
    rename_i hd
    rw [if_pos hd]
    split at hs
    ·
     rename_i T1 S1 ho
     rw [VT h _ _ _ _ _ _ ho];exact hs
    ·
     cases hs
   ·
    cases hs
 | seq x y ihx ihy =>
  intro T S r hs
  simp only [wG] at hs ⊢
  split at hs
  ·
   rename_i T1 S1 hx
   rw [ihx _ _ _ hx]
   exact ihy _ _ _ hs
  ·
   rename_i hne
   rw [ihx _ _ _ hs]
   split
   ·
    rename_i T1 S1 he;exact absurd (hs.trans he) (hne T1 S1)
   ·
    rfl
 | cond x y z ihy ihz =>
  intro T S r hs
  simp only [wG] at hs ⊢
  split at hs
  ·
   rename_i hok
   rw [if_pos hok]
   split at hs
   ·
    rename_i hb;exact ihy _ _ _ hs
   ·
    rename_i hb;exact ihz _ _ _ hs
   ·
    cases hs
  ·
   cases hs
 | block id x ih =>
  intro T S r hs
  simp only [wG] at hs ⊢
  split at hs
  ·
   rename_i id' T1 S1 hx
   rw [ih _ _ _ hx];exact hs
  ·
   rename_i hne
   rw [ih _ _ _ hs]
   split
   ·
    rename_i id' T1 S1 he;exact absurd (hs.trans he) (hne id' T1 S1)
   ·
    rfl
 | loop x ih =>
  intro T S r hs
  simp only [wG] at hs ⊢
  have key:∀ (n:Nat) (T:List Value) (S:zy),∀ k,yA k (wG P hp c n x) T S=some r→(∀ T S r,wG P hp c n x T S=some r→wG P hp d m x T S=some r)→yA k (wG P hp d m x) T S=some r:=by
   intro n T S k hk hx
   induction k generalizing T S with
   | zero=>cases hk
   | succ k ihk =>
    simp only [yA] at hk ⊢
    split at hk
    ·
     rename_i T1 S1 h1
     rw [hx _ _ _ h1]
     exact ihk _ _ hk
    ·
     rename_i hne
     rw [hx _ _ _ hk]
     split
     ·
      rename_i T1 S1 he;exact absurd (hk.trans he) (hne T1 S1)
     ·
      rfl
  exact Yt hn (key n T S n hs ih)
 | _=>intro T S r hs;simp only [wG] at hs;cases hs
theorem VB {hps:FuncId→Bool} {hp:Bool} (h:CLe c d):CLe (jM hps hp c) (jM hps hp d):=by
 cases hp with
 | false=>exact h
 | true =>
  intro g a S r hs
  unfold jM at hs ⊢
  dsimp only at hs ⊢
  split at hs
  ·
   rename_i hg;rw [if_pos hg];exact h _ _ _ _ hs
  ·
   rename_i hg
   rw [if_neg hg]
   split at hs <;> first | (cases hs;done) | skip
   rename_i m S1 hf
   split at hs <;> first | (cases hs;done) | skip
   rename_i r0 hr0
   (try rw [hf])
   (try dsimp only)
   rw [h _ _ _ _ hr0]
   exact hs
theorem KC (h:CLe c d) {hp:Bool} {n m:Nat} (hn:n≤m) {fn:Func} {q:Code} {a:List Value} {S:zy} {r:Value×zy} (hs:abS P hp c n fn q a S=some r):abS P hp d m fn q a S=some r:=by
 unfold abS at hs ⊢
 split at hs
 ·
  rename_i T1 S1 hx
  rw [WH h hn _ _ _ _ hx];exact hs
 ·
  rename_i T1 S1 hx
  rw [WH h hn _ _ _ _ hx];exact hs
 ·
  cases hs
theorem acs:∀ (n m:Nat),n≤m→CLe (kU P O n) (kU P O m):=by
 intro n
 induction n with
 | zero=>intro m _ g a S r h;cases h
 | succ n ih =>
  intro m hm g a S r h
  obtain ⟨m,rfl⟩:∃ k,m=k+1:=⟨m - 1,by omega⟩
  simp only [kU] at h ⊢
  cases ho:O.fn g with
  | some q=>rw [ho] at h;exact h
  | none =>
   rw [ho] at h
   dsimp only at h ⊢
   cases hf:P.funcs[g]? with
   | none=>rw [hf] at h;cases h
   | some fn =>
    rw [hf] at h
    dsimp only at h ⊢
    split at h
    ·
     cases h
    ·
     rename_i hn
     rw [if_neg hn]
     cases hb:fn.body with
     | none=>rw [hb] at h;cases h
     | some q =>
      rw [hb] at h
      dsimp only at h ⊢
      have hc:=VB (hps:=O.hp) (hp:=O.hp g) (ih m (by omega))
      split at h
      ·
       rename_i hpu
       rw [if_pos hpu]
       unfold aaU at h ⊢
       split at h <;> first | (cases h;done) | skip
       rename_i hca
       rw [if_pos hca]
       split at h <;> first | (cases h;done) | skip
       rename_i v1 S1 hr
       rw [KC hc (by omega) hr]
       exact h
      ·
       rename_i hpu
       rw [if_neg hpu]
       exact KC hc (by omega) h
theorem XQ {n:Nat} {g:FuncId} {args:List Value} {S:zy} {r:Value×zy} (h:kU P O n g args S=some r):zU P O g args S=some r :=
 Xw ⟨n,fun k hk=>acs n k hk _ _ _ _ h⟩
end
end Go.Abs
namespace Go.Abs
open Go.RowKit
theorem aeT {n:Int} (h:(Lit.int .i64 n).wf=true):-9223372036854775808≤n∧n < 9223372036854775808:=by
 simp [Lit.wf,IntKind.min,IntKind.max,IntKind.signed,IntKind.bits] at h
 omega
theorem afH {P:Program} {hp:Bool} {ts:Array TypeId} {ty:TypeId} {k:IntKind} {a b:Int} {S:zy}:Zy P hp .min ts ty [.int k a,.int k b] S=some (.int k (if b < a then b else a),S):=by
 show jQ P [.int k a,.int k b] (Builtin.min_ ts ty #[.int k a,.int k b]) S=_
 exact jA rfl rfl rfl
def vN (call:FuncId→List Value→M Value) (g:FuncId) (args:List Value):M Value:=fun S=>match qZ args S with
 | some (m,S1)=>match call g m S1 with
  | some r=>some (KE S S1 args r)
  | none=>none
 | none=>none
theorem Vq {x:Value} {S:zy} (h:vT x=false):xk x S=some (x,S):=by
 unfold xk
 split <;> first | rfl | (simp [vT] at h)
theorem ZW:∀ {l:List Value} {S:zy},l.all (fun x=>!vT x)=true→qZ l S=some (l,S)
 | [],S,_=>rfl
 | x::l,S,h=>by
  rw [List.all_cons,Bool.and_eq_true] at h
  have h1:vT x=false:=by simpa using h.1
  simp only [qZ,Vq h1,ZW h.2]
theorem XC {call:FuncId→List Value→M Value} {g:FuncId} {args:List Value} {S:zy} (h:args.all (fun x=>!vT x)=true):vN call g args S=call g args S:=by
 have hn:args.any vT=false:=by
  rw [List.any_eq_false];intro x hx
  have:=List.all_eq_true.1 h x hx
  simpa using this
 unfold vN;rw [ZW h]
 dsimp only
 cases call g args S with
 | none=>rfl
 | some r=>dsimp only;rw [KE,hn];rfl
theorem WX {call:FuncId→List Value→M Value} {g:FuncId} {args m:List Value} {S S1 S2:zy} {v:Value} (h:qZ args S=some (m,S1)) (hc:call g m S1=some (v,S2)) (ha:args.any vT=true) (hv:ground v=true) (hl:S2.log=S1.log):vN call g args S=some (v,S):=by
 unfold vN;rw [h]
 dsimp only
 rw [hc]
 dsimp only
 rw [KE,ha,hv,hl,beq_self_eq_true]
 rfl
theorem VQ {q o n e:Nat} {cs:List Value} {anc:List Nat} {S:zy} (hg:S.get q=some (.cells cs (.own anc) e)) (hl:o+n * e≤cs.length):xk (.slice (some ⟨q,o,none⟩) n n) S=some (SL 1 e n ((cs.drop o).take (n * e)),S.set q .dead):=by
 unfold xk;dsimp only;rw [hg];dsimp only;rw [if_pos rfl,if_pos hl]
end Go.Abs
namespace Go.Abs
open Go.RowKit
section
variable {P:Program} {μ μ1:Mu} {S S1 H H1:zy} {ω ω1:Nat→Option wL}
structure Ext (S S1:zy):Prop where
 next:S.next≤S1.next
 get:∀ k,k < S.next→S1.get k=S.get k
 log:∃ new,S1.log=new++S.log∧∀ k ∈ new,S.next≤k
theorem Ext.refl (S:zy):Ext S S:=⟨Nat.le_refl _,fun _ _=>rfl,[],rfl,fun k h=>by cases h⟩
theorem Ext.trans {S2:zy} (h:Ext S S1) (k:Ext S1 S2):Ext S S2:=⟨Nat.le_trans h.1 k.1,fun q hq=>(k.2 q (Nat.lt_of_lt_of_le hq h.1)).trans (h.2 q hq),by
 obtain ⟨n1,e1,f1⟩:=h.log
 obtain ⟨n2,e2,f2⟩:=k.log
 refine ⟨n2++n1,by rw [e2,e1,List.append_assoc],fun q hq=>?_⟩
 rcases List.mem_append.1 hq with hq | hq
 ·
  exact Nat.le_trans h.1 (f2 q hq)
 ·
  exact f1 q hq⟩
theorem Ext.push (S:zy) (o:wR):Ext S (S.push o):=⟨by simp,fun k hk=>by rw [zy.zZ,if_neg (by omega)],[],rfl,fun k h=>by cases h⟩
theorem Ext.set {S S1:zy} (h:Ext S S1) {r:Nat} (hr:S.next≤r) (o:wR):Ext S (S1.set r o):=⟨by simpa using h.1,fun k hk=>by rw [zy.ji,if_neg (by omega)];exact h.2 k hk,by
 obtain ⟨n1,e1,f1⟩:=h.log
 refine ⟨r::n1,by rw [zy.YR,e1];rfl,fun q hq=>?_⟩
 rcases List.mem_cons.1 hq with rfl | hq
 ·
  exact hr
 ·
  exact f1 q hq⟩
inductive Lower (S:zy) (v1:Value) (S1:zy):Value→Prop
 | same (h:ground v1=true):Lower S v1 S1 v1
 | own {r n e:Nat} {cs:List Value} (hv:v1=.slice (some ⟨r,0,none⟩) n n) (hr:S.next≤r) (hg:S1.get r=some (.cells cs (.own []) e)) (hn:cs.length=n * e) (hs:cs.all sg=true):Lower S v1 S1 (SL 2 e n cs)
end
end Go.Abs
namespace Go.Abs
open Go.RowKit
section
variable {P:Program} {S:zy} {t te tx tex:TypeId} {q o n c e i r:Nat} {cs:List Value} {own:Own} {anc:List Nat} {v x:Value} {hp:Bool}
theorem yB (a:Addr) (S:zy):jH (.pointer (some a)) S=some (.pointer (some a),S):=Eq.trans rfl rfl
theorem ZJ (h:S.get q=some (.cells cs own e)) (ha:yx P t=some false) (hv:cs[o]?=some v) (hn:∀ l,v≠.agg l):zW P false t (.pointer (some ⟨q,o,none⟩)) S=some (dem v,S):=by
 unfold zW
 simp only [Bool.false_eq_true,if_false]
 have:yg P t (.pointer (some ⟨q,o,none⟩)) S=some (v,S):=by simp only [yg,h,ha,hv]
 rw [this]
 split
 ·
  rename_i l S2 he;cases he;exact absurd rfl (hn _)
 ·
  rename_i v2 S2 _ he;cases he;rfl
 ·
  rename_i he;cases he
theorem jC {k:IntKind} {m:Int} (h:S.get q=some (.cells cs own e)) (ha:yx P t=some false) (hv:cs[o]?=some (.int k m)):zW P false t (.pointer (some ⟨q,o,none⟩)) S=some (.int k m,S) :=
 ZJ h ha hv (fun l h=>by cases h)
theorem JA {a:Option Addr} {n c:Nat} (h:S.get q=some (.cells cs own e)) (ha:yx P t=some false) (hv:cs[o]?=some (.slice a n c)):zW P false t (.pointer (some ⟨q,o,none⟩)) S=some (.slice a n c,S) :=
 ZJ h ha hv (fun l h=>by cases h)
theorem ZE (h:S.get q=some (.cells cs own e)) (ha:yx P t=some true) (hs:qg P t=some n) (hle:o+n≤cs.length):zW P false t (.pointer (some ⟨q,o,none⟩)) S=some (.agg (((cs.drop o).take n).toArray.map qA),S):=by
 unfold zW
 simp only [Bool.false_eq_true,if_false]
 have:yg P t (.pointer (some ⟨q,o,none⟩)) S=some (.agg ((cs.drop o).take n).toArray,S):=by simp only [yg,h,ha,hs,if_pos hle]
 rw [this]
theorem wY (h:S.get q=some (.cells cs (.own anc) e)) (hs:qg P t=some n) (hx:x.cells.size=n) (h1:x.cells.toList.all (·.oneCell')=true) (hle:o+n≤cs.length) :
  jX P t (.pointer (some ⟨q,o,none⟩)) x S=some (zh,(S.kills anc).set q (.cells (splice cs o x.cells.toList) (.own []) e)):=by
 simp only [jX,vX,h,hs,if_pos hx,if_pos h1,if_pos hle]
theorem J6 {k:IntKind} {j:Int} {sz:Nat} (ht:P.underlying t=some (.slice te)) (hs:qg P te=some sz) (h0:0≤j) (hj:j < n):zO P t (.slice (some ⟨q,o,none⟩) n c) (.int k j) S=some (.pointer (some ⟨q,o+j.toNat * sz,none⟩),S):=by
 simp only [zO,jL,ht,hs]
 rw [if_pos ⟨h0,hj⟩]
theorem Zc (ht:P.underlying t=some (.slice te)) (a:Option Addr) (n c:Nat) (S:zy):xY P t (.slice a n c) S=some (goInt n,S):=by
 simp only [xY,QO,ht]
theorem QS {lo hi:Option Value} {l h:Int} {dr:Bool} (hd:dr=false) (hg:S.get q=some (.cells cs own e)) (ht:P.underlying t=some (.slice te)) (hs:qg P te=some e) (hl:kG 0 lo=some l) (hh:kG n hi=some h) (h0:0≤l) (h1:l≤h) (h2:h≤n) :
  yP P dr t (.slice (some ⟨q,o,none⟩) n c) lo hi S=some (.slice (some ⟨q,o+l.toNat * e,none⟩) (h.toNat - l.toNat) (h.toNat - l.toNat),S):=by
 subst hd
 simp only [yP,vT,if_true,Bool.false_eq_true,if_false,yY,ht,hs,hl,hh,if_pos h0,if_pos h1,if_pos h2,hg]
theorem ad2 {k m:Nat} {ds:List Value} (htx:P.underlying tx=some (.slice tex)) (hx:Okv k m ds) (hm:ds.length=m * e) (h2:ds.all (·.oneCell')=true):adW P tx e (sv k e m ds)=some (m,ds):=by
 obtain ⟨e',q1,q2⟩:=aat (e:=e) hx
 have hns:∀ s,sv k e m ds≠.string s:=by intro s;unfold sv;split <;> (intro h;cases h)
 have hcond:m=0∨e'=e:=q2.elim .inr fun h=>.inl h.1
 unfold adW
 split
 ·
  rename_i s hs;exact absurd hs (hns s)
 ·
  simp only [htx,q1,if_pos hcond,if_pos hm,h2,if_true]
theorem acg {k m:Nat} {ds:List Value} (htx:P.underlying tx=some (.slice tex)) (hx:Okv k m ds) (hm:ds.length=m * e) (h2:ds.all (·.oneCell')=true):xZ P tx e (sv k e m ds) S=some (m,ds):=by
 unfold xZ
 rw [JO]
 exact ad2 htx hx hm h2
theorem JX {m:Nat} (htx:P.underlying tx=some (.slice tex)) (hg:S.get q=some (.cells cs own i)) (hm:o+m * e≤cs.length) (h2:((cs.drop o).take (m * e)).all (·.oneCell')=true):xZ P tx e (.slice (some ⟨q,o,none⟩) m c) S=some (m,(cs.drop o).take (m * e)):=by
 simp only [xZ,vT,if_true,yI,htx,wX,hg]
 rw [if_pos hm]
 dsimp only
 rw [if_pos h2]
theorem WM {bytes k:Nat} {z:Value} {news:List Value} (hel:P.underlying t=some (.slice te)) (he:qg P te=some e) (hz:zeroOf P te=some z) (hzs:z.cells.size=e) (hb:bytesOf P te=some bytes) (hpos:0 < e) (hsrc:xZ P tx e x S=some (k,news))
  (hg:S.get q=some (.cells cs (.own anc) e)) (hle:o+n * e≤cs.length) (hmax:(n+k) * bytes≤140737488355328) (hmax2:n+k≤4611686018427387903) (h1:((cs.drop o).take (n * e)).all (·.oneCell')=true) :
  jW P hp t tx (.slice (some ⟨q,o,none⟩) n c) x S=some (.slice (some ⟨S.next,0,none⟩) (n+k) (n+k),
   if o+n * e=cs.length then (S.set q (.cells cs .ro e)).push (.cells ((cs.drop o).take (n * e)++news) (.own (if n * e=0 then [] else q::anc)) e)
   else ((S.kills anc).set q .dead).push (.cells ((cs.drop o).take (n * e)++news) (.own []) e)):=by
 have hel2:yu P t=some te:=by simp only [yu,hel]
 simp only [jW,hel2,he,hz,hb,if_pos hpos,if_pos hzs,hsrc,hg,if_true,if_pos hle,if_pos hmax,if_pos hmax2,if_pos h1,yN]
 by_cases h:o+n * e=cs.length
 ·
  rw [if_pos h,if_pos h]
 ·
  rw [if_neg h,if_neg h]
theorem Vo {bytes k:Nat} {z:Value} {news:List Value} (hel:P.underlying t=some (.slice te)) (he:qg P te=some e) (hz:zeroOf P te=some z) (hzs:z.cells.size=e) (hb:bytesOf P te=some bytes) (hpos:0 < e) (hsrc:xZ P tx e x S=some (k,news))
  (hmax:k * bytes≤140737488355328) (hmax2:k≤4611686018427387903) :
  jW P true t tx (.slice none 0 0) x S=some (if k=0 then .slice none 0 0 else .slice (some ⟨S.next,0,none⟩) k k,if k=0 then S else S.push (.cells news (.own []) e)):=by
 have hel2:yu P t=some te:=by simp only [yu,hel]
 simp only [jW,hel2,he,hz,hb,if_pos hpos,if_pos hzs,hsrc,if_pos hmax,if_pos hmax2,if_true]
 by_cases h:k=0
 ·
  rw [if_pos h,if_pos h,if_pos h]
 ·
  rw [if_neg h,if_neg h,if_neg h]
end
theorem XM {α:Type} {f:α→List Value} {e k d:Nat} {l:List α} (hk:k≤2) (h:∀ x ∈ l,(f x).all (jc d)=true):jc (d+4) (vs f e k l)=true:=by
 unfold vs sv
 split
 ·
  rfl
 ·
  show ((l.flatMap f).toArray.toList.all (jc d))=true
  rw [List.toList_toArray,List.all_flatMap,List.all_eq_true]
  exact h
theorem X0 {k d:Nat} {l:List Int} (hk:k≤2):jc (d+5) (iz k l)=true:=XM hk (fun _ _=>rfl)
theorem aaX {k:IntKind} {n:Int} {d:Nat}:jc (d+1) (.int k n)=true:=rfl
theorem aae {l:List Value} {d:Nat} (h:l.all (jc d)=true):jc (d+1) (.agg l.toArray)=true:=by
 show l.toArray.toList.all (jc d)=true
 simpa using h
theorem Wn {l:List Value} {d:Nat} (h:l.all (jc d)=true):jc (d+1) (.tuple l.toArray)=true:=by
 show l.toArray.toList.all (jc d)=true
 simpa using h
theorem ab9 {k e n:Nat} {cs:List Value}:(sv k e n cs).cells=#[sv k e n cs]:=by unfold sv;split <;> rfl
theorem yO {α:Type} {f:α→List Value} {e k:Nat} {l:List α}:(vs f e k l).cells=#[vs f e k l]:=ab9
theorem adT {k e n:Nat} {cs:List Value}:qA (sv k e n cs)=sv (if k=2 then 1 else k) e n cs:=by rw [← XJ];unfold sv;split <;> rfl
theorem ad6 {α:Type} {f:α→List Value} {e k:Nat} {l:List α}:qA (vs f e k l)=vs f e (if k=2 then 1 else k) l:=adT
theorem yD {x:Array Value}:(Value.agg x).cells=x:=rfl
@[simp] theorem KH (a:Option Addr) (n c:Nat):dem (.slice a n c)=.slice a n c:=Eq.trans rfl rfl
@[simp] theorem aaB (a:Option Nat):dem (.map a)=.map a:=Eq.trans rfl rfl
theorem wrap_i64 {n:Int} (h0:-9223372036854775808≤n) (h:n < 9223372036854775808):IntKind.i64.wrap n=n:=by
 simp [IntKind.wrap,IntKind.bits,IntKind.signed]
 split <;> omega
theorem J9 {l pre suf:List Int} {n:Int} (hl:l=pre++n::suf) (h:Int.toNat (pre.length:Int) < l.length):l[Int.toNat (pre.length:Int)]=n:=by
 subst hl;simp
theorem Jg {α:Type} {l pre suf:List α} {n:α} (hl:l=pre++n::suf) (h:Int.toNat (pre.length:Int) < l.length):l[Int.toNat (pre.length:Int)]=n:=by
 subst hl;simp
theorem afL (k:Nat):(if (if k=2 then 1 else k)=2 then 1 else if k=2 then 1 else k)=if k=2 then 1 else k:=by split <;> simp_all
theorem YA (k:Nat):(if k=2 then 1 else k)≠2:=by split <;> omega
theorem Jb (Sa Sb:zy):kM zh Sa Sb=true:=rfl
theorem QN (cs:List Value) (Sa Sb:zy):kM (EP cs) Sa Sb=true:=rfl
theorem Vr {q o e:Nat} {cs:List Value} {own:Own} {S S1:zy} (h:S.get q=some (.cells cs own e)) (hq:q < S.next) (hE:Ext S S1):kM (.pointer (some ⟨q,o,none⟩)) S S1=true:=by
 obtain ⟨new,h1,h2⟩:=hE.log
 simp only [kM,h,h1,List.length_append,Nat.add_sub_cancel,List.take_left,Bool.true_and,Bool.not_eq_true',List.contains_eq_mem,decide_eq_false_iff_not]
 intro hm
 have:=h2 q hm
 omega
end Go.Abs
namespace Go.Abs
open Go.RowKit
section
variable {P:Program} {fx:Fx} {chk:List Nat} {call:FuncId→List Value→M Value} {ops:Array Oper}
theorem sP (f:Func) (i n:Nat) {l:List Oper} {T:List Value} {T1:Value→List Value} {S:zy} {v:Value} {r:Option (List Value×zy)} (hK:jk P fx call ops ((reg f i).toList.drop (n+1)) (T1 v) S=r) (hl:l=(opAt f i n)::((reg f i).toList.drop (n+1)):=by kernel_rfl) (hg:(opAt f i n).guard=none:=by kernel_rfl) (hm:∀ v,xG (opAt f i n) ((reg f i).toList.drop (n+1)) T v=T1 v:=by exact fun _=>rfl) (hs:jZ P fx call T (opAt f i n) S=some (v,S):=by kernel_rfl):jk P fx call ops l T S=r :=
 aan hl hg hm hs hK
theorem sD (f:Func) (i n:Nat) {l:List Oper} {T:List Value} {T1:Value→List Value} {S:zy} {s:Option (Value×zy)} {K:Value→zy→Option (List Value×zy)} (hK:∀ v S1,jk P fx call ops ((reg f i).toList.drop (n+1)) (T1 v) S1=K v S1) (hl:l=(opAt f i n)::((reg f i).toList.drop (n+1)):=by kernel_rfl) (hg:(opAt f i n).guard=none:=by kernel_rfl) (hm:∀ v,xG (opAt f i n) ((reg f i).toList.drop (n+1)) T v=T1 v:=by exact fun _=>rfl) (hs:jZ P fx call T (opAt f i n) S=s:=by kernel_rfl):jk P fx call ops l T S=zM s K () :=
 aek hl hg hm hs hK
theorem sG (f:Func) (i n:Nat) {l:List Oper} {T:List Value} {T1:Value→List Value} {S:zy} {j:Nat} {b:Bool} {g:Value} {s:M Value} {K:Value→zy→Option (List Value×zy)} (hK:∀ v S1,jk P fx call ops ((reg f i).toList.drop (n+1)) (T1 v) S1=K v S1) (hl:l=(opAt f i n)::((reg f i).toList.drop (n+1)):=by kernel_rfl) (hg:(opAt f i n).guard=some (j,b):=by kernel_rfl) (hm:∀ v,xG (opAt f i n) ((reg f i).toList.drop (n+1)) T v=T1 v:=by exact fun _=>rfl) (hy:ynd ops T j=vb g:=by kernel_rfl) (hs:jZ P fx call T (opAt f i n) S=s S:=by kernel_rfl):jk P fx call ops l T S=gdK g b s S K () :=
 adJ hl hg hm hy hs hK
theorem tD (f:Func) (i n:Nat) {l:List Oper} {T:List Value} {T1:Value→List Value} {S:zy} {k:Nat} {s:Option (Value×zy)} {K:Value→zy→Option (List Value×zy)} (hK:∀ v S1,jO P fx chk [] call ops (k+1) [] ((reg f i).toList.drop (n+1)) (T1 v) S1=K v S1) (hc:chk.contains k=false:=by kernel_rfl) (hl:l=(opAt f i n)::((reg f i).toList.drop (n+1)):=by kernel_rfl) (hg:(opAt f i n).guard=none:=by kernel_rfl) (hm:∀ v,xG (opAt f i n) ((reg f i).toList.drop (n+1)) T v=T1 v:=by exact fun _=>rfl) (hs:jZ P fx call T (opAt f i n) S=s:=by kernel_rfl):jO P fx chk [] call ops k [] l T S=zM s K () :=
 ab6 hc hl hg hm hs hK
theorem tP (f:Func) (i n:Nat) {l:List Oper} {T:List Value} {T1:Value→List Value} {S:zy} {k:Nat} {v:Value} {r:Option (List Value×zy)} (hK:jO P fx chk [] call ops (k+1) [] ((reg f i).toList.drop (n+1)) (T1 v) S=r) (hc:chk.contains k=false:=by kernel_rfl) (hl:l=(opAt f i n)::((reg f i).toList.drop (n+1)):=by kernel_rfl) (hg:(opAt f i n).guard=none:=by kernel_rfl) (hm:∀ v,xG (opAt f i n) ((reg f i).toList.drop (n+1)) T v=T1 v:=by exact fun _=>rfl) (hs:jZ P fx call T (opAt f i n) S=some (v,S):=by kernel_rfl):jO P fx chk [] call ops k [] l T S=r :=
 V6 hc hl hg hm hs hK
theorem tPC (f:Func) (i n:Nat) {l:List Oper} {T:List Value} {T1:Value→List Value} {S:zy} {k:Nat} {v:Value} {r:Option (List Value×zy)} (hK:jO P fx chk [] call ops (k+1) [] ((reg f i).toList.drop (n+1)) (T1 v) S=r) (hc:chk.contains k=true:=by kernel_rfl) (hl:l=(opAt f i n)::((reg f i).toList.drop (n+1)):=by kernel_rfl) (hg:(opAt f i n).guard=none:=by kernel_rfl) (hm:∀ v,xG (opAt f i n) ((reg f i).toList.drop (n+1)) T v=T1 v:=by exact fun _=>rfl) (hs:jZ P fx call T (opAt f i n) S=some (v,S):=by kernel_rfl):jO P fx chk [] call ops k [] l T S=okK v r () :=
 Xi hc hl hg hm hs hK
theorem tG (f:Func) (i n:Nat) {l:List Oper} {T:List Value} {T1:Value→List Value} {S:zy} {j k:Nat} {b:Bool} {g:Value} {s:M Value} {K:Value→zy→Option (List Value×zy)} (hK:∀ v S1,jO P fx chk [] call ops (k+1) [] ((reg f i).toList.drop (n+1)) (T1 v) S1=K v S1) (hc:chk.contains k=false:=by kernel_rfl) (hl:l=(opAt f i n)::((reg f i).toList.drop (n+1)):=by kernel_rfl) (hg:(opAt f i n).guard=some (j,b):=by kernel_rfl) (hm:∀ v,xG (opAt f i n) ((reg f i).toList.drop (n+1)) T v=T1 v:=by exact fun _=>rfl) (hy:ynd ops T j=vb g:=by kernel_rfl) (hs:jZ P fx call T (opAt f i n) S=s S:=by kernel_rfl):jO P fx chk [] call ops k [] l T S=gdK g b s S K () :=
 acT hc hl hg hm hy hs hK
theorem uD (f:Func) (i n:Nat) {l:List Oper} {T:List Value} {T1:Value→List Value} {S:zy} {k:Nat} {s:Option (Value×zy)} {K:Value→zy→Option (List Value×zy)} {x:Nat×Nat} {nl:List (Nat×Nat)} {hist:List (Value×zy)} {pe:Value} (hK:∀ v S1,jO P fx chk (x::nl) call ops (k+1) (hist++[(pe,S)]) ((reg f i).toList.drop (n+1)) (T1 v) S1=K v S1) (hc:chk.contains k=false:=by kernel_rfl) (hpe:xM T (opAt f i n)=pe:=by kernel_rfl) (hl:l=(opAt f i n)::((reg f i).toList.drop (n+1)):=by kernel_rfl) (hg:(opAt f i n).guard=none:=by kernel_rfl) (hm:∀ v,xG (opAt f i n) ((reg f i).toList.drop (n+1)) T v=T1 v:=by exact fun _=>rfl) (hs:jZ P fx call T (opAt f i n) S=s:=by kernel_rfl):jO P fx chk (x::nl) call ops k hist l T S=zM s K () :=
 ach hc hpe hl hg hm hs hK
theorem uP (f:Func) (i n:Nat) {l:List Oper} {T:List Value} {T1:Value→List Value} {S:zy} {k:Nat} {v:Value} {r:Option (List Value×zy)} {x:Nat×Nat} {nl:List (Nat×Nat)} {hist:List (Value×zy)} {pe:Value} (hK:jO P fx chk (x::nl) call ops (k+1) (hist++[(pe,S)]) ((reg f i).toList.drop (n+1)) (T1 v) S=r) (hc:chk.contains k=false:=by kernel_rfl) (hpe:xM T (opAt f i n)=pe:=by kernel_rfl) (hl:l=(opAt f i n)::((reg f i).toList.drop (n+1)):=by kernel_rfl) (hg:(opAt f i n).guard=none:=by kernel_rfl) (hm:∀ v,xG (opAt f i n) ((reg f i).toList.drop (n+1)) T v=T1 v:=by exact fun _=>rfl) (hs:jZ P fx call T (opAt f i n) S=some (v,S):=by kernel_rfl):jO P fx chk (x::nl) call ops k hist l T S=r :=
 VW hc hpe hl hg hm hs hK
theorem uG (f:Func) (i n:Nat) {l:List Oper} {T:List Value} {T1:Value→List Value} {S:zy} {j k:Nat} {b:Bool} {g:Value} {s:M Value} {K:Value→zy→Option (List Value×zy)} {x:Nat×Nat} {nl:List (Nat×Nat)} {hist:List (Value×zy)} {pe:Value} (hK:∀ v S1,jO P fx chk (x::nl) call ops (k+1) (hist++[(pe,S)]) ((reg f i).toList.drop (n+1)) (T1 v) S1=K v S1) (hc:chk.contains k=false:=by kernel_rfl) (hpe:xM T (opAt f i n)=pe:=by kernel_rfl) (hl:l=(opAt f i n)::((reg f i).toList.drop (n+1)):=by kernel_rfl) (hg:(opAt f i n).guard=some (j,b):=by kernel_rfl) (hm:∀ v,xG (opAt f i n) ((reg f i).toList.drop (n+1)) T v=T1 v:=by exact fun _=>rfl) (hy:ynd ops T j=vb g:=by kernel_rfl) (hs:jZ P fx call T (opAt f i n) S=s S:=by kernel_rfl):jO P fx chk (x::nl) call ops k hist l T S=gdK g b s S K () :=
 acj hc hpe hl hg hm hy hs hK
theorem uGC (f:Func) (i n:Nat) {l:List Oper} {T:List Value} {T1:Value→List Value} {S:zy} {j k:Nat} {b:Bool} {g:Value} {s:M Value} {K:Value→zy→Option (List Value×zy)} {x:Nat×Nat} {nl:List (Nat×Nat)} {hist:List (Value×zy)} {pe:Value} (hK:∀ v S1,jO P fx chk (x::nl) call ops (k+1) (hist++[(pe,S)]) ((reg f i).toList.drop (n+1)) (T1 v) S1=K v S1) (hc:chk.contains k=true:=by kernel_rfl) (hpe:xM T (opAt f i n)=pe:=by kernel_rfl) (hl:l=(opAt f i n)::((reg f i).toList.drop (n+1)):=by kernel_rfl) (hg:(opAt f i n).guard=some (j,b):=by kernel_rfl) (hm:∀ v,xG (opAt f i n) ((reg f i).toList.drop (n+1)) T v=T1 v:=by exact fun _=>rfl) (hy:ynd ops T j=vb g:=by kernel_rfl) (hs:jZ P fx call T (opAt f i n) S=s S:=by kernel_rfl):jO P fx chk (x::nl) call ops k hist l T S=aci g b s S K () :=
 aby hc hpe hl hg hm hy hs hK
end
end Go.Abs
namespace Go.Proofs.Ytpjglojnipjgfaa
open Go.Abs
def O:Ora:=⟨fun _=>none,fun f=>([10,15,22]:List Nat).contains f,fun f=>([8,12,14,15,24,28]:List Nat).contains f⟩
theorem ae3:abN zi O:=acy
end Go.Proofs.Ytpjglojnipjgfaa
namespace Go.Proofs.Ytpjglojnipjgfaa
open Go.Abs
noncomputable def zu.zY:Code:=(.seq (.region 8 (reg Try.f4 8) false) (.seq (.cond (.tmp 46) Code.skip (.exit 0)) (.seq (.block 1 (.seq (.region 9 (reg Try.f4 9) false) (.seq (.region 10 (reg Try.f4 10) false) (.seq (.region 11 (reg Try.f4 11) false) (.seq (.seq (.region 12 (reg Try.f4 12) false) (.block 2 (.seq (.region 13 (reg Try.f4 13) false) (.cond (.tmp 53) (.seq (.region 14 (reg Try.f4 14) false) (.region 15 (reg Try.f4 15) false)) (.seq (.region 16 (reg Try.f4 16) false) (.cond (.tmp 66) (.seq (.region 17 (reg Try.f4 17) false) (.region 18 (reg Try.f4 18) false)) (.seq (.region 19 (reg Try.f4 19) false) (.cond (.tmp 76) (.seq (.region 20 (reg Try.f4 20) false) (.region 21 (reg Try.f4 21) false)) Code.skip)))))))) (.seq (.region 22 (reg Try.f4 22) true) (.cond (.tmp 101) (.seq (.region 23 (reg Try.f4 23) false) Code.ret) Code.skip))))))) (.region 24 (reg Try.f4 24) false))))
noncomputable def zu.code:Code:=(.seq (.region 0 (reg Try.f4 0) false) (.seq (.seq (.region 1 (reg Try.f4 1) false) (.cond (.tmp 16) (.seq (.region 2 (reg Try.f4 2) false) Code.ret) Code.skip)) (.seq (.seq (.region 3 (reg Try.f4 3) false) (.cond (.tmp 36) (.seq (.region 4 (reg Try.f4 4) false) Code.ret) Code.skip)) (.seq (.region 5 (reg Try.f4 5) false) (.seq (.region 6 (reg Try.f4 6) false) (.seq (.seq (.region 7 (reg Try.f4 7) false) (.block 0 (.loop zu.zY))) (.seq (.region 25 (reg Try.f4 25) false) Code.ret)))))))
theorem zu.body:Try.f4.body=some zu.code:=by kernel_rfl
theorem zu.eta {T:List Value} (h:T.length=103):T=[T.getD 0 zh,T.getD 1 zh,T.getD 2 zh,T.getD 3 zh,T.getD 4 zh,T.getD 5 zh,T.getD 6 zh,T.getD 7 zh,T.getD 8 zh,T.getD 9 zh,T.getD 10 zh,T.getD 11 zh,T.getD 12 zh,T.getD 13 zh,T.getD 14 zh,T.getD 15 zh,T.getD 16 zh,T.getD 17 zh,T.getD 18 zh,T.getD 19 zh,T.getD 20 zh,T.getD 21 zh,T.getD 22 zh,T.getD 23 zh,T.getD 24 zh,T.getD 25 zh,T.getD 26 zh,T.getD 27 zh,T.getD 28 zh,T.getD 29 zh,T.getD 30 zh,T.getD 31 zh,T.getD 32 zh,T.getD 33 zh,T.getD 34 zh,T.getD 35 zh,T.getD 36 zh,T.getD 37 zh,T.getD 38 zh,T.getD 39 zh,T.getD 40 zh,T.getD 41 zh,T.getD 42 zh,T.getD 43 zh,T.getD 44 zh,T.getD 45 zh,T.getD 46 zh,T.getD 47 zh,T.getD 48 zh,T.getD 49 zh,T.getD 50 zh,T.getD 51 zh,T.getD 52 zh,T.getD 53 zh,T.getD 54 zh,T.getD 55 zh,T.getD 56 zh,T.getD 57 zh,T.getD 58 zh,T.getD 59 zh,T.getD 60 zh,T.getD 61 zh,T.getD 62 zh,T.getD 63 zh,T.getD 64 zh,T.getD 65 zh,T.getD 66 zh,T.getD 67 zh,T.getD 68 zh,T.getD 69 zh,T.getD 70 zh,T.getD 71 zh,T.getD 72 zh,T.getD 73 zh,T.getD 74 zh,T.getD 75 zh,T.getD 76 zh,T.getD 77 zh,T.getD 78 zh,T.getD 79 zh,T.getD 80 zh,T.getD 81 zh,T.getD 82 zh,T.getD 83 zh,T.getD 84 zh,T.getD 85 zh,T.getD 86 zh,T.getD 87 zh,T.getD 88 zh,T.getD 89 zh,T.getD 90 zh,T.getD 91 zh,T.getD 92 zh,T.getD 93 zh,T.getD 94 zh,T.getD 95 zh,T.getD 96 zh,T.getD 97 zh,T.getD 98 zh,T.getD 99 zh,T.getD 100 zh,T.getD 101 zh,T.getD 102 zh]:=(yF T 103 h).trans (by kernel_rfl)
variable (x0 x1 x2 x3 x4 x5 x6 x7 x8 x9 f o p i k q r s t u w x y z A B C D E F G H I J K L M N P Q R U V m n l W X Y Z a0 a1 g a2 a3 a4 a5 a6 a7 a8 a9 b0 b1 b2 b3 b4 b5 b6 b7 b8 b9 c0 c1 c2 c3 c4 c5 c6 c7 c8 c9 d0 d1 d2 d3 d4 d5 d6 d7 d8 d9 f0 f1 f2 f3 f5 f6 f7 f8 f9 b c d:Value) (S:zy)
theorem zu.r0 :jk zi ⟨false,false,false⟩ (zU zi O) (reg Try.f4 0) (reg Try.f4 0).toList ([x0,x1,x2,x3,x4,x5,x6,x7,x8,x9,f,o,p,i,k,q,r,s,t,u,w,x,y,z,A,B,C,D,E,F,G,H,I,J,K,L,M,N,P,Q,R,U,V,m,n,l,W,X,Y,Z,a0,a1,g,a2,a3,a4,a5,a6,a7,a8,a9,b0,b1,b2,b3,b4,b5,b6,b7,b8,b9,c0,c1,c2,c3,c4,c5,c6,c7,c8,c9,d0,d1,d2,d3,d4,d5,d6,d7,d8,d9,f0,f1,f2,f3,f5,f6,f7,f8,f9,b,c,d]) S =
  ( some ([x0,x1,x2,x3,x4,x5,Value.bool false,x7,x8,x9,f,o,p,i,k,q,r,s,t,u,w,x,y,z,A,B,C,D,E,F,G,H,I,J,K,L,M,N,P,Q,R,U,V,m,n,l,W,X,Y,Z,a0,a1,g,a2,a3,a4,a5,a6,a7,a8,a9,b0,b1,b2,b3,b4,b5,b6,b7,b8,b9,c0,c1,c2,c3,c4,c5,c6,c7,c8,c9,d0,d1,d2,d3,d4,d5,d6,d7,d8,d9,f0,f1,f2,f3,f5,f6,f7,f8,f9,b,c,d],S)):=by
 kernel_rfl
theorem zu.r1 :jk zi ⟨false,false,false⟩ (zU zi O) (reg Try.f4 1) (reg Try.f4 1).toList ([x0,x1,x2,x3,x4,x5,x6,x7,x8,x9,f,o,p,i,k,q,r,s,t,u,w,x,y,z,A,B,C,D,E,F,G,H,I,J,K,L,M,N,P,Q,R,U,V,m,n,l,W,X,Y,Z,a0,a1,g,a2,a3,a4,a5,a6,a7,a8,a9,b0,b1,b2,b3,b4,b5,b6,b7,b8,b9,c0,c1,c2,c3,c4,c5,c6,c7,c8,c9,d0,d1,d2,d3,d4,d5,d6,d7,d8,d9,f0,f1,f2,f3,f5,f6,f7,f8,f9,b,c,d]) S =
  (zM ((zU zi O) 8 [] S) (fun v0 S1=>zM (aUn zi UnOp.not v0 S1) (fun v1 S2=>some ([x0,x1,x2,x3,x4,x5,x6,x7,x8,x9,f,o,p,i,k,v0,v1,s,t,u,w,x,y,z,A,B,C,D,E,F,G,H,I,J,K,L,M,N,P,Q,R,U,V,m,n,l,W,X,Y,Z,a0,a1,g,a2,a3,a4,a5,a6,a7,a8,a9,b0,b1,b2,b3,b4,b5,b6,b7,b8,b9,c0,c1,c2,c3,c4,c5,c6,c7,c8,c9,d0,d1,d2,d3,d4,d5,d6,d7,d8,d9,f0,f1,f2,f3,f5,f6,f7,f8,f9,b,c,d],S2)) ()) ()):=by
 kernel_rfl
theorem zu.r2 :jk zi ⟨false,false,false⟩ (zU zi O) (reg Try.f4 2) (reg Try.f4 2).toList ([x0,x1,x2,x3,x4,x5,x6,x7,x8,x9,f,o,p,i,k,q,r,s,t,u,w,x,y,z,A,B,C,D,E,F,G,H,I,J,K,L,M,N,P,Q,R,U,V,m,n,l,W,X,Y,Z,a0,a1,g,a2,a3,a4,a5,a6,a7,a8,a9,b0,b1,b2,b3,b4,b5,b6,b7,b8,b9,c0,c1,c2,c3,c4,c5,c6,c7,c8,c9,d0,d1,d2,d3,d4,d5,d6,d7,d8,d9,f0,f1,f2,f3,f5,f6,f7,f8,f9,b,c,d]) S =
  ( some ([x0,x1,x2,x3,x4,x5,Value.bool false,x7,x8,x9,f,o,p,i,k,q,r,s,t,u,w,x,y,z,A,B,C,D,E,F,G,H,I,J,K,L,M,N,P,Q,R,U,V,m,n,l,W,X,Y,Z,a0,a1,g,a2,a3,a4,a5,a6,a7,a8,a9,b0,b1,b2,b3,b4,b5,b6,b7,b8,b9,c0,c1,c2,c3,c4,c5,c6,c7,c8,c9,d0,d1,d2,d3,d4,d5,d6,d7,d8,d9,f0,f1,f2,f3,f5,f6,f7,f8,f9,b,c,d],S)):=by
 kernel_rfl
theorem zu.r3 :jk zi ⟨false,false,false⟩ (zU zi O) (reg Try.f4 3) (reg Try.f4 3).toList ([x0,x1,x2,x3,x4,x5,x6,x7,x8,x9,f,o,p,i,k,q,r,s,t,u,w,x,y,z,A,B,C,D,E,F,G,H,I,J,K,L,M,N,P,Q,R,U,V,m,n,l,W,X,Y,Z,a0,a1,g,a2,a3,a4,a5,a6,a7,a8,a9,b0,b1,b2,b3,b4,b5,b6,b7,b8,b9,c0,c1,c2,c3,c4,c5,c6,c7,c8,c9,d0,d1,d2,d3,d4,d5,d6,d7,d8,d9,f0,f1,f2,f3,f5,f6,f7,f8,f9,b,c,d]) S =
  (zM (wB zi BinOp.lss 3 (dem x1) (.int .i64 1) S) (fun v1 S1=>gdK (dem v1) false (ret x1) S1 (fun v3 S2=>gdK (dem v1) false (wB zi BinOp.gtr 3 (dem v3) (.int .i64 7)) S2 (fun v4 S3=>zM (qJ (dem v1) (Value.bool true) v4 S3) (fun v5 S4=>gdK (dem v5) false (ret x0) S4 (fun v7 S5=>gdK (dem v5) false (wB zi BinOp.lss 3 (dem v7) (.int .i64 0)) S5 (fun v8 S6=>zM (qJ (dem v5) (Value.bool true) v8 S6) (fun v9 S7=>gdK (dem v9) false (ret x0) S7 (fun g2 S8=>gdK (dem v9) false (ret x1) S8 (fun g1 S9=>gdK (dem v9) false (wB zi BinOp.geq 3 (dem g2) (dem g1)) S9 (fun g3 g5=>zM (qJ (dem v9) (Value.bool true) g3 g5) (fun g0 g6=>gdK (dem g0) false (ret x2) g6 (fun g4 g7=>gdK (dem g0) false (xY zi 28 (dem g4)) g7 (fun g9 g8=>gdK (dem g0) false (wB zi BinOp.gtr 3 g9 (.int .i64 200)) g8 (fun i0 i3=>zM (qJ (dem g0) (Value.bool true) i0 i3) (fun i4 i5=>some ([x0,x1,x2,x3,x4,x5,x6,x7,x8,x9,f,o,p,i,k,q,r,dem x1,v1,dem v1,dem v3,v4,v5,dem v5,dem v7,v8,v9,dem v9,dem g2,dem g1,g3,g0,dem g0,dem g4,g9,i0,i4,N,P,Q,R,U,V,m,n,l,W,X,Y,Z,a0,a1,g,a2,a3,a4,a5,a6,a7,a8,a9,b0,b1,b2,b3,b4,b5,b6,b7,b8,b9,c0,c1,c2,c3,c4,c5,c6,c7,c8,c9,d0,d1,d2,d3,d4,d5,d6,d7,d8,d9,f0,f1,f2,f3,f5,f6,f7,f8,f9,b,c,d],i5)) ()) ()) ()) ()) ()) ()) ()) ()) ()) ()) ()) ()) ()) ()) ()):=by
 refine sP Try.f4 3 0 (v:=x1) ?_
 refine sD Try.f4 3 1 (fun v1 S1=>?_)
 refine sP Try.f4 3 2 (v:=v1) ?_
 refine sG Try.f4 3 3 (j:=2) (fun v3 S2=>?_)
 refine sG Try.f4 3 4 (j:=2) (fun v4 S3=>?_)
 refine sD Try.f4 3 5 (fun v5 S4=>?_)
 refine sP Try.f4 3 6 (v:=v5) ?_
 refine sG Try.f4 3 7 (j:=6) (fun v7 S5=>?_)
 refine sG Try.f4 3 8 (j:=6) (fun v8 S6=>?_)
 refine sD Try.f4 3 9 (fun v9 S7=>?_)
 refine sP Try.f4 3 10 (v:=v9) ?_
 refine sG Try.f4 3 11 (j:=10) (fun g2 S8=>?_)
 refine sG Try.f4 3 12 (j:=10) (fun g1 S9=>?_)
 refine sG Try.f4 3 13 (j:=10) (fun g3 g5=>?_)
 refine sD Try.f4 3 14 (fun g0 g6=>?_)
 refine sP Try.f4 3 15 (v:=g0) ?_
 refine sG Try.f4 3 16 (j:=15) (fun g4 g7=>?_)
 refine sG Try.f4 3 17 (j:=15) (fun g9 g8=>?_)
 refine sG Try.f4 3 18 (j:=15) (fun i0 i3=>?_)
 refine sD Try.f4 3 19 (fun i4 i5=>?_)
 kernel_rfl
theorem zu.r4 :jk zi ⟨false,false,false⟩ (zU zi O) (reg Try.f4 4) (reg Try.f4 4).toList ([x0,x1,x2,x3,x4,x5,x6,x7,x8,x9,f,o,p,i,k,q,r,s,t,u,w,x,y,z,A,B,C,D,E,F,G,H,I,J,K,L,M,N,P,Q,R,U,V,m,n,l,W,X,Y,Z,a0,a1,g,a2,a3,a4,a5,a6,a7,a8,a9,b0,b1,b2,b3,b4,b5,b6,b7,b8,b9,c0,c1,c2,c3,c4,c5,c6,c7,c8,c9,d0,d1,d2,d3,d4,d5,d6,d7,d8,d9,f0,f1,f2,f3,f5,f6,f7,f8,f9,b,c,d]) S =
  ( some ([x0,x1,x2,x3,x4,x5,Value.bool true,x7,x8,x9,f,o,p,i,k,q,r,s,t,u,w,x,y,z,A,B,C,D,E,F,G,H,I,J,K,L,M,N,P,Q,R,U,V,m,n,l,W,X,Y,Z,a0,a1,g,a2,a3,a4,a5,a6,a7,a8,a9,b0,b1,b2,b3,b4,b5,b6,b7,b8,b9,c0,c1,c2,c3,c4,c5,c6,c7,c8,c9,d0,d1,d2,d3,d4,d5,d6,d7,d8,d9,f0,f1,f2,f3,f5,f6,f7,f8,f9,b,c,d],S)):=by
 kernel_rfl
theorem zu.r5 :jk zi ⟨false,false,false⟩ (zU zi O) (reg Try.f4 5) (reg Try.f4 5).toList ([x0,x1,x2,x3,x4,x5,x6,x7,x8,x9,f,o,p,i,k,q,r,s,t,u,w,x,y,z,A,B,C,D,E,F,G,H,I,J,K,L,M,N,P,Q,R,U,V,m,n,l,W,X,Y,Z,a0,a1,g,a2,a3,a4,a5,a6,a7,a8,a9,b0,b1,b2,b3,b4,b5,b6,b7,b8,b9,c0,c1,c2,c3,c4,c5,c6,c7,c8,c9,d0,d1,d2,d3,d4,d5,d6,d7,d8,d9,f0,f1,f2,f3,f5,f6,f7,f8,f9,b,c,d]) S =
  (zM ((zU zi O) 9 [(dem (dem x0)),(dem (dem x1))] S) (fun v2 S1=>some ([x0,x1,x2,x3,x4,x5,x6,v2,x8,x9,f,o,p,i,k,q,r,s,t,u,w,x,y,z,A,B,C,D,E,F,G,H,I,J,K,L,M,dem x0,dem x1,dem v2,R,U,V,m,n,l,W,X,Y,Z,a0,a1,g,a2,a3,a4,a5,a6,a7,a8,a9,b0,b1,b2,b3,b4,b5,b6,b7,b8,b9,c0,c1,c2,c3,c4,c5,c6,c7,c8,c9,d0,d1,d2,d3,d4,d5,d6,d7,d8,d9,f0,f1,f2,f3,f5,f6,f7,f8,f9,b,c,d],S1)) ()):=by
 kernel_rfl
theorem zu.r6 :jk zi ⟨false,false,false⟩ (zU zi O) (reg Try.f4 6) (reg Try.f4 6).toList ([x0,x1,x2,x3,x4,x5,x6,x7,x8,x9,f,o,p,i,k,q,r,s,t,u,w,x,y,z,A,B,C,D,E,F,G,H,I,J,K,L,M,N,P,Q,R,U,V,m,n,l,W,X,Y,Z,a0,a1,g,a2,a3,a4,a5,a6,a7,a8,a9,b0,b1,b2,b3,b4,b5,b6,b7,b8,b9,c0,c1,c2,c3,c4,c5,c6,c7,c8,c9,d0,d1,d2,d3,d4,d5,d6,d7,d8,d9,f0,f1,f2,f3,f5,f6,f7,f8,f9,b,c,d]) S =
  (zM (wK zi 31 [(0,(dem (dem x0))),(1,(dem (dem x1)))] S) (fun v2 S1=>zM (ql zi 31 S1) (fun v3 S2=>zM (jX zi 31 v3 (dem v2) S2) (fun v4 S3=>some ([x0,x1,x2,x3,x4,x5,x6,x7,v3,x9,f,o,p,i,k,q,r,s,t,u,w,x,y,z,A,B,C,D,E,F,G,H,I,J,K,L,M,N,P,Q,dem x0,dem x1,v2,m,n,l,W,X,Y,Z,a0,a1,g,a2,a3,a4,a5,a6,a7,a8,a9,b0,b1,b2,b3,b4,b5,b6,b7,b8,b9,c0,c1,c2,c3,c4,c5,c6,c7,c8,c9,d0,d1,d2,d3,d4,d5,d6,d7,d8,d9,f0,f1,f2,f3,f5,f6,f7,f8,f9,b,c,d],S3)) ()) ()) ()):=by
 kernel_rfl
theorem zu.r7 :jk zi ⟨false,false,false⟩ (zU zi O) (reg Try.f4 7) (reg Try.f4 7).toList ([x0,x1,x2,x3,x4,x5,x6,x7,x8,x9,f,o,p,i,k,q,r,s,t,u,w,x,y,z,A,B,C,D,E,F,G,H,I,J,K,L,M,N,P,Q,R,U,V,m,n,l,W,X,Y,Z,a0,a1,g,a2,a3,a4,a5,a6,a7,a8,a9,b0,b1,b2,b3,b4,b5,b6,b7,b8,b9,c0,c1,c2,c3,c4,c5,c6,c7,c8,c9,d0,d1,d2,d3,d4,d5,d6,d7,d8,d9,f0,f1,f2,f3,f5,f6,f7,f8,f9,b,c,d]) S =
  (zM (xY zi 28 (dem x2) S) (fun v1 S1=>some ([x0,x1,x2,x3,x4,x5,x6,x7,x8,x9,f,o,p,i,k,q,r,s,t,u,w,x,y,z,A,B,C,D,E,F,G,H,I,J,K,L,M,N,P,Q,R,U,V,dem x2,v1,.int .i64 0,W,X,Y,Z,a0,a1,g,a2,a3,a4,a5,a6,a7,a8,a9,b0,b1,b2,b3,b4,b5,b6,b7,b8,b9,c0,c1,c2,c3,c4,c5,c6,c7,c8,c9,d0,d1,d2,d3,d4,d5,d6,d7,d8,d9,f0,f1,f2,f3,f5,f6,f7,f8,f9,b,c,d],S1)) ()):=by
 kernel_rfl
theorem zu.r8 :jk zi ⟨false,false,false⟩ (zU zi O) (reg Try.f4 8) (reg Try.f4 8).toList ([x0,x1,x2,x3,x4,x5,x6,x7,x8,x9,f,o,p,i,k,q,r,s,t,u,w,x,y,z,A,B,C,D,E,F,G,H,I,J,K,L,M,N,P,Q,R,U,V,m,n,l,W,X,Y,Z,a0,a1,g,a2,a3,a4,a5,a6,a7,a8,a9,b0,b1,b2,b3,b4,b5,b6,b7,b8,b9,c0,c1,c2,c3,c4,c5,c6,c7,c8,c9,d0,d1,d2,d3,d4,d5,d6,d7,d8,d9,f0,f1,f2,f3,f5,f6,f7,f8,f9,b,c,d]) S =
  (zM (wB zi BinOp.lss 3 l n S) (fun v0 S1=>some ([x0,x1,x2,x3,x4,x5,x6,x7,x8,x9,f,o,p,i,k,q,r,s,t,u,w,x,y,z,A,B,C,D,E,F,G,H,I,J,K,L,M,N,P,Q,R,U,V,m,n,l,v0,X,Y,Z,a0,a1,g,a2,a3,a4,a5,a6,a7,a8,a9,b0,b1,b2,b3,b4,b5,b6,b7,b8,b9,c0,c1,c2,c3,c4,c5,c6,c7,c8,c9,d0,d1,d2,d3,d4,d5,d6,d7,d8,d9,f0,f1,f2,f3,f5,f6,f7,f8,f9,b,c,d],S1)) ()):=by
 kernel_rfl
theorem zu.r9 :jk zi ⟨false,false,false⟩ (zU zi O) (reg Try.f4 9) (reg Try.f4 9).toList ([x0,x1,x2,x3,x4,x5,x6,x7,x8,x9,f,o,p,i,k,q,r,s,t,u,w,x,y,z,A,B,C,D,E,F,G,H,I,J,K,L,M,N,P,Q,R,U,V,m,n,l,W,X,Y,Z,a0,a1,g,a2,a3,a4,a5,a6,a7,a8,a9,b0,b1,b2,b3,b4,b5,b6,b7,b8,b9,c0,c1,c2,c3,c4,c5,c6,c7,c8,c9,d0,d1,d2,d3,d4,d5,d6,d7,d8,d9,f0,f1,f2,f3,f5,f6,f7,f8,f9,b,c,d]) S =
  (zM (zO zi 28 m l S) (fun v0 S1=>zM (zW zi false 33 v0 S1) (fun v1 S2=>zM (ql zi 33 S2) (fun v2 S3=>zM (jX zi 33 v2 (dem v1) S3) (fun v3 S4=>some ([x0,x1,x2,x3,x4,x5,x6,x7,x8,x9,v2,o,p,i,k,q,r,s,t,u,w,x,y,z,A,B,C,D,E,F,G,H,I,J,K,L,M,N,P,Q,R,U,V,m,n,l,W,v0,v1,Z,a0,a1,g,a2,a3,a4,a5,a6,a7,a8,a9,b0,b1,b2,b3,b4,b5,b6,b7,b8,b9,c0,c1,c2,c3,c4,c5,c6,c7,c8,c9,d0,d1,d2,d3,d4,d5,d6,d7,d8,d9,f0,f1,f2,f3,f5,f6,f7,f8,f9,b,c,d],S4)) ()) ()) ()) ()):=by
 kernel_rfl
theorem zu.r10 :jk zi ⟨false,false,false⟩ (zU zi O) (reg Try.f4 10) (reg Try.f4 10).toList ([x0,x1,x2,x3,x4,x5,x6,x7,x8,x9,f,o,p,i,k,q,r,s,t,u,w,x,y,z,A,B,C,D,E,F,G,H,I,J,K,L,M,N,P,Q,R,U,V,m,n,l,W,X,Y,Z,a0,a1,g,a2,a3,a4,a5,a6,a7,a8,a9,b0,b1,b2,b3,b4,b5,b6,b7,b8,b9,c0,c1,c2,c3,c4,c5,c6,c7,c8,c9,d0,d1,d2,d3,d4,d5,d6,d7,d8,d9,f0,f1,f2,f3,f5,f6,f7,f8,f9,b,c,d]) S =
  (zM (jl zi 26 0 [] S) (fun v0 S1=>zM (jl zi 26 0 [] S1) (fun v1 S2=>some ([x0,x1,x2,x3,x4,x5,x6,x7,x8,x9,f,v0,v1,i,k,q,r,s,t,u,w,x,y,z,A,B,C,D,E,F,G,H,I,J,K,L,M,N,P,Q,R,U,V,m,n,l,W,X,Y,dem v0,dem v1,a1,g,a2,a3,a4,a5,a6,a7,a8,a9,b0,b1,b2,b3,b4,b5,b6,b7,b8,b9,c0,c1,c2,c3,c4,c5,c6,c7,c8,c9,d0,d1,d2,d3,d4,d5,d6,d7,d8,d9,f0,f1,f2,f3,f5,f6,f7,f8,f9,b,c,d],S2)) ()) ()):=by
 kernel_rfl
theorem zu.r11 :jk zi ⟨false,false,false⟩ (zU zi O) (reg Try.f4 11) (reg Try.f4 11).toList ([x0,x1,x2,x3,x4,x5,x6,x7,x8,x9,f,o,p,i,k,q,r,s,t,u,w,x,y,z,A,B,C,D,E,F,G,H,I,J,K,L,M,N,P,Q,R,U,V,m,n,l,W,X,Y,Z,a0,a1,g,a2,a3,a4,a5,a6,a7,a8,a9,b0,b1,b2,b3,b4,b5,b6,b7,b8,b9,c0,c1,c2,c3,c4,c5,c6,c7,c8,c9,d0,d1,d2,d3,d4,d5,d6,d7,d8,d9,f0,f1,f2,f3,f5,f6,f7,f8,f9,b,c,d]) S =
  ( some ([x0,x1,x2,x3,x4,x5,x6,x7,x8,x9,f,o,p,Value.bool false,Value.bool false,q,r,s,t,u,w,x,y,z,A,B,C,D,E,F,G,H,I,J,K,L,M,N,P,Q,R,U,V,m,n,l,W,X,Y,Z,a0,a1,g,a2,a3,a4,a5,a6,a7,a8,a9,b0,b1,b2,b3,b4,b5,b6,b7,b8,b9,c0,c1,c2,c3,c4,c5,c6,c7,c8,c9,d0,d1,d2,d3,d4,d5,d6,d7,d8,d9,f0,f1,f2,f3,f5,f6,f7,f8,f9,b,c,d],S)):=by
 kernel_rfl
theorem zu.r12 :jk zi ⟨false,false,false⟩ (zU zi O) (reg Try.f4 12) (reg Try.f4 12).toList ([x0,x1,x2,x3,x4,x5,x6,x7,x8,x9,f,o,p,i,k,q,r,s,t,u,w,x,y,z,A,B,C,D,E,F,G,H,I,J,K,L,M,N,P,Q,R,U,V,m,n,l,W,X,Y,Z,a0,a1,g,a2,a3,a4,a5,a6,a7,a8,a9,b0,b1,b2,b3,b4,b5,b6,b7,b8,b9,c0,c1,c2,c3,c4,c5,c6,c7,c8,c9,d0,d1,d2,d3,d4,d5,d6,d7,d8,d9,f0,f1,f2,f3,f5,f6,f7,f8,f9,b,c,d]) S =
  (zM (zI zi 33 f 0 S) (fun v0 S1=>zM (zW zi false 3 v0 S1) (fun v1 S2=>some ([x0,x1,x2,x3,x4,x5,x6,x7,x8,x9,f,o,p,i,k,q,r,s,t,u,w,x,y,z,A,B,C,D,E,F,G,H,I,J,K,L,M,N,P,Q,R,U,V,m,n,l,W,X,Y,Z,a0,v0,v1,a2,a3,a4,a5,a6,a7,a8,a9,b0,b1,b2,b3,b4,b5,b6,b7,b8,b9,c0,c1,c2,c3,c4,c5,c6,c7,c8,c9,d0,d1,d2,d3,d4,d5,d6,d7,d8,d9,f0,f1,f2,f3,f5,f6,f7,f8,f9,b,c,d],S2)) ()) ()):=by
 kernel_rfl
theorem zu.r13 :jk zi ⟨false,false,false⟩ (zU zi O) (reg Try.f4 13) (reg Try.f4 13).toList ([x0,x1,x2,x3,x4,x5,x6,x7,x8,x9,f,o,p,i,k,q,r,s,t,u,w,x,y,z,A,B,C,D,E,F,G,H,I,J,K,L,M,N,P,Q,R,U,V,m,n,l,W,X,Y,Z,a0,a1,g,a2,a3,a4,a5,a6,a7,a8,a9,b0,b1,b2,b3,b4,b5,b6,b7,b8,b9,c0,c1,c2,c3,c4,c5,c6,c7,c8,c9,d0,d1,d2,d3,d4,d5,d6,d7,d8,d9,f0,f1,f2,f3,f5,f6,f7,f8,f9,b,c,d]) S =
  (zM (wB zi BinOp.eql 3 g (.int .i64 0) S) (fun v0 S1=>some ([x0,x1,x2,x3,x4,x5,x6,x7,x8,x9,f,o,p,i,k,q,r,s,t,u,w,x,y,z,A,B,C,D,E,F,G,H,I,J,K,L,M,N,P,Q,R,U,V,m,n,l,W,X,Y,Z,a0,a1,g,v0,dem v0,a4,a5,a6,a7,a8,a9,b0,b1,b2,b3,b4,b5,b6,b7,b8,b9,c0,c1,c2,c3,c4,c5,c6,c7,c8,c9,d0,d1,d2,d3,d4,d5,d6,d7,d8,d9,f0,f1,f2,f3,f5,f6,f7,f8,f9,b,c,d],S1)) ()):=by
 kernel_rfl
theorem zu.r14 :jk zi ⟨false,false,false⟩ (zU zi O) (reg Try.f4 14) (reg Try.f4 14).toList ([x0,x1,x2,x3,x4,x5,x6,x7,x8,x9,f,o,p,i,k,q,r,s,t,u,w,x,y,z,A,B,C,D,E,F,G,H,I,J,K,L,M,N,P,Q,R,U,V,m,n,l,W,X,Y,Z,a0,a1,g,a2,a3,a4,a5,a6,a7,a8,a9,b0,b1,b2,b3,b4,b5,b6,b7,b8,b9,c0,c1,c2,c3,c4,c5,c6,c7,c8,c9,d0,d1,d2,d3,d4,d5,d6,d7,d8,d9,f0,f1,f2,f3,f5,f6,f7,f8,f9,b,c,d]) S =
  (zM (zI zi 33 f 1 S) (fun v1 S1=>zM (zW zi false 3 v1 S1) (fun v2 S2=>zM ((zU zi O) 10 [(dem (dem x7)),(dem v2)] S2) (fun v3 S3=>some ([x0,x1,x2,x3,x4,x5,x6,x7,x8,x9,f,o,p,v3,k,q,r,s,t,u,w,x,y,z,A,B,C,D,E,F,G,H,I,J,K,L,M,N,P,Q,R,U,V,m,n,l,W,X,Y,Z,a0,a1,g,a2,a3,dem x7,v1,v2,dem v3,a8,a9,b0,b1,b2,b3,b4,b5,b6,b7,b8,b9,c0,c1,c2,c3,c4,c5,c6,c7,c8,c9,d0,d1,d2,d3,d4,d5,d6,d7,d8,d9,f0,f1,f2,f3,f5,f6,f7,f8,f9,b,c,d],S3)) ()) ()) ()):=by
 kernel_rfl
theorem zu.r15 :jk zi ⟨false,false,false⟩ (zU zi O) (reg Try.f4 15) (reg Try.f4 15).toList ([x0,x1,x2,x3,x4,x5,x6,x7,x8,x9,f,o,p,i,k,q,r,s,t,u,w,x,y,z,A,B,C,D,E,F,G,H,I,J,K,L,M,N,P,Q,R,U,V,m,n,l,W,X,Y,Z,a0,a1,g,a2,a3,a4,a5,a6,a7,a8,a9,b0,b1,b2,b3,b4,b5,b6,b7,b8,b9,c0,c1,c2,c3,c4,c5,c6,c7,c8,c9,d0,d1,d2,d3,d4,d5,d6,d7,d8,d9,f0,f1,f2,f3,f5,f6,f7,f8,f9,b,c,d]) S =
  (zM (zW zi false 31 x8 S) (fun v0 S1=>zM (zI zi 33 f 1 S1) (fun v1 S2=>zM (zW zi false 3 v1 S2) (fun v2 S3=>zM ((zU zi O) 12 [(dem v0),(dem v2)] S3) (fun v3 S4=>zM (zQ v3 0 S4) (fun v5 S5=>zM (zQ (jv 0 v3) 1 S5) (fun v6 S6=>zM (jX zi 31 x8 (dem v5) S6) (fun v7 S7=>some ([x0,x1,x2,x3,x4,x5,x6,x7,x8,x9,f,o,p,i,v6,q,r,s,t,u,w,x,y,z,A,B,C,D,E,F,G,H,I,J,K,L,M,N,P,Q,R,U,V,m,n,l,W,X,Y,Z,a0,a1,g,a2,a3,a4,a5,a6,a7,jv 1 (jv 0 v3),v0,v1,v2,dem v3,v5,dem v6,b5,b6,b7,b8,b9,c0,c1,c2,c3,c4,c5,c6,c7,c8,c9,d0,d1,d2,d3,d4,d5,d6,d7,d8,d9,f0,f1,f2,f3,f5,f6,f7,f8,f9,b,c,d],S7)) ()) ()) ()) ()) ()) ()) ()):=by
 kernel_rfl
theorem zu.r16 :jk zi ⟨false,false,false⟩ (zU zi O) (reg Try.f4 16) (reg Try.f4 16).toList ([x0,x1,x2,x3,x4,x5,x6,x7,x8,x9,f,o,p,i,k,q,r,s,t,u,w,x,y,z,A,B,C,D,E,F,G,H,I,J,K,L,M,N,P,Q,R,U,V,m,n,l,W,X,Y,Z,a0,a1,g,a2,a3,a4,a5,a6,a7,a8,a9,b0,b1,b2,b3,b4,b5,b6,b7,b8,b9,c0,c1,c2,c3,c4,c5,c6,c7,c8,c9,d0,d1,d2,d3,d4,d5,d6,d7,d8,d9,f0,f1,f2,f3,f5,f6,f7,f8,f9,b,c,d]) S =
  (zM (wB zi BinOp.eql 3 g (.int .i64 1) S) (fun v0 S1=>some ([x0,x1,x2,x3,x4,x5,x6,x7,x8,x9,f,o,p,i,k,q,r,s,t,u,w,x,y,z,A,B,C,D,E,F,G,H,I,J,K,L,M,N,P,Q,R,U,V,m,n,l,W,X,Y,Z,a0,a1,g,a2,a3,a4,a5,a6,a7,a8,a9,b0,b1,b2,b3,b4,v0,dem v0,b7,b8,b9,c0,c1,c2,c3,c4,c5,c6,c7,c8,c9,d0,d1,d2,d3,d4,d5,d6,d7,d8,d9,f0,f1,f2,f3,f5,f6,f7,f8,f9,b,c,d],S1)) ()):=by
 kernel_rfl
theorem zu.r17 :jk zi ⟨false,false,false⟩ (zU zi O) (reg Try.f4 17) (reg Try.f4 17).toList ([x0,x1,x2,x3,x4,x5,x6,x7,x8,x9,f,o,p,i,k,q,r,s,t,u,w,x,y,z,A,B,C,D,E,F,G,H,I,J,K,L,M,N,P,Q,R,U,V,m,n,l,W,X,Y,Z,a0,a1,g,a2,a3,a4,a5,a6,a7,a8,a9,b0,b1,b2,b3,b4,b5,b6,b7,b8,b9,c0,c1,c2,c3,c4,c5,c6,c7,c8,c9,d0,d1,d2,d3,d4,d5,d6,d7,d8,d9,f0,f1,f2,f3,f5,f6,f7,f8,f9,b,c,d]) S =
  (zM (zI zi 33 f 1 S) (fun v1 S1=>zM (zW zi false 3 v1 S1) (fun v2 S2=>zM ((zU zi O) 13 [(dem (dem x7)),(dem v2)] S2) (fun v3 S3=>some ([x0,x1,x2,x3,x4,x5,x6,x7,x8,x9,f,o,p,i,k,q,r,s,t,u,w,x,y,z,A,B,C,D,E,F,G,H,I,J,K,L,M,N,P,Q,R,U,V,m,n,l,W,X,Y,Z,a0,a1,g,a2,a3,a4,a5,a6,a7,a8,a9,b0,b1,b2,b3,b4,b5,b6,dem x7,v1,v2,v3,c1,c2,c3,c4,c5,c6,c7,c8,c9,d0,d1,d2,d3,d4,d5,d6,d7,d8,d9,f0,f1,f2,f3,f5,f6,f7,f8,f9,b,c,d],S3)) ()) ()) ()):=by
 kernel_rfl
theorem zu.r18 :jk zi ⟨false,false,false⟩ (zU zi O) (reg Try.f4 18) (reg Try.f4 18).toList ([x0,x1,x2,x3,x4,x5,x6,x7,x8,x9,f,o,p,i,k,q,r,s,t,u,w,x,y,z,A,B,C,D,E,F,G,H,I,J,K,L,M,N,P,Q,R,U,V,m,n,l,W,X,Y,Z,a0,a1,g,a2,a3,a4,a5,a6,a7,a8,a9,b0,b1,b2,b3,b4,b5,b6,b7,b8,b9,c0,c1,c2,c3,c4,c5,c6,c7,c8,c9,d0,d1,d2,d3,d4,d5,d6,d7,d8,d9,f0,f1,f2,f3,f5,f6,f7,f8,f9,b,c,d]) S =
  (zM (zW zi false 31 x8 S) (fun v0 S1=>zM (zI zi 33 f 1 S1) (fun v1 S2=>zM (zW zi false 3 v1 S2) (fun v2 S3=>zM ((zU zi O) 14 [(dem v0),(dem v2)] S3) (fun v3 S4=>zM (jX zi 31 x8 (dem v3) S4) (fun v4 S5=>some ([x0,x1,x2,x3,x4,x5,x6,x7,x8,x9,f,o,p,i,k,q,r,s,t,u,w,x,y,z,A,B,C,D,E,F,G,H,I,J,K,L,M,N,P,Q,R,U,V,m,n,l,W,X,Y,Z,a0,a1,g,a2,a3,a4,a5,a6,a7,a8,a9,b0,b1,b2,b3,b4,b5,b6,b7,b8,b9,c0,v0,v1,v2,v3,c5,c6,c7,c8,c9,d0,d1,d2,d3,d4,d5,d6,d7,d8,d9,f0,f1,f2,f3,f5,f6,f7,f8,f9,b,c,d],S5)) ()) ()) ()) ()) ()):=by
 kernel_rfl
theorem zu.r19 :jk zi ⟨false,false,false⟩ (zU zi O) (reg Try.f4 19) (reg Try.f4 19).toList ([x0,x1,x2,x3,x4,x5,x6,x7,x8,x9,f,o,p,i,k,q,r,s,t,u,w,x,y,z,A,B,C,D,E,F,G,H,I,J,K,L,M,N,P,Q,R,U,V,m,n,l,W,X,Y,Z,a0,a1,g,a2,a3,a4,a5,a6,a7,a8,a9,b0,b1,b2,b3,b4,b5,b6,b7,b8,b9,c0,c1,c2,c3,c4,c5,c6,c7,c8,c9,d0,d1,d2,d3,d4,d5,d6,d7,d8,d9,f0,f1,f2,f3,f5,f6,f7,f8,f9,b,c,d]) S =
  (zM (wB zi BinOp.eql 3 g (.int .i64 2) S) (fun v0 S1=>some ([x0,x1,x2,x3,x4,x5,x6,x7,x8,x9,f,o,p,i,k,q,r,s,t,u,w,x,y,z,A,B,C,D,E,F,G,H,I,J,K,L,M,N,P,Q,R,U,V,m,n,l,W,X,Y,Z,a0,a1,g,a2,a3,a4,a5,a6,a7,a8,a9,b0,b1,b2,b3,b4,b5,b6,b7,b8,b9,c0,c1,c2,c3,c4,v0,dem v0,c7,c8,c9,d0,d1,d2,d3,d4,d5,d6,d7,d8,d9,f0,f1,f2,f3,f5,f6,f7,f8,f9,b,c,d],S1)) ()):=by
 kernel_rfl
theorem zu.r20 :jk zi ⟨false,false,false⟩ (zU zi O) (reg Try.f4 20) (reg Try.f4 20).toList ([x0,x1,x2,x3,x4,x5,x6,x7,x8,x9,f,o,p,i,k,q,r,s,t,u,w,x,y,z,A,B,C,D,E,F,G,H,I,J,K,L,M,N,P,Q,R,U,V,m,n,l,W,X,Y,Z,a0,a1,g,a2,a3,a4,a5,a6,a7,a8,a9,b0,b1,b2,b3,b4,b5,b6,b7,b8,b9,c0,c1,c2,c3,c4,c5,c6,c7,c8,c9,d0,d1,d2,d3,d4,d5,d6,d7,d8,d9,f0,f1,f2,f3,f5,f6,f7,f8,f9,b,c,d]) S =
  (zM ((zU zi O) 11 [(dem (dem x7))] S) (fun v1 S1=>some ([x0,x1,x2,x3,x4,x5,x6,x7,x8,x9,f,v1,p,i,k,q,r,s,t,u,w,x,y,z,A,B,C,D,E,F,G,H,I,J,K,L,M,N,P,Q,R,U,V,m,n,l,W,X,Y,Z,a0,a1,g,a2,a3,a4,a5,a6,a7,a8,a9,b0,b1,b2,b3,b4,b5,b6,b7,b8,b9,c0,c1,c2,c3,c4,c5,c6,dem x7,dem v1,c9,d0,d1,d2,d3,d4,d5,d6,d7,d8,d9,f0,f1,f2,f3,f5,f6,f7,f8,f9,b,c,d],S1)) ()):=by
 kernel_rfl
theorem zu.r21 :jk zi ⟨false,false,false⟩ (zU zi O) (reg Try.f4 21) (reg Try.f4 21).toList ([x0,x1,x2,x3,x4,x5,x6,x7,x8,x9,f,o,p,i,k,q,r,s,t,u,w,x,y,z,A,B,C,D,E,F,G,H,I,J,K,L,M,N,P,Q,R,U,V,m,n,l,W,X,Y,Z,a0,a1,g,a2,a3,a4,a5,a6,a7,a8,a9,b0,b1,b2,b3,b4,b5,b6,b7,b8,b9,c0,c1,c2,c3,c4,c5,c6,c7,c8,c9,d0,d1,d2,d3,d4,d5,d6,d7,d8,d9,f0,f1,f2,f3,f5,f6,f7,f8,f9,b,c,d]) S =
  (zM (zW zi false 31 x8 S) (fun v0 S1=>zM ((zU zi O) 15 [(dem v0)] S1) (fun v1 S2=>zM (zQ v1 0 S2) (fun v3 S3=>zM (zQ (jv 0 v1) 1 S3) (fun v4 S4=>zM (jX zi 31 x8 (dem v3) S4) (fun v5 S5=>some ([x0,x1,x2,x3,x4,x5,x6,x7,x8,x9,f,o,v4,i,k,q,r,s,t,u,w,x,y,z,A,B,C,D,E,F,G,H,I,J,K,L,M,N,P,Q,R,U,V,m,n,l,W,X,Y,Z,a0,a1,g,a2,a3,a4,a5,a6,a7,a8,a9,b0,b1,b2,b3,b4,b5,b6,b7,b8,b9,c0,c1,c2,c3,c4,c5,c6,c7,c8,jv 1 (jv 0 v1),v0,dem v1,v3,dem v4,d4,d5,d6,d7,d8,d9,f0,f1,f2,f3,f5,f6,f7,f8,f9,b,c,d],S5)) ()) ()) ()) ()) ()):=by
 kernel_rfl
theorem zu.d22:qL zi (reg Try.f4 22)=true:=by kernel_rfl
theorem zu.afI:fixed zi (reg Try.f4 22)=false:=by kernel_rfl
theorem zu.k22:checked zi (reg Try.f4 22)=[12,13]:=by kernel_rfl
theorem zu.g22:again zi (reg Try.f4 22)=[(13,11)]:=by kernel_rfl
theorem zu.r22 :zJ zi O false (.region 22 (reg Try.f4 22) true) ([x0,x1,x2,x3,x4,x5,x6,x7,x8,x9,f,o,p,i,k,q,r,s,t,u,w,x,y,z,A,B,C,D,E,F,G,H,I,J,K,L,M,N,P,Q,R,U,V,m,n,l,W,X,Y,Z,a0,a1,g,a2,a3,a4,a5,a6,a7,a8,a9,b0,b1,b2,b3,b4,b5,b6,b7,b8,b9,c0,c1,c2,c3,c4,c5,c6,c7,c8,c9,d0,d1,d2,d3,d4,d5,d6,d7,d8,d9,f0,f1,f2,f3,f5,f6,f7,f8,f9,b,c,d]) S =
  YO (zM (wB zi BinOp.neq 4 (dem i) (dem k) S) (fun v2 S1=>gdK (dem v2) false (ret o) S1 (fun v4 S2=>gdK (dem v2) false (ret p) S2 (fun v5 S3=>gdK (dem v2) false ((zU zi O) 16 [(dem (dem v4)),(dem (dem v5))]) S3 (fun v6 S4=>gdK (dem v2) false (aUn zi UnOp.not v6) S4 (fun v7 S5=>zM (qJ (dem v2) (Value.bool true) v7 S5) (fun v8 S6=>gdK (dem v8) false (ret x7) S6 (fun i1 S7=>gdK (dem v8) false ((zU zi O) 18 [(dem (dem i1))]) S7 (fun g2 S8=>aci (dem v8) false (zI zi 31 x8 2) S8 (fun g1 S9=>aci (dem v8) false (zW zi false 29 g1) S9 (fun g3 g5=>gdK (dem v8) false ((zU zi O) 17 [(dem g2),(dem g3)]) g5 (fun g0 g6=>gdK (dem v8) false (aUn zi UnOp.not g0) g6 (fun i2 g7=>zM (qJ (dem v8) (Value.bool true) i2 g7) (fun g4 g8=>ckK (kM g1 S7 S9 && (true)) (some ([x0,x1,x2,x3,x4,x5,x6,x7,x8,x9,f,o,p,i,k,q,r,s,t,u,w,x,y,z,A,B,C,D,E,F,G,H,I,J,K,L,M,N,P,Q,R,U,V,m,n,l,W,X,Y,Z,a0,a1,g,a2,a3,a4,a5,a6,a7,a8,a9,b0,b1,b2,b3,b4,b5,b6,b7,b8,b9,c0,c1,c2,c3,c4,c5,c6,c7,c8,c9,d0,d1,d2,d3,dem i,dem k,v2,dem v2,dem v4,dem v5,v6,v7,v8,dem v8,dem i1,g2,g1,g3,g0,i2,g4,d],g8)) ()) ()) ()) ()) ()) ()) ()) ()) ()) ()) ()) ()) ()) ()):=by
 rw [qF zu.d22 zu.afI zu.k22 zu.g22]
 refine congrArg YO ?_
 refine uP Try.f4 22 0 (v:=i) (pe:=zh) ?_
 refine uP Try.f4 22 1 (v:=k) (pe:=zh) ?_
 refine uD Try.f4 22 2 (pe:=zh) (fun v2 S1=>?_)
 refine uP Try.f4 22 3 (v:=v2) (pe:=zh) ?_
 refine uG Try.f4 22 4 (j:=3) (pe:=zh) (fun v4 S2=>?_)
 refine uG Try.f4 22 5 (j:=3) (pe:=zh) (fun v5 S3=>?_)
 refine uG Try.f4 22 6 (j:=3) (pe:=zh) (fun v6 S4=>?_)
 refine uG Try.f4 22 7 (j:=3) (pe:=zh) (fun v7 S5=>?_)
 refine uD Try.f4 22 8 (pe:=zh) (fun v8 S6=>?_)
 refine uP Try.f4 22 9 (v:=v8) (pe:=zh) ?_
 refine uG Try.f4 22 10 (j:=9) (pe:=zh) (fun i1 S7=>?_)
 refine uG Try.f4 22 11 (j:=9) (pe:=zh) (fun g2 S8=>?_)
 refine uGC Try.f4 22 12 (j:=9) (pe:=zh) (fun g1 S9=>?_)
 refine uGC Try.f4 22 13 (j:=9) (pe:=g1) (fun g3 g5=>?_)
 refine uG Try.f4 22 14 (j:=9) (pe:=zh) (fun g0 g6=>?_)
 refine uG Try.f4 22 15 (j:=9) (pe:=zh) (fun i2 g7=>?_)
 refine uD Try.f4 22 16 (pe:=zh) (fun g4 g8=>?_)
 kernel_rfl
theorem zu.r23 :jk zi ⟨false,false,false⟩ (zU zi O) (reg Try.f4 23) (reg Try.f4 23).toList ([x0,x1,x2,x3,x4,x5,x6,x7,x8,x9,f,o,p,i,k,q,r,s,t,u,w,x,y,z,A,B,C,D,E,F,G,H,I,J,K,L,M,N,P,Q,R,U,V,m,n,l,W,X,Y,Z,a0,a1,g,a2,a3,a4,a5,a6,a7,a8,a9,b0,b1,b2,b3,b4,b5,b6,b7,b8,b9,c0,c1,c2,c3,c4,c5,c6,c7,c8,c9,d0,d1,d2,d3,d4,d5,d6,d7,d8,d9,f0,f1,f2,f3,f5,f6,f7,f8,f9,b,c,d]) S =
  ( some ([x0,x1,x2,x3,x4,x5,Value.bool false,x7,x8,x9,f,o,p,i,k,q,r,s,t,u,w,x,y,z,A,B,C,D,E,F,G,H,I,J,K,L,M,N,P,Q,R,U,V,m,n,l,W,X,Y,Z,a0,a1,g,a2,a3,a4,a5,a6,a7,a8,a9,b0,b1,b2,b3,b4,b5,b6,b7,b8,b9,c0,c1,c2,c3,c4,c5,c6,c7,c8,c9,d0,d1,d2,d3,d4,d5,d6,d7,d8,d9,f0,f1,f2,f3,f5,f6,f7,f8,f9,b,c,d],S)):=by
 kernel_rfl
theorem zu.r24 :jk zi ⟨false,false,false⟩ (zU zi O) (reg Try.f4 24) (reg Try.f4 24).toList ([x0,x1,x2,x3,x4,x5,x6,x7,x8,x9,f,o,p,i,k,q,r,s,t,u,w,x,y,z,A,B,C,D,E,F,G,H,I,J,K,L,M,N,P,Q,R,U,V,m,n,l,W,X,Y,Z,a0,a1,g,a2,a3,a4,a5,a6,a7,a8,a9,b0,b1,b2,b3,b4,b5,b6,b7,b8,b9,c0,c1,c2,c3,c4,c5,c6,c7,c8,c9,d0,d1,d2,d3,d4,d5,d6,d7,d8,d9,f0,f1,f2,f3,f5,f6,f7,f8,f9,b,c,d]) S =
  (zM (wB zi BinOp.add 3 l (.int .i64 1) S) (fun v0 S1=>some ([x0,x1,x2,x3,x4,x5,x6,x7,x8,x9,f,o,p,i,k,q,r,s,t,u,w,x,y,z,A,B,C,D,E,F,G,H,I,J,K,L,M,N,P,Q,R,U,V,m,n,dem v0,W,X,Y,Z,a0,a1,g,a2,a3,a4,a5,a6,a7,a8,a9,b0,b1,b2,b3,b4,b5,b6,b7,b8,b9,c0,c1,c2,c3,c4,c5,c6,c7,c8,c9,d0,d1,d2,d3,d4,d5,d6,d7,d8,d9,f0,f1,f2,f3,f5,f6,f7,f8,f9,b,c,v0],S1)) ()):=by
 kernel_rfl
theorem zu.r25 :jk zi ⟨false,false,false⟩ (zU zi O) (reg Try.f4 25) (reg Try.f4 25).toList ([x0,x1,x2,x3,x4,x5,x6,x7,x8,x9,f,o,p,i,k,q,r,s,t,u,w,x,y,z,A,B,C,D,E,F,G,H,I,J,K,L,M,N,P,Q,R,U,V,m,n,l,W,X,Y,Z,a0,a1,g,a2,a3,a4,a5,a6,a7,a8,a9,b0,b1,b2,b3,b4,b5,b6,b7,b8,b9,c0,c1,c2,c3,c4,c5,c6,c7,c8,c9,d0,d1,d2,d3,d4,d5,d6,d7,d8,d9,f0,f1,f2,f3,f5,f6,f7,f8,f9,b,c,d]) S =
  ( some ([x0,x1,x2,x3,x4,x5,Value.bool true,x7,x8,x9,f,o,p,i,k,q,r,s,t,u,w,x,y,z,A,B,C,D,E,F,G,H,I,J,K,L,M,N,P,Q,R,U,V,m,n,l,W,X,Y,Z,a0,a1,g,a2,a3,a4,a5,a6,a7,a8,a9,b0,b1,b2,b3,b4,b5,b6,b7,b8,b9,c0,c1,c2,c3,c4,c5,c6,c7,c8,c9,d0,d1,d2,d3,d4,d5,d6,d7,d8,d9,f0,f1,f2,f3,f5,f6,f7,f8,f9,b,c,d],S)):=by
 kernel_rfl
theorem zu.rs:type_of% (afM @zu.r0 (afM @zu.r1 (afM @zu.r2 (afM @zu.r3 (afM @zu.r4 (afM @zu.r5 (afM @zu.r6 (afM @zu.r7 (afM @zu.r8 (afM @zu.r9 (afM @zu.r10 (afM @zu.r11 (afM @zu.r12 (afM @zu.r13 (afM @zu.r14 (afM @zu.r15 (afM @zu.r16 (afM @zu.r17 (afM @zu.r18 (afM @zu.r19 (afM @zu.r20 (afM @zu.r21 (afM @zu.r22 (afM @zu.r23 (afM @zu.r24 (@zu.r25)))))))))))))))))))))))))):=afM @zu.r0 (afM @zu.r1 (afM @zu.r2 (afM @zu.r3 (afM @zu.r4 (afM @zu.r5 (afM @zu.r6 (afM @zu.r7 (afM @zu.r8 (afM @zu.r9 (afM @zu.r10 (afM @zu.r11 (afM @zu.r12 (afM @zu.r13 (afM @zu.r14 (afM @zu.r15 (afM @zu.r16 (afM @zu.r17 (afM @zu.r18 (afM @zu.r19 (afM @zu.r20 (afM @zu.r21 (afM @zu.r22 (afM @zu.r23 (afM @zu.r24 (@zu.r25)))))))))))))))))))))))))
theorem zu.runs {x0 x1 x2:Value} {S S1:zy} {e:AEx} {T:List Value} (h:zJ zi O false zu.code ([x0,x1,x2,zh,zh,zh,zh,zh,zh,zh,zh,zh,zh,zh,zh,zh,zh,zh,zh,zh,zh,zh,zh,zh,zh,zh,zh,zh,zh,zh,zh,zh,zh,zh,zh,zh,zh,zh,zh,zh,zh,zh,zh,zh,zh,zh,zh,zh,zh,zh,zh,zh,zh,zh,zh,zh,zh,zh,zh,zh,zh,zh,zh,zh,zh,zh,zh,zh,zh,zh,zh,zh,zh,zh,zh,zh,zh,zh,zh,zh,zh,zh,zh,zh,zh,zh,zh,zh,zh,zh,zh,zh,zh,zh,zh,zh,zh,zh,zh,zh,zh,zh,zh]) S=some (e,T,S1)) (he:e=.normal∨e=.ret):zU zi O 4 [x0,x1,x2] S=some (T.getD 6 zh,S1) :=
 jS rfl rfl Try.func4 (by decide) zu.body (by exact h) he (wI (a:=T.getD 6 zh) ((show zN zi T S1 Try.f4.results.toList=zN zi T S1 [(ResultVar.tmp 6)] from by kernel_rfl).trans (by simp only [zN])) (by kernel_rfl))
end Go.Proofs.Ytpjglojnipjgfaa
namespace Go.Proofs.Ytpjglojnipjgfaa
open Go.Abs
abbrev zx.id:FuncId:=15
noncomputable def zx.zY:Code:=(.seq (.seq (.region 3 (reg Try.f15 3) false) (.cond (.tmp 14) Code.skip (.exit 0))) (.seq (.block 1 (.region 5 (reg Try.f15 5) false)) (.region 4 (reg Try.f15 4) false)))
noncomputable def zx.xq:Code:=(.seq (.region 9 (reg Try.f15 9) false) (.seq (.cond (.tmp 36) Code.skip (.exit 2)) (.seq (.block 3 (.seq (.region 10 (reg Try.f15 10) false) (.seq (.region 11 (reg Try.f15 11) false) (.cond (.tmp 46) (.seq (.region 12 (reg Try.f15 12) true) (.region 13 (reg Try.f15 13) false)) Code.skip)))) (.region 14 (reg Try.f15 14) false))))
noncomputable def zx.code:Code:=(.seq (.region 0 (reg Try.f15 0) false) (.seq (.region 1 (reg Try.f15 1) false) (.seq (.seq (.region 2 (reg Try.f15 2) false) (.block 0 (.loop zx.zY))) (.seq (.region 6 (reg Try.f15 6) false) (.seq (.region 7 (reg Try.f15 7) false) (.seq (.seq (.region 8 (reg Try.f15 8) false) (.block 2 (.loop zx.xq))) (.seq (.region 15 (reg Try.f15 15) false) (.seq (.region 16 (reg Try.f15 16) false) Code.ret))))))))
theorem zx.body:Try.f15.body=some zx.code:=by kernel_rfl
theorem zx.eta {T:List Value} (h:T.length=76):T=[T.getD 0 zh,T.getD 1 zh,T.getD 2 zh,T.getD 3 zh,T.getD 4 zh,T.getD 5 zh,T.getD 6 zh,T.getD 7 zh,T.getD 8 zh,T.getD 9 zh,T.getD 10 zh,T.getD 11 zh,T.getD 12 zh,T.getD 13 zh,T.getD 14 zh,T.getD 15 zh,T.getD 16 zh,T.getD 17 zh,T.getD 18 zh,T.getD 19 zh,T.getD 20 zh,T.getD 21 zh,T.getD 22 zh,T.getD 23 zh,T.getD 24 zh,T.getD 25 zh,T.getD 26 zh,T.getD 27 zh,T.getD 28 zh,T.getD 29 zh,T.getD 30 zh,T.getD 31 zh,T.getD 32 zh,T.getD 33 zh,T.getD 34 zh,T.getD 35 zh,T.getD 36 zh,T.getD 37 zh,T.getD 38 zh,T.getD 39 zh,T.getD 40 zh,T.getD 41 zh,T.getD 42 zh,T.getD 43 zh,T.getD 44 zh,T.getD 45 zh,T.getD 46 zh,T.getD 47 zh,T.getD 48 zh,T.getD 49 zh,T.getD 50 zh,T.getD 51 zh,T.getD 52 zh,T.getD 53 zh,T.getD 54 zh,T.getD 55 zh,T.getD 56 zh,T.getD 57 zh,T.getD 58 zh,T.getD 59 zh,T.getD 60 zh,T.getD 61 zh,T.getD 62 zh,T.getD 63 zh,T.getD 64 zh,T.getD 65 zh,T.getD 66 zh,T.getD 67 zh,T.getD 68 zh,T.getD 69 zh,T.getD 70 zh,T.getD 71 zh,T.getD 72 zh,T.getD 73 zh,T.getD 74 zh,T.getD 75 zh]:=(yF T 76 h).trans (by kernel_rfl)
variable (x0 x1 x2 x3 x4 x5 x6 x7 x8 x9 d f g i k l m n o p q r s t u w x y z A B C D b c a E F G H I J K L M N P Q R U V W X Y Z a0 a1 a2 a3 a4 a5 a6 a7 a8 a9 b0 b1 b2 b3 b4 b5 b6 b7 b8 b9 c1:Value) (S:zy)
theorem zx.r0 :jk zi ⟨true,false,false⟩ (jM O.hp true (zU zi O)) (reg Try.f15 0) (reg Try.f15 0).toList ([x0,x1,x2,x3,x4,x5,x6,x7,x8,x9,d,f,g,i,k,l,m,n,o,p,q,r,s,t,u,w,x,y,z,A,B,C,D,b,c,a,E,F,G,H,I,J,K,L,M,N,P,Q,R,U,V,W,X,Y,Z,a0,a1,a2,a3,a4,a5,a6,a7,a8,a9,b0,b1,b2,b3,b4,b5,b6,b7,b8,b9,c1]) S =
  (zM (Yp (dem x0) S) (fun v0 S1=>zM (ql zi 31 S1) (fun v1 S2=>some ([x0,v0,v1,Value.slice none 0 0,x4,x5,x6,x7,x8,x9,d,f,g,i,k,l,m,n,o,p,q,r,s,t,u,w,x,y,z,A,B,C,D,b,c,a,E,F,G,H,I,J,K,L,M,N,P,Q,R,U,V,W,X,Y,Z,a0,a1,a2,a3,a4,a5,a6,a7,a8,a9,b0,b1,b2,b3,b4,b5,b6,b7,b8,b9,c1],S2)) ()) ()):=by
 kernel_rfl
theorem zx.r1 :jk zi ⟨true,false,false⟩ (jM O.hp true (zU zi O)) (reg Try.f15 1) (reg Try.f15 1).toList ([x0,x1,x2,x3,x4,x5,x6,x7,x8,x9,d,f,g,i,k,l,m,n,o,p,q,r,s,t,u,w,x,y,z,A,B,C,D,b,c,a,E,F,G,H,I,J,K,L,M,N,P,Q,R,U,V,W,X,Y,Z,a0,a1,a2,a3,a4,a5,a6,a7,a8,a9,b0,b1,b2,b3,b4,b5,b6,b7,b8,b9,c1]) S =
  (zM (jf zi 29 0 [] S) (fun v0 S1=>some ([x0,x1,x2,x3,v0,x5,x6,x7,x8,x9,dem v0,f,g,i,k,l,m,n,o,p,q,r,s,t,u,w,x,y,z,A,B,C,D,b,c,a,E,F,G,H,I,J,K,L,M,N,P,Q,R,U,V,W,X,Y,Z,a0,a1,a2,a3,a4,a5,a6,a7,a8,a9,b0,b1,b2,b3,b4,b5,b6,b7,b8,b9,c1],S1)) ()):=by
 kernel_rfl
theorem zx.r2 :jk zi ⟨true,false,false⟩ (jM O.hp true (zU zi O)) (reg Try.f15 2) (reg Try.f15 2).toList ([x0,x1,x2,x3,x4,x5,x6,x7,x8,x9,d,f,g,i,k,l,m,n,o,p,q,r,s,t,u,w,x,y,z,A,B,C,D,b,c,a,E,F,G,H,I,J,K,L,M,N,P,Q,R,U,V,W,X,Y,Z,a0,a1,a2,a3,a4,a5,a6,a7,a8,a9,b0,b1,b2,b3,b4,b5,b6,b7,b8,b9,c1]) S =
  ( some ([x0,x1,x2,x3,x4,.int .i64 1,x6,x7,x8,x9,d,f,g,i,k,l,m,n,o,p,q,r,s,t,u,w,x,y,z,A,B,C,D,b,c,a,E,F,G,H,I,J,K,L,M,N,P,Q,R,U,V,W,X,Y,Z,a0,a1,a2,a3,a4,a5,a6,a7,a8,a9,b0,b1,b2,b3,b4,b5,b6,b7,b8,b9,c1],S)):=by
 kernel_rfl
theorem zx.r3 :jk zi ⟨true,false,false⟩ (jM O.hp true (zU zi O)) (reg Try.f15 3) (reg Try.f15 3).toList ([x0,x1,x2,x3,x4,x5,x6,x7,x8,x9,d,f,g,i,k,l,m,n,o,p,q,r,s,t,u,w,x,y,z,A,B,C,D,b,c,a,E,F,G,H,I,J,K,L,M,N,P,Q,R,U,V,W,X,Y,Z,a0,a1,a2,a3,a4,a5,a6,a7,a8,a9,b0,b1,b2,b3,b4,b5,b6,b7,b8,b9,c1]) S =
  (zM (zI zi 31 x1 1 S) (fun v1 S1=>zM (zW zi false 3 v1 S1) (fun v2 S2=>zM (wB zi BinOp.lss 3 (dem x5) v2 S2) (fun v3 S3=>some ([x0,x1,x2,x3,x4,x5,x6,x7,x8,x9,d,dem x5,v1,v2,v3,l,m,n,o,p,q,r,s,t,u,w,x,y,z,A,B,C,D,b,c,a,E,F,G,H,I,J,K,L,M,N,P,Q,R,U,V,W,X,Y,Z,a0,a1,a2,a3,a4,a5,a6,a7,a8,a9,b0,b1,b2,b3,b4,b5,b6,b7,b8,b9,c1],S3)) ()) ()) ()):=by
 kernel_rfl
theorem zx.r5 :jk zi ⟨true,false,false⟩ (jM O.hp true (zU zi O)) (reg Try.f15 5) (reg Try.f15 5).toList ([x0,x1,x2,x3,x4,x5,x6,x7,x8,x9,d,f,g,i,k,l,m,n,o,p,q,r,s,t,u,w,x,y,z,A,B,C,D,b,c,a,E,F,G,H,I,J,K,L,M,N,P,Q,R,U,V,W,X,Y,Z,a0,a1,a2,a3,a4,a5,a6,a7,a8,a9,b0,b1,b2,b3,b4,b5,b6,b7,b8,b9,c1]) S =
  (zM (zI zi 31 x1 0 S) (fun v1 S1=>zM (zW zi false 3 v1 S1) (fun v2 S2=>zM (wB zi BinOp.add 3 v2 (dem x5) S2) (fun v4 S3=>zM (zI zi 31 x1 1 S3) (fun v5 S4=>zM (zW zi false 3 v5 S4) (fun v6 S5=>zM (wB zi BinOp.rem 3 v4 v6 S5) (fun v7 S6=>zM (jf zi 29 1 [(0,(dem v7))] S6) (fun v8 S7=>zM (jW zi true 29 29 x4 v8 S7) (fun v9 S8=>some ([x0,x1,x2,x3,v9,x5,x6,x7,x8,x9,d,f,g,i,k,l,m,dem x4,v1,v2,dem x5,v4,v5,v6,v7,v8,dem v9,y,z,A,B,C,D,b,c,a,E,F,G,H,I,J,K,L,M,N,P,Q,R,U,V,W,X,Y,Z,a0,a1,a2,a3,a4,a5,a6,a7,a8,a9,b0,b1,b2,b3,b4,b5,b6,b7,b8,b9,c1],S8)) ()) ()) ()) ()) ()) ()) ()) ()):=by
 kernel_rfl
theorem zx.r4 :jk zi ⟨true,false,false⟩ (jM O.hp true (zU zi O)) (reg Try.f15 4) (reg Try.f15 4).toList ([x0,x1,x2,x3,x4,x5,x6,x7,x8,x9,d,f,g,i,k,l,m,n,o,p,q,r,s,t,u,w,x,y,z,A,B,C,D,b,c,a,E,F,G,H,I,J,K,L,M,N,P,Q,R,U,V,W,X,Y,Z,a0,a1,a2,a3,a4,a5,a6,a7,a8,a9,b0,b1,b2,b3,b4,b5,b6,b7,b8,b9,c1]) S =
  (zM (wB zi BinOp.add 3 (dem x5) (.int .i64 1) S) (fun v1 S1=>some ([x0,x1,x2,x3,x4,v1,x6,x7,x8,x9,d,f,g,i,k,dem x5,dem v1,n,o,p,q,r,s,t,u,w,x,y,z,A,B,C,D,b,c,a,E,F,G,H,I,J,K,L,M,N,P,Q,R,U,V,W,X,Y,Z,a0,a1,a2,a3,a4,a5,a6,a7,a8,a9,b0,b1,b2,b3,b4,b5,b6,b7,b8,b9,c1],S1)) ()):=by
 kernel_rfl
theorem zx.r6 :jk zi ⟨true,false,false⟩ (jM O.hp true (zU zi O)) (reg Try.f15 6) (reg Try.f15 6).toList ([x0,x1,x2,x3,x4,x5,x6,x7,x8,x9,d,f,g,i,k,l,m,n,o,p,q,r,s,t,u,w,x,y,z,A,B,C,D,b,c,a,E,F,G,H,I,J,K,L,M,N,P,Q,R,U,V,W,X,Y,Z,a0,a1,a2,a3,a4,a5,a6,a7,a8,a9,b0,b1,b2,b3,b4,b5,b6,b7,b8,b9,c1]) S =
  (zM (jf zi 26 0 [] S) (fun v0 S1=>some ([x0,x1,x2,x3,x4,x5,v0,x7,x8,x9,d,f,g,i,k,l,m,n,o,p,q,r,s,t,u,w,x,dem v0,z,A,B,C,D,b,c,a,E,F,G,H,I,J,K,L,M,N,P,Q,R,U,V,W,X,Y,Z,a0,a1,a2,a3,a4,a5,a6,a7,a8,a9,b0,b1,b2,b3,b4,b5,b6,b7,b8,b9,c1],S1)) ()):=by
 kernel_rfl
theorem zx.r7 :jk zi ⟨true,false,false⟩ (jM O.hp true (zU zi O)) (reg Try.f15 7) (reg Try.f15 7).toList ([x0,x1,x2,x3,x4,x5,x6,x7,x8,x9,d,f,g,i,k,l,m,n,o,p,q,r,s,t,u,w,x,y,z,A,B,C,D,b,c,a,E,F,G,H,I,J,K,L,M,N,P,Q,R,U,V,W,X,Y,Z,a0,a1,a2,a3,a4,a5,a6,a7,a8,a9,b0,b1,b2,b3,b4,b5,b6,b7,b8,b9,c1]) S =
  (zM (jf zi 29 0 [] S) (fun v0 S1=>zM (zI zi 31 x1 3 S1) (fun v1 S2=>zM (zW zi false 29 v1 S2) (fun v2 S3=>zM (jW zi true 29 29 v0 v2 S3) (fun v3 S4=>some ([x0,x1,x2,x3,x4,x5,x6,v3,x8,x9,d,f,g,i,k,l,m,n,o,p,q,r,s,t,u,w,x,y,dem v0,v1,v2,dem v3,D,b,c,a,E,F,G,H,I,J,K,L,M,N,P,Q,R,U,V,W,X,Y,Z,a0,a1,a2,a3,a4,a5,a6,a7,a8,a9,b0,b1,b2,b3,b4,b5,b6,b7,b8,b9,c1],S4)) ()) ()) ()) ()):=by
 kernel_rfl
theorem zx.r8 :jk zi ⟨true,false,false⟩ (jM O.hp true (zU zi O)) (reg Try.f15 8) (reg Try.f15 8).toList ([x0,x1,x2,x3,x4,x5,x6,x7,x8,x9,d,f,g,i,k,l,m,n,o,p,q,r,s,t,u,w,x,y,z,A,B,C,D,b,c,a,E,F,G,H,I,J,K,L,M,N,P,Q,R,U,V,W,X,Y,Z,a0,a1,a2,a3,a4,a5,a6,a7,a8,a9,b0,b1,b2,b3,b4,b5,b6,b7,b8,b9,c1]) S =
  (zM (zI zi 31 x1 2 S) (fun v0 S1=>zM (zW zi false 29 v0 S1) (fun v1 S2=>zM (xY zi 29 v1 S2) (fun v2 S3=>some ([x0,x1,x2,x3,x4,x5,x6,x7,x8,x9,d,f,g,i,k,l,m,n,o,p,q,r,s,t,u,w,x,y,z,A,B,C,v0,v1,v2,.int .i64 0,E,F,G,H,I,J,K,L,M,N,P,Q,R,U,V,W,X,Y,Z,a0,a1,a2,a3,a4,a5,a6,a7,a8,a9,b0,b1,b2,b3,b4,b5,b6,b7,b8,b9,c1],S3)) ()) ()) ()):=by
 kernel_rfl
theorem zx.r9 :jk zi ⟨true,false,false⟩ (jM O.hp true (zU zi O)) (reg Try.f15 9) (reg Try.f15 9).toList ([x0,x1,x2,x3,x4,x5,x6,x7,x8,x9,d,f,g,i,k,l,m,n,o,p,q,r,s,t,u,w,x,y,z,A,B,C,D,b,c,a,E,F,G,H,I,J,K,L,M,N,P,Q,R,U,V,W,X,Y,Z,a0,a1,a2,a3,a4,a5,a6,a7,a8,a9,b0,b1,b2,b3,b4,b5,b6,b7,b8,b9,c1]) S =
  (zM (wB zi BinOp.lss 3 a c S) (fun v0 S1=>some ([x0,x1,x2,x3,x4,x5,x6,x7,x8,x9,d,f,g,i,k,l,m,n,o,p,q,r,s,t,u,w,x,y,z,A,B,C,D,b,c,a,v0,F,G,H,I,J,K,L,M,N,P,Q,R,U,V,W,X,Y,Z,a0,a1,a2,a3,a4,a5,a6,a7,a8,a9,b0,b1,b2,b3,b4,b5,b6,b7,b8,b9,c1],S1)) ()):=by
 kernel_rfl
theorem zx.r10 :jk zi ⟨true,false,false⟩ (jM O.hp true (zU zi O)) (reg Try.f15 10) (reg Try.f15 10).toList ([x0,x1,x2,x3,x4,x5,x6,x7,x8,x9,d,f,g,i,k,l,m,n,o,p,q,r,s,t,u,w,x,y,z,A,B,C,D,b,c,a,E,F,G,H,I,J,K,L,M,N,P,Q,R,U,V,W,X,Y,Z,a0,a1,a2,a3,a4,a5,a6,a7,a8,a9,b0,b1,b2,b3,b4,b5,b6,b7,b8,b9,c1]) S =
  (zM (zO zi 29 b (dem a) S) (fun v1 S1=>zM (zW zi false 3 v1 S1) (fun v2 S2=>some ([x0,x1,x2,x3,x4,x5,x6,x7,a,v2,d,f,g,i,k,l,m,n,o,p,q,r,s,t,u,w,x,y,z,A,B,C,D,b,c,dem a,E,dem a,v1,dem v2,I,J,K,L,M,N,P,Q,R,U,V,W,X,Y,Z,a0,a1,a2,a3,a4,a5,a6,a7,a8,a9,b0,b1,b2,b3,b4,b5,b6,b7,b8,b9,c1],S2)) ()) ()):=by
 kernel_rfl
theorem zx.r11 :jk zi ⟨true,false,false⟩ (jM O.hp true (zU zi O)) (reg Try.f15 11) (reg Try.f15 11).toList ([x0,x1,x2,x3,x4,x5,x6,x7,x8,x9,d,f,g,i,k,l,m,n,o,p,q,r,s,t,u,w,x,y,z,A,B,C,D,b,c,a,E,F,G,H,I,J,K,L,M,N,P,Q,R,U,V,W,X,Y,Z,a0,a1,a2,a3,a4,a5,a6,a7,a8,a9,b0,b1,b2,b3,b4,b5,b6,b7,b8,b9,c1]) S =
  (zM (wB zi BinOp.lss 3 (dem x8) (.int .i64 8) S) (fun v1 S1=>gdK (dem v1) true (ret x4) S1 (fun v3 S2=>gdK (dem v1) true (xY zi 29 (dem v3)) S2 (fun v4 S3=>gdK (dem v1) true (wB zi BinOp.gtr 3 v4 (.int .i64 0)) S3 (fun v5 S4=>zM (qJ (dem v1) v5 (Value.bool false) S4) (fun v6 S5=>some ([x0,x1,x2,x3,x4,x5,x6,x7,x8,x9,d,f,g,i,k,l,m,n,o,p,q,r,s,t,u,w,x,y,z,A,B,C,D,b,c,a,E,F,G,H,dem x8,v1,dem v1,dem v3,v4,v5,v6,Q,R,U,V,W,X,Y,Z,a0,a1,a2,a3,a4,a5,a6,a7,a8,a9,b0,b1,b2,b3,b4,b5,b6,b7,b8,b9,c1],S5)) ()) ()) ()) ()) ()):=by
 refine sP Try.f15 11 0 (v:=x8) ?_
 refine sD Try.f15 11 1 (fun v1 S1=>?_)
 refine sP Try.f15 11 2 (v:=v1) ?_
 refine sG Try.f15 11 3 (j:=2) (fun v3 S2=>?_)
 refine sG Try.f15 11 4 (j:=2) (fun v4 S3=>?_)
 refine sG Try.f15 11 5 (j:=2) (fun v5 S4=>?_)
 refine sD Try.f15 11 6 (fun v6 S5=>?_)
 kernel_rfl
theorem zx.d12:qL zi (reg Try.f15 12)=true:=by kernel_rfl
theorem zx.afK:fixed zi (reg Try.f15 12)=false:=by kernel_rfl
theorem zx.k12:checked zi (reg Try.f15 12)=[0]:=by kernel_rfl
theorem zx.g12:again zi (reg Try.f15 12)=[]:=by kernel_rfl
theorem zx.r12 :zJ zi O true (.region 12 (reg Try.f15 12) true) ([x0,x1,x2,x3,x4,x5,x6,x7,x8,x9,d,f,g,i,k,l,m,n,o,p,q,r,s,t,u,w,x,y,z,A,B,C,D,b,c,a,E,F,G,H,I,J,K,L,M,N,P,Q,R,U,V,W,X,Y,Z,a0,a1,a2,a3,a4,a5,a6,a7,a8,a9,b0,b1,b2,b3,b4,b5,b6,b7,b8,b9,c1]) S =
  YO (okK x6 ( zM (zO zi 29 (dem x7) (dem x8) S) (fun v4 S1=>zM (zW zi false 3 v4 S1) (fun v5 S2=>zM (xY zi 29 (dem x4) S2) (fun v7 S3=>zM (wB zi BinOp.rem 3 v5 v7 S3) (fun v8 S4=>zM (zO zi 29 (dem x4) v8 S4) (fun v9 S5=>zM (zW zi false 3 v9 S5) (fun c3 S6=>zM (zI zi 31 x1 0 S6) (fun c4 S7=>zM (zW zi false 3 c4 S7) (fun c5 S8=>zM (wK zi 52 [(0,(.int .i64 2)),(1,(dem c5)),(4,(dem (dem x9)))] S8) (fun c6 S9=>zM (wK zi 54 [(0,(dem c3)),(1,(dem c6))] S9) (fun c7 c9=>zM (jf zi 26 1 [(0,(dem c7))] c9) (fun c8 d0=>zM (jW zi true 26 26 x6 c8 d0) (fun c2 d1=>some ([x0,x1,x2,x3,x4,x5,c2,x7,x8,x9,d,f,g,i,k,l,m,n,o,p,q,r,s,t,u,w,x,y,z,A,B,C,D,b,c,a,E,F,G,H,I,J,K,L,M,N,P,dem x6,dem x4,dem x7,dem x8,v4,v5,dem x4,v7,v8,v9,c3,c4,c5,dem x9,c6,c7,c8,dem c2,b0,b1,b2,b3,b4,b5,b6,b7,b8,b9,c1],d1)) ()) ()) ()) ()) ()) ()) ()) ()) ()) ()) ()) ()) ()):=by
 rw [Y2 zx.d12 zx.afK zx.k12 zx.g12]
 refine congrArg YO ?_
 refine tPC Try.f15 12 0 (v:=x6) ?_
 refine tP Try.f15 12 1 (v:=x4) ?_
 refine tP Try.f15 12 2 (v:=x7) ?_
 refine tP Try.f15 12 3 (v:=x8) ?_
 refine tD Try.f15 12 4 (fun v4 S1=>?_)
 refine tD Try.f15 12 5 (fun v5 S2=>?_)
 refine tP Try.f15 12 6 (v:=x4) ?_
 refine tD Try.f15 12 7 (fun v7 S3=>?_)
 refine tD Try.f15 12 8 (fun v8 S4=>?_)
 refine tD Try.f15 12 9 (fun v9 S5=>?_)
 refine tD Try.f15 12 10 (fun c3 S6=>?_)
 refine tD Try.f15 12 11 (fun c4 S7=>?_)
 refine tD Try.f15 12 12 (fun c5 S8=>?_)
 refine tP Try.f15 12 13 (v:=x9) ?_
 refine tD Try.f15 12 14 (fun c6 S9=>?_)
 refine tD Try.f15 12 15 (fun c7 c9=>?_)
 refine tD Try.f15 12 16 (fun c8 d0=>?_)
 refine tD Try.f15 12 17 (fun c2 d1=>?_)
 refine tP Try.f15 12 18 (v:=c2) ?_
 kernel_rfl
theorem zx.r13 :jk zi ⟨true,false,false⟩ (jM O.hp true (zU zi O)) (reg Try.f15 13) (reg Try.f15 13).toList ([x0,x1,x2,x3,x4,x5,x6,x7,x8,x9,d,f,g,i,k,l,m,n,o,p,q,r,s,t,u,w,x,y,z,A,B,C,D,b,c,a,E,F,G,H,I,J,K,L,M,N,P,Q,R,U,V,W,X,Y,Z,a0,a1,a2,a3,a4,a5,a6,a7,a8,a9,b0,b1,b2,b3,b4,b5,b6,b7,b8,b9,c1]) S =
  (zM (zO zi 29 (dem x7) (dem x8) S) (fun v2 S1=>zM (zW zi false 3 v2 S1) (fun v3 S2=>zM (wB zi BinOp.add 3 v3 (.int .i64 1) S2) (fun v4 S3=>zM (zO zi 29 (dem x7) (dem x8) S3) (fun v5 S4=>zM (jX zi 3 v5 (dem v4) S4) (fun v6 S5=>some ([x0,x1,x2,x3,x4,x5,x6,x7,x8,x9,d,f,g,i,k,l,m,n,o,p,q,r,s,t,u,w,x,y,z,A,B,C,D,b,c,a,E,F,G,H,I,J,K,L,M,N,P,Q,R,U,V,W,X,Y,Z,a0,a1,a2,a3,a4,a5,a6,a7,a8,a9,dem x7,dem x8,v2,v3,v4,v5,b6,b7,b8,b9,c1],S5)) ()) ()) ()) ()) ()):=by
 kernel_rfl
theorem zx.r14 :jk zi ⟨true,false,false⟩ (jM O.hp true (zU zi O)) (reg Try.f15 14) (reg Try.f15 14).toList ([x0,x1,x2,x3,x4,x5,x6,x7,x8,x9,d,f,g,i,k,l,m,n,o,p,q,r,s,t,u,w,x,y,z,A,B,C,D,b,c,a,E,F,G,H,I,J,K,L,M,N,P,Q,R,U,V,W,X,Y,Z,a0,a1,a2,a3,a4,a5,a6,a7,a8,a9,b0,b1,b2,b3,b4,b5,b6,b7,b8,b9,c1]) S =
  (zM (wB zi BinOp.add 3 a (.int .i64 1) S) (fun v0 S1=>some ([x0,x1,x2,x3,x4,x5,x6,x7,x8,x9,d,f,g,i,k,l,m,n,o,p,q,r,s,t,u,w,x,y,z,A,B,C,D,b,c,dem v0,E,F,G,H,I,J,K,L,M,N,P,Q,R,U,V,W,X,Y,Z,a0,a1,a2,a3,a4,a5,a6,a7,a8,a9,b0,b1,b2,b3,b4,b5,v0,b7,b8,b9,c1],S1)) ()):=by
 kernel_rfl
theorem zx.r15 :jk zi ⟨true,false,false⟩ (jM O.hp true (zU zi O)) (reg Try.f15 15) (reg Try.f15 15).toList ([x0,x1,x2,x3,x4,x5,x6,x7,x8,x9,d,f,g,i,k,l,m,n,o,p,q,r,s,t,u,w,x,y,z,A,B,C,D,b,c,a,E,F,G,H,I,J,K,L,M,N,P,Q,R,U,V,W,X,Y,Z,a0,a1,a2,a3,a4,a5,a6,a7,a8,a9,b0,b1,b2,b3,b4,b5,b6,b7,b8,b9,c1]) S =
  (zM (zI zi 31 x1 3 S) (fun v1 S1=>zM (jX zi 29 v1 (dem (dem x7)) S1) (fun v2 S2=>some ([x0,x1,x2,x3,x4,x5,x6,x7,x8,x9,d,f,g,i,k,l,m,n,o,p,q,r,s,t,u,w,x,y,z,A,B,C,D,b,c,a,E,F,G,H,I,J,K,L,M,N,P,Q,R,U,V,W,X,Y,Z,a0,a1,a2,a3,a4,a5,a6,a7,a8,a9,b0,b1,b2,b3,b4,b5,b6,dem x7,v1,b9,c1],S2)) ()) ()):=by
 kernel_rfl
theorem zx.r16 :jk zi ⟨true,false,false⟩ (jM O.hp true (zU zi O)) (reg Try.f15 16) (reg Try.f15 16).toList ([x0,x1,x2,x3,x4,x5,x6,x7,x8,x9,d,f,g,i,k,l,m,n,o,p,q,r,s,t,u,w,x,y,z,A,B,C,D,b,c,a,E,F,G,H,I,J,K,L,M,N,P,Q,R,U,V,W,X,Y,Z,a0,a1,a2,a3,a4,a5,a6,a7,a8,a9,b0,b1,b2,b3,b4,b5,b6,b7,b8,b9,c1]) S =
  (zM (zW zi false 31 x1 S) (fun v0 S1=>zM (jX zi 31 x2 (dem v0) S1) (fun v2 S2=>some ([x0,x1,x2,x6,x4,x5,dem x6,x7,x8,x9,d,f,g,i,k,l,m,n,o,p,q,r,s,t,u,w,x,y,z,A,B,C,D,b,c,a,E,F,G,H,I,J,K,L,M,N,P,Q,R,U,V,W,X,Y,Z,a0,a1,a2,a3,a4,a5,a6,a7,a8,a9,b0,b1,b2,b3,b4,b5,b6,b7,b8,v0,dem x6],S2)) ()) ()):=by
 kernel_rfl
theorem zx.rs:type_of% (afM @zx.r0 (afM @zx.r1 (afM @zx.r2 (afM @zx.r3 (afM @zx.r5 (afM @zx.r4 (afM @zx.r6 (afM @zx.r7 (afM @zx.r8 (afM @zx.r9 (afM @zx.r10 (afM @zx.r11 (afM @zx.r12 (afM @zx.r13 (afM @zx.r14 (afM @zx.r15 (@zx.r16))))))))))))))))):=afM @zx.r0 (afM @zx.r1 (afM @zx.r2 (afM @zx.r3 (afM @zx.r5 (afM @zx.r4 (afM @zx.r6 (afM @zx.r7 (afM @zx.r8 (afM @zx.r9 (afM @zx.r10 (afM @zx.r11 (afM @zx.r12 (afM @zx.r13 (afM @zx.r14 (afM @zx.r15 (@zx.r16))))))))))))))))
theorem zx.runs {x0:Value} {S S1:zy} {e:AEx} {T:List Value} (h:zJ zi O true zx.code ([x0,zh,zh,zh,zh,zh,zh,zh,zh,zh,zh,zh,zh,zh,zh,zh,zh,zh,zh,zh,zh,zh,zh,zh,zh,zh,zh,zh,zh,zh,zh,zh,zh,zh,zh,zh,zh,zh,zh,zh,zh,zh,zh,zh,zh,zh,zh,zh,zh,zh,zh,zh,zh,zh,zh,zh,zh,zh,zh,zh,zh,zh,zh,zh,zh,zh,zh,zh,zh,zh,zh,zh,zh,zh,zh,zh]) zy.empty=some (e,T,S1)) (he:e=.normal∨e=.ret) {w0:Value} (c0:zW zi false 31 (T.getD 2 zh) S1=some (w0,S1)) (h0:jV (w0)=true) (h1:jV (T.getD 3 zh)=true) (hca:[x0].all (jc 16)=true) (hcv:jc 16 (jB S1 16 (Value.tuple #[w0,T.getD 3 zh]))=true):zU zi O 15 [x0] S=some (jB S1 16 (Value.tuple #[w0,T.getD 3 zh]),S) :=
 WE rfl rfl Try.func15 (by decide) zx.body (by exact h) he ((JE ((show zN zi T S1 Try.f15.results.toList=zN zi T S1 [(ResultVar.cell 2 31),(ResultVar.tmp 3)] from by kernel_rfl).trans (by simp only [zN,c0])) (by kernel_rfl) (by simp only [List.all_cons,List.all_nil,h0,h1,Bool.and_true])).trans rfl) hca hcv
end Go.Proofs.Ytpjglojnipjgfaa
namespace Go.Proofs.Ytpjglojnipjgfaa
open Go.Abs
abbrev zC.id:FuncId:=12
noncomputable def zC.zY:Code:=(.seq (.region 5 (reg Try.f12 5) false) (.seq (.cond (.tmp 32) Code.skip (.exit 0)) (.seq (.block 1 (.seq (.region 6 (reg Try.f12 6) false) (.seq (.region 7 (reg Try.f12 7) false) (.cond (.tmp 37) (.seq (.region 8 (reg Try.f12 8) false) Code.ret) Code.skip)))) (.region 9 (reg Try.f12 9) false))))
noncomputable def zC.code:Code:=(.seq (.region 0 (reg Try.f12 0) false) (.seq (.region 1 (reg Try.f12 1) false) (.seq (.seq (.region 2 (reg Try.f12 2) false) (.cond (.tmp 26) (.seq (.region 3 (reg Try.f12 3) false) Code.ret) Code.skip)) (.seq (.seq (.region 4 (reg Try.f12 4) false) (.block 0 (.loop zC.zY))) (.seq (.region 10 (reg Try.f12 10) false) (.seq (.region 11 (reg Try.f12 11) false) (.seq (.region 12 (reg Try.f12 12) false) Code.ret)))))))
theorem zC.body:Try.f12.body=some zC.code:=by kernel_rfl
theorem zC.eta {T:List Value} (h:T.length=56):T=[T.getD 0 zh,T.getD 1 zh,T.getD 2 zh,T.getD 3 zh,T.getD 4 zh,T.getD 5 zh,T.getD 6 zh,T.getD 7 zh,T.getD 8 zh,T.getD 9 zh,T.getD 10 zh,T.getD 11 zh,T.getD 12 zh,T.getD 13 zh,T.getD 14 zh,T.getD 15 zh,T.getD 16 zh,T.getD 17 zh,T.getD 18 zh,T.getD 19 zh,T.getD 20 zh,T.getD 21 zh,T.getD 22 zh,T.getD 23 zh,T.getD 24 zh,T.getD 25 zh,T.getD 26 zh,T.getD 27 zh,T.getD 28 zh,T.getD 29 zh,T.getD 30 zh,T.getD 31 zh,T.getD 32 zh,T.getD 33 zh,T.getD 34 zh,T.getD 35 zh,T.getD 36 zh,T.getD 37 zh,T.getD 38 zh,T.getD 39 zh,T.getD 40 zh,T.getD 41 zh,T.getD 42 zh,T.getD 43 zh,T.getD 44 zh,T.getD 45 zh,T.getD 46 zh,T.getD 47 zh,T.getD 48 zh,T.getD 49 zh,T.getD 50 zh,T.getD 51 zh,T.getD 52 zh,T.getD 53 zh,T.getD 54 zh,T.getD 55 zh]:=(yF T 56 h).trans (by kernel_rfl)
variable (x0 x1 x2 x3 x4 x5 x6 x7 x8 x9 c a g i k l m n o p q r s t u w x y z d f b A B C D E F G H I J K L M N P Q R U V W X Y Z a0:Value) (S:zy)
theorem zC.r0 :jk zi ⟨false,false,false⟩ (zU zi O) (reg Try.f12 0) (reg Try.f12 0).toList ([x0,x1,x2,x3,x4,x5,x6,x7,x8,x9,c,a,g,i,k,l,m,n,o,p,q,r,s,t,u,w,x,y,z,d,f,b,A,B,C,D,E,F,G,H,I,J,K,L,M,N,P,Q,R,U,V,W,X,Y,Z,a0]) S =
  (zM (Yp (dem x0) S) (fun v0 S1=>zM (ql zi 31 S1) (fun v1 S2=>some ([x0,x1,v0,x3,v1,Value.bool false,x6,x7,x8,x9,c,a,g,i,k,l,m,n,o,p,q,r,s,t,u,w,x,y,z,d,f,b,A,B,C,D,E,F,G,H,I,J,K,L,M,N,P,Q,R,U,V,W,X,Y,Z,a0],S2)) ()) ()):=by
 kernel_rfl
theorem zC.r1 :jk zi ⟨false,false,false⟩ (zU zi O) (reg Try.f12 1) (reg Try.f12 1).toList ([x0,x1,x2,x3,x4,x5,x6,x7,x8,x9,c,a,g,i,k,l,m,n,o,p,q,r,s,t,u,w,x,y,z,d,f,b,A,B,C,D,E,F,G,H,I,J,K,L,M,N,P,Q,R,U,V,W,X,Y,Z,a0]) S =
  (zM ((zU zi O) 21 [(dem (dem x1))] S) (fun v1 S1=>zM (zQ v1 0 S1) (fun v3 S2=>zM (zQ (jv 0 v1) 1 S2) (fun v4 S3=>zM (zQ (jv 1 (jv 0 v1)) 2 S3) (fun v5 S4=>zM (zQ (jv 2 (jv 1 (jv 0 v1))) 3 S4) (fun v6 S5=>some ([x0,x1,x2,x3,x4,x5,v3,v4,v5,v6,c,a,jv 3 (jv 2 (jv 1 (jv 0 v1))),dem x1,dem v1,dem v3,dem v4,dem v5,dem v6,p,q,r,s,t,u,w,x,y,z,d,f,b,A,B,C,D,E,F,G,H,I,J,K,L,M,N,P,Q,R,U,V,W,X,Y,Z,a0],S5)) ()) ()) ()) ()) ()):=by
 kernel_rfl
theorem zC.r2 :jk zi ⟨false,false,false⟩ (zU zi O) (reg Try.f12 2) (reg Try.f12 2).toList ([x0,x1,x2,x3,x4,x5,x6,x7,x8,x9,c,a,g,i,k,l,m,n,o,p,q,r,s,t,u,w,x,y,z,d,f,b,A,B,C,D,E,F,G,H,I,J,K,L,M,N,P,Q,R,U,V,W,X,Y,Z,a0]) S =
  (zM (aUn zi UnOp.not (dem x9) S) (fun v1 S1=>gdK (dem v1) false (zI zi 31 x2 2) S1 (fun v3 S2=>gdK (dem v1) false (zW zi false 29 v3) S2 (fun v4 S3=>gdK (dem v1) false (xY zi 29 v4) S3 (fun v5 S4=>gdK (dem v1) false (wB zi BinOp.geq 3 v5 (.int .i64 32)) S4 (fun v6 S5=>zM (qJ (dem v1) (Value.bool true) v6 S5) (fun v7 S6=>some ([x0,x1,x2,x3,x4,x5,x6,x7,x8,x9,c,a,g,i,k,l,m,n,o,dem x9,v1,dem v1,v3,v4,v5,v6,v7,y,z,d,f,b,A,B,C,D,E,F,G,H,I,J,K,L,M,N,P,Q,R,U,V,W,X,Y,Z,a0],S6)) ()) ()) ()) ()) ()) ()):=by
 refine sP Try.f12 2 0 (v:=x9) ?_
 refine sD Try.f12 2 1 (fun v1 S1=>?_)
 refine sP Try.f12 2 2 (v:=v1) ?_
 refine sG Try.f12 2 3 (j:=2) (fun v3 S2=>?_)
 refine sG Try.f12 2 4 (j:=2) (fun v4 S3=>?_)
 refine sG Try.f12 2 5 (j:=2) (fun v5 S4=>?_)
 refine sG Try.f12 2 6 (j:=2) (fun v6 S5=>?_)
 refine sD Try.f12 2 7 (fun v7 S6=>?_)
 kernel_rfl
theorem zC.r3 :jk zi ⟨false,false,false⟩ (zU zi O) (reg Try.f12 3) (reg Try.f12 3).toList ([x0,x1,x2,x3,x4,x5,x6,x7,x8,x9,c,a,g,i,k,l,m,n,o,p,q,r,s,t,u,w,x,y,z,d,f,b,A,B,C,D,E,F,G,H,I,J,K,L,M,N,P,Q,R,U,V,W,X,Y,Z,a0]) S =
  (zM (zW zi false 31 x2 S) (fun v0 S1=>zM (jX zi 31 x4 (dem v0) S1) (fun v1 S2=>some ([x0,x1,x2,x3,x4,Value.bool false,x6,x7,x8,x9,c,a,g,i,k,l,m,n,o,p,q,r,s,t,u,w,x,v0,z,d,f,b,A,B,C,D,E,F,G,H,I,J,K,L,M,N,P,Q,R,U,V,W,X,Y,Z,a0],S2)) ()) ()):=by
 kernel_rfl
theorem zC.r4 :jk zi ⟨false,false,false⟩ (zU zi O) (reg Try.f12 4) (reg Try.f12 4).toList ([x0,x1,x2,x3,x4,x5,x6,x7,x8,x9,c,a,g,i,k,l,m,n,o,p,q,r,s,t,u,w,x,y,z,d,f,b,A,B,C,D,E,F,G,H,I,J,K,L,M,N,P,Q,R,U,V,W,X,Y,Z,a0]) S =
  (zM (zI zi 31 x2 2 S) (fun v0 S1=>zM (zW zi false 29 v0 S1) (fun v1 S2=>zM (xY zi 29 v1 S2) (fun v2 S3=>some ([x0,x1,x2,x3,x4,x5,x6,x7,x8,x9,c,a,g,i,k,l,m,n,o,p,q,r,s,t,u,w,x,y,v0,v1,v2,.int .i64 0,A,B,C,D,E,F,G,H,I,J,K,L,M,N,P,Q,R,U,V,W,X,Y,Z,a0],S3)) ()) ()) ()):=by
 kernel_rfl
theorem zC.r5 :jk zi ⟨false,false,false⟩ (zU zi O) (reg Try.f12 5) (reg Try.f12 5).toList ([x0,x1,x2,x3,x4,x5,x6,x7,x8,x9,c,a,g,i,k,l,m,n,o,p,q,r,s,t,u,w,x,y,z,d,f,b,A,B,C,D,E,F,G,H,I,J,K,L,M,N,P,Q,R,U,V,W,X,Y,Z,a0]) S =
  (zM (wB zi BinOp.lss 3 b f S) (fun v0 S1=>some ([x0,x1,x2,x3,x4,x5,x6,x7,x8,x9,c,a,g,i,k,l,m,n,o,p,q,r,s,t,u,w,x,y,z,d,f,b,v0,B,C,D,E,F,G,H,I,J,K,L,M,N,P,Q,R,U,V,W,X,Y,Z,a0],S1)) ()):=by
 kernel_rfl
theorem zC.r6 :jk zi ⟨false,false,false⟩ (zU zi O) (reg Try.f12 6) (reg Try.f12 6).toList ([x0,x1,x2,x3,x4,x5,x6,x7,x8,x9,c,a,g,i,k,l,m,n,o,p,q,r,s,t,u,w,x,y,z,d,f,b,A,B,C,D,E,F,G,H,I,J,K,L,M,N,P,Q,R,U,V,W,X,Y,Z,a0]) S =
  (zM (zO zi 29 d b S) (fun v0 S1=>zM (zW zi false 3 v0 S1) (fun v1 S2=>some ([x0,x1,x2,x3,x4,x5,x6,x7,x8,x9,c,v1,g,i,k,l,m,n,o,p,q,r,s,t,u,w,x,y,z,d,f,b,A,v0,dem v1,D,E,F,G,H,I,J,K,L,M,N,P,Q,R,U,V,W,X,Y,Z,a0],S2)) ()) ()):=by
 kernel_rfl
theorem zC.r7 :jk zi ⟨false,false,false⟩ (zU zi O) (reg Try.f12 7) (reg Try.f12 7).toList ([x0,x1,x2,x3,x4,x5,x6,x7,x8,x9,c,a,g,i,k,l,m,n,o,p,q,r,s,t,u,w,x,y,z,d,f,b,A,B,C,D,E,F,G,H,I,J,K,L,M,N,P,Q,R,U,V,W,X,Y,Z,a0]) S =
  (zM (wB zi BinOp.eql 3 (dem a) (dem x1) S) (fun v2 S1=>some ([x0,x1,x2,x3,x4,x5,x6,x7,x8,x9,c,a,g,i,k,l,m,n,o,p,q,r,s,t,u,w,x,y,z,d,f,b,A,B,C,dem a,dem x1,v2,G,H,I,J,K,L,M,N,P,Q,R,U,V,W,X,Y,Z,a0],S1)) ()):=by
 kernel_rfl
theorem zC.r8 :jk zi ⟨false,false,false⟩ (zU zi O) (reg Try.f12 8) (reg Try.f12 8).toList ([x0,x1,x2,x3,x4,x5,x6,x7,x8,x9,c,a,g,i,k,l,m,n,o,p,q,r,s,t,u,w,x,y,z,d,f,b,A,B,C,D,E,F,G,H,I,J,K,L,M,N,P,Q,R,U,V,W,X,Y,Z,a0]) S =
  (zM (zW zi false 31 x2 S) (fun v0 S1=>zM (jX zi 31 x4 (dem v0) S1) (fun v1 S2=>some ([x0,x1,x2,x3,x4,Value.bool false,x6,x7,x8,x9,c,a,g,i,k,l,m,n,o,p,q,r,s,t,u,w,x,y,z,d,f,b,A,B,C,D,E,F,v0,H,I,J,K,L,M,N,P,Q,R,U,V,W,X,Y,Z,a0],S2)) ()) ()):=by
 kernel_rfl
theorem zC.r9 :jk zi ⟨false,false,false⟩ (zU zi O) (reg Try.f12 9) (reg Try.f12 9).toList ([x0,x1,x2,x3,x4,x5,x6,x7,x8,x9,c,a,g,i,k,l,m,n,o,p,q,r,s,t,u,w,x,y,z,d,f,b,A,B,C,D,E,F,G,H,I,J,K,L,M,N,P,Q,R,U,V,W,X,Y,Z,a0]) S =
  (zM (wB zi BinOp.add 3 b (.int .i64 1) S) (fun v0 S1=>some ([x0,x1,x2,x3,x4,x5,x6,x7,x8,x9,c,a,g,i,k,l,m,n,o,p,q,r,s,t,u,w,x,y,z,d,f,dem v0,A,B,C,D,E,F,G,v0,I,J,K,L,M,N,P,Q,R,U,V,W,X,Y,Z,a0],S1)) ()):=by
 kernel_rfl
theorem zC.r10 :jk zi ⟨false,false,false⟩ (zU zi O) (reg Try.f12 10) (reg Try.f12 10).toList ([x0,x1,x2,x3,x4,x5,x6,x7,x8,x9,c,a,g,i,k,l,m,n,o,p,q,r,s,t,u,w,x,y,z,d,f,b,A,B,C,D,E,F,G,H,I,J,K,L,M,N,P,Q,R,U,V,W,X,Y,Z,a0]) S =
  (zM (jl zi 29 0 [] S) (fun v0 S1=>zM (zI zi 31 x2 2 S1) (fun v1 S2=>zM (zW zi false 29 v1 S2) (fun v2 S3=>zM (yj zi 29 29 v0 v2 S3) (fun v3 S4=>zM (jl zi 29 1 [(0,(dem x1))] S4) (fun v5 S5=>zM (yj zi 29 29 v3 v5 S5) (fun v6 S6=>zM (zI zi 31 x2 2 S6) (fun v7 S7=>zM (jX zi 29 v7 (dem v6) S7) (fun v8 S8=>some ([x0,x1,x2,x3,x4,x5,x6,x7,x8,x9,c,a,g,i,k,l,m,n,o,p,q,r,s,t,u,w,x,y,z,d,f,b,A,B,C,D,E,F,G,H,dem v0,v1,v2,dem v3,dem x1,v5,v6,v7,R,U,V,W,X,Y,Z,a0],S8)) ()) ()) ()) ()) ()) ()) ()) ()):=by
 kernel_rfl
theorem zC.r11 :jk zi ⟨false,false,false⟩ (zU zi O) (reg Try.f12 11) (reg Try.f12 11).toList ([x0,x1,x2,x3,x4,x5,x6,x7,x8,x9,c,a,g,i,k,l,m,n,o,p,q,r,s,t,u,w,x,y,z,d,f,b,A,B,C,D,E,F,G,H,I,J,K,L,M,N,P,Q,R,U,V,W,X,Y,Z,a0]) S =
  (zM (jl zi 29 0 [] S) (fun v0 S1=>zM (zI zi 31 x2 3 S1) (fun v1 S2=>zM (zW zi false 29 v1 S2) (fun v2 S3=>zM (yj zi 29 29 v0 v2 S3) (fun v3 S4=>zM (jl zi 29 1 [(0,(.int .i64 0))] S4) (fun v4 S5=>zM (yj zi 29 29 v3 v4 S5) (fun v5 S6=>zM (zI zi 31 x2 3 S6) (fun v6 S7=>zM (jX zi 29 v6 (dem v5) S7) (fun v7 S8=>some ([x0,x1,x2,x3,x4,x5,x6,x7,x8,x9,c,a,g,i,k,l,m,n,o,p,q,r,s,t,u,w,x,y,z,d,f,b,A,B,C,D,E,F,G,H,I,J,K,L,M,N,P,Q,dem v0,v1,v2,dem v3,v4,v5,v6,a0],S8)) ()) ()) ()) ()) ()) ()) ()) ()):=by
 kernel_rfl
theorem zC.r12 :jk zi ⟨false,false,false⟩ (zU zi O) (reg Try.f12 12) (reg Try.f12 12).toList ([x0,x1,x2,x3,x4,x5,x6,x7,x8,x9,c,a,g,i,k,l,m,n,o,p,q,r,s,t,u,w,x,y,z,d,f,b,A,B,C,D,E,F,G,H,I,J,K,L,M,N,P,Q,R,U,V,W,X,Y,Z,a0]) S =
  (zM (zW zi false 31 x2 S) (fun v0 S1=>zM (jX zi 31 x4 (dem v0) S1) (fun v1 S2=>some ([x0,x1,x2,x3,x4,Value.bool true,x6,x7,x8,x9,c,a,g,i,k,l,m,n,o,p,q,r,s,t,u,w,x,y,z,d,f,b,A,B,C,D,E,F,G,H,I,J,K,L,M,N,P,Q,R,U,V,W,X,Y,Z,v0],S2)) ()) ()):=by
 kernel_rfl
theorem zC.rs:type_of% (afM @zC.r0 (afM @zC.r1 (afM @zC.r2 (afM @zC.r3 (afM @zC.r4 (afM @zC.r5 (afM @zC.r6 (afM @zC.r7 (afM @zC.r8 (afM @zC.r9 (afM @zC.r10 (afM @zC.r11 (@zC.r12))))))))))))):=afM @zC.r0 (afM @zC.r1 (afM @zC.r2 (afM @zC.r3 (afM @zC.r4 (afM @zC.r5 (afM @zC.r6 (afM @zC.r7 (afM @zC.r8 (afM @zC.r9 (afM @zC.r10 (afM @zC.r11 (@zC.r12))))))))))))
theorem zC.runs {x0 x1:Value} {S S1:zy} {e:AEx} {T:List Value} (h:zJ zi O false zC.code ([x0,x1,zh,zh,zh,zh,zh,zh,zh,zh,zh,zh,zh,zh,zh,zh,zh,zh,zh,zh,zh,zh,zh,zh,zh,zh,zh,zh,zh,zh,zh,zh,zh,zh,zh,zh,zh,zh,zh,zh,zh,zh,zh,zh,zh,zh,zh,zh,zh,zh,zh,zh,zh,zh,zh,zh]) zy.empty=some (e,T,S1)) (he:e=.normal∨e=.ret) {w0:Value} (c0:zW zi false 31 (T.getD 4 zh) S1=some (w0,S1)) (h0:jV (w0)=true) (h1:jV (T.getD 5 zh)=true) (hca:[x0,x1].all (jc 16)=true) (hcv:jc 16 (Value.tuple #[w0,T.getD 5 zh])=true):zU zi O 12 [x0,x1] S=some (Value.tuple #[w0,T.getD 5 zh],S) :=
 J4 rfl rfl Try.func12 (by decide) zC.body (by exact h) he ((JE ((show zN zi T S1 Try.f12.results.toList=zN zi T S1 [(ResultVar.cell 4 31),(ResultVar.tmp 5)] from by kernel_rfl).trans (by simp only [zN,c0])) (by kernel_rfl) (by simp only [List.all_cons,List.all_nil,h0,h1,Bool.and_true])).trans rfl) hca hcv
end Go.Proofs.Ytpjglojnipjgfaa
namespace Go.Proofs.Ytpjglojnipjgfaa
open Go.Abs
abbrev zF.id:FuncId:=14
noncomputable def zF.zY:Code:=(.seq (.region 3 (reg Try.f14 3) false) (.seq (.cond (.tmp 15) Code.skip (.exit 0)) (.seq (.block 1 (.seq (.region 4 (reg Try.f14 4) false) (.seq (.region 5 (reg Try.f14 5) false) (.cond (.tmp 21) (.seq (.region 6 (reg Try.f14 6) false) (.region 7 (reg Try.f14 7) false)) Code.skip)))) (.region 8 (reg Try.f14 8) false))))
noncomputable def zF.code:Code:=(.seq (.region 0 (reg Try.f14 0) false) (.seq (.region 1 (reg Try.f14 1) false) (.seq (.seq (.region 2 (reg Try.f14 2) false) (.block 0 (.loop zF.zY))) (.seq (.region 9 (reg Try.f14 9) false) (.seq (.region 10 (reg Try.f14 10) false) (.seq (.region 11 (reg Try.f14 11) false) Code.ret))))))
theorem zF.body:Try.f14.body=some zF.code:=by kernel_rfl
theorem zF.eta {T:List Value} (h:T.length=40):T=[T.getD 0 zh,T.getD 1 zh,T.getD 2 zh,T.getD 3 zh,T.getD 4 zh,T.getD 5 zh,T.getD 6 zh,T.getD 7 zh,T.getD 8 zh,T.getD 9 zh,T.getD 10 zh,T.getD 11 zh,T.getD 12 zh,T.getD 13 zh,T.getD 14 zh,T.getD 15 zh,T.getD 16 zh,T.getD 17 zh,T.getD 18 zh,T.getD 19 zh,T.getD 20 zh,T.getD 21 zh,T.getD 22 zh,T.getD 23 zh,T.getD 24 zh,T.getD 25 zh,T.getD 26 zh,T.getD 27 zh,T.getD 28 zh,T.getD 29 zh,T.getD 30 zh,T.getD 31 zh,T.getD 32 zh,T.getD 33 zh,T.getD 34 zh,T.getD 35 zh,T.getD 36 zh,T.getD 37 zh,T.getD 38 zh,T.getD 39 zh]:=(yF T 40 h).trans (by kernel_rfl)
variable (I H K Q R M N P L U f g c d b i j k l m n o p q r s t u v w x y z A B C D E F G:Value) (S:zy)
theorem zF.r0 :jk zi ⟨false,false,false⟩ (zU zi O) (reg Try.f14 0) (reg Try.f14 0).toList ([I,H,K,Q,R,M,N,P,L,U,f,g,c,d,b,i,j,k,l,m,n,o,p,q,r,s,t,u,v,w,x,y,z,A,B,C,D,E,F,G]) S =
  (zM (Yp (dem I) S) (fun X J=>zM (ql zi 31 J) (fun V W=>some ([I,H,X,Q,V,M,N,P,L,U,f,g,c,d,b,i,j,k,l,m,n,o,p,q,r,s,t,u,v,w,x,y,z,A,B,C,D,E,F,G],W)) ()) ()):=by
 kernel_rfl
theorem zF.r1 :jk zi ⟨false,false,false⟩ (zU zi O) (reg Try.f14 1) (reg Try.f14 1).toList ([I,H,K,Q,R,M,N,P,L,U,f,g,c,d,b,i,j,k,l,m,n,o,p,q,r,s,t,u,v,w,x,y,z,A,B,C,D,E,F,G]) S =
  (zM (jl zi 29 0 [] S) (fun X J=>zM (jl zi 29 0 [] J) (fun V W=>some ([I,H,K,Q,R,X,V,P,L,dem X,dem V,g,c,d,b,i,j,k,l,m,n,o,p,q,r,s,t,u,v,w,x,y,z,A,B,C,D,E,F,G],W)) ()) ()):=by
 kernel_rfl
theorem zF.r2 :jk zi ⟨false,false,false⟩ (zU zi O) (reg Try.f14 2) (reg Try.f14 2).toList ([I,H,K,Q,R,M,N,P,L,U,f,g,c,d,b,i,j,k,l,m,n,o,p,q,r,s,t,u,v,w,x,y,z,A,B,C,D,E,F,G]) S =
  (zM (zI zi 31 K 2 S) (fun X J=>zM (zW zi false 29 X J) (fun V W=>zM (xY zi 29 V W) (fun Y Z=>some ([I,H,K,Q,R,M,N,P,L,U,f,X,V,Y,.int .i64 0,i,j,k,l,m,n,o,p,q,r,s,t,u,v,w,x,y,z,A,B,C,D,E,F,G],Z)) ()) ()) ()):=by
 kernel_rfl
theorem zF.r3 :jk zi ⟨false,false,false⟩ (zU zi O) (reg Try.f14 3) (reg Try.f14 3).toList ([I,H,K,Q,R,M,N,P,L,U,f,g,c,d,b,i,j,k,l,m,n,o,p,q,r,s,t,u,v,w,x,y,z,A,B,C,D,E,F,G]) S =
  (zM (wB zi BinOp.lss 3 b d S) (fun X J=>some ([I,H,K,Q,R,M,N,P,L,U,f,g,c,d,b,X,j,k,l,m,n,o,p,q,r,s,t,u,v,w,x,y,z,A,B,C,D,E,F,G],J)) ()):=by
 kernel_rfl
theorem zF.r4 :jk zi ⟨false,false,false⟩ (zU zi O) (reg Try.f14 4) (reg Try.f14 4).toList ([I,H,K,Q,R,M,N,P,L,U,f,g,c,d,b,i,j,k,l,m,n,o,p,q,r,s,t,u,v,w,x,y,z,A,B,C,D,E,F,G]) S =
  (zM (zO zi 29 c (dem b) S) (fun V J=>zM (zW zi false 3 V J) (fun Y W=>some ([I,H,K,Q,R,M,N,b,Y,U,f,g,c,d,dem b,i,dem b,V,dem Y,m,n,o,p,q,r,s,t,u,v,w,x,y,z,A,B,C,D,E,F,G],W)) ()) ()):=by
 kernel_rfl
theorem zF.r5 :jk zi ⟨false,false,false⟩ (zU zi O) (reg Try.f14 5) (reg Try.f14 5).toList ([I,H,K,Q,R,M,N,P,L,U,f,g,c,d,b,i,j,k,l,m,n,o,p,q,r,s,t,u,v,w,x,y,z,A,B,C,D,E,F,G]) S =
  (zM (wB zi BinOp.neq 3 (dem L) (dem H) S) (fun Y J=>some ([I,H,K,Q,R,M,N,P,L,U,f,g,c,d,b,i,j,k,l,dem L,dem H,Y,p,q,r,s,t,u,v,w,x,y,z,A,B,C,D,E,F,G],J)) ()):=by
 kernel_rfl
theorem zF.r6 :jk zi ⟨false,false,false⟩ (zU zi O) (reg Try.f14 6) (reg Try.f14 6).toList ([I,H,K,Q,R,M,N,P,L,U,f,g,c,d,b,i,j,k,l,m,n,o,p,q,r,s,t,u,v,w,x,y,z,A,B,C,D,E,F,G]) S =
  (zM (jl zi 29 1 [(0,(dem L))] S) (fun Y J=>zM (yj zi 29 29 M Y J) (fun v3 W=>some ([I,H,K,Q,R,v3,N,P,L,U,f,g,c,d,b,i,j,k,l,m,n,o,dem M,dem L,Y,dem v3,t,u,v,w,x,y,z,A,B,C,D,E,F,G],W)) ()) ()):=by
 kernel_rfl
theorem zF.r7 :jk zi ⟨false,false,false⟩ (zU zi O) (reg Try.f14 7) (reg Try.f14 7).toList ([I,H,K,Q,R,M,N,P,L,U,f,g,c,d,b,i,j,k,l,m,n,o,p,q,r,s,t,u,v,w,x,y,z,A,B,C,D,E,F,G]) S =
  (zM (zI zi 31 K 3 S) (fun V J=>zM (zW zi false 29 V J) (fun Y W=>zM (zO zi 29 Y (dem P) W) (fun v4 Z=>zM (zW zi false 3 v4 Z) (fun v5 S4=>zM (jl zi 29 1 [(0,v5)] S4) (fun v6 S5=>zM (yj zi 29 29 N v6 S5) (fun v7 S6=>some ([I,H,K,Q,R,M,v7,P,L,U,f,g,c,d,b,i,j,k,l,m,n,o,p,q,r,s,dem N,V,Y,dem P,v4,v5,v6,dem v7,B,C,D,E,F,G],S6)) ()) ()) ()) ()) ()) ()):=by
 kernel_rfl
theorem zF.r8 :jk zi ⟨false,false,false⟩ (zU zi O) (reg Try.f14 8) (reg Try.f14 8).toList ([I,H,K,Q,R,M,N,P,L,U,f,g,c,d,b,i,j,k,l,m,n,o,p,q,r,s,t,u,v,w,x,y,z,A,B,C,D,E,F,G]) S =
  (zM (wB zi BinOp.add 3 b (.int .i64 1) S) (fun X J=>some ([I,H,K,Q,R,M,N,P,L,U,f,g,c,d,dem X,i,j,k,l,m,n,o,p,q,r,s,t,u,v,w,x,y,z,A,X,C,D,E,F,G],J)) ()):=by
 kernel_rfl
theorem zF.r9 :jk zi ⟨false,false,false⟩ (zU zi O) (reg Try.f14 9) (reg Try.f14 9).toList ([I,H,K,Q,R,M,N,P,L,U,f,g,c,d,b,i,j,k,l,m,n,o,p,q,r,s,t,u,v,w,x,y,z,A,B,C,D,E,F,G]) S =
  (zM (zI zi 31 K 2 S) (fun V J=>zM (jX zi 29 V (dem (dem M)) J) (fun Y W=>some ([I,H,K,Q,R,M,N,P,L,U,f,g,c,d,b,i,j,k,l,m,n,o,p,q,r,s,t,u,v,w,x,y,z,A,B,dem M,V,E,F,G],W)) ()) ()):=by
 kernel_rfl
theorem zF.r10 :jk zi ⟨false,false,false⟩ (zU zi O) (reg Try.f14 10) (reg Try.f14 10).toList ([I,H,K,Q,R,M,N,P,L,U,f,g,c,d,b,i,j,k,l,m,n,o,p,q,r,s,t,u,v,w,x,y,z,A,B,C,D,E,F,G]) S =
  (zM (zI zi 31 K 3 S) (fun V J=>zM (jX zi 29 V (dem (dem N)) J) (fun Y W=>some ([I,H,K,Q,R,M,N,P,L,U,f,g,c,d,b,i,j,k,l,m,n,o,p,q,r,s,t,u,v,w,x,y,z,A,B,C,D,dem N,V,G],W)) ()) ()):=by
 kernel_rfl
theorem zF.r11 :jk zi ⟨false,false,false⟩ (zU zi O) (reg Try.f14 11) (reg Try.f14 11).toList ([I,H,K,Q,R,M,N,P,L,U,f,g,c,d,b,i,j,k,l,m,n,o,p,q,r,s,t,u,v,w,x,y,z,A,B,C,D,E,F,G]) S =
  (zM (zW zi false 31 K S) (fun X J=>zM (jX zi 31 R (dem X) J) (fun V W=>some ([I,H,K,Q,R,M,N,P,L,U,f,g,c,d,b,i,j,k,l,m,n,o,p,q,r,s,t,u,v,w,x,y,z,A,B,C,D,E,F,X],W)) ()) ()):=by
 kernel_rfl
theorem zF.rs:type_of% (afM @zF.r0 (afM @zF.r1 (afM @zF.r2 (afM @zF.r3 (afM @zF.r4 (afM @zF.r5 (afM @zF.r6 (afM @zF.r7 (afM @zF.r8 (afM @zF.r9 (afM @zF.r10 (@zF.r11)))))))))))):=afM @zF.r0 (afM @zF.r1 (afM @zF.r2 (afM @zF.r3 (afM @zF.r4 (afM @zF.r5 (afM @zF.r6 (afM @zF.r7 (afM @zF.r8 (afM @zF.r9 (afM @zF.r10 (@zF.r11)))))))))))
theorem zF.runs {I H:Value} {S J:zy} {e:AEx} {T:List Value} (h:zJ zi O false zF.code ([I,H,zh,zh,zh,zh,zh,zh,zh,zh,zh,zh,zh,zh,zh,zh,zh,zh,zh,zh,zh,zh,zh,zh,zh,zh,zh,zh,zh,zh,zh,zh,zh,zh,zh,zh,zh,zh,zh,zh]) zy.empty=some (e,T,J)) (he:e=.normal∨e=.ret) {w0:Value} (c0:zW zi false 31 (T.getD 4 zh) J=some (w0,J)) (hca:[I,H].all (jc 16)=true) (hcv:jc 16 (w0)=true):zU zi O 14 [I,H] S=some (w0,S) :=
 J4 rfl rfl Try.func14 (by decide) zF.body (by exact h) he (wI (a:=w0) ((show zN zi T J Try.f14.results.toList=zN zi T J [(ResultVar.cell 4 31)] from by kernel_rfl).trans (by simp only [zN,c0])) (by kernel_rfl)) hca hcv
end Go.Proofs.Ytpjglojnipjgfaa
namespace Go.Proofs.Ytpjglojnipjgfaa
open Go.Abs
abbrev zL.id:FuncId:=24
noncomputable def zL.code:Code:=(.seq (.region 0 (reg Try.f24 0) false) (.seq (.seq (.region 1 (reg Try.f24 1) false) (.cond (.tmp 44) (.seq (.region 2 (reg Try.f24 2) false) Code.ret) Code.skip)) (.seq (.region 3 (reg Try.f24 3) false) Code.ret)))
theorem zL.body:Try.f24.body=some zL.code:=by kernel_rfl
variable (l m i k x4 x5 x6 x7 x8 x9 n o p q r s t u w x y z A B C D E F G H I J K L M N P Q R U V W X Y Z a0 a1 a2 a3 a4 a5 a6 a7 a8 a9 b0 b1:Value) (S:zy)
theorem zL.r0 :jk zi ⟨false,false,false⟩ (zU zi O) (reg Try.f24 0) (reg Try.f24 0).toList ([l,m,i,k,x4,x5,x6,x7,x8,x9,n,o,p,q,r,s,t,u,w,x,y,z,A,B,C,D,E,F,G,H,I,J,K,L,M,N,P,Q,R,U,V,W,X,Y,Z,a0,a1,a2,a3,a4,a5,a6,a7,a8,a9,b0,b1]) S =
  (zM (Yp (dem l) S) (fun v0 S1=>zM (Yp (dem m) S1) (fun v1 S2=>some ([l,m,v0,v1,Value.bool false,x5,x6,x7,x8,x9,n,o,p,q,r,s,t,u,w,x,y,z,A,B,C,D,E,F,G,H,I,J,K,L,M,N,P,Q,R,U,V,W,X,Y,Z,a0,a1,a2,a3,a4,a5,a6,a7,a8,a9,b0,b1],S2)) ()) ()):=by
 kernel_rfl
theorem zL.r1 :jk zi ⟨false,false,false⟩ (zU zi O) (reg Try.f24 1) (reg Try.f24 1).toList ([l,m,i,k,x4,x5,x6,x7,x8,x9,n,o,p,q,r,s,t,u,w,x,y,z,A,B,C,D,E,F,G,H,I,J,K,L,M,N,P,Q,R,U,V,W,X,Y,Z,a0,a1,a2,a3,a4,a5,a6,a7,a8,a9,b0,b1]) S =
  (zM (zI zi 52 i 0 S) (fun v0 S1=>zM (zW zi false 3 v0 S1) (fun v1 S2=>zM (zI zi 52 k 0 S2) (fun v2 S3=>zM (zW zi false 3 v2 S3) (fun v3 S4=>zM (wB zi BinOp.neq 3 v1 v3 S4) (fun c S5=>gdK (dem c) false (zI zi 52 i 1) S5 (fun v6 S6=>gdK (dem c) false (zW zi false 3 v6) S6 (fun v7 S7=>gdK (dem c) false (zI zi 52 k 1) S7 (fun v8 S8=>gdK (dem c) false (zW zi false 3 v8) S8 (fun v9 S9=>gdK (dem c) false (wB zi BinOp.neq 3 v7 v9) S9 (fun b2 b3=>zM (qJ (dem c) (Value.bool true) b2 b3) (fun b b4=>gdK (dem b) false (zI zi 52 i 2) b4 (fun b5 d5=>gdK (dem b) false (zW zi false 3 b5) d5 (fun b6 d6=>gdK (dem b) false (zI zi 52 k 2) d6 (fun b7 d7=>gdK (dem b) false (zW zi false 3 b7) d7 (fun b8 d8=>gdK (dem b) false (wB zi BinOp.neq 3 b6 b8) d8 (fun b9 d9=>zM (qJ (dem b) (Value.bool true) b9 d9) (fun d f0=>gdK (dem d) false (zI zi 52 i 3) f0 (fun c0 f1=>gdK (dem d) false (zW zi false 3 c0) f1 (fun c1 f2=>gdK (dem d) false (zI zi 52 k 3) f2 (fun c2 f3=>gdK (dem d) false (zW zi false 3 c2) f3 (fun c3 f4=>gdK (dem d) false (wB zi BinOp.neq 3 c1 c3) f4 (fun c4 f5=>zM (qJ (dem d) (Value.bool true) c4 f5) (fun f f6=>gdK (dem f) false (zI zi 52 i 4) f6 (fun c5 f7=>gdK (dem f) false (zW zi false 3 c5) f7 (fun c6 f8=>gdK (dem f) false (zI zi 52 k 4) f8 (fun c7 f9=>gdK (dem f) false (zW zi false 3 c7) f9 (fun c8 g0=>gdK (dem f) false (wB zi BinOp.neq 3 c6 c8) g0 (fun c9 g1=>zM (qJ (dem f) (Value.bool true) c9 g1) (fun g g2=>gdK (dem g) false (zI zi 52 i 5) g2 (fun d0 g3=>gdK (dem g) false (zW zi false 3 d0) g3 (fun d1 g4=>gdK (dem g) false (zI zi 52 k 5) g4 (fun d2 g5=>gdK (dem g) false (zW zi false 3 d2) g5 (fun d3 g6=>gdK (dem g) false (wB zi BinOp.neq 3 d1 d3) g6 (fun d4 g7=>zM (qJ (dem g) (Value.bool true) d4 g7) (fun g8 g9=>some ([l,m,i,k,x4,v0,v1,v2,v3,c,dem c,v6,v7,v8,v9,b2,b,dem b,b5,b6,b7,b8,b9,d,dem d,c0,c1,c2,c3,c4,f,dem f,c5,c6,c7,c8,c9,g,dem g,d0,d1,d2,d3,d4,g8,a0,a1,a2,a3,a4,a5,a6,a7,a8,a9,b0,b1],g9)) ()) ()) ()) ()) ()) ()) ()) ()) ()) ()) ()) ()) ()) ()) ()) ()) ()) ()) ()) ()) ()) ()) ()) ()) ()) ()) ()) ()) ()) ()) ()) ()) ()) ()) ()):=by
 refine sD Try.f24 1 0 (fun v0 S1=>?_)
 refine sD Try.f24 1 1 (fun v1 S2=>?_)
 refine sD Try.f24 1 2 (fun v2 S3=>?_)
 refine sD Try.f24 1 3 (fun v3 S4=>?_)
 refine sD Try.f24 1 4 (fun c S5=>?_)
 refine sP Try.f24 1 5 (v:=c) ?_
 refine sG Try.f24 1 6 (j:=5) (fun v6 S6=>?_)
 refine sG Try.f24 1 7 (j:=5) (fun v7 S7=>?_)
 refine sG Try.f24 1 8 (j:=5) (fun v8 S8=>?_)
 refine sG Try.f24 1 9 (j:=5) (fun v9 S9=>?_)
 refine sG Try.f24 1 10 (j:=5) (fun b2 b3=>?_)
 refine sD Try.f24 1 11 (fun b b4=>?_)
 refine sP Try.f24 1 12 (v:=b) ?_
 refine sG Try.f24 1 13 (j:=12) (fun b5 d5=>?_)
 refine sG Try.f24 1 14 (j:=12) (fun b6 d6=>?_)
 refine sG Try.f24 1 15 (j:=12) (fun b7 d7=>?_)
 refine sG Try.f24 1 16 (j:=12) (fun b8 d8=>?_)
 refine sG Try.f24 1 17 (j:=12) (fun b9 d9=>?_)
 refine sD Try.f24 1 18 (fun d f0=>?_)
 refine sP Try.f24 1 19 (v:=d) ?_
 refine sG Try.f24 1 20 (j:=19) (fun c0 f1=>?_)
 refine sG Try.f24 1 21 (j:=19) (fun c1 f2=>?_)
 refine sG Try.f24 1 22 (j:=19) (fun c2 f3=>?_)
 refine sG Try.f24 1 23 (j:=19) (fun c3 f4=>?_)
 refine sG Try.f24 1 24 (j:=19) (fun c4 f5=>?_)
 refine sD Try.f24 1 25 (fun f f6=>?_)
 refine sP Try.f24 1 26 (v:=f) ?_
 refine sG Try.f24 1 27 (j:=26) (fun c5 f7=>?_)
 refine sG Try.f24 1 28 (j:=26) (fun c6 f8=>?_)
 refine sG Try.f24 1 29 (j:=26) (fun c7 f9=>?_)
 refine sG Try.f24 1 30 (j:=26) (fun c8 g0=>?_)
 refine sG Try.f24 1 31 (j:=26) (fun c9 g1=>?_)
 refine sD Try.f24 1 32 (fun g g2=>?_)
 refine sP Try.f24 1 33 (v:=g) ?_
 refine sG Try.f24 1 34 (j:=33) (fun d0 g3=>?_)
 refine sG Try.f24 1 35 (j:=33) (fun d1 g4=>?_)
 refine sG Try.f24 1 36 (j:=33) (fun d2 g5=>?_)
 refine sG Try.f24 1 37 (j:=33) (fun d3 g6=>?_)
 refine sG Try.f24 1 38 (j:=33) (fun d4 g7=>?_)
 refine sD Try.f24 1 39 (fun g8 g9=>?_)
 kernel_rfl
theorem zL.r2 :jk zi ⟨false,false,false⟩ (zU zi O) (reg Try.f24 2) (reg Try.f24 2).toList ([l,m,i,k,x4,x5,x6,x7,x8,x9,n,o,p,q,r,s,t,u,w,x,y,z,A,B,C,D,E,F,G,H,I,J,K,L,M,N,P,Q,R,U,V,W,X,Y,Z,a0,a1,a2,a3,a4,a5,a6,a7,a8,a9,b0,b1]) S =
  ( some ([l,m,i,k,Value.bool false,x5,x6,x7,x8,x9,n,o,p,q,r,s,t,u,w,x,y,z,A,B,C,D,E,F,G,H,I,J,K,L,M,N,P,Q,R,U,V,W,X,Y,Z,a0,a1,a2,a3,a4,a5,a6,a7,a8,a9,b0,b1],S)):=by
 kernel_rfl
theorem zL.r3 :jk zi ⟨false,false,false⟩ (zU zi O) (reg Try.f24 3) (reg Try.f24 3).toList ([l,m,i,k,x4,x5,x6,x7,x8,x9,n,o,p,q,r,s,t,u,w,x,y,z,A,B,C,D,E,F,G,H,I,J,K,L,M,N,P,Q,R,U,V,W,X,Y,Z,a0,a1,a2,a3,a4,a5,a6,a7,a8,a9,b0,b1]) S =
  (zM (zI zi 52 i 6 S) (fun v0 S1=>zM (zW zi false 47 v0 S1) (fun v1 S2=>zM (zI zi 52 k 6 S2) (fun v2 S3=>zM (zW zi false 47 v2 S3) (fun v3 S4=>zM (wB zi BinOp.eql 47 v1 v3 S4) (fun c S5=>gdK (dem c) true (zI zi 52 i 7) S5 (fun v6 S6=>gdK (dem c) true (zW zi false 50 v6) S6 (fun v7 S7=>gdK (dem c) true (zI zi 52 k 7) S7 (fun v8 S8=>gdK (dem c) true (zW zi false 50 v8) S8 (fun v9 S9=>gdK (dem c) true ((zU zi O) 28 [(dem v7),(dem v9)]) S9 (fun b2 b3=>zM (qJ (dem c) b2 (Value.bool false) b3) (fun b b4=>some ([l,m,i,k,b,x5,x6,x7,x8,x9,n,o,p,q,r,s,t,u,w,x,y,z,A,B,C,D,E,F,G,H,I,J,K,L,M,N,P,Q,R,U,V,W,X,Y,Z,v0,v1,v2,v3,c,dem c,v6,v7,v8,v9,b2,dem b],b4)) ()) ()) ()) ()) ()) ()) ()) ()) ()) ()) ()):=by
 refine sD Try.f24 3 0 (fun v0 S1=>?_)
 refine sD Try.f24 3 1 (fun v1 S2=>?_)
 refine sD Try.f24 3 2 (fun v2 S3=>?_)
 refine sD Try.f24 3 3 (fun v3 S4=>?_)
 refine sD Try.f24 3 4 (fun c S5=>?_)
 refine sP Try.f24 3 5 (v:=c) ?_
 refine sG Try.f24 3 6 (j:=5) (fun v6 S6=>?_)
 refine sG Try.f24 3 7 (j:=5) (fun v7 S7=>?_)
 refine sG Try.f24 3 8 (j:=5) (fun v8 S8=>?_)
 refine sG Try.f24 3 9 (j:=5) (fun v9 S9=>?_)
 refine sG Try.f24 3 10 (j:=5) (fun b2 b3=>?_)
 refine sD Try.f24 3 11 (fun b b4=>?_)
 refine sP Try.f24 3 12 (v:=b) ?_
 kernel_rfl
theorem zL.rs:type_of% (afM @zL.r0 (afM @zL.r1 (afM @zL.r2 (@zL.r3)))):=afM @zL.r0 (afM @zL.r1 (afM @zL.r2 (@zL.r3)))
theorem zL.runs {l m:Value} {S S1:zy} {e:AEx} {T:List Value} (h:zJ zi O false zL.code ([l,m,zh,zh,zh,zh,zh,zh,zh,zh,zh,zh,zh,zh,zh,zh,zh,zh,zh,zh,zh,zh,zh,zh,zh,zh,zh,zh,zh,zh,zh,zh,zh,zh,zh,zh,zh,zh,zh,zh,zh,zh,zh,zh,zh,zh,zh,zh,zh,zh,zh,zh,zh,zh,zh,zh,zh]) zy.empty=some (e,T,S1)) (he:e=.normal∨e=.ret) (hca:[l,m].all (jc 16)=true) (hcv:jc 16 (T.getD 4 zh)=true):zU zi O 24 [l,m] S=some (T.getD 4 zh,S) :=
 J4 rfl rfl Try.func24 (by decide) zL.body (by exact h) he (wI (a:=T.getD 4 zh) ((show zN zi T S1 Try.f24.results.toList=zN zi T S1 [(ResultVar.tmp 4)] from by kernel_rfl).trans (by simp only [zN])) (by kernel_rfl)) hca hcv
end Go.Proofs.Ytpjglojnipjgfaa
namespace Go.Proofs.Ytpjglojnipjgfaa
open Go.Abs
abbrev qc.id:FuncId:=28
variable (E F G H I J K L M N a b c d f g i j k l m n o p q r s t u v w x y z A B C D:Value) (S:zy)
end Go.Proofs.Ytpjglojnipjgfaa
namespace Go.Proofs.Ytpjglojnipjgfaa
open Go.Abs
abbrev zB.id:FuncId:=16
noncomputable def zB.zY:Code:=(.seq (.region 4 (reg Try.f16 4) false) (.seq (.cond (.tmp 14) Code.skip (.exit 0)) (.seq (.block 1 (.seq (.region 5 (reg Try.f16 5) false) (.seq (.region 6 (reg Try.f16 6) true) (.cond (.tmp 40) (.seq (.region 7 (reg Try.f16 7) false) Code.ret) Code.skip)))) (.region 8 (reg Try.f16 8) false))))
noncomputable def zB.code:Code:=(.seq (.region 0 (reg Try.f16 0) false) (.seq (.seq (.region 1 (reg Try.f16 1) false) (.cond (.tmp 10) (.seq (.region 2 (reg Try.f16 2) false) Code.ret) Code.skip)) (.seq (.seq (.region 3 (reg Try.f16 3) false) (.block 0 (.loop zB.zY))) (.seq (.region 9 (reg Try.f16 9) false) Code.ret))))
theorem zB.body:Try.f16.body=some zB.code:=by kernel_rfl
theorem zB.eta {T:List Value} (h:T.length=42):T=[T.getD 0 zh,T.getD 1 zh,T.getD 2 zh,T.getD 3 zh,T.getD 4 zh,T.getD 5 zh,T.getD 6 zh,T.getD 7 zh,T.getD 8 zh,T.getD 9 zh,T.getD 10 zh,T.getD 11 zh,T.getD 12 zh,T.getD 13 zh,T.getD 14 zh,T.getD 15 zh,T.getD 16 zh,T.getD 17 zh,T.getD 18 zh,T.getD 19 zh,T.getD 20 zh,T.getD 21 zh,T.getD 22 zh,T.getD 23 zh,T.getD 24 zh,T.getD 25 zh,T.getD 26 zh,T.getD 27 zh,T.getD 28 zh,T.getD 29 zh,T.getD 30 zh,T.getD 31 zh,T.getD 32 zh,T.getD 33 zh,T.getD 34 zh,T.getD 35 zh,T.getD 36 zh,T.getD 37 zh,T.getD 38 zh,T.getD 39 zh,T.getD 40 zh,T.getD 41 zh]:=(yF T 42 h).trans (by kernel_rfl)
variable (c f Q R Y N U V W X g i d b k l m n o p q r s t u w x y z A B C D E F G H I J K L M:Value) (S:zy)
theorem zB.r0 :jk zi ⟨false,false,false⟩ (zU zi O) (reg Try.f16 0) (reg Try.f16 0).toList ([c,f,Q,R,Y,N,U,V,W,X,g,i,d,b,k,l,m,n,o,p,q,r,s,t,u,w,x,y,z,A,B,C,D,E,F,G,H,I,J,K,L,M]) S =
  ( some ([c,f,Q,R,Value.bool false,N,U,V,W,X,g,i,d,b,k,l,m,n,o,p,q,r,s,t,u,w,x,y,z,A,B,C,D,E,F,G,H,I,J,K,L,M],S)):=by
 kernel_rfl
theorem zB.r1 :jk zi ⟨false,false,false⟩ (zU zi O) (reg Try.f16 1) (reg Try.f16 1).toList ([c,f,Q,R,Y,N,U,V,W,X,g,i,d,b,k,l,m,n,o,p,q,r,s,t,u,w,x,y,z,A,B,C,D,E,F,G,H,I,J,K,L,M]) S =
  (zM (xY zi 26 (dem c) S) (fun v1 Z=>zM (xY zi 26 (dem f) Z) (fun v3 S2=>zM (wB zi BinOp.neq 3 v1 v3 S2) (fun v4 S3=>some ([c,f,Q,R,Y,N,dem c,v1,dem f,v3,v4,i,d,b,k,l,m,n,o,p,q,r,s,t,u,w,x,y,z,A,B,C,D,E,F,G,H,I,J,K,L,M],S3)) ()) ()) ()):=by
 kernel_rfl
theorem zB.r2 :jk zi ⟨false,false,false⟩ (zU zi O) (reg Try.f16 2) (reg Try.f16 2).toList ([c,f,Q,R,Y,N,U,V,W,X,g,i,d,b,k,l,m,n,o,p,q,r,s,t,u,w,x,y,z,A,B,C,D,E,F,G,H,I,J,K,L,M]) S =
  ( some ([c,f,Q,R,Value.bool false,N,U,V,W,X,g,i,d,b,k,l,m,n,o,p,q,r,s,t,u,w,x,y,z,A,B,C,D,E,F,G,H,I,J,K,L,M],S)):=by
 kernel_rfl
theorem zB.r3 :jk zi ⟨false,false,false⟩ (zU zi O) (reg Try.f16 3) (reg Try.f16 3).toList ([c,f,Q,R,Y,N,U,V,W,X,g,i,d,b,k,l,m,n,o,p,q,r,s,t,u,w,x,y,z,A,B,C,D,E,F,G,H,I,J,K,L,M]) S =
  (zM (xY zi 26 (dem c) S) (fun v1 Z=>some ([c,f,Q,R,Y,N,U,V,W,X,g,dem c,v1,.int .i64 0,k,l,m,n,o,p,q,r,s,t,u,w,x,y,z,A,B,C,D,E,F,G,H,I,J,K,L,M],Z)) ()):=by
 kernel_rfl
theorem zB.r4 :jk zi ⟨false,false,false⟩ (zU zi O) (reg Try.f16 4) (reg Try.f16 4).toList ([c,f,Q,R,Y,N,U,V,W,X,g,i,d,b,k,l,m,n,o,p,q,r,s,t,u,w,x,y,z,A,B,C,D,E,F,G,H,I,J,K,L,M]) S =
  (zM (wB zi BinOp.lss 3 b d S) (fun v0 Z=>some ([c,f,Q,R,Y,N,U,V,W,X,g,i,d,b,v0,l,m,n,o,p,q,r,s,t,u,w,x,y,z,A,B,C,D,E,F,G,H,I,J,K,L,M],Z)) ()):=by
 kernel_rfl
theorem zB.r5 :jk zi ⟨false,false,false⟩ (zU zi O) (reg Try.f16 5) (reg Try.f16 5).toList ([c,f,Q,R,Y,N,U,V,W,X,g,i,d,b,k,l,m,n,o,p,q,r,s,t,u,w,x,y,z,A,B,C,D,E,F,G,H,I,J,K,L,M]) S =
  ( some ([c,f,Q,R,Y,b,U,V,W,X,g,i,d,dem b,k,dem b,m,n,o,p,q,r,s,t,u,w,x,y,z,A,B,C,D,E,F,G,H,I,J,K,L,M],S)):=by
 kernel_rfl
theorem zB.d6:qL zi (reg Try.f16 6)=true:=by kernel_rfl
theorem zB.ff6:fixed zi (reg Try.f16 6)=false:=by kernel_rfl
theorem zB.k6:checked zi (reg Try.f16 6)=[]:=by kernel_rfl
theorem zB.g6:again zi (reg Try.f16 6)=[]:=by kernel_rfl
theorem zB.r6 :zJ zi O false (.region 6 (reg Try.f16 6) true) ([c,f,Q,R,Y,N,U,V,W,X,g,i,d,b,k,l,m,n,o,p,q,r,s,t,u,w,x,y,z,A,B,C,D,E,F,G,H,I,J,K,L,M]) S =
  YO (zM (zO zi 26 (dem c) (dem N) S) (fun v2 Z=>zM (zI zi 54 v2 0 Z) (fun v3 S2=>zM (zW zi false 3 v3 S2) (fun v4 S3=>zM (zO zi 26 (dem f) (dem N) S3) (fun v7 S4=>zM (zI zi 54 v7 0 S4) (fun v8 S5=>zM (zW zi false 3 v8 S5) (fun v9 S6=>zM (wB zi BinOp.neq 3 v4 v9 S6) (fun P S7=>gdK (dem P) false (ret c) S7 (fun a0 S8=>gdK (dem P) false (ret N) S8 (fun a1 S9=>gdK (dem P) false (zO zi 26 (dem a0) (dem a1)) S9 (fun a2 b2=>gdK (dem P) false (zI zi 54 a2 1) b2 (fun a3 b3=>gdK (dem P) false (zW zi false 52 a3) b3 (fun a4 b4=>gdK (dem P) false (ret f) b4 (fun a5 b5=>gdK (dem P) false (ret N) b5 (fun a6 b6=>gdK (dem P) false (zO zi 26 (dem a5) (dem a6)) b6 (fun a7 b7=>gdK (dem P) false (zI zi 54 a7 1) b7 (fun a8 b8=>gdK (dem P) false (zW zi false 52 a8) b8 (fun a9 b9=>gdK (dem P) false ((zU zi O) 24 [(dem a4),(dem a9)]) b9 (fun b0 c0=>gdK (dem P) false (aUn zi UnOp.not b0) c0 (fun b1 c1=>zM (qJ (dem P) (Value.bool true) b1 c1) (fun c2 c3=>some ([c,f,Q,R,Y,N,U,V,W,X,g,i,d,b,k,l,dem c,dem N,v2,v3,v4,dem f,dem N,v7,v8,v9,P,dem P,dem a0,dem a1,a2,a3,a4,dem a5,dem a6,a7,a8,a9,b0,b1,c2,M],c3)) ()) ()) ()) ()) ()) ()) ()) ()) ()) ()) ()) ()) ()) ()) ()) ()) ()) ()) ()) ()):=by
 rw [qF zB.d6 zB.ff6 zB.k6 zB.g6]
 refine congrArg YO ?_
 refine tP Try.f16 6 0 (v:=c) ?_
 refine tP Try.f16 6 1 (v:=N) ?_
 refine tD Try.f16 6 2 (fun v2 Z=>?_)
 refine tD Try.f16 6 3 (fun v3 S2=>?_)
 refine tD Try.f16 6 4 (fun v4 S3=>?_)
 refine tP Try.f16 6 5 (v:=f) ?_
 refine tP Try.f16 6 6 (v:=N) ?_
 refine tD Try.f16 6 7 (fun v7 S4=>?_)
 refine tD Try.f16 6 8 (fun v8 S5=>?_)
 refine tD Try.f16 6 9 (fun v9 S6=>?_)
 refine tD Try.f16 6 10 (fun P S7=>?_)
 refine tP Try.f16 6 11 (v:=P) ?_
 refine tG Try.f16 6 12 (j:=11) (fun a0 S8=>?_)
 refine tG Try.f16 6 13 (j:=11) (fun a1 S9=>?_)
 refine tG Try.f16 6 14 (j:=11) (fun a2 b2=>?_)
 refine tG Try.f16 6 15 (j:=11) (fun a3 b3=>?_)
 refine tG Try.f16 6 16 (j:=11) (fun a4 b4=>?_)
 refine tG Try.f16 6 17 (j:=11) (fun a5 b5=>?_)
 refine tG Try.f16 6 18 (j:=11) (fun a6 b6=>?_)
 refine tG Try.f16 6 19 (j:=11) (fun a7 b7=>?_)
 refine tG Try.f16 6 20 (j:=11) (fun a8 b8=>?_)
 refine tG Try.f16 6 21 (j:=11) (fun a9 b9=>?_)
 refine tG Try.f16 6 22 (j:=11) (fun b0 c0=>?_)
 refine tG Try.f16 6 23 (j:=11) (fun b1 c1=>?_)
 refine tD Try.f16 6 24 (fun c2 c3=>?_)
 kernel_rfl
theorem zB.r7 :jk zi ⟨false,false,false⟩ (zU zi O) (reg Try.f16 7) (reg Try.f16 7).toList ([c,f,Q,R,Y,N,U,V,W,X,g,i,d,b,k,l,m,n,o,p,q,r,s,t,u,w,x,y,z,A,B,C,D,E,F,G,H,I,J,K,L,M]) S =
  ( some ([c,f,Q,R,Value.bool false,N,U,V,W,X,g,i,d,b,k,l,m,n,o,p,q,r,s,t,u,w,x,y,z,A,B,C,D,E,F,G,H,I,J,K,L,M],S)):=by
 kernel_rfl
theorem zB.r8 :jk zi ⟨false,false,false⟩ (zU zi O) (reg Try.f16 8) (reg Try.f16 8).toList ([c,f,Q,R,Y,N,U,V,W,X,g,i,d,b,k,l,m,n,o,p,q,r,s,t,u,w,x,y,z,A,B,C,D,E,F,G,H,I,J,K,L,M]) S =
  (zM (wB zi BinOp.add 3 b (.int .i64 1) S) (fun v0 Z=>some ([c,f,Q,R,Y,N,U,V,W,X,g,i,d,dem v0,k,l,m,n,o,p,q,r,s,t,u,w,x,y,z,A,B,C,D,E,F,G,H,I,J,K,L,v0],Z)) ()):=by
 kernel_rfl
theorem zB.r9 :jk zi ⟨false,false,false⟩ (zU zi O) (reg Try.f16 9) (reg Try.f16 9).toList ([c,f,Q,R,Y,N,U,V,W,X,g,i,d,b,k,l,m,n,o,p,q,r,s,t,u,w,x,y,z,A,B,C,D,E,F,G,H,I,J,K,L,M]) S =
  ( some ([c,f,Q,R,Value.bool true,N,U,V,W,X,g,i,d,b,k,l,m,n,o,p,q,r,s,t,u,w,x,y,z,A,B,C,D,E,F,G,H,I,J,K,L,M],S)):=by
 kernel_rfl
theorem zB.rs:type_of% (afM @zB.r0 (afM @zB.r1 (afM @zB.r2 (afM @zB.r3 (afM @zB.r4 (afM @zB.r5 (afM @zB.r6 (afM @zB.r7 (afM @zB.r8 (@zB.r9)))))))))):=afM @zB.r0 (afM @zB.r1 (afM @zB.r2 (afM @zB.r3 (afM @zB.r4 (afM @zB.r5 (afM @zB.r6 (afM @zB.r7 (afM @zB.r8 (@zB.r9)))))))))
theorem zB.runs {c f:Value} {S Z:zy} {e:AEx} {T:List Value} (h:zJ zi O false zB.code ([c,f,zh,zh,zh,zh,zh,zh,zh,zh,zh,zh,zh,zh,zh,zh,zh,zh,zh,zh,zh,zh,zh,zh,zh,zh,zh,zh,zh,zh,zh,zh,zh,zh,zh,zh,zh,zh,zh,zh,zh,zh]) S=some (e,T,Z)) (he:e=.normal∨e=.ret):zU zi O 16 [c,f] S=some (T.getD 4 zh,Z) :=
 jS rfl rfl Try.func16 (by decide) zB.body (by exact h) he (wI (a:=T.getD 4 zh) ((show zN zi T Z Try.f16.results.toList=zN zi T Z [(ResultVar.tmp 4)] from by kernel_rfl).trans (by simp only [zN])) (by kernel_rfl))
end Go.Proofs.Ytpjglojnipjgfaa
namespace Go.Proofs.Ytpjglojnipjgfaa
open Go.Abs
abbrev zD.id:FuncId:=11
noncomputable def zD.zY:Code:=(.seq (.region 3 (reg Try.f11 3) false) (.seq (.cond (.tmp 14) Code.skip (.exit 0)) (.seq (.block 1 (.seq (.region 4 (reg Try.f11 4) false) (.seq (.seq (.region 5 (reg Try.f11 5) false) (.cond (.tmp 20) (.exit 0) Code.skip)) (.seq (.region 6 (reg Try.f11 6) false) (.seq (.region 7 (reg Try.f11 7) true) (.seq (.region 8 (reg Try.f11 8) false) (.region 9 (reg Try.f11 9) true))))))) (.region 10 (reg Try.f11 10) false))))
noncomputable def zD.code:Code:=(.seq (.region 0 (reg Try.f11 0) false) (.seq (.region 1 (reg Try.f11 1) false) (.seq (.seq (.region 2 (reg Try.f11 2) false) (.block 0 (.loop zD.zY))) (.seq (.region 11 (reg Try.f11 11) false) Code.ret))))
theorem zD.body:Try.f11.body=some zD.code:=by kernel_rfl
theorem zD.eta {T:List Value} (h:T.length=71):T=[T.getD 0 zh,T.getD 1 zh,T.getD 2 zh,T.getD 3 zh,T.getD 4 zh,T.getD 5 zh,T.getD 6 zh,T.getD 7 zh,T.getD 8 zh,T.getD 9 zh,T.getD 10 zh,T.getD 11 zh,T.getD 12 zh,T.getD 13 zh,T.getD 14 zh,T.getD 15 zh,T.getD 16 zh,T.getD 17 zh,T.getD 18 zh,T.getD 19 zh,T.getD 20 zh,T.getD 21 zh,T.getD 22 zh,T.getD 23 zh,T.getD 24 zh,T.getD 25 zh,T.getD 26 zh,T.getD 27 zh,T.getD 28 zh,T.getD 29 zh,T.getD 30 zh,T.getD 31 zh,T.getD 32 zh,T.getD 33 zh,T.getD 34 zh,T.getD 35 zh,T.getD 36 zh,T.getD 37 zh,T.getD 38 zh,T.getD 39 zh,T.getD 40 zh,T.getD 41 zh,T.getD 42 zh,T.getD 43 zh,T.getD 44 zh,T.getD 45 zh,T.getD 46 zh,T.getD 47 zh,T.getD 48 zh,T.getD 49 zh,T.getD 50 zh,T.getD 51 zh,T.getD 52 zh,T.getD 53 zh,T.getD 54 zh,T.getD 55 zh,T.getD 56 zh,T.getD 57 zh,T.getD 58 zh,T.getD 59 zh,T.getD 60 zh,T.getD 61 zh,T.getD 62 zh,T.getD 63 zh,T.getD 64 zh,T.getD 65 zh,T.getD 66 zh,T.getD 67 zh,T.getD 68 zh,T.getD 69 zh,T.getD 70 zh]:=(yF T 71 h).trans (by kernel_rfl)
variable (b x1 x2 x3 x4 x5 x6 x7 x8 x9 f g d c i j k l m n o p q r s t u w x y z A B C D E F G H I J K L M N P Q R U V W X Y Z a0 a1 a2 a3 a4 a5 a6 a7 a8 a9 b0 b1 b2 b3 b4 b5 b6:Value) (S:zy)
theorem zD.r0 :jk zi ⟨false,false,false⟩ (zU zi O) (reg Try.f11 0) (reg Try.f11 0).toList ([b,x1,x2,x3,x4,x5,x6,x7,x8,x9,f,g,d,c,i,j,k,l,m,n,o,p,q,r,s,t,u,w,x,y,z,A,B,C,D,E,F,G,H,I,J,K,L,M,N,P,Q,R,U,V,W,X,Y,Z,a0,a1,a2,a3,a4,a5,a6,a7,a8,a9,b0,b1,b2,b3,b4,b5,b6]) S =
  ( some ([b,x1,Value.slice none 0 0,x3,x4,x5,x6,x7,x8,x9,f,g,d,c,i,j,k,l,m,n,o,p,q,r,s,t,u,w,x,y,z,A,B,C,D,E,F,G,H,I,J,K,L,M,N,P,Q,R,U,V,W,X,Y,Z,a0,a1,a2,a3,a4,a5,a6,a7,a8,a9,b0,b1,b2,b3,b4,b5,b6],S)):=by
 kernel_rfl
theorem zD.r1 :jk zi ⟨false,false,false⟩ (zU zi O) (reg Try.f11 1) (reg Try.f11 1).toList ([b,x1,x2,x3,x4,x5,x6,x7,x8,x9,f,g,d,c,i,j,k,l,m,n,o,p,q,r,s,t,u,w,x,y,z,A,B,C,D,E,F,G,H,I,J,K,L,M,N,P,Q,R,U,V,W,X,Y,Z,a0,a1,a2,a3,a4,a5,a6,a7,a8,a9,b0,b1,b2,b3,b4,b5,b6]) S =
  ( some ([b,x1,x2,Value.slice none 0 0,x4,x5,x6,x7,x8,x9,f,g,d,c,i,j,k,l,m,n,o,p,q,r,s,t,u,w,x,y,z,A,B,C,D,E,F,G,H,I,J,K,L,M,N,P,Q,R,U,V,W,X,Y,Z,a0,a1,a2,a3,a4,a5,a6,a7,a8,a9,b0,b1,b2,b3,b4,b5,b6],S)):=by
 kernel_rfl
theorem zD.r2 :jk zi ⟨false,false,false⟩ (zU zi O) (reg Try.f11 2) (reg Try.f11 2).toList ([b,x1,x2,x3,x4,x5,x6,x7,x8,x9,f,g,d,c,i,j,k,l,m,n,o,p,q,r,s,t,u,w,x,y,z,A,B,C,D,E,F,G,H,I,J,K,L,M,N,P,Q,R,U,V,W,X,Y,Z,a0,a1,a2,a3,a4,a5,a6,a7,a8,a9,b0,b1,b2,b3,b4,b5,b6]) S =
  (zM (jH (dem b) S) (fun v1 S1=>zM (zI zi 60 v1 2 S1) (fun v2 S2=>zM (zW zi false 58 v2 S2) (fun v3 S3=>zM (xY zi 58 v3 S3) (fun v4 S4=>zM (Zy zi false Builtin.min #[3,3] 3 [v4,(.int .i64 8)] S4) (fun v5 S5=>some ([b,x1,x2,x3,x4,x5,x6,dem b,v1,v2,v3,v4,v5,.int .i64 0,i,j,k,l,m,n,o,p,q,r,s,t,u,w,x,y,z,A,B,C,D,E,F,G,H,I,J,K,L,M,N,P,Q,R,U,V,W,X,Y,Z,a0,a1,a2,a3,a4,a5,a6,a7,a8,a9,b0,b1,b2,b3,b4,b5,b6],S5)) ()) ()) ()) ()) ()):=by
 kernel_rfl
theorem zD.r3 :jk zi ⟨false,false,false⟩ (zU zi O) (reg Try.f11 3) (reg Try.f11 3).toList ([b,x1,x2,x3,x4,x5,x6,x7,x8,x9,f,g,d,c,i,j,k,l,m,n,o,p,q,r,s,t,u,w,x,y,z,A,B,C,D,E,F,G,H,I,J,K,L,M,N,P,Q,R,U,V,W,X,Y,Z,a0,a1,a2,a3,a4,a5,a6,a7,a8,a9,b0,b1,b2,b3,b4,b5,b6]) S =
  (zM (wB zi BinOp.lss 3 c d S) (fun v0 S1=>some ([b,x1,x2,x3,x4,x5,x6,x7,x8,x9,f,g,d,c,v0,j,k,l,m,n,o,p,q,r,s,t,u,w,x,y,z,A,B,C,D,E,F,G,H,I,J,K,L,M,N,P,Q,R,U,V,W,X,Y,Z,a0,a1,a2,a3,a4,a5,a6,a7,a8,a9,b0,b1,b2,b3,b4,b5,b6],S1)) ()):=by
 kernel_rfl
theorem zD.r4 :jk zi ⟨false,false,false⟩ (zU zi O) (reg Try.f11 4) (reg Try.f11 4).toList ([b,x1,x2,x3,x4,x5,x6,x7,x8,x9,f,g,d,c,i,j,k,l,m,n,o,p,q,r,s,t,u,w,x,y,z,A,B,C,D,E,F,G,H,I,J,K,L,M,N,P,Q,R,U,V,W,X,Y,Z,a0,a1,a2,a3,a4,a5,a6,a7,a8,a9,b0,b1,b2,b3,b4,b5,b6]) S =
  ( some ([b,x1,x2,x3,c,x5,x6,x7,x8,x9,f,g,d,dem c,i,dem c,k,l,m,n,o,p,q,r,s,t,u,w,x,y,z,A,B,C,D,E,F,G,H,I,J,K,L,M,N,P,Q,R,U,V,W,X,Y,Z,a0,a1,a2,a3,a4,a5,a6,a7,a8,a9,b0,b1,b2,b3,b4,b5,b6],S)):=by
 kernel_rfl
theorem zD.r5 :jk zi ⟨false,false,false⟩ (zU zi O) (reg Try.f11 5) (reg Try.f11 5).toList ([b,x1,x2,x3,x4,x5,x6,x7,x8,x9,f,g,d,c,i,j,k,l,m,n,o,p,q,r,s,t,u,w,x,y,z,A,B,C,D,E,F,G,H,I,J,K,L,M,N,P,Q,R,U,V,W,X,Y,Z,a0,a1,a2,a3,a4,a5,a6,a7,a8,a9,b0,b1,b2,b3,b4,b5,b6]) S =
  (zM (jH (dem b) S) (fun v1 S1=>zM (zI zi 60 v1 1 S1) (fun v2 S2=>zM (zW zi false 3 v2 S2) (fun v3 S3=>zM (wB zi BinOp.lss 3 v3 (.int .i64 2) S3) (fun v4 S4=>some ([b,x1,x2,x3,x4,x5,x6,x7,x8,x9,f,g,d,c,i,j,dem b,v1,v2,v3,v4,p,q,r,s,t,u,w,x,y,z,A,B,C,D,E,F,G,H,I,J,K,L,M,N,P,Q,R,U,V,W,X,Y,Z,a0,a1,a2,a3,a4,a5,a6,a7,a8,a9,b0,b1,b2,b3,b4,b5,b6],S4)) ()) ()) ()) ()):=by
 kernel_rfl
theorem zD.r6 :jk zi ⟨false,false,false⟩ (zU zi O) (reg Try.f11 6) (reg Try.f11 6).toList ([b,x1,x2,x3,x4,x5,x6,x7,x8,x9,f,g,d,c,i,j,k,l,m,n,o,p,q,r,s,t,u,w,x,y,z,A,B,C,D,E,F,G,H,I,J,K,L,M,N,P,Q,R,U,V,W,X,Y,Z,a0,a1,a2,a3,a4,a5,a6,a7,a8,a9,b0,b1,b2,b3,b4,b5,b6]) S =
  (zM (jH (dem b) S) (fun v1 S1=>zM (zI zi 60 v1 2 S1) (fun v2 S2=>zM (zW zi false 58 v2 S2) (fun v3 S3=>zM (zO zi 58 v3 (dem x4) S3) (fun v5 S4=>some ([b,x1,x2,x3,x4,v5,x6,x7,x8,x9,f,g,d,c,i,j,k,l,m,n,o,dem b,v1,v2,v3,dem x4,dem v5,w,x,y,z,A,B,C,D,E,F,G,H,I,J,K,L,M,N,P,Q,R,U,V,W,X,Y,Z,a0,a1,a2,a3,a4,a5,a6,a7,a8,a9,b0,b1,b2,b3,b4,b5,b6],S4)) ()) ()) ()) ()):=by
 kernel_rfl
theorem zD.d7:qL zi (reg Try.f11 7)=true:=by kernel_rfl
theorem zD.ff7:fixed zi (reg Try.f11 7)=false:=by kernel_rfl
theorem zD.k7:checked zi (reg Try.f11 7)=[]:=by kernel_rfl
theorem zD.g7:again zi (reg Try.f11 7)=[]:=by kernel_rfl
theorem zD.r7 :zJ zi O false (.region 7 (reg Try.f11 7) true) ([b,x1,x2,x3,x4,x5,x6,x7,x8,x9,f,g,d,c,i,j,k,l,m,n,o,p,q,r,s,t,u,w,x,y,z,A,B,C,D,E,F,G,H,I,J,K,L,M,N,P,Q,R,U,V,W,X,Y,Z,a0,a1,a2,a3,a4,a5,a6,a7,a8,a9,b0,b1,b2,b3,b4,b5,b6]) S =
  YO (zM (jH (dem b) S) (fun v1 S1=>zM (zI zi 60 v1 0 S1) (fun v2 S2=>zM (zW zi false 3 v2 S2) (fun v3 S3=>zM (wB zi BinOp.add 3 v3 (.int .i64 1) S3) (fun v4 S4=>zM (jH (dem x5) S4) (fun v6 S5=>zM (zI zi 64 v6 1 S5) (fun v7 S6=>zM (zW zi false 3 v7 S6) (fun v8 S7=>zM (jH (dem b) S7) (fun b8 S8=>zM (zI zi 60 b8 1 S8) (fun b9 S9=>zM (zW zi false 3 b9 S9) (fun c0 c1=>zM (wB zi BinOp.sub 3 c0 (.int .i64 1) c1) (fun b7 c8=>zM (wB zi BinOp.rem 3 v8 b7 c8) (fun c3 c9=>zM (wB zi BinOp.add 3 v4 c3 c9) (fun c4 d0=>zM (jH (dem b) d0) (fun c5 d1=>zM (zI zi 60 c5 1 d1) (fun c6 d2=>zM (zW zi false 3 c6 d2) (fun c7 d3=>zM (wB zi BinOp.rem 3 c4 c7 d3) (fun c2 d4=>some ([b,x1,x2,x3,x4,x5,c2,x7,x8,x9,f,g,d,c,i,j,k,l,m,n,o,p,q,r,s,t,u,dem b,v1,v2,v3,v4,dem x5,v6,v7,v8,dem b,b8,b9,c0,b7,c3,c4,dem b,c5,c6,c7,dem c2,U,V,W,X,Y,Z,a0,a1,a2,a3,a4,a5,a6,a7,a8,a9,b0,b1,b2,b3,b4,b5,b6],d4)) ()) ()) ()) ()) ()) ()) ()) ()) ()) ()) ()) ()) ()) ()) ()) ()) ()):=by
 rw [qF zD.d7 zD.ff7 zD.k7 zD.g7]
 refine congrArg YO ?_
 refine tP Try.f11 7 0 (v:=b) ?_
 refine tD Try.f11 7 1 (fun v1 S1=>?_)
 refine tD Try.f11 7 2 (fun v2 S2=>?_)
 refine tD Try.f11 7 3 (fun v3 S3=>?_)
 refine tD Try.f11 7 4 (fun v4 S4=>?_)
 refine tP Try.f11 7 5 (v:=x5) ?_
 refine tD Try.f11 7 6 (fun v6 S5=>?_)
 refine tD Try.f11 7 7 (fun v7 S6=>?_)
 refine tD Try.f11 7 8 (fun v8 S7=>?_)
 refine tP Try.f11 7 9 (v:=b) ?_
 refine tD Try.f11 7 10 (fun b8 S8=>?_)
 refine tD Try.f11 7 11 (fun b9 S9=>?_)
 refine tD Try.f11 7 12 (fun c0 c1=>?_)
 refine tD Try.f11 7 13 (fun b7 c8=>?_)
 refine tD Try.f11 7 14 (fun c3 c9=>?_)
 refine tD Try.f11 7 15 (fun c4 d0=>?_)
 refine tP Try.f11 7 16 (v:=b) ?_
 refine tD Try.f11 7 17 (fun c5 d1=>?_)
 refine tD Try.f11 7 18 (fun c6 d2=>?_)
 refine tD Try.f11 7 19 (fun c7 d3=>?_)
 refine tD Try.f11 7 20 (fun c2 d4=>?_)
 refine tP Try.f11 7 21 (v:=c2) ?_
 kernel_rfl
theorem zD.r8 :jk zi ⟨false,false,false⟩ (zU zi O) (reg Try.f11 8) (reg Try.f11 8).toList ([b,x1,x2,x3,x4,x5,x6,x7,x8,x9,f,g,d,c,i,j,k,l,m,n,o,p,q,r,s,t,u,w,x,y,z,A,B,C,D,E,F,G,H,I,J,K,L,M,N,P,Q,R,U,V,W,X,Y,Z,a0,a1,a2,a3,a4,a5,a6,a7,a8,a9,b0,b1,b2,b3,b4,b5,b6]) S =
  (zM (jH (dem x5) S) (fun v1 S1=>zM (zI zi 64 v1 1 S1) (fun v2 S2=>zM (zW zi false 3 v2 S2) (fun v3 S3=>zM (wB zi BinOp.add 3 v3 (.int .i64 1) S3) (fun v4 S4=>zM (jH (dem x5) S4) (fun v5 S5=>zM (zI zi 64 v5 1 S5) (fun v6 S6=>zM (jX zi 3 v6 (dem v4) S6) (fun v7 S7=>some ([b,x1,x2,x3,x4,x5,x6,x7,x8,x9,f,g,d,c,i,j,k,l,m,n,o,p,q,r,s,t,u,w,x,y,z,A,B,C,D,E,F,G,H,I,J,K,L,M,N,P,Q,R,dem x5,v1,v2,v3,v4,v5,v6,a1,a2,a3,a4,a5,a6,a7,a8,a9,b0,b1,b2,b3,b4,b5,b6],S7)) ()) ()) ()) ()) ()) ()) ()):=by
 kernel_rfl
theorem zD.d9:qL zi (reg Try.f11 9)=true:=by kernel_rfl
theorem zD.ff9:fixed zi (reg Try.f11 9)=false:=by kernel_rfl
theorem zD.k9:checked zi (reg Try.f11 9)=[0]:=by kernel_rfl
theorem zD.g9:again zi (reg Try.f11 9)=[]:=by kernel_rfl
theorem zD.r9 :zJ zi O false (.region 9 (reg Try.f11 9) true) ([b,x1,x2,x3,x4,x5,x6,x7,x8,x9,f,g,d,c,i,j,k,l,m,n,o,p,q,r,s,t,u,w,x,y,z,A,B,C,D,E,F,G,H,I,J,K,L,M,N,P,Q,R,U,V,W,X,Y,Z,a0,a1,a2,a3,a4,a5,a6,a7,a8,a9,b0,b1,b2,b3,b4,b5,b6]) S =
  YO (okK x3 ( zM (jH (dem b) S) (fun v3 S1=>zM (zI zi 60 v3 0 S1) (fun v4 S2=>zM (zW zi false 3 v4 S2) (fun v5 S3=>zM (jH (dem x5) S3) (fun v7 S4=>zM (zI zi 64 v7 0 S4) (fun v8 S5=>zM (zW zi false 3 v8 S5) (fun v9 S6=>zM (wK zi 52 [(0,(.int .i64 2)),(1,(dem v5)),(4,(dem v9))] S6) (fun b8 S7=>zM (wK zi 54 [(0,(dem (dem x6))),(1,(dem b8))] S7) (fun b9 S8=>zM (jl zi 26 1 [(0,b9)] S8) (fun c0 S9=>zM (yj zi 26 26 x3 c0 S9) (fun b7 c1=>some ([b,x1,x2,b7,x4,x5,x6,x7,x8,x9,f,g,d,c,i,j,k,l,m,n,o,p,q,r,s,t,u,w,x,y,z,A,B,C,D,E,F,G,H,I,J,K,L,M,N,P,Q,R,U,V,W,X,Y,Z,a0,dem x3,dem x6,dem b,v3,v4,v5,dem x5,v7,v8,v9,b8,b9,c0,dem b7,b5,b6],c1)) ()) ()) ()) ()) ()) ()) ()) ()) ()) ()) ()):=by
 rw [qF zD.d9 zD.ff9 zD.k9 zD.g9]
 refine congrArg YO ?_
 refine tPC Try.f11 9 0 (v:=x3) ?_
 refine tP Try.f11 9 1 (v:=x6) ?_
 refine tP Try.f11 9 2 (v:=b) ?_
 refine tD Try.f11 9 3 (fun v3 S1=>?_)
 refine tD Try.f11 9 4 (fun v4 S2=>?_)
 refine tD Try.f11 9 5 (fun v5 S3=>?_)
 refine tP Try.f11 9 6 (v:=x5) ?_
 refine tD Try.f11 9 7 (fun v7 S4=>?_)
 refine tD Try.f11 9 8 (fun v8 S5=>?_)
 refine tD Try.f11 9 9 (fun v9 S6=>?_)
 refine tD Try.f11 9 10 (fun b8 S7=>?_)
 refine tD Try.f11 9 11 (fun b9 S8=>?_)
 refine tD Try.f11 9 12 (fun c0 S9=>?_)
 refine tD Try.f11 9 13 (fun b7 c1=>?_)
 refine tP Try.f11 9 14 (v:=b7) ?_
 kernel_rfl
theorem zD.r10 :jk zi ⟨false,false,false⟩ (zU zi O) (reg Try.f11 10) (reg Try.f11 10).toList ([b,x1,x2,x3,x4,x5,x6,x7,x8,x9,f,g,d,c,i,j,k,l,m,n,o,p,q,r,s,t,u,w,x,y,z,A,B,C,D,E,F,G,H,I,J,K,L,M,N,P,Q,R,U,V,W,X,Y,Z,a0,a1,a2,a3,a4,a5,a6,a7,a8,a9,b0,b1,b2,b3,b4,b5,b6]) S =
  (zM (wB zi BinOp.add 3 c (.int .i64 1) S) (fun v0 S1=>some ([b,x1,x2,x3,x4,x5,x6,x7,x8,x9,f,g,d,dem v0,i,j,k,l,m,n,o,p,q,r,s,t,u,w,x,y,z,A,B,C,D,E,F,G,H,I,J,K,L,M,N,P,Q,R,U,V,W,X,Y,Z,a0,a1,a2,a3,a4,a5,a6,a7,a8,a9,b0,b1,b2,b3,b4,v0,b6],S1)) ()):=by
 kernel_rfl
theorem zD.r11 :jk zi ⟨false,false,false⟩ (zU zi O) (reg Try.f11 11) (reg Try.f11 11).toList ([b,x1,x2,x3,x4,x5,x6,x7,x8,x9,f,g,d,c,i,j,k,l,m,n,o,p,q,r,s,t,u,w,x,y,z,A,B,C,D,E,F,G,H,I,J,K,L,M,N,P,Q,R,U,V,W,X,Y,Z,a0,a1,a2,a3,a4,a5,a6,a7,a8,a9,b0,b1,b2,b3,b4,b5,b6]) S =
  ( some ([b,x1,x3,dem x3,x4,x5,x6,x7,x8,x9,f,g,d,c,i,j,k,l,m,n,o,p,q,r,s,t,u,w,x,y,z,A,B,C,D,E,F,G,H,I,J,K,L,M,N,P,Q,R,U,V,W,X,Y,Z,a0,a1,a2,a3,a4,a5,a6,a7,a8,a9,b0,b1,b2,b3,b4,b5,dem x3],S)):=by
 kernel_rfl
theorem zD.rs:type_of% (afM @zD.r0 (afM @zD.r1 (afM @zD.r2 (afM @zD.r3 (afM @zD.r4 (afM @zD.r5 (afM @zD.r6 (afM @zD.r7 (afM @zD.r8 (afM @zD.r9 (afM @zD.r10 (@zD.r11)))))))))))):=afM @zD.r0 (afM @zD.r1 (afM @zD.r2 (afM @zD.r3 (afM @zD.r4 (afM @zD.r5 (afM @zD.r6 (afM @zD.r7 (afM @zD.r8 (afM @zD.r9 (afM @zD.r10 (@zD.r11)))))))))))
theorem zD.runs {b:Value} {S S1:zy} {e:AEx} {T:List Value} (h:zJ zi O false zD.code ([b,zh,zh,zh,zh,zh,zh,zh,zh,zh,zh,zh,zh,zh,zh,zh,zh,zh,zh,zh,zh,zh,zh,zh,zh,zh,zh,zh,zh,zh,zh,zh,zh,zh,zh,zh,zh,zh,zh,zh,zh,zh,zh,zh,zh,zh,zh,zh,zh,zh,zh,zh,zh,zh,zh,zh,zh,zh,zh,zh,zh,zh,zh,zh,zh,zh,zh,zh,zh,zh,zh]) S=some (e,T,S1)) (he:e=.normal∨e=.ret):zU zi O 11 [b] S=some (T.getD 2 zh,S1) :=
 jS rfl rfl Try.func11 (by decide) zD.body (by exact h) he (wI (a:=T.getD 2 zh) ((show zN zi T S1 Try.f11.results.toList=zN zi T S1 [(ResultVar.tmp 2)] from by kernel_rfl).trans (by simp only [zN])) (by kernel_rfl))
end Go.Proofs.Ytpjglojnipjgfaa
namespace Go.Proofs.Ytpjglojnipjgfaa
open Go.Abs
abbrev jI.id:FuncId:=9
noncomputable def jI.code:Code:=(.seq (.region 0 (reg Try.f9 0) false) (.seq (.region 1 (reg Try.f9 1) false) Code.ret))
theorem jI.body:Try.f9.body=some jI.code:=by kernel_rfl
variable (b c f g m i j k l:Value) (S:zy)
theorem jI.r0 :jk zi ⟨false,false,false⟩ (zU zi O) (reg Try.f9 0) (reg Try.f9 0).toList ([b,c,f,g,m,i,j,k,l]) S =
  ( some ([b,c,f,g,Value.pointer none,i,j,k,l],S)):=by
 kernel_rfl
theorem jI.r1 :jk zi ⟨false,false,false⟩ (zU zi O) (reg Try.f9 1) (reg Try.f9 1).toList ([b,c,f,g,m,i,j,k,l]) S =
  (zM (wK zi 60 [(0,(dem (dem b))),(1,(dem (dem c)))] S) (fun n d=>zM (Yp (dem n) d) (fun o p=>some ([b,c,f,g,o,dem b,dem c,n,dem o],p)) ()) ()):=by
 kernel_rfl
theorem jI.rs:type_of% (afM @jI.r0 (@jI.r1)):=afM @jI.r0 (@jI.r1)
theorem jI.runs {b c:Value} {S d:zy} {e:AEx} {T:List Value} (h:zJ zi O false jI.code ([b,c,zh,zh,zh,zh,zh,zh,zh]) S=some (e,T,d)) (he:e=.normal∨e=.ret):zU zi O 9 [b,c] S=some (T.getD 4 zh,d) :=
 jS rfl rfl Try.func9 (by decide) jI.body (by exact h) he (wI (a:=T.getD 4 zh) ((show zN zi T d Try.f9.results.toList=zN zi T d [(ResultVar.tmp 4)] from by kernel_rfl).trans (by simp only [zN])) (by kernel_rfl))
end Go.Proofs.Ytpjglojnipjgfaa
namespace Go.Proofs.Ytpjglojnipjgfaa
open Go.Abs
abbrev zG.id:FuncId:=18
noncomputable def zG.zY:Code:=(.seq (.region 3 (reg Try.f18 3) false) (.seq (.cond (.tmp 12) Code.skip (.exit 0)) (.seq (.block 1 (.seq (.region 4 (reg Try.f18 4) false) (.region 5 (reg Try.f18 5) false))) (.region 6 (reg Try.f18 6) false))))
noncomputable def zG.code:Code:=(.seq (.region 0 (reg Try.f18 0) false) (.seq (.region 1 (reg Try.f18 1) false) (.seq (.seq (.region 2 (reg Try.f18 2) false) (.block 0 (.loop zG.zY))) (.seq (.region 7 (reg Try.f18 7) false) Code.ret))))
theorem zG.body:Try.f18.body=some zG.code:=by kernel_rfl
theorem zG.eta {T:List Value} (h:T.length=22):T=[T.getD 0 zh,T.getD 1 zh,T.getD 2 zh,T.getD 3 zh,T.getD 4 zh,T.getD 5 zh,T.getD 6 zh,T.getD 7 zh,T.getD 8 zh,T.getD 9 zh,T.getD 10 zh,T.getD 11 zh,T.getD 12 zh,T.getD 13 zh,T.getD 14 zh,T.getD 15 zh,T.getD 16 zh,T.getD 17 zh,T.getD 18 zh,T.getD 19 zh,T.getD 20 zh,T.getD 21 zh]:=(yF T 22 h).trans (by kernel_rfl)
variable (p r y q s t v w x u c b d f g i j k l m n o:Value) (S:zy)
theorem zG.r0 :jk zi ⟨false,false,false⟩ (zU zi O) (reg Try.f18 0) (reg Try.f18 0).toList ([p,r,y,q,s,t,v,w,x,u,c,b,d,f,g,i,j,k,l,m,n,o]) S =
  ( some ([p,r,Value.slice none 0 0,q,s,t,v,w,x,u,c,b,d,f,g,i,j,k,l,m,n,o],S)):=by
 kernel_rfl
theorem zG.r1 :jk zi ⟨false,false,false⟩ (zU zi O) (reg Try.f18 1) (reg Try.f18 1).toList ([p,r,y,q,s,t,v,w,x,u,c,b,d,f,g,i,j,k,l,m,n,o]) S =
  ( some ([p,r,y,Value.slice none 0 0,s,t,v,w,x,u,c,b,d,f,g,i,j,k,l,m,n,o],S)):=by
 kernel_rfl
theorem zG.r2 :jk zi ⟨false,false,false⟩ (zU zi O) (reg Try.f18 2) (reg Try.f18 2).toList ([p,r,y,q,s,t,v,w,x,u,c,b,d,f,g,i,j,k,l,m,n,o]) S =
  (zM (jH (dem p) S) (fun A z=>zM (zI zi 60 A 2 z) (fun B E=>zM (zW zi false 58 B E) (fun D F=>zM (xY zi 58 D F) (fun H G=>some ([p,r,y,q,s,t,dem p,A,B,D,H,.int .i64 0,d,f,g,i,j,k,l,m,n,o],G)) ()) ()) ()) ()):=by
 kernel_rfl
theorem zG.r3 :jk zi ⟨false,false,false⟩ (zU zi O) (reg Try.f18 3) (reg Try.f18 3).toList ([p,r,y,q,s,t,v,w,x,u,c,b,d,f,g,i,j,k,l,m,n,o]) S =
  (zM (wB zi BinOp.lss 3 b c S) (fun C z=>some ([p,r,y,q,s,t,v,w,x,u,c,b,C,f,g,i,j,k,l,m,n,o],z)) ()):=by
 kernel_rfl
theorem zG.r4 :jk zi ⟨false,false,false⟩ (zU zi O) (reg Try.f18 4) (reg Try.f18 4).toList ([p,r,y,q,s,t,v,w,x,u,c,b,d,f,g,i,j,k,l,m,n,o]) S =
  (zM (zO zi 58 u b S) (fun C z=>zM (zW zi false 64 C z) (fun A E=>zM (ql zi 64 E) (fun B F=>zM (jX zi 64 B (dem A) F) (fun D G=>some ([p,r,y,q,s,B,v,w,x,u,c,b,d,C,A,i,j,k,l,m,n,o],G)) ()) ()) ()) ()):=by
 kernel_rfl
theorem zG.r5 :jk zi ⟨false,false,false⟩ (zU zi O) (reg Try.f18 5) (reg Try.f18 5).toList ([p,r,y,q,s,t,v,w,x,u,c,b,d,f,g,i,j,k,l,m,n,o]) S =
  (zM (zI zi 64 t 0 S) (fun A z=>zM (zW zi false 3 A z) (fun B E=>zM (jl zi 29 1 [(0,B)] E) (fun D F=>zM (yj zi 29 29 q D F) (fun H G=>some ([p,r,y,H,s,t,v,w,x,u,c,b,d,f,g,dem q,A,B,D,dem H,n,o],G)) ()) ()) ()) ()):=by
 kernel_rfl
theorem zG.r6 :jk zi ⟨false,false,false⟩ (zU zi O) (reg Try.f18 6) (reg Try.f18 6).toList ([p,r,y,q,s,t,v,w,x,u,c,b,d,f,g,i,j,k,l,m,n,o]) S =
  (zM (wB zi BinOp.add 3 b (.int .i64 1) S) (fun C z=>some ([p,r,y,q,s,t,v,w,x,u,c,dem C,d,f,g,i,j,k,l,m,C,o],z)) ()):=by
 kernel_rfl
theorem zG.r7 :jk zi ⟨false,false,false⟩ (zU zi O) (reg Try.f18 7) (reg Try.f18 7).toList ([p,r,y,q,s,t,v,w,x,u,c,b,d,f,g,i,j,k,l,m,n,o]) S =
  ( some ([p,r,q,dem q,s,t,v,w,x,u,c,b,d,f,g,i,j,k,l,m,n,dem q],S)):=by
 kernel_rfl
theorem zG.rs:type_of% (afM @zG.r0 (afM @zG.r1 (afM @zG.r2 (afM @zG.r3 (afM @zG.r4 (afM @zG.r5 (afM @zG.r6 (@zG.r7)))))))):=afM @zG.r0 (afM @zG.r1 (afM @zG.r2 (afM @zG.r3 (afM @zG.r4 (afM @zG.r5 (afM @zG.r6 (@zG.r7)))))))
theorem zG.runs {p:Value} {S z:zy} {e:AEx} {T:List Value} (h:zJ zi O false zG.code ([p,zh,zh,zh,zh,zh,zh,zh,zh,zh,zh,zh,zh,zh,zh,zh,zh,zh,zh,zh,zh,zh]) S=some (e,T,z)) (he:e=.normal∨e=.ret):zU zi O 18 [p] S=some (T.getD 2 zh,z) :=
 jS rfl rfl Try.func18 (by decide) zG.body (by exact h) he (wI (a:=T.getD 2 zh) ((show zN zi T z Try.f18.results.toList=zN zi T z [(ResultVar.tmp 2)] from by kernel_rfl).trans (by simp only [zN])) (by kernel_rfl))
end Go.Proofs.Ytpjglojnipjgfaa
