/-
The law MsgApart returns true for every input, and leaves it as it was; no condition. Part 5 of 5 of the texts (put together by a program: own names are short, what isn't needed is left out).
-/
import Derived.Test.YtbgcphbbchndkaaZMsgApart4
import Derived.Test.YtbgcphbbchndkaaRows
import Derived.WalkKit
import Derived.ProofKit
import Derived.OpenShut
import Derived.ShutString
import Derived.ChangeOld
import Derived.Below
import Derived.SizedLaws
import Derived.Carry
set_option linter.unusedVariables false
set_option linter.unusedSimpArgs false
set_option maxRecDepth 100000
open Go renaming undef → zh
open Go.Proofs.Try renaming prog → zi
open Nat renaming reduceEqDiff → zk
open Int renaming reduceEq → zn
open Int renaming reduceLT → zo
open Int renaming reduceLE → zq
namespace Go.Proofs.Ytbgcphbbchndkaa
open Go.Abs
theorem Vq (m:jK) (S:zu):∃ S2,Zk (mv m) S=some (.pointer (some ⟨S.next,0,none⟩),S2)∧S2.get S.next=some (.cells (fM m) (.own []) 0)∧Ext S S2∧S.next < S2.next:=afP (mv m) S
theorem af0 (m:jK) (S:zu):∃ S2,wo zi 30 (.pointer (some ⟨S.next,0,none⟩)) (mv m) (S.push (.cells (fM m0) (.own []) 0))=some (zh,S2)∧S2.get S.next=some (.cells (fM m) (.own []) 0)∧Ext S S2∧S.next < S2.next :=
 YH S (by rw [yV];rfl) vw rfl (agV m)
abbrev tM:Ty:=.pair (.int .i64) (.pair (.int .i64) (.pair (.int .i64) (.pair (.int .i64) (.pair (.int .i64) (.pair (.int .i64) (.pair tTx (.pair tBk .unit)))))))
theorem ait (x:tM.Val) (hg:tM.Good x):∃ m:jK,tM.JI x=fM m∧m.Ok:=by
 obtain ⟨a,b,c,d,e,f,t,y,u⟩:=x
 obtain ⟨h1,h2,h3,h4,h5,h6,h7,h8,_⟩:=hg
 obtain ⟨t',t1,ht⟩:=ahE t h7
 obtain ⟨y',y1,hy⟩:=ain y h8
 refine ⟨⟨a,b,c,d,e,f,t',y'⟩,?_,⟨hy,ht,Jq h1,Jq h2,Jq h3,Jq h4,Jq h5,Jq h6⟩⟩
 show [Value.int .i64 a]++([Value.int .i64 b]++([Value.int .i64 c]++([Value.int .i64 d]++([Value.int .i64 e]++([Value.int .i64 f]++(tTx.JI t++(tBk.JI y++[])))))))=_
 rw [t1,y1];rfl
theorem aeo {m:jK} (h:y7 m=true):(XW m).length≤210:=by
 unfold XW
 have:=Q9 (WT h);have:=Zn (acI m)
 rw [List.length_append];omega
theorem aaN (m:jK):∃ k x e,Okl k x∧List.length x≤210∧Jg m=.tuple #[by_ k x,.int .i64 e]∧((e=0∧y7 m=true∧x=XW m∧k=2)∨(e=121∧y7 m=false∧x=[]∧k=0)):=by
 unfold Jg
 cases h:y7 m
 ·
  exact ⟨0,[],121,Okl.none,by simp,rfl,.inr ⟨rfl,rfl,rfl,rfl⟩⟩
 ·
  exact ⟨2,XW m,0,Okl.own,aeo h,rfl,.inl ⟨rfl,rfl,rfl,rfl⟩⟩
end Go.Proofs.Ytbgcphbbchndkaa
namespace Go.Proofs.Ytbgcphbbchndkaa
open Go.Abs
abbrev fMm (m:jK) (a:Option Addr):List Value:=[.int .i64 m.kind,.int .i64 m.frm,.int .i64 m.index,.int .i64 m.view,.int .i64 m.value,.int .i64 m.prep,.int .i64 m.tx.id,.int .i64 m.tx.fee,.int .i64 m.b.slot,.int .i64 m.b.miner,.int .i64 m.b.variant,.int .i64 m.b.parent,.slice a m.b.txs.length m.b.txs.length]
abbrev mvm (m:jK) (a:Option Addr):Value:=.agg [Value.int .i64 m.kind,.int .i64 m.frm,.int .i64 m.index,.int .i64 m.view,.int .i64 m.value,.int .i64 m.prep,.int .i64 m.tx.id,.int .i64 m.tx.fee,.int .i64 m.b.slot,.int .i64 m.b.miner,.int .i64 m.b.variant,.int .i64 m.b.parent,.slice a m.b.txs.length m.b.txs.length].toArray
theorem ahv (m:jK):YN (mv m)=false:=by
 show [Value.int .i64 m.kind,.int .i64 m.frm,.int .i64 m.index,.int .i64 m.view,.int .i64 m.value,.int .i64 m.prep,.int .i64 m.tx.id,.int .i64 m.tx.fee,.int .i64 m.b.slot,.int .i64 m.b.miner,.int .i64 m.b.variant,.int .i64 m.b.parent,tl m.b.k m.b.txs].any JH=false
 simp only [List.any_cons,List.any_nil,aii,Bool.or_false];rfl
theorem wC.m {m:jK} (hm:m.Ok) (hl:m.b.txs.length≤8796093022208) (S:zu):∃ a S1 fp,jc zi O wC.id [mv m] S=some (mvm m a,S1)∧Zf fT 2 S1 a m.b.txs fp∧(∀ x ∈ fp,S.next≤x)∧Ext S S1:=by
 obtain ⟨T,hTe⟩:∃ T,T=(mv m::zh::zh::zh::zh::zh::zh::zh::[]):=⟨_,rfl⟩
 have hr:zD zi O true wC.code T S=zD zi O true wC.code T S:=rfl
 obtain ⟨S1,b1,b2,b3,b4⟩:=Vq m S
 have al:=Qq S1
 have x2:Ext S1 (S1.push (.cells (fM m0) (.own []) 0)):=Ext.push _ _
 have g2:(S1.push (.cells (fM m0) (.own []) 0)).get S1.next=some (.cells (fM m0) (.own []) 0):=by rw [zu.jE,if_pos rfl]
 have n2:S1.next < (S1.push (.cells (fM m0) (.own []) 0)).next:=by simp
 generalize S1.push (.cells (fM m0) (.own []) 0)=S2 at al x2 g2 n2
 have g1:S2.get S.next=some (.cells (fM m) (.own []) 0):=(x2.get _ b4).trans b2
 have l7:=kG g1 hm.b.ne
 obtain ⟨a,S3,fp,c1,c2,c3,c4⟩:=jQ.m hm.b hl S2
 have g3:S3.get S.next=some (.cells (fM m) (.own []) 0):=(c4.get _ (Nat.lt_of_lt_of_le b4 x2.next)).trans g1
 have g4:S3.get S1.next=some (.cells (fM m0) (.own []) 0):=(c4.get _ n2).trans g2
 obtain ⟨S4,s1,s2,s3,s4,s5⟩:=xW (P:=zi) (t:=28) (x:=bvm m.b a) (o:=0+8) (n:=5) g3 xg rfl rfl (by simp [fM]) ((b3.trans x2).trans c4) (Nat.le_refl _)
 have s2:S4.get S.next=some (.cells (fMm m a) (.own []) 0):=s2
 have l5:zQ zi false 30 (.pointer (some ⟨S.next,0,none⟩)) S4=some (mvm m a,S4):=by rw [JO s2];rfl
 have g5:S4.get S1.next=some (.cells (fM m0) (.own []) 0):=(s5 _ (by omega)).trans g4
 obtain ⟨S5,r1,r2,r3,r4,r5⟩:=xW (P:=zi) (t:=30) (x:=mvm m a) (o:=0) (n:=13) g5 vw rfl rfl (by simp [fM]) s3 (Nat.le_of_lt b4)
 have r2:S5.get S1.next=some (.cells (fMm m a) (.own []) 0):=r2
 have l6:zQ zi false 30 (.pointer (some ⟨S1.next,0,none⟩)) S5=some (mvm m a,S5):=by rw [JO r2];rfl
 have hA:Zf fT 2 S5 a m.b.txs fp:=c2.keep (by rw [r4,s4];exact Nat.le_refl _) fun x hx=>by
  have h1:=c3 x hx
  have h2:=x2.next
  rw [r5 x (by omega),s5 x (by omega)]
 refine ⟨a,S5,fp,?_,hA,fun x hx=>Nat.le_trans (Nat.le_trans (Nat.le_of_lt b4) x2.next) (c3 x hx),r3⟩
 conv at hr =>
  rhs
  rw [hTe]
  simp only [wC.code,wC.rs,zSs,reduceIte,zk,zn,zo,zq,b1,al,jk,l7,c1,s1,l5,r1]
 rw [hTe] at hr
 exact wC.runs hr (.inr rfl) l6
def Jb (m:jK):jK:={ m with b:={ m.b with k:=1 } }
theorem WM {m:jK} (hm:m.Ok):(Jb m).Ok:=⟨⟨Okl.read,(show (1:Nat)≠2 by decide),hm.b.len,hm.b.par⟩,hm.tx,hm.kind,hm.frm,hm.index,hm.view,hm.value,hm.prep⟩
theorem abq (m:jK):yX m (Jb m)=true:=YA.2 ⟨rfl,rfl,rfl,rfl,rfl,rfl,rfl,vF.2 ⟨rfl,rfl,rfl,rfl,rfl⟩⟩
theorem ahC {S:zu} {q e:Nat} {m:jK} {own:Own} (h:S.get q=some (.cells (fM m) own e)) (hk:m.b.k≠2):zQ zi false 26 (.pointer (some ⟨q,0+8+4,none⟩)) S=some (tl m.b.k m.b.txs,S):=by
 rw [Wx (o:=0+8+4) (v:=tl m.b.k m.b.txs) h JR rfl (fun l h=>by unfold tl vs sv at h;split at h <;> cases h),VT,if_neg hk]
theorem zU.v {m:jK} (hm:m.Ok) (hl:m.b.txs.length≤8796093022208) (S:zu):jc zi O zU.id [mv m] S=some (mv (Jb m),S):=by
 obtain ⟨T,hTe⟩:∃ T,T=(mv m::zh::zh::zh::zh::zh::zh::zh::zh::zh::zh::[]):=⟨_,rfl⟩
 have hr:zD zi O false zU.code T zu.empty=zD zi O false zU.code T zu.empty:=rfl
 have a1:yc zi 30 (Y5 m)=some (.pointer (some ⟨1,0,none⟩),abp m m0):=Qq (Y5 m)
 have g0:=X5 m m0
 have g1:=VJ m m0
 have xA:Ext zu.empty (abp m m0):=(Ext.push _ _).trans (Ext.push _ _)
 generalize abp m m0=A at a1 g0 g1 xA
 have l0:=ahC g0 hm.b.ne
 have cp:=fun S=>agK (S:=S) hm.b.okl (by omega)
 obtain ⟨A2,s1,s2,s3,s4,s5⟩:=xW (P:=zi) (t:=26) (x:=tl 1 m.b.txs) (o:=0+8+4) (n:=1) g0 Qn (by rw [QE];rfl) (by rw [QE];simp only [List.all_cons,List.all_nil,adM,Bool.and_true]) (by simp [fM]) xA (Nat.zero_le _)
 have s2:A2.get 0=some (.cells (fM (Jb m)) (.own []) 0):=by rw [s2,QE];rfl
 have g2:A2.get 1=some (.cells (fM m0) (.own []) 0):=(s5 1 (by decide)).trans g1
 have ne:=(WM hm).b.ne
 have l1:=kQ s2 ne
 obtain ⟨A3,r1,r2,r3,r4,r5⟩:=xW (P:=zi) (t:=30) (x:=mv (Jb m)) (o:=0) (n:=13) g2 vw rfl (by rw [yV,List.toList_toArray];exact agV (Jb m)) (by simp [fM]) s3 (Nat.zero_le _)
 have r2:A3.get 1=some (.cells (fM (Jb m)) (.own []) 0):=r2
 conv at hr =>
  rhs
  rw [hTe]
  simp only [zU.code,zU.rs,zSs,reduceIte,zk,zn,zo,zq,xq,a1,tl0,jk,jh,l0,if_neg hm.b.ne,cp,s1,l1,r1]
 rw [hTe] at hr
 exact zU.runs hr (.inr rfl) (kQ r2 ne) (all1 (wI hm.b.okl.le)) (wI (WM hm).b.okl.le)
end Go.Proofs.Ytbgcphbbchndkaa
namespace Go.Proofs.Ytbgcphbbchndkaa
open Go.Abs
theorem Zd.v (S:zu):jc zi O 9 [] S=some (.bool true,S):=aeO (n:=80) (by kernel_rfl)
end Go.Proofs.Ytbgcphbbchndkaa
namespace Go.Proofs.Ytbgcphbbchndkaa
open Go.Abs
namespace msgApart
def codes:List (Bool×Ty):=[(true,tM),(true,tM)]
theorem coded:Y4 zi 9 [30,30]=some codes:=by kernel_rfl
def V6 (l:List TxV):List TxV:=l.map fun t=>⟨t.id,IntKind.i64.wrap (t.fee+3)⟩
section
variable {m:jK} {a:Option Addr} {qc:Nat}
theorem aci {S:zu} {q:Nat} (h:S.get q=some (.cells (fMm m a) (.own []) 0)):zQ zi false 26 (.pointer (some ⟨q,0+8+4,none⟩)) S=some (.slice a m.b.txs.length m.b.txs.length,S):=af7 (o:=0+8+4) h JR rfl
theorem round (hl:m.b.txs.length≤8796093022208) {fp:List Nat} {S0:zu} (hq0:qc < S0.next) (hqf:qc ∉ fp):∀ (suf pre:List TxV) {T:List Value} {r:St} {S:zu} {fp1:List Nat},qB (zD zi O true zx.jS) T S=r→T.length=66 →
  T.getD 10 zh=.pointer (some ⟨qc,0,none⟩)→T.getD 48 zh=.int .i64 m.b.txs.length→T.getD 49 zh=.int .i64 pre.length→m.b.txs=pre++suf→S.get qc=some (.cells (fMm m a) (.own []) 0)→Zf fT 2 S a (V6 pre++suf) fp1→(∀ x ∈ fp1,x ∈ fp)→Fr fp S0 S →
  ∃ T' S',r=some (.exit 0,T',S')∧T'.length=66∧T'.getD 2 zh=T.getD 2 zh∧T'.getD 9 zh=T.getD 9 zh∧Fr fp S0 S':=by
 intro suf
 induction suf with
 | nil =>
  intro pre T r S fp1 hL hT h10 h48 h49 hpre hg hA hfp hF
  have hTe:=zx.eta hT
  rw [h10,h48,h49] at hTe
  have hr:zD zi O true zx.jS T S=zD zi O true zx.jS T S:=rfl
  have hd:¬ (pre.length:Int) < (m.b.txs.length:Int):=by rw [hpre];simp
  conv at hr =>
   rhs
   rw [hTe]
   simp only [zx.jS,zx.code,zx.rs,zSs,reduceIte,zk,zn,zo,zq,hd]
  exact ⟨_,_,hL.symm.trans (wR hr (by simp)),rfl,rfl,rfl,hF⟩
 | cons x suf ih =>
  intro pre T r S fp1 hL hT h10 h48 h49 hpre hg hA hfp hF
  have hTe:=zx.eta hT
  rw [h10,h48,h49] at hTe
  have hr:zD zi O true zx.jS T S=zD zi O true zx.jS T S:=rfl
  have hlen:m.b.txs.length=pre.length+1+suf.length:=by rw [hpre];simp;omega
  have hd:(pre.length:Int) < (m.b.txs.length:Int):=by omega
  have hA0:=hA
  rcases hA0 with ⟨_,h,_⟩ | ⟨r0,anc,rest,ha,hfa,hgr,hx⟩
  ·
   have:=congrArg List.length h;simp at this
  subst ha
  have hpl:(V6 pre).length=pre.length:=by simp [V6]
  obtain ⟨l1,S1,s1,s2,s3,s4,s5⟩:=ag0 (IntKind.i64.wrap (x.fee+3)) hA
  rw [hpl] at l1 s1
  have ix:∀ S,jw zi 26 (.slice (some ⟨r0,0,none⟩) m.b.txs.length m.b.txs.length) (.int .i64 pre.length) S=some (.pointer (some ⟨r0,0+pre.length * 2,none⟩),S):=fun S=>by
   rw [agq (o:=0) (n:=m.b.txs.length) (c:=m.b.txs.length) (q:=r0) qA kR (by omega) hd,Int.toNat_natCast]
  have l12:=aci hg
  have wi:IntKind.i64.wrap ((pre.length:Int)+1)=((pre++[x]).length:Int):=by rw [wrap_i64 (by omega) (by omega)];simp
  conv at hr =>
   rhs
   rw [hTe]
   simp only [zx.jS,zx.code,zx.rs,zSs,reduceIte,zk,zn,zo,zq,hd,jk,jh,ZV,l12,ix,l1,s1,wi]
  have hqn:qc ∉ fp1:=fun h=>hqf (hfp qc h)
  have hq1:qc < S.next:=Nat.lt_of_lt_of_le hq0 hF.1
  have g1:S1.get qc=some (.cells (fMm m (some ⟨r0,0,none⟩)) (.own []) 0):=(s5.2 qc hq1 hqn).trans hg
  have hs:=(y9 hr).symm.trans hL
  obtain ⟨T',S',p1,p2,p3,p4,p5⟩:=ih (pre++[x]) hs rfl rfl rfl rfl (by simp [hpre]) g1 (fp1:=[r0]) (by simpa [V6] using s2) (fun y hy=>by rw [List.mem_singleton.1 hy];exact hfp r0 s4) (hF.trans s5 fun y hy=>.inl (hfp y hy))
  exact ⟨T',S',p1,p2,p3,p4,p5⟩
end
theorem aa4 {a b:jK} (ha:y7 a=true) (hb:y7 b=true):decide (XW a=XW b)=yX a b:=by
 cases h:yX a b with
 | true=>exact decide_eq_true (like h).2.2.symm
 | false =>
  refine decide_eq_false fun he=>?_
  rw [aef ha hb he] at h
  cases h
theorem run {a b:jK} (ha:a.Ok) (hb:b.Ok) (S:zu):∃ S',jc zi O 8 [mv a,mv b] S=some (.bool true,S'):=by
 obtain ⟨T,hTe⟩:∃ T,T=(mv a::mv b::zh::zh::zh::zh::zh::zh::zh::zh::zh::zh::zh::zh::zh::zh::zh::zh::zh::zh::zh::zh::zh::zh::zh::zh::zh::zh::zh::zh::zh::zh::zh::zh::zh::zh::zh::zh::zh::zh::zh::zh::zh::zh::zh::zh::zh::zh::zh::zh::zh::zh::zh::zh::zh::zh::zh::zh::zh::zh::zh::zh::zh::zh::zh::zh::[]):=⟨_,rfl⟩
 have hr:zD zi O true zx.code T S=zD zi O true zx.code T S:=rfl
 have hla:a.b.txs.length≤8796093022208:=by have:=ha.b.len;omega
 obtain ⟨S1,b1,b2,b3,b4⟩:=Vq a S
 obtain ⟨S2,d1,d2,d3,d4⟩:=Vq b S1
 have ga:S2.get S.next=some (.cells (fM a) (.own []) 0):=(d3.get _ b4).trans b2
 have na:S.next < S2.next:=Nat.lt_of_lt_of_le b4 d3.next
 have al:∀ S,vT (jc zi O) 9 [] S=some (.bool true,S):=fun S=>aaE (Zd.v S) rfl
 have hz:∀ m:jK,[mv m].all (fun x=>!YN x)=true:=fun m=>by simp only [List.all_cons,List.all_nil,ahv];rfl
 have hz2:∀ m n:jK,[mv m,mv n].all (fun x=>!YN x)=true:=fun m n=>by simp only [List.all_cons,List.all_nil,ahv];rfl
 have c1:∀ S,vT (jc zi O) 13 [mv a] S=some (Jg a,S):=fun S=>aaE (zV.v ha S) (hz a)
 have c2:∀ S,vT (jc zi O) 13 [mv b] S=some (Jg b,S):=fun S=>aaE (zV.v hb S) (hz b)
 have c3:∀ S,vT (jc zi O) 15 [mv a,mv b] S=some (.bool (yX a b),S):=fun S=>aaE (jr.v ha hb S) (hz2 a b)
 have c4:∀ S,vT (jc zi O) 21 [mv a] S=some (mv (Jb a),S):=fun S=>aaE (zU.v ha hla S) (hz a)
 have ld0:=kQ ga ha.b.ne
 have ld1:=kQ d2 hb.b.ne
 obtain ⟨S3,e1,e2,e3,e4⟩:=af0 (Jb a) S2
 have ga3:S3.get S.next=some (.cells (fM a) (.own []) 0):=(e3.get _ na).trans ga
 have na3:S.next < S3.next:=Nat.lt_of_lt_of_le na e3.next
 have ld2:=kQ ga3 ha.b.ne
 obtain ⟨ad,S4,fp,f1,f2,f3,f4⟩:=wC.m ha hla S3
 have ga4:S4.get S.next=some (.cells (fM a) (.own []) 0):=(f4.get _ na3).trans ga3
 have gw4:S4.get S2.next=some (.cells (fM (Jb a)) (.own []) 0):=(f4.get _ e4).trans e2
 have al4:=Qq S4
 obtain ⟨S5,h1,h2,h3,h4⟩:=YH (P:=zi) (t:=30) (z:=fM m0) (xs:=fMm a ad) (x:=mvm a ad) S4 rfl vw rfl rfl
 have ga5:S5.get S.next=some (.cells (fM a) (.own []) 0):=(h3.get _ (Nat.lt_of_lt_of_le na3 f4.next)).trans ga4
 have gw5:S5.get S2.next=some (.cells (fM (Jb a)) (.own []) 0):=(h3.get _ (Nat.lt_of_lt_of_le e4 f4.next)).trans gw4
 have l12:=aci h2
 have ln:=fun S=>agf qA ad a.b.txs.length a.b.txs.length S
 have hA5:Zf fT 2 S5 ad a.b.txs fp:=f2.ext h3
 have hq5:S4.next ∉ fp:=fun h=>by have:=f2.lt _ h;omega
 have fin:∀ T2 S6 r,r=some (AEx.exit 0,T2,S6)→T2.length=66→T2.getD 2 zh=.pointer (some ⟨S.next,0,none⟩)→T2.getD 9 zh=.pointer (some ⟨S2.next,0,none⟩)→Fr fp S5 S6 →
   ∃ T3,aek (Jh 0 r) (zD zi O true (.seq (.region 14 (reg Try.f8 14) false) .ret))=some (.ret,T3,S6)∧T3.getD 4 zh=.bool true:=by
  intro T2 S6 r hreq hT2 t2 t9 hF
  subst hreq
  have hTe2:=zx.eta hT2
  rw [t2,t9] at hTe2
  have ga6:S6.get S.next=some (.cells (fM a) (.own []) 0):=(hF.2 _ (Nat.lt_of_lt_of_le (Nat.lt_of_lt_of_le na3 f4.next) h3.next) (hA5.ahp ga5)).trans ga5
  have gw6:S6.get S2.next=some (.cells (fM (Jb a)) (.own []) 0):=(hF.2 _ (Nat.lt_of_lt_of_le (Nat.lt_of_lt_of_le e4 f4.next) h3.next) (hA5.ahp gw5)).trans gw5
  have l1:=kQ ga6 ha.b.ne
  have l2:=kQ gw6 (WM ha).b.ne
  have c5:∀ S,vT (jc zi O) 12 [mv a,mv (Jb a)] S=some (.bool true,S):=fun S=>by
   have:=zB.v ha (WM ha) S
   rw [abq] at this
   exact aaE this (hz2 a (Jb a))
  have hr:aek (Jh 0 (some (AEx.exit 0,T2,S6))) (zD zi O true (.seq (.region 14 (reg Try.f8 14) false) .ret))=aek (Jh 0 (some (AEx.exit 0,T2,S6))) (zD zi O true (.seq (.region 14 (reg Try.f8 14) false) .ret)):=rfl
  conv at hr =>
   rhs
   simp only [zSs,reduceIte,zk,zn,zo,zq]
   rw [hTe2]
   simp only [zx.code,zx.rs,zSs,reduceIte,zk,zn,zo,zq,l1,l2,c5]
  exact ⟨_,hr,rfl⟩
 have code:∀ (r:St),zD zi O true zx.code T S=aek (Jh 0 r) (zD zi O true (.seq (.region 14 (reg Try.f8 14) false) .ret))→(∃ T2 S6,r=some (AEx.exit 0,T2,S6)∧T2.length=66∧T2.getD 2 zh=.pointer (some ⟨S.next,0,none⟩)∧T2.getD 9 zh=.pointer (some ⟨S2.next,0,none⟩)∧Fr fp S5 S6)→∃ S',jc zi O 8 [mv a,mv b] S=some (.bool true,S'):=by
  rintro r hc ⟨T2,S6,q1,q2,q3,q4,q5⟩
  obtain ⟨T3,k1,k2⟩:=fin T2 S6 r q1 q2 q3 q4 q5
  have hrun:=hc.trans k1
  rw [hTe] at hrun
  have:=zx.runs hrun (.inr rfl)
  rw [k2] at this
  exact ⟨S6,this⟩
 have loop:∀ (r:St) (T1:List Value) (S':zu),qB (zD zi O true zx.jS) T1 S'=r→S'=S5→T1.length=66→T1.getD 10 zh=.pointer (some ⟨S4.next,0,none⟩)→T1.getD 48 zh=.int .i64 a.b.txs.length→T1.getD 49 zh=.int .i64 0→T1.getD 2 zh=.pointer (some ⟨S.next,0,none⟩)→T1.getD 9 zh=.pointer (some ⟨S2.next,0,none⟩) →
   ∃ T2 S6,r=some (AEx.exit 0,T2,S6)∧T2.length=66∧T2.getD 2 zh=.pointer (some ⟨S.next,0,none⟩)∧T2.getD 9 zh=.pointer (some ⟨S2.next,0,none⟩)∧Fr fp S5 S6:=by
  intro r T1 S' hL hS k1 k2 k3 k4 k5 k6
  subst hS
  obtain ⟨T2,S6,q1,q2,q3,q4,q5⟩:=round (m:=a) (a:=ad) (qc:=S4.next) hla (fp:=fp) (S0:=S') h4 hq5 a.b.txs [] hL k1 k2 k3 k4 rfl h2 hA5 (fun x hx=>hx) (Fr.refl _ _)
  exact ⟨T2,S6,q1,q2,q3.trans k5,q4.trans k6,q5⟩
 cases hR:y7 a with
 | false =>
  have v1:Jg a=.tuple #[.slice none 0 0,.int .i64 121]:=by rw [Jg,hR];rfl
  rw [v1] at c1
  obtain ⟨kb,xb,eb,o1,o2,o3,_⟩:=aaN b
  rw [o3] at c2
  conv at hr =>
   rhs
   rw [hTe]
   simp only [zx.code,zx.rs,zSs,reduceIte,zk,zn,zo,zq,b1,d1,al,ld0,ld1,c1,c2,c4,Qq,e1,ld2,f1,h1,jk,jh,l12,ln,goInt]
  generalize hL:qB (zD zi O true zx.jS) _ _=r at hr
  exact code r hr (loop r _ _ hL rfl rfl rfl rfl rfl rfl rfl)
 | true =>
  have v1:Jg a=.tuple #[by_ 2 (XW a),.int .i64 0]:=by rw [Jg,hR];rfl
  rw [v1] at c1
  cases hR2:y7 b with
  | false =>
   have v2:Jg b=.tuple #[.slice none 0 0,.int .i64 121]:=by rw [Jg,hR2];rfl
   rw [v2] at c2
   conv at hr =>
    rhs
    rw [hTe]
    simp only [zx.code,zx.rs,zSs,reduceIte,zk,zn,zo,zq,b1,d1,al,ld0,ld1,c1,c2,c4,Qq,e1,ld2,f1,h1,jk,jh,l12,ln,goInt]
   generalize hL:qB (zD zi O true zx.jS) _ _=r at hr
   exact code r hr (loop r _ _ hL rfl rfl rfl rfl rfl rfl rfl)
  | true =>
   have v2:Jg b=.tuple #[by_ 2 (XW b),.int .i64 0]:=by rw [Jg,hR2];rfl
   rw [v2] at c2
   have cs:∀ (x:List UInt8) S,Z7 zi 23 9 (by_ 1 x) S=some (.string ⟨x.toArray⟩,S):=fun x S=>ahS Okl.read
   have sb:=aa4 hR hR2
   have nq:∀ S,jY zi .neq 4 (.bool (yX a b)) (.bool (yX a b)) S=some (.bool false,S):=fun S=>by cases yX a b <;> rfl
   conv at hr =>
    rhs
    rw [hTe]
    simp only [zx.code,zx.rs,zSs,reduceIte,zk,zn,zo,zq,b1,d1,al,ld0,ld1,c1,c2,cs,ahV,sb,c3,nq,c4,Qq,e1,ld2,f1,h1,jk,jh,l12,ln,goInt]
   generalize hL:qB (zD zi O true zx.jS) _ _=r at hr
   exact code r hr (loop r _ _ hL rfl rfl rfl rfl rfl rfl rfl)
theorem law (x:Args codes) (h:Args.Good codes x):∃ k,(vk zi k 8 (Args.place codes x zu.empty).1 (Args.place codes x zu.empty).2).map (·.1)=some (.bool true):=by
 obtain ⟨a,b,u⟩:=x
 obtain ⟨h1,h2,_⟩:=h
 obtain ⟨m,t1,ht⟩:=ait a h1
 obtain ⟨n,t2,hn⟩:=ait b h2
 obtain ⟨S',e⟩:=run ht hn zu.empty
 refine VP ahf (S':=S') ?_
 have e2:Args.JI codes (a,b,u)=[mv m,mv n]:=by
  show [Zh true (tM.JI a),Zh true (tM.JI b)]=_
  rw [t1,t2];rfl
 rw [e2]
 exact e
end msgApart
end Go.Proofs.Ytbgcphbbchndkaa
namespace Go.Proofs.Ytbgcphbbchndkaa.msgApart
open Go.ChangeShapes Go.WideShapes Go.ChangeAt Go.RowKit Go.Abs
theorem own:ownKnob zi.godebug=none:=by kernel_rfl
theorem laidOut:laidOutB zi=true:=by kernel_rfl
theorem mixes:zi.follows .mixedOrders=true:=by kernel_rfl
set_option maxRecDepth 100000 in
theorem lifted (os:Os) (started:os.Started) (H:Type) (enc:TypeId×Value→H) :
  ReturnsInHanded {} Try.checked os 8 .any (Rows.msgApartSpec.pre6 enc zi Try.f8 Rows.msgApartRow.domain false) (Rows.msgApartSpec.post enc zi Try.f8 false true false false):=by
 refine returnsInHanded_of_change_sized (C:=Try.checked) own started (by kernel_rfl) Try.func8
  (ChangeSpec.witness6 (enc:=enc) (C:=Try.checked) false ⟨#[],#[.agg #[.int .i64 0,.int .i64 0,.int .i64 0,.int .i64 0,.int .i64 0,.int .i64 0,.int .i64 0,.int .i64 0,.int .i64 0,.int .i64 0,.int .i64 0,.int .i64 0,.slice none 0 0],.agg #[.int .i64 0,.int .i64 0,.int .i64 0,.int .i64 0,.int .i64 0,.int .i64 0,.int .i64 0,.int .i64 0,.int .i64 0,.int .i64 0,.int .i64 0,.int .i64 0,.slice none 0 0]],[]⟩ 8 (by kernel_rfl) (by kernel_rfl) (by kernel_rfl) (by kernel_rfl)) ?_
 intro W base args ds gs before hval0 hW hcnd hsz0 _
 have hW':=hW
 obtain ⟨p,q,hA0,hV,rfl,hfz,hnd⟩:=hW
 obtain ⟨rfl,rfl⟩:=trodVars_none hV
 have hsz1:(DataW.weightsEach zi (Try.f8.params.toList++Rows.msgApartSpec.plain.varTypes zi) (ds++[])).all (·≤reachBytes)=true:=hsz0
 have hval:∀ (j:Nat) t v,Try.f8.params[j]?=some t→args[j]?=some v→Value.okWide zi W .any base t v:=hval0
 have hA1:DataW.TrodAll enc zi W 0 (fun _=>true) true Try.f8.params.toList args.toList ds p:=hA0
 rw [Try.params8] at hA1 hsz1 hval
 have hA:DataW.TrodAll enc zi W 0 (fun _=>true) true [30,30] args.toList ds p:=hA1
 have hsz:(DataW.weightsEach zi [30,30] ds).all (·≤reachBytes)=true:=by rw [List.append_nil ds] at hsz1;exact hsz1
 clear hA0 hA1 hval0 hsz0 hsz1
 have r:=hA
 obtain ⟨v0,vs0,d0,ds0,p0,q0,hargs0,rfl,hp0,h0,r0⟩:=trodAll_cons r
 obtain ⟨v1,vs1,d1,ds1,p1,q1,hargs1,rfl,hp1,h1,r1⟩:=trodAll_cons r0
 obtain ⟨_,rfl,_⟩:=trodAll_nil r1
 refine (adi mixes coded law hA (fun j t v h1 h2=>hval j t v (by rw [List.getElem?_toArray];exact h1) h2) hsz).mono fun e W' ⟨he,bel⟩=>?_
 subst he
 exact ⟨_,rfl,_,_,_,[],_,[],hW',trodAll_mk1 (shut_bool (by kernel_rfl) _),ael laidOut bel _ _ _ _ (by kernel_rfl) hA,rfl,bel.frame _,fun h=>by cases h⟩
theorem over:Rows.msgApartRow.holds Try.pinned (OpenSpec.ofChange Rows.msgApartSpec) :=
 OpenClaim.holds_of_wide 8 Try.f8 rfl rfl rfl rfl rfl rfl rfl ⟨rfl,rfl,rfl,rfl,rfl⟩ rfl rfl rfl rfl rfl (by kernel_rfl) Try.func8 (by kernel_rfl)
  (of_decide_eq_true (by kernel_rfl)) (by unfold Func.isWrapper;first | (rw [if_pos (by decide +kernel)];kernel_rfl) | (rw [if_neg (by decide +kernel)];exact ⟨rfl,rfl⟩))
  (fun os started H enc _=>lifted os started H enc)
theorem proved:Rows.MsgApartSaid:=over
end Go.Proofs.Ytbgcphbbchndkaa.msgApart
namespace Go.Proofs.Ytbgcphbbchndkaa
theorem msgApart_holds:Rows.MsgApartSaid:=msgApart.proved
#print axioms msgApart_holds
end Go.Proofs.Ytbgcphbbchndkaa
