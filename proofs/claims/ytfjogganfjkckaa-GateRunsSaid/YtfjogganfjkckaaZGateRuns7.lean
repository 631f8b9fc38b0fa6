/-
The law GateRuns returns true for every input, and leaves it as it was; no condition. Part 7 of 7 of the texts (put together by a program: own names are short, what isn't needed is left out).
-/
import Derived.Test.YtfjogganfjkckaaZGateRuns6
import Derived.Test.YtfjogganfjkckaaChecked
import Derived.KernelRfl
import Derived.Test.YtfjogganfjkckaaRows
import Derived.WalkKit
import Derived.ProofKit
import Derived.OpenShut
import Derived.ShutString
import Derived.ChangeOld
import Derived.Below
import Derived.SizedLaws
import Derived.Carry
set_option linter.unusedVariables false
set_option linter.unusedSimpArgs false
set_option maxRecDepth 100000
open Go renaming undef → zh
open Go.Proofs.Try renaming prog → zi
open Nat renaming reduceEqDiff → zk
open Int renaming reduceEq → zn
open Int renaming reduceLT → zo
open Int renaming reduceLE → zq
open Go renaming Value → zu
open List renaming getElem?_eq_getElem → zy
open List renaming toList_toArray → zD
open Bool renaming false_eq_true → zF
namespace Go.Proofs.Ytfjogganfjkckaa
open Go.Abs
theorem Ls (l:List UInt8):(l.flatMap cb).all (·.oneCell')=true:=by rw[List.all_flatMap,List.all_eq_true];exact fun x _=>rfl
theorem X5 (l:List UInt8):(l.flatMap cb).length=l.length:=by rw[Xq X4,Nat.mul_one]
theorem LY {k:Nat}{l:List Int}(h:je k l) (hl:l.length≤17592186044416) (S:zS):∃y S0 r S1,Ji zi 24 0 [] S=some (y,S0)∧WX zi true 24 24 y (iz k l) S0=some (ms r l.length,S1)∧S1.get r=some (.cells (l.flatMap ci++[]) (.own []) 1)∧Ext S S1∧S.next≤r:=by
 have g0:(S.push (.cells [] (.own []) 1)).get S.next=some (.cells [] (.own []) 1):=by rw[zS.qO,zN rfl]
 have src:YU zi 24 1 (iz k l) (S.push (.cells [] (.own []) 1))=some (l.length,l.flatMap ci):=Gf KX h.Qe (by rw[Xq (f:=ci) (e:=1) (fun _=>rfl)]) (by rw[List.all_flatMap,List.all_eq_true];exact fun x _=>rfl)
 have e1:=oJ (P:=zi) (hp:=true) (t:=24) (tx:=24) (o:=0) (n:=0) (c:=0) KX KR Di rfl oK (by decide) src g0 (by simp) (by omega) (by omega) (by rfl)
 rw[zN (by rfl),Nat.zero_add]at e1
 refine⟨_,_,_,_,(by kernel_rfl),e1,?_,((Ext.push S _).set (Nat.le_refl _) _).trans (Ext.push _ _),by simp⟩
 rw[zS.qO,zS.lM,zS.Xy,zN rfl];simp
theorem LK {k:Nat}{l:List jG}{d:Nat}(h:k≤2):Zm [1] (d+2) (tl k l)=true:=by
 have hc:(l.flatMap fT).all (Zm [1] (d+1))=true:=by rw[List.all_flatMap,List.all_eq_true];exact fun x _=>rfl
 match k,h with
 | 0,_=>rfl
 | 1,_=>exact hc
 | 2,_=>exact hc
theorem LJ {m:ji}(hm:m.Ok):Zm [1] 15 (mv m)=true:=by
 have h:=LK (l:=m.b.txs) (d:=12) hm.b.okl.le;show(fM m).all (Zm [1] 14)=true;simp only[fM,List.all_cons,List.all_nil,h,Bool.and_true];rfl
theorem Ej {D:List UInt8} (hl:D.length≤140737488351232) {r:Nat}:∃m e,ZY D m e∧∀S:zS,S.get r=some (.cells (D.flatMap cb++[]) (.own []) 1)→qN (zU zi O) 22 [ms r D.length] S=some (.tuple #[mv m,.int .i64 e],S):=by
 obtain⟨b,e,h1,h2⟩:=y9.v (k:=1) (l:=D) je.read (by decide) (by omega)
 refine⟨b,e,h1,fun S hg=>?_⟩
 refine Lm (uq (uy (f:=cb) (e:=1) (fun _=>rfl) hg) rfl) (h2 _) rfl ?_ rfl
 have hs:Qm S [ms r D.length]=[1]:=by simp[Qm,parts,ZW,hg]
 rw[hs];show([mv b,Value.int .i64 e].all (Zm [1] 15))=true;simp only[List.all_cons,List.all_nil,LJ h1.1,Bool.true_and,Bool.and_true];rfl
section
variable {S:zS}{q r:Nat}{bad:List Int}{said:List (List UInt8)}{known:List (Int×List UInt8)}{D:List UInt8}
theorem EY (hg:S.get r=some (.cells (D.flatMap cb++[]) (.own []) 1)):qB zi true false 33 9 (ms r D.length) S=some (.string ⟨D.toArray⟩,S) :=
 UN rfl WW VY dN hg (by rw[List.append_nil,X5];omega) (by rw[List.drop_zero,List.append_nil,←X5 D,List.take_length])
theorem TB (h:Gt S q bad said known) (hr:r<S.next) (hg:S.get r=some (.cells (D.flatMap cb++[]) (.own []) 1)) (hl:D.length≤140737488351232) :
  ∃m e S2,ZY D m e∧zU zi O yx.id [.pointer (some ⟨q,0,none⟩),ms r D.length] S=some (.tuple #[],S2)∧Gt S2 q bad (Yn said D) (J4 known m e)∧yw S S2:=by
 obtain⟨m,e,hR,c⟩:=Ej hl (r:=r);obtain⟨S2,h1,h2,h3⟩:=yx.g h (d:=ms r D.length) rfl hR (fun S1 x=>EY ((x.2 _ _ _ _ hr hg).trans hg)) (fun S1 x=>c S1 ((x.2 _ _ _ _ hr hg).trans hg))
 exact⟨m,e,S2,hR,h1,h2,h3⟩
theorem RS (h:Gt S q bad said known) (hr:r<S.next) (hg:S.get r=some (.cells (D.flatMap cb++[]) (.own []) 1)) (hl:D.length≤140737488351232) :
  ∃m e S2,ZY D m e∧zU zi O jJ.id [.pointer (some ⟨q,0,none⟩),ms r D.length] S=some (.bool (xH bad said known D m e).1,S2)∧Gt S2 q bad said (xH bad said known D m e).2∧yw S S2:=by
 obtain⟨m,e,hR,c⟩:=Ej hl (r:=r);obtain⟨S2,h1,h2,h3⟩:=jJ.g h (d:=ms r D.length) rfl hR (fun S1 x=>EY ((x.2 _ _ _ _ hr hg).trans hg)) (fun S1 x=>c S1 ((x.2 _ _ _ _ hr hg).trans hg))
 exact⟨m,e,S2,hR,h1,h2,h3⟩
end
section
abbrev jB.id :FuncId:=14
noncomputable def jB.jg :Code:=(.seq (.region 5 (reg Try.f14 5) false) (.seq (.cond (.tmp 24) Code.skip (.exit 0)) (.seq (.block 1 (.seq (.region 6 (reg Try.f14 6) false) (.seq (.region 7 (reg Try.f14 7) false) (.cond (.tmp 31) (.seq (.region 8 (reg Try.f14 8) false) Code.ret) Code.skip)))) (.region 9 (reg Try.f14 9) false))))
noncomputable def jB.code :Code:=(.seq (.region 0 (reg Try.f14 0) false) (.seq (.region 1 (reg Try.f14 1) false) (.seq (.seq (.region 2 (reg Try.f14 2) false) (.cond (.tmp 18) (.seq (.region 3 (reg Try.f14 3) false) Code.ret) Code.skip)) (.seq (.seq (.region 4 (reg Try.f14 4) false) (.block 0 (.loop jB.jg))) (.seq (.seq (.region 10 (reg Try.f14 10) false) (.cond (.tmp 38) (.seq (.region 11 (reg Try.f14 11) false) Code.ret) Code.skip)) (.seq (.seq (.region 12 (reg Try.f14 12) false) (.cond (.tmp 42) (.seq (.region 13 (reg Try.f14 13) false) Code.ret) Code.skip)) (.seq (.region 14 (reg Try.f14 14) true) (.seq (.seq (.region 15 (reg Try.f14 15) false) (.cond (.tmp 52) (.seq (.region 16 (reg Try.f14 16) true) Code.ret) Code.skip)) (.seq (.seq (.region 17 (reg Try.f14 17) false) (.cond (.tmp 63) (.seq (.region 18 (reg Try.f14 18) false) Code.ret) Code.skip)) (.seq (.region 19 (reg Try.f14 19) false) Code.ret))))))))))
theorem jB.body :Try.f14.body=some jB.code:=by kernel_rfl
theorem jB.eta {T:List zu}(h:T.length=69):T=[T.getD 0 zh,T.getD 1 zh,T.getD 2 zh,T.getD 3 zh,T.getD 4 zh,T.getD 5 zh,T.getD 6 zh,T.getD 7 zh,T.getD 8 zh,T.getD 9 zh,T.getD 10 zh,T.getD 11 zh,T.getD 12 zh,T.getD 13 zh,T.getD 14 zh,T.getD 15 zh,T.getD 16 zh,T.getD 17 zh,T.getD 18 zh,T.getD 19 zh,T.getD 20 zh,T.getD 21 zh,T.getD 22 zh,T.getD 23 zh,T.getD 24 zh,T.getD 25 zh,T.getD 26 zh,T.getD 27 zh,T.getD 28 zh,T.getD 29 zh,T.getD 30 zh,T.getD 31 zh,T.getD 32 zh,T.getD 33 zh,T.getD 34 zh,T.getD 35 zh,T.getD 36 zh,T.getD 37 zh,T.getD 38 zh,T.getD 39 zh,T.getD 40 zh,T.getD 41 zh,T.getD 42 zh,T.getD 43 zh,T.getD 44 zh,T.getD 45 zh,T.getD 46 zh,T.getD 47 zh,T.getD 48 zh,T.getD 49 zh,T.getD 50 zh,T.getD 51 zh,T.getD 52 zh,T.getD 53 zh,T.getD 54 zh,T.getD 55 zh,T.getD 56 zh,T.getD 57 zh,T.getD 58 zh,T.getD 59 zh,T.getD 60 zh,T.getD 61 zh,T.getD 62 zh,T.getD 63 zh,T.getD 64 zh,T.getD 65 zh,T.getD 66 zh,T.getD 67 zh,T.getD 68 zh]:=(ZE T 69 h).trans (by kernel_rfl)
variable (x0 x1 x2 x3 x4 x5 x6 x7 x8 x9 a c g i j k l m n o p d f b q r s t u w x y z A B C D E F G H I J K L M N P Q R U V W X Y Z a0 a1 a2 a3 a4 a5 a6 a7 a8 a9 b0 b1 b2:zu) (S:zS)
theorem jB.r0 :zW zi ⟨false,false,false⟩ (zU zi O) (reg Try.f14 0) (reg Try.f14 0).toList ([x0,x1,x2,x3,x4,x5,x6,x7,x8,x9,a,c,g,i,j,k,l,m,n,o,p,d,f,b,q,r,s,t,u,w,x,y,z,A,B,C,D,E,F,G,H,I,J,K,L,M,N,P,Q,R,U,V,W,X,Y,Z,a0,a1,a2,a3,a4,a5,a6,a7,a8,a9,b0,b1,b2]) S =
  (zT (qm (zQ x0) S) (fun v0 S1=>zT (wR zi 32 S1) (fun v1 S2=>some ([x0,x1,v0,x3,v1,Value.bool false,x6,x7,x8,x9,a,c,g,i,j,k,l,m,n,o,p,d,f,b,q,r,s,t,u,w,x,y,z,A,B,C,D,E,F,G,H,I,J,K,L,M,N,P,Q,R,U,V,W,X,Y,Z,a0,a1,a2,a3,a4,a5,a6,a7,a8,a9,b0,b1,b2],S2)) ()) ()):=by kernel_rfl
theorem jB.r1 :zW zi ⟨false,false,false⟩ (zU zi O) (reg Try.f14 1) (reg Try.f14 1).toList ([x0,x1,x2,x3,x4,x5,x6,x7,x8,x9,a,c,g,i,j,k,l,m,n,o,p,d,f,b,q,r,s,t,u,w,x,y,z,A,B,C,D,E,F,G,H,I,J,K,L,M,N,P,Q,R,U,V,W,X,Y,Z,a0,a1,a2,a3,a4,a5,a6,a7,a8,a9,b0,b1,b2]) S =
  (zT ((zU zi O) 16 [(zQ (zQ x1))] S) (fun v1 S1=>zT (jv v1 0 S1) (fun v3 S2=>zT (jv (jh 0 v1) 1 S2) (fun v4 S3=>zT (wR zi 48 S3) (fun v5 S4=>zT (jI zi 48 v5 (zQ v3) S4) (fun v6 S5=>some ([x0,x1,x2,x3,x4,x5,v5,v4,x8,x9,a,c,jh 1 (jh 0 v1),zQ x1,zQ v1,v3,zQ v4,m,n,o,p,d,f,b,q,r,s,t,u,w,x,y,z,A,B,C,D,E,F,G,H,I,J,K,L,M,N,P,Q,R,U,V,W,X,Y,Z,a0,a1,a2,a3,a4,a5,a6,a7,a8,a9,b0,b1,b2],S5)) ()) ()) ()) ()) ()):=by kernel_rfl
theorem jB.r2 :zW zi ⟨false,false,false⟩ (zU zi O) (reg Try.f14 2) (reg Try.f14 2).toList ([x0,x1,x2,x3,x4,x5,x6,x7,x8,x9,a,c,g,i,j,k,l,m,n,o,p,d,f,b,q,r,s,t,u,w,x,y,z,A,B,C,D,E,F,G,H,I,J,K,L,M,N,P,Q,R,U,V,W,X,Y,Z,a0,a1,a2,a3,a4,a5,a6,a7,a8,a9,b0,b1,b2]) S =
  (zT (jd zi BinOp.neq 3 (zQ x7) (.int .i64 0) S) (fun v1 S1=>some ([x0,x1,x2,x3,x4,x5,x6,x7,x8,x9,a,c,g,i,j,k,l,zQ x7,v1,o,p,d,f,b,q,r,s,t,u,w,x,y,z,A,B,C,D,E,F,G,H,I,J,K,L,M,N,P,Q,R,U,V,W,X,Y,Z,a0,a1,a2,a3,a4,a5,a6,a7,a8,a9,b0,b1,b2],S1)) ()):=by kernel_rfl
theorem jB.r3 :zW zi ⟨false,false,false⟩ (zU zi O) (reg Try.f14 3) (reg Try.f14 3).toList ([x0,x1,x2,x3,x4,x5,x6,x7,x8,x9,a,c,g,i,j,k,l,m,n,o,p,d,f,b,q,r,s,t,u,w,x,y,z,A,B,C,D,E,F,G,H,I,J,K,L,M,N,P,Q,R,U,V,W,X,Y,Z,a0,a1,a2,a3,a4,a5,a6,a7,a8,a9,b0,b1,b2]) S =
  (zT (zZ zi false 32 x2 S) (fun v0 S1=>zT (jI zi 32 x4 (zQ v0) S1) (fun v1 S2=>some ([x0,x1,x2,x3,x4,Value.bool false,x6,x7,x8,x9,a,c,g,i,j,k,l,m,n,v0,p,d,f,b,q,r,s,t,u,w,x,y,z,A,B,C,D,E,F,G,H,I,J,K,L,M,N,P,Q,R,U,V,W,X,Y,Z,a0,a1,a2,a3,a4,a5,a6,a7,a8,a9,b0,b1,b2],S2)) ()) ()):=by kernel_rfl
theorem jB.r4 :zW zi ⟨false,false,false⟩ (zU zi O) (reg Try.f14 4) (reg Try.f14 4).toList ([x0,x1,x2,x3,x4,x5,x6,x7,x8,x9,a,c,g,i,j,k,l,m,n,o,p,d,f,b,q,r,s,t,u,w,x,y,z,A,B,C,D,E,F,G,H,I,J,K,L,M,N,P,Q,R,U,V,W,X,Y,Z,a0,a1,a2,a3,a4,a5,a6,a7,a8,a9,b0,b1,b2]) S =
  (zT (jf zi 32 x2 1 S) (fun v0 S1=>zT (zZ zi false 29 v0 S1) (fun v1 S2=>zT (yK zi 29 v1 S2) (fun v2 S3=>some ([x0,x1,x2,x3,x4,x5,x6,x7,x8,x9,a,c,g,i,j,k,l,m,n,o,v0,v1,v2,.int .i64 0,q,r,s,t,u,w,x,y,z,A,B,C,D,E,F,G,H,I,J,K,L,M,N,P,Q,R,U,V,W,X,Y,Z,a0,a1,a2,a3,a4,a5,a6,a7,a8,a9,b0,b1,b2],S3)) ()) ()) ()):=by kernel_rfl
theorem jB.r5 :zW zi ⟨false,false,false⟩ (zU zi O) (reg Try.f14 5) (reg Try.f14 5).toList ([x0,x1,x2,x3,x4,x5,x6,x7,x8,x9,a,c,g,i,j,k,l,m,n,o,p,d,f,b,q,r,s,t,u,w,x,y,z,A,B,C,D,E,F,G,H,I,J,K,L,M,N,P,Q,R,U,V,W,X,Y,Z,a0,a1,a2,a3,a4,a5,a6,a7,a8,a9,b0,b1,b2]) S =
  (zT (jd zi BinOp.lss 3 b f S) (fun v0 S1=>some ([x0,x1,x2,x3,x4,x5,x6,x7,x8,x9,a,c,g,i,j,k,l,m,n,o,p,d,f,b,v0,r,s,t,u,w,x,y,z,A,B,C,D,E,F,G,H,I,J,K,L,M,N,P,Q,R,U,V,W,X,Y,Z,a0,a1,a2,a3,a4,a5,a6,a7,a8,a9,b0,b1,b2],S1)) ()):=by kernel_rfl
theorem jB.r6 :zW zi ⟨false,false,false⟩ (zU zi O) (reg Try.f14 6) (reg Try.f14 6).toList ([x0,x1,x2,x3,x4,x5,x6,x7,x8,x9,a,c,g,i,j,k,l,m,n,o,p,d,f,b,q,r,s,t,u,w,x,y,z,A,B,C,D,E,F,G,H,I,J,K,L,M,N,P,Q,R,U,V,W,X,Y,Z,a0,a1,a2,a3,a4,a5,a6,a7,a8,a9,b0,b1,b2]) S =
  (zT (jZ zi 29 d b S) (fun v0 S1=>zT (zZ zi false 33 v0 S1) (fun v1 S2=>some ([x0,x1,x2,x3,x4,x5,x6,x7,x8,v1,a,c,g,i,j,k,l,m,n,o,p,d,f,b,q,v0,zQ v1,t,u,w,x,y,z,A,B,C,D,E,F,G,H,I,J,K,L,M,N,P,Q,R,U,V,W,X,Y,Z,a0,a1,a2,a3,a4,a5,a6,a7,a8,a9,b0,b1,b2],S2)) ()) ()):=by kernel_rfl
theorem jB.r7 :zW zi ⟨false,false,false⟩ (zU zi O) (reg Try.f14 7) (reg Try.f14 7).toList ([x0,x1,x2,x3,x4,x5,x6,x7,x8,x9,a,c,g,i,j,k,l,m,n,o,p,d,f,b,q,r,s,t,u,w,x,y,z,A,B,C,D,E,F,G,H,I,J,K,L,M,N,P,Q,R,U,V,W,X,Y,Z,a0,a1,a2,a3,a4,a5,a6,a7,a8,a9,b0,b1,b2]) S =
  (zT (qB zi false false 33 9 (zQ x9) S) (fun v1 S1=>zT (qB zi false false 33 9 (zQ x1) S1) (fun v3 S2=>zT (jd zi BinOp.eql 9 v1 v3 S2) (fun v4 S3=>some ([x0,x1,x2,x3,x4,x5,x6,x7,x8,x9,a,c,g,i,j,k,l,m,n,o,p,d,f,b,q,r,s,zQ x9,v1,zQ x1,v3,v4,z,A,B,C,D,E,F,G,H,I,J,K,L,M,N,P,Q,R,U,V,W,X,Y,Z,a0,a1,a2,a3,a4,a5,a6,a7,a8,a9,b0,b1,b2],S3)) ()) ()) ()):=by kernel_rfl
theorem jB.r8 :zW zi ⟨false,false,false⟩ (zU zi O) (reg Try.f14 8) (reg Try.f14 8).toList ([x0,x1,x2,x3,x4,x5,x6,x7,x8,x9,a,c,g,i,j,k,l,m,n,o,p,d,f,b,q,r,s,t,u,w,x,y,z,A,B,C,D,E,F,G,H,I,J,K,L,M,N,P,Q,R,U,V,W,X,Y,Z,a0,a1,a2,a3,a4,a5,a6,a7,a8,a9,b0,b1,b2]) S =
  (zT (zZ zi false 32 x2 S) (fun v0 S1=>zT (jI zi 32 x4 (zQ v0) S1) (fun v1 S2=>some ([x0,x1,x2,x3,x4,Value.bool true,x6,x7,x8,x9,a,c,g,i,j,k,l,m,n,o,p,d,f,b,q,r,s,t,u,w,x,y,v0,A,B,C,D,E,F,G,H,I,J,K,L,M,N,P,Q,R,U,V,W,X,Y,Z,a0,a1,a2,a3,a4,a5,a6,a7,a8,a9,b0,b1,b2],S2)) ()) ()):=by kernel_rfl
theorem jB.r9 :zW zi ⟨false,false,false⟩ (zU zi O) (reg Try.f14 9) (reg Try.f14 9).toList ([x0,x1,x2,x3,x4,x5,x6,x7,x8,x9,a,c,g,i,j,k,l,m,n,o,p,d,f,b,q,r,s,t,u,w,x,y,z,A,B,C,D,E,F,G,H,I,J,K,L,M,N,P,Q,R,U,V,W,X,Y,Z,a0,a1,a2,a3,a4,a5,a6,a7,a8,a9,b0,b1,b2]) S =
  (zT (jd zi BinOp.add 3 b (.int .i64 1) S) (fun v0 S1=>some ([x0,x1,x2,x3,x4,x5,x6,x7,x8,x9,a,c,g,i,j,k,l,m,n,o,p,d,f,zQ v0,q,r,s,t,u,w,x,y,z,v0,B,C,D,E,F,G,H,I,J,K,L,M,N,P,Q,R,U,V,W,X,Y,Z,a0,a1,a2,a3,a4,a5,a6,a7,a8,a9,b0,b1,b2],S1)) ()):=by kernel_rfl
theorem jB.r10 :zW zi ⟨false,false,false⟩ (zU zi O) (reg Try.f14 10) (reg Try.f14 10).toList ([x0,x1,x2,x3,x4,x5,x6,x7,x8,x9,a,c,g,i,j,k,l,m,n,o,p,d,f,b,q,r,s,t,u,w,x,y,z,A,B,C,D,E,F,G,H,I,J,K,L,M,N,P,Q,R,U,V,W,X,Y,Z,a0,a1,a2,a3,a4,a5,a6,a7,a8,a9,b0,b1,b2]) S =
  (zT (zZ zi false 32 x2 S) (fun v0 S1=>zT (jf zi 48 x6 1 S1) (fun v1 S2=>zT (zZ zi false 3 v1 S2) (fun v2 S3=>zT ((zU zi O) 15 [(zQ v0),(zQ v2)] S3) (fun v3 S4=>zT (qo zi UnOp.not v3 S4) (fun v4 S5=>some ([x0,x1,x2,x3,x4,x5,x6,x7,x8,x9,a,c,g,i,j,k,l,m,n,o,p,d,f,b,q,r,s,t,u,w,x,y,z,A,v0,v1,v2,v3,v4,G,H,I,J,K,L,M,N,P,Q,R,U,V,W,X,Y,Z,a0,a1,a2,a3,a4,a5,a6,a7,a8,a9,b0,b1,b2],S5)) ()) ()) ()) ()) ()):=by kernel_rfl
theorem jB.r11 :zW zi ⟨false,false,false⟩ (zU zi O) (reg Try.f14 11) (reg Try.f14 11).toList ([x0,x1,x2,x3,x4,x5,x6,x7,x8,x9,a,c,g,i,j,k,l,m,n,o,p,d,f,b,q,r,s,t,u,w,x,y,z,A,B,C,D,E,F,G,H,I,J,K,L,M,N,P,Q,R,U,V,W,X,Y,Z,a0,a1,a2,a3,a4,a5,a6,a7,a8,a9,b0,b1,b2]) S =
  (zT (zZ zi false 32 x2 S) (fun v0 S1=>zT (jI zi 32 x4 (zQ v0) S1) (fun v1 S2=>some ([x0,x1,x2,x3,x4,Value.bool false,x6,x7,x8,x9,a,c,g,i,j,k,l,m,n,o,p,d,f,b,q,r,s,t,u,w,x,y,z,A,B,C,D,E,F,v0,H,I,J,K,L,M,N,P,Q,R,U,V,W,X,Y,Z,a0,a1,a2,a3,a4,a5,a6,a7,a8,a9,b0,b1,b2],S2)) ()) ()):=by kernel_rfl
theorem jB.r12 :zW zi ⟨false,false,false⟩ (zU zi O) (reg Try.f14 12) (reg Try.f14 12).toList ([x0,x1,x2,x3,x4,x5,x6,x7,x8,x9,a,c,g,i,j,k,l,m,n,o,p,d,f,b,q,r,s,t,u,w,x,y,z,A,B,C,D,E,F,G,H,I,J,K,L,M,N,P,Q,R,U,V,W,X,Y,Z,a0,a1,a2,a3,a4,a5,a6,a7,a8,a9,b0,b1,b2]) S =
  (zT (jf zi 48 x6 0 S) (fun v0 S1=>zT (zZ zi false 3 v0 S1) (fun v1 S2=>zT (jd zi BinOp.neq 3 v1 (.int .i64 1) S2) (fun v2 S3=>some ([x0,x1,x2,x3,x4,x5,x6,x7,x8,x9,a,c,g,i,j,k,l,m,n,o,p,d,f,b,q,r,s,t,u,w,x,y,z,A,B,C,D,E,F,G,v0,v1,v2,K,L,M,N,P,Q,R,U,V,W,X,Y,Z,a0,a1,a2,a3,a4,a5,a6,a7,a8,a9,b0,b1,b2],S3)) ()) ()) ()):=by kernel_rfl
theorem jB.r13 :zW zi ⟨false,false,false⟩ (zU zi O) (reg Try.f14 13) (reg Try.f14 13).toList ([x0,x1,x2,x3,x4,x5,x6,x7,x8,x9,a,c,g,i,j,k,l,m,n,o,p,d,f,b,q,r,s,t,u,w,x,y,z,A,B,C,D,E,F,G,H,I,J,K,L,M,N,P,Q,R,U,V,W,X,Y,Z,a0,a1,a2,a3,a4,a5,a6,a7,a8,a9,b0,b1,b2]) S =
  (zT (zZ zi false 32 x2 S) (fun v0 S1=>zT (jI zi 32 x4 (zQ v0) S1) (fun v1 S2=>some ([x0,x1,x2,x3,x4,Value.bool true,x6,x7,x8,x9,a,c,g,i,j,k,l,m,n,o,p,d,f,b,q,r,s,t,u,w,x,y,z,A,B,C,D,E,F,G,H,I,J,v0,L,M,N,P,Q,R,U,V,W,X,Y,Z,a0,a1,a2,a3,a4,a5,a6,a7,a8,a9,b0,b1,b2],S2)) ()) ()):=by kernel_rfl
theorem jB.MF :vg zi (reg Try.f14 14)=true:=by kernel_rfl
theorem jB.Np :fixed zi (reg Try.f14 14)=false:=by kernel_rfl
theorem jB.k14 :checked zi (reg Try.f14 14)=[0,0,1,2,5,6,7,7]:=by kernel_rfl
theorem jB.g14 :again zi (reg Try.f14 14)=[(0,3),(0,8),(2,8)]:=by kernel_rfl
theorem jB.vP :zX zi O false (.region 14 (reg Try.f14 14) true) ([x0,x1,x2,x3,x4,x5,x6,x7,x8,x9,a,c,g,i,j,k,l,m,n,o,p,d,f,b,q,r,s,t,u,w,x,y,z,A,B,C,D,E,F,G,H,I,J,K,L,M,N,P,Q,R,U,V,W,X,Y,Z,a0,a1,a2,a3,a4,a5,a6,a7,a8,a9,b0,b1,b2]) S =
  yY (zT (zZ zi false 32 x2 S) (fun v0 S1=>jK v0 ( zT (jf zi 48 x6 7 S1) (fun v1 S2=>jK v1 ( zT (zZ zi false 46 v1 S2) (fun v2 S3=>jK v2 ( zT ((zU zi O) 17 [(zQ v2)] S3) (fun v3 S4=>zT ((zU zi O) 26 [(zQ v0),(zQ v3)] S4) (fun v4 S5=>jK v4 ( zT (jv v4 0 S5) (fun v6 S6=>jK v6 ( zT (jv (jh 0 v4) 1 S6) (fun v7 S7=>jK v7 ( zT (wR zi 46 S7) (fun v8 S8=>zT (jI zi 46 v8 (zQ v6) S8) (fun v9 S9=>Jy (y8 x2 S S4&&(y8 x2 S S8&&(y8 v1 S2 S8&&(true)))) (some ([x0,x1,x2,x3,x4,x5,x6,x7,x8,x9,v8,v7,g,i,j,k,l,m,n,o,p,d,f,b,q,r,s,t,u,w,x,y,z,A,B,C,D,E,F,G,H,I,J,K,jh 1 (jh 0 v4),v0,v1,v2,v3,zQ v4,v6,zQ v7,W,X,Y,Z,a0,a1,a2,a3,a4,a5,a6,a7,a8,a9,b0,b1,b2],S9)) ()) ()) ()) ()) ()) ()) ()) ()) ()) ()) ()) ()) ()) ()) ()) ()):=by
 rw[Jh jB.MF jB.Np jB.k14 jB.g14];refine congrArg yY ?_;refine yH Try.f14 14 0 (pe:=x2) (fun v0 S1=>?_)
 refine yH Try.f14 14 1 (pe:=zh) (fun v1 S2=>?_)
 refine yH Try.f14 14 2 (pe:=v1) (fun v2 S3=>?_)
 refine uD Try.f14 14 3 (pe:=zh) (fun v3 S4=>?_)
 refine uD Try.f14 14 4 (pe:=zh) (fun v4 S5=>?_)
 refine Zb Try.f14 14 5 (v:=v4) (pe:=zh) ?_;refine yH Try.f14 14 6 (pe:=zh) (fun v6 S6=>?_)
 refine yH Try.f14 14 7 (pe:=zh) (fun v7 S7=>?_)
 refine uD Try.f14 14 8 (pe:=zh) (fun v8 S8=>?_)
 refine uD Try.f14 14 9 (pe:=zh) (fun v9 S9=>?_)
 refine uP Try.f14 14 10 (v:=v7) (pe:=zh) ?_
 kernel_rfl
theorem jB.Zi :zW zi ⟨false,false,false⟩ (zU zi O) (reg Try.f14 15) (reg Try.f14 15).toList ([x0,x1,x2,x3,x4,x5,x6,x7,x8,x9,a,c,g,i,j,k,l,m,n,o,p,d,f,b,q,r,s,t,u,w,x,y,z,A,B,C,D,E,F,G,H,I,J,K,L,M,N,P,Q,R,U,V,W,X,Y,Z,a0,a1,a2,a3,a4,a5,a6,a7,a8,a9,b0,b1,b2]) S =
  ( some ([x0,x1,x2,x3,x4,x5,x6,x7,x8,x9,a,c,g,i,j,k,l,m,n,o,p,d,f,b,q,r,s,t,u,w,x,y,z,A,B,C,D,E,F,G,H,I,J,K,L,M,N,P,Q,R,U,V,zQ c,X,Y,Z,a0,a1,a2,a3,a4,a5,a6,a7,a8,a9,b0,b1,b2],S)):=by kernel_rfl
theorem jB.gQ :vg zi (reg Try.f14 16)=true:=by kernel_rfl
theorem jB.gY :fixed zi (reg Try.f14 16)=false:=by kernel_rfl
theorem jB.k16 :checked zi (reg Try.f14 16)=[0]:=by kernel_rfl
theorem jB.g16 :again zi (reg Try.f14 16)=[(0,4)]:=by kernel_rfl
theorem jB.r16 :zX zi O false (.region 16 (reg Try.f14 16) true) ([x0,x1,x2,x3,x4,x5,x6,x7,x8,x9,a,c,g,i,j,k,l,m,n,o,p,d,f,b,q,r,s,t,u,w,x,y,z,A,B,C,D,E,F,G,H,I,J,K,L,M,N,P,Q,R,U,V,W,X,Y,Z,a0,a1,a2,a3,a4,a5,a6,a7,a8,a9,b0,b1,b2]) S =
  yY (zT (zZ zi false 32 x2 S) (fun v0 S1=>jK v0 ( zT (zZ zi false 46 a S1) (fun v1 S2=>zT (jf zi 48 x6 7 S2) (fun v2 S3=>zT (zZ zi false 46 v2 S3) (fun v3 S4=>zT ((zU zi O) 18 [(zQ v1),(zQ v3)] S4) (fun v4 S5=>zT (jI zi 32 x4 (zQ v0) S5) (fun v5 S6=>Jy (y8 x2 S S5&&(true)) (some ([x0,x1,x2,x3,x4,v4,x6,x7,x8,x9,a,c,g,i,j,k,l,m,n,o,p,d,f,b,q,r,s,t,u,w,x,y,z,A,B,C,D,E,F,G,H,I,J,K,L,M,N,P,Q,R,U,V,W,v0,v1,v2,v3,zQ v4,a2,a3,a4,a5,a6,a7,a8,a9,b0,b1,b2],S6)) ()) ()) ()) ()) ()) ()) ()) ()):=by
 rw[Jh jB.gQ jB.gY jB.k16 jB.g16];refine congrArg yY ?_;refine yH Try.f14 16 0 (pe:=x2) (fun v0 S1=>?_)
 refine uD Try.f14 16 1 (pe:=a) (fun v1 S2=>?_)
 refine uD Try.f14 16 2 (pe:=zh) (fun v2 S3=>?_)
 refine uD Try.f14 16 3 (pe:=v2) (fun v3 S4=>?_)
 refine uD Try.f14 16 4 (pe:=zh) (fun v4 S5=>?_)
 refine uD Try.f14 16 5 (pe:=zh) (fun v5 S6=>?_)
 refine uP Try.f14 16 6 (v:=v4) (pe:=zh) ?_
 kernel_rfl
theorem jB.JX :zW zi ⟨false,false,false⟩ (zU zi O) (reg Try.f14 17) (reg Try.f14 17).toList ([x0,x1,x2,x3,x4,x5,x6,x7,x8,x9,a,c,g,i,j,k,l,m,n,o,p,d,f,b,q,r,s,t,u,w,x,y,z,A,B,C,D,E,F,G,H,I,J,K,L,M,N,P,Q,R,U,V,W,X,Y,Z,a0,a1,a2,a3,a4,a5,a6,a7,a8,a9,b0,b1,b2]) S =
  (zT (zZ zi false 32 x2 S) (fun v0 S1=>zT (jf zi 48 x6 7 S1) (fun v1 S2=>zT (jf zi 46 v1 1 S2) (fun v2 S3=>zT (zZ zi false 3 v2 S3) (fun v3 S4=>zT ((zU zi O) 15 [(zQ v0),(zQ v3)] S4) (fun v4 S5=>zT (qo zi UnOp.not v4 S5) (fun v5 S6=>some ([x0,x1,x2,x3,x4,x5,x6,x7,x8,x9,a,c,g,i,j,k,l,m,n,o,p,d,f,b,q,r,s,t,u,w,x,y,z,A,B,C,D,E,F,G,H,I,J,K,L,M,N,P,Q,R,U,V,W,X,Y,Z,a0,a1,v0,v1,v2,v3,v4,v5,a8,a9,b0,b1,b2],S6)) ()) ()) ()) ()) ()) ()):=by kernel_rfl
theorem jB.QO :zW zi ⟨false,false,false⟩ (zU zi O) (reg Try.f14 18) (reg Try.f14 18).toList ([x0,x1,x2,x3,x4,x5,x6,x7,x8,x9,a,c,g,i,j,k,l,m,n,o,p,d,f,b,q,r,s,t,u,w,x,y,z,A,B,C,D,E,F,G,H,I,J,K,L,M,N,P,Q,R,U,V,W,X,Y,Z,a0,a1,a2,a3,a4,a5,a6,a7,a8,a9,b0,b1,b2]) S =
  (zT (zZ zi false 32 x2 S) (fun v0 S1=>zT (jI zi 32 x4 (zQ v0) S1) (fun v1 S2=>some ([x0,x1,x2,x3,x4,Value.bool false,x6,x7,x8,x9,a,c,g,i,j,k,l,m,n,o,p,d,f,b,q,r,s,t,u,w,x,y,z,A,B,C,D,E,F,G,H,I,J,K,L,M,N,P,Q,R,U,V,W,X,Y,Z,a0,a1,a2,a3,a4,a5,a6,a7,v0,a9,b0,b1,b2],S2)) ()) ()):=by kernel_rfl
theorem jB.QS :zW zi ⟨false,false,false⟩ (zU zi O) (reg Try.f14 19) (reg Try.f14 19).toList ([x0,x1,x2,x3,x4,x5,x6,x7,x8,x9,a,c,g,i,j,k,l,m,n,o,p,d,f,b,q,r,s,t,u,w,x,y,z,A,B,C,D,E,F,G,H,I,J,K,L,M,N,P,Q,R,U,V,W,X,Y,Z,a0,a1,a2,a3,a4,a5,a6,a7,a8,a9,b0,b1,b2]) S =
  (zT (zZ zi false 32 x2 S) (fun v0 S1=>zT (jf zi 48 x6 7 S1) (fun v1 S2=>zT (zZ zi false 46 v1 S2) (fun v2 S3=>zT ((zU zi O) 27 [(zQ v0),(zQ v2)] S3) (fun v3 S4=>zT (jI zi 32 x4 (zQ v3) S4) (fun v4 S5=>some ([x0,x1,x2,x3,x4,Value.bool true,x6,x7,x8,x9,a,c,g,i,j,k,l,m,n,o,p,d,f,b,q,r,s,t,u,w,x,y,z,A,B,C,D,E,F,G,H,I,J,K,L,M,N,P,Q,R,U,V,W,X,Y,Z,a0,a1,a2,a3,a4,a5,a6,a7,a8,v0,v1,v2,v3],S5)) ()) ()) ()) ()) ()):=by kernel_rfl
theorem jB.rs :type_of% (zJ @jB.r0 (zJ @jB.r1 (zJ @jB.r2 (zJ @jB.r3 (zJ @jB.r4 (zJ @jB.r5 (zJ @jB.r6 (zJ @jB.r7 (zJ @jB.r8 (zJ @jB.r9 (zJ @jB.r10 (zJ @jB.r11 (zJ @jB.r12 (zJ @jB.r13 (zJ @jB.vP (zJ @jB.Zi (zJ @jB.r16 (zJ @jB.JX (zJ @jB.QO (@jB.QS)))))))))))))))))))):=zJ @jB.r0 (zJ @jB.r1 (zJ @jB.r2 (zJ @jB.r3 (zJ @jB.r4 (zJ @jB.r5 (zJ @jB.r6 (zJ @jB.r7 (zJ @jB.r8 (zJ @jB.r9 (zJ @jB.r10 (zJ @jB.r11 (zJ @jB.r12 (zJ @jB.r13 (zJ @jB.vP (zJ @jB.Zi (zJ @jB.r16 (zJ @jB.JX (zJ @jB.QO (@jB.QS)))))))))))))))))))
theorem jB.runs {x0 x1:zu}{S S1:zS}{e:wC}{T:List zu}(h:zX zi O false jB.code ([x0,x1,zh,zh,zh,zh,zh,zh,zh,zh,zh,zh,zh,zh,zh,zh,zh,zh,zh,zh,zh,zh,zh,zh,zh,zh,zh,zh,zh,zh,zh,zh,zh,zh,zh,zh,zh,zh,zh,zh,zh,zh,zh,zh,zh,zh,zh,zh,zh,zh,zh,zh,zh,zh,zh,zh,zh,zh,zh,zh,zh,zh,zh,zh,zh,zh,zh,zh,zh]) zS.empty=some (e,T,S1)) (he:e=.normal∨e=.ret) {w0:zu}(c0:zZ zi false 32 (T.getD 4 zh) S1=some (w0,S1)) (h0:yc (w0)=true) (h1:yc (T.getD 5 zh)=true) (hca:[x0,x1].all (jw 16)=true) (hcv:jw 16 (Value.tuple #[w0,T.getD 5 zh])=true):zU zi O 14 [x0,x1] S=some (Value.tuple #[w0,T.getD 5 zh],S) :=
 kC rfl rfl Try.func14 (by decide) jB.body (by exact h) he ((Zc ((show jl zi T S1 Try.f14.results.toList=jl zi T S1 [(ResultVar.cell 4 32),(ResultVar.tmp 5)] from by kernel_rfl).trans (by simp only[jl,c0])) (by kernel_rfl) (by simp only[List.all_cons,List.all_nil,h0,h1,Bool.and_true])).trans rfl) hca hcv
end
section
abbrev yD.id :FuncId:=13
noncomputable def yD.code :Code:=(.seq (.region 0 (reg Try.f13 0) false) (.seq (.region 1 (reg Try.f13 1) false) (.seq (.region 2 (reg Try.f13 2) false) (.seq (.region 3 (reg Try.f13 3) false) (.seq (.seq (.region 4 (reg Try.f13 4) false) (.cond (.tmp 32) (.seq (.region 5 (reg Try.f13 5) false) Code.ret) Code.skip)) (.seq (.region 6 (reg Try.f13 6) true) (.seq (.seq (.region 7 (reg Try.f13 7) false) (.cond (.tmp 42) (.seq (.region 8 (reg Try.f13 8) false) Code.ret) Code.skip)) (.seq (.region 9 (reg Try.f13 9) false) Code.ret))))))))
theorem yD.body :Try.f13.body=some yD.code:=by kernel_rfl
variable (X V W x3 Z x5 x6 x7 x8 x9 c d f g i k l m n o p q r s t u w x y z A B C D E F G H I J K L M N P Q R U:zu) (S:zS)
theorem yD.r0 :zW zi ⟨false,false,false⟩ (zU zi O) (reg Try.f13 0) (reg Try.f13 0).toList ([X,V,W,x3,Z,x5,x6,x7,x8,x9,c,d,f,g,i,k,l,m,n,o,p,q,r,s,t,u,w,x,y,z,A,B,C,D,E,F,G,H,I,J,K,L,M,N,P,Q,R,U]) S =
  (zT (qm (zQ X) S) (fun v0 Y=>zT (wR zi 32 Y) (fun b S2=>some ([X,V,v0,x3,b,x5,x6,x7,x8,x9,c,d,f,g,i,k,l,m,n,o,p,q,r,s,t,u,w,x,y,z,A,B,C,D,E,F,G,H,I,J,K,L,M,N,P,Q,R,U],S2)) ()) ()):=by kernel_rfl
theorem yD.r1 :zW zi ⟨false,false,false⟩ (zU zi O) (reg Try.f13 1) (reg Try.f13 1).toList ([X,V,W,x3,Z,x5,x6,x7,x8,x9,c,d,f,g,i,k,l,m,n,o,p,q,r,s,t,u,w,x,y,z,A,B,C,D,E,F,G,H,I,J,K,L,M,N,P,Q,R,U]) S =
  (zT (yO zi 29 0 [] S) (fun v0 Y=>zT (jf zi 32 W 1 Y) (fun b S2=>zT (zZ zi false 29 b S2) (fun v2 S3=>zT (yF zi 29 29 v0 v2 S3) (fun v3 S4=>some ([X,V,W,x3,Z,v3,x6,x7,x8,x9,zQ v0,b,v2,zQ v3,i,k,l,m,n,o,p,q,r,s,t,u,w,x,y,z,A,B,C,D,E,F,G,H,I,J,K,L,M,N,P,Q,R,U],S4)) ()) ()) ()) ()):=by kernel_rfl
theorem yD.r2 :zW zi ⟨false,false,false⟩ (zU zi O) (reg Try.f13 2) (reg Try.f13 2).toList ([X,V,W,x3,Z,x5,x6,x7,x8,x9,c,d,f,g,i,k,l,m,n,o,p,q,r,s,t,u,w,x,y,z,A,B,C,D,E,F,G,H,I,J,K,L,M,N,P,Q,R,U]) S =
  (zT (yO zi 33 0 [] S) (fun b Y=>zT (yF zi 33 33 b (zQ V) Y) (fun v3 S2=>zT (yO zi 29 1 [(0,v3)] S2) (fun v4 S3=>zT (yF zi 29 29 x5 v4 S3) (fun v5 S4=>zT (jf zi 32 W 1 S4) (fun v6 S5=>zT (jI zi 29 v6 (zQ v5) S5) (fun v7 S6=>some ([X,V,W,x3,Z,zQ x5,x6,x7,x8,x9,c,d,f,g,zQ x5,zQ b,zQ V,v3,v4,v5,v6,q,r,s,t,u,w,x,y,z,A,B,C,D,E,F,G,H,I,J,K,L,M,N,P,Q,R,U],S6)) ()) ()) ()) ()) ()) ()):=by kernel_rfl
theorem yD.r3 :zW zi ⟨false,false,false⟩ (zU zi O) (reg Try.f13 3) (reg Try.f13 3).toList ([X,V,W,x3,Z,x5,x6,x7,x8,x9,c,d,f,g,i,k,l,m,n,o,p,q,r,s,t,u,w,x,y,z,A,B,C,D,E,F,G,H,I,J,K,L,M,N,P,Q,R,U]) S =
  (zT ((zU zi O) 16 [(zQ (zQ V))] S) (fun b Y=>zT (jv b 0 Y) (fun v3 S2=>zT (jv (jh 0 b) 1 S2) (fun v4 S3=>zT (wR zi 48 S3) (fun v5 S4=>zT (jI zi 48 v5 (zQ v3) S4) (fun v6 S5=>some ([X,V,W,x3,Z,x5,v5,v4,x8,x9,c,d,f,g,i,k,l,m,n,o,p,jh 1 (jh 0 b),zQ V,zQ b,v3,zQ v4,w,x,y,z,A,B,C,D,E,F,G,H,I,J,K,L,M,N,P,Q,R,U],S5)) ()) ()) ()) ()) ()):=by kernel_rfl
theorem yD.r4 :zW zi ⟨false,false,false⟩ (zU zi O) (reg Try.f13 4) (reg Try.f13 4).toList ([X,V,W,x3,Z,x5,x6,x7,x8,x9,c,d,f,g,i,k,l,m,n,o,p,q,r,s,t,u,w,x,y,z,A,B,C,D,E,F,G,H,I,J,K,L,M,N,P,Q,R,U]) S =
  (zT (jd zi BinOp.neq 3 (zQ x7) (.int .i64 0) S) (fun b Y=>zY (zQ b) false (jf zi 48 x6 0) Y (fun v3 S2=>zY (zQ b) false (zZ zi false 3 v3) S2 (fun v4 S3=>zY (zQ b) false (jd zi BinOp.neq 3 v4 (.int .i64 1)) S3 (fun v5 S4=>zT (jH (zQ b) (Value.bool true) v5 S4) (fun v6 S5=>some ([X,V,W,x3,Z,x5,x6,x7,x8,x9,c,d,f,g,i,k,l,m,n,o,p,q,r,s,t,u,zQ x7,b,zQ b,v3,v4,v5,v6,D,E,F,G,H,I,J,K,L,M,N,P,Q,R,U],S5)) ()) ()) ()) ()) ()):=by
 refine sP Try.f13 4 0 (v:=x7) ?_;refine sD Try.f13 4 1 (fun b Y=>?_)
 refine sP Try.f13 4 2 (v:=b) ?_;refine sG Try.f13 4 3 (j:=2) (fun v3 S2=>?_)
 refine sG Try.f13 4 4 (j:=2) (fun v4 S3=>?_)
 refine sG Try.f13 4 5 (j:=2) (fun v5 S4=>?_)
 refine sD Try.f13 4 6 (fun v6 S5=>?_)
 kernel_rfl
theorem yD.r5 :zW zi ⟨false,false,false⟩ (zU zi O) (reg Try.f13 5) (reg Try.f13 5).toList ([X,V,W,x3,Z,x5,x6,x7,x8,x9,c,d,f,g,i,k,l,m,n,o,p,q,r,s,t,u,w,x,y,z,A,B,C,D,E,F,G,H,I,J,K,L,M,N,P,Q,R,U]) S =
  (zT (zZ zi false 32 W S) (fun v0 Y=>zT (jI zi 32 Z (zQ v0) Y) (fun b S2=>some ([X,V,W,x3,Z,x5,x6,x7,x8,x9,c,d,f,g,i,k,l,m,n,o,p,q,r,s,t,u,w,x,y,z,A,B,C,v0,E,F,G,H,I,J,K,L,M,N,P,Q,R,U],S2)) ()) ()):=by kernel_rfl
theorem yD.d6 :vg zi (reg Try.f13 6)=true:=by kernel_rfl
theorem yD.KF :fixed zi (reg Try.f13 6)=false:=by kernel_rfl
theorem yD.k6 :checked zi (reg Try.f13 6)=[0,0,1,2,5,6,7,7]:=by kernel_rfl
theorem yD.g6 :again zi (reg Try.f13 6)=[(0,3),(0,8),(2,8)]:=by kernel_rfl
theorem yD.r6 :zX zi O false (.region 6 (reg Try.f13 6) true) ([X,V,W,x3,Z,x5,x6,x7,x8,x9,c,d,f,g,i,k,l,m,n,o,p,q,r,s,t,u,w,x,y,z,A,B,C,D,E,F,G,H,I,J,K,L,M,N,P,Q,R,U]) S =
  yY (zT (zZ zi false 32 W S) (fun v0 Y=>jK v0 ( zT (jf zi 48 x6 7 Y) (fun b S2=>jK b ( zT (zZ zi false 46 b S2) (fun v2 S3=>jK v2 ( zT ((zU zi O) 17 [(zQ v2)] S3) (fun v3 S4=>zT ((zU zi O) 26 [(zQ v0),(zQ v3)] S4) (fun v4 S5=>jK v4 ( zT (jv v4 0 S5) (fun v6 S6=>jK v6 ( zT (jv (jh 0 v4) 1 S6) (fun v7 S7=>jK v7 ( zT (wR zi 46 S7) (fun v8 S8=>zT (jI zi 46 v8 (zQ v6) S8) (fun v9 S9=>Jy (y8 W S S4&&(y8 W S S8&&(y8 b S2 S8&&(true)))) (some ([X,V,W,x3,Z,x5,x6,x7,v8,v7,c,d,f,g,i,k,l,m,n,o,p,q,r,s,t,u,w,x,y,z,A,B,C,D,jh 1 (jh 0 v4),v0,b,v2,v3,zQ v4,v6,zQ v7,M,N,P,Q,R,U],S9)) ()) ()) ()) ()) ()) ()) ()) ()) ()) ()) ()) ()) ()) ()) ()) ()):=by
 rw[Jh yD.d6 yD.KF yD.k6 yD.g6];refine congrArg yY ?_;refine yH Try.f13 6 0 (pe:=W) (fun v0 Y=>?_)
 refine yH Try.f13 6 1 (pe:=zh) (fun b S2=>?_)
 refine yH Try.f13 6 2 (pe:=b) (fun v2 S3=>?_)
 refine uD Try.f13 6 3 (pe:=zh) (fun v3 S4=>?_)
 refine uD Try.f13 6 4 (pe:=zh) (fun v4 S5=>?_)
 refine Zb Try.f13 6 5 (v:=v4) (pe:=zh) ?_;refine yH Try.f13 6 6 (pe:=zh) (fun v6 S6=>?_)
 refine yH Try.f13 6 7 (pe:=zh) (fun v7 S7=>?_)
 refine uD Try.f13 6 8 (pe:=zh) (fun v8 S8=>?_)
 refine uD Try.f13 6 9 (pe:=zh) (fun v9 S9=>?_)
 refine uP Try.f13 6 10 (v:=v7) (pe:=zh) ?_
 kernel_rfl
theorem yD.r7 :zW zi ⟨false,false,false⟩ (zU zi O) (reg Try.f13 7) (reg Try.f13 7).toList ([X,V,W,x3,Z,x5,x6,x7,x8,x9,c,d,f,g,i,k,l,m,n,o,p,q,r,s,t,u,w,x,y,z,A,B,C,D,E,F,G,H,I,J,K,L,M,N,P,Q,R,U]) S =
  ( some ([X,V,W,x3,Z,x5,x6,x7,x8,x9,c,d,f,g,i,k,l,m,n,o,p,q,r,s,t,u,w,x,y,z,A,B,C,D,E,F,G,H,I,J,K,L,zQ x9,N,P,Q,R,U],S)):=by kernel_rfl
theorem yD.r8 :zW zi ⟨false,false,false⟩ (zU zi O) (reg Try.f13 8) (reg Try.f13 8).toList ([X,V,W,x3,Z,x5,x6,x7,x8,x9,c,d,f,g,i,k,l,m,n,o,p,q,r,s,t,u,w,x,y,z,A,B,C,D,E,F,G,H,I,J,K,L,M,N,P,Q,R,U]) S =
  (zT (zZ zi false 32 W S) (fun v0 Y=>zT (jI zi 32 Z (zQ v0) Y) (fun b S2=>some ([X,V,W,x3,Z,x5,x6,x7,x8,x9,c,d,f,g,i,k,l,m,n,o,p,q,r,s,t,u,w,x,y,z,A,B,C,D,E,F,G,H,I,J,K,L,M,v0,P,Q,R,U],S2)) ()) ()):=by kernel_rfl
theorem yD.r9 :zW zi ⟨false,false,false⟩ (zU zi O) (reg Try.f13 9) (reg Try.f13 9).toList ([X,V,W,x3,Z,x5,x6,x7,x8,x9,c,d,f,g,i,k,l,m,n,o,p,q,r,s,t,u,w,x,y,z,A,B,C,D,E,F,G,H,I,J,K,L,M,N,P,Q,R,U]) S =
  (zT (zZ zi false 32 W S) (fun v0 Y=>zT (jf zi 48 x6 7 Y) (fun b S2=>zT (zZ zi false 46 b S2) (fun v2 S3=>zT ((zU zi O) 27 [(zQ v0),(zQ v2)] S3) (fun v3 S4=>zT (jI zi 32 Z (zQ v3) S4) (fun v4 S5=>some ([X,V,W,x3,Z,x5,x6,x7,x8,x9,c,d,f,g,i,k,l,m,n,o,p,q,r,s,t,u,w,x,y,z,A,B,C,D,E,F,G,H,I,J,K,L,M,N,v0,b,v2,v3],S5)) ()) ()) ()) ()) ()):=by kernel_rfl
theorem yD.rs :type_of% (zJ @yD.r0 (zJ @yD.r1 (zJ @yD.r2 (zJ @yD.r3 (zJ @yD.r4 (zJ @yD.r5 (zJ @yD.r6 (zJ @yD.r7 (zJ @yD.r8 (@yD.r9)))))))))):=zJ @yD.r0 (zJ @yD.r1 (zJ @yD.r2 (zJ @yD.r3 (zJ @yD.r4 (zJ @yD.r5 (zJ @yD.r6 (zJ @yD.r7 (zJ @yD.r8 (@yD.r9)))))))))
theorem yD.runs {X V:zu}{S Y:zS}{e:wC}{T:List zu}(h:zX zi O false yD.code ([X,V,zh,zh,zh,zh,zh,zh,zh,zh,zh,zh,zh,zh,zh,zh,zh,zh,zh,zh,zh,zh,zh,zh,zh,zh,zh,zh,zh,zh,zh,zh,zh,zh,zh,zh,zh,zh,zh,zh,zh,zh,zh,zh,zh,zh,zh,zh]) zS.empty=some (e,T,Y)) (he:e=.normal∨e=.ret) {w0:zu}(c0:zZ zi false 32 (T.getD 4 zh) Y=some (w0,Y)) (hca:[X,V].all (jw 16)=true) (hcv:jw 16 (w0)=true):zU zi O 13 [X,V] S=some (w0,S) :=
 kC rfl rfl Try.func13 (by decide) yD.body (by exact h) he (qI (a:=w0) ((show jl zi T Y Try.f13.results.toList=jl zi T Y [(ResultVar.cell 4 32)] from by kernel_rfl).trans (by simp only[jl,c0])) (by kernel_rfl)) hca hcv
end
section
abbrev yB.id :FuncId:=15
noncomputable def yB.jg :Code:=(.seq (.region 2 (reg Try.f15 2) false) (.seq (.cond (.tmp 11) Code.skip (.exit 0)) (.seq (.block 1 (.seq (.region 3 (reg Try.f15 3) false) (.seq (.region 4 (reg Try.f15 4) false) (.cond (.tmp 16) (.seq (.region 5 (reg Try.f15 5) false) Code.ret) Code.skip)))) (.region 6 (reg Try.f15 6) false))))
noncomputable def yB.code :Code:=(.seq (.region 0 (reg Try.f15 0) false) (.seq (.seq (.region 1 (reg Try.f15 1) false) (.block 0 (.loop yB.jg))) (.seq (.region 7 (reg Try.f15 7) false) Code.ret)))
theorem yB.body :Try.f15.body=some yB.code:=by kernel_rfl
theorem yB.eta {T:List zu}(h:T.length=18):T=[T.getD 0 zh,T.getD 1 zh,T.getD 2 zh,T.getD 3 zh,T.getD 4 zh,T.getD 5 zh,T.getD 6 zh,T.getD 7 zh,T.getD 8 zh,T.getD 9 zh,T.getD 10 zh,T.getD 11 zh,T.getD 12 zh,T.getD 13 zh,T.getD 14 zh,T.getD 15 zh,T.getD 16 zh,T.getD 17 zh]:=(ZE T 18 h).trans (by kernel_rfl)
variable (m l o p v q n t r s b c d f g i j k:zu) (S:zS)
theorem yB.r0 :zW zi ⟨false,false,false⟩ (zU zi O) (reg Try.f15 0) (reg Try.f15 0).toList ([m,l,o,p,v,q,n,t,r,s,b,c,d,f,g,i,j,k]) S =
  (zT (qm (zQ m) S) (fun w u=>some ([m,l,w,p,Value.bool false,q,n,t,r,s,b,c,d,f,g,i,j,k],u)) ()):=by kernel_rfl
theorem yB.r1 :zW zi ⟨false,false,false⟩ (zU zi O) (reg Try.f15 1) (reg Try.f15 1).toList ([m,l,o,p,v,q,n,t,r,s,b,c,d,f,g,i,j,k]) S =
  (zT (jf zi 32 o 0 S) (fun w u=>zT (zZ zi false 24 w u) (fun x y=>zT (yK zi 24 x y) (fun z A=>some ([m,l,o,p,v,q,n,w,x,z,.int .i64 0,c,d,f,g,i,j,k],A)) ()) ()) ()):=by kernel_rfl
theorem yB.r2 :zW zi ⟨false,false,false⟩ (zU zi O) (reg Try.f15 2) (reg Try.f15 2).toList ([m,l,o,p,v,q,n,t,r,s,b,c,d,f,g,i,j,k]) S =
  (zT (jd zi BinOp.lss 3 b s S) (fun w u=>some ([m,l,o,p,v,q,n,t,r,s,b,w,d,f,g,i,j,k],u)) ()):=by kernel_rfl
theorem yB.r3 :zW zi ⟨false,false,false⟩ (zU zi O) (reg Try.f15 3) (reg Try.f15 3).toList ([m,l,o,p,v,q,n,t,r,s,b,c,d,f,g,i,j,k]) S =
  (zT (jZ zi 24 r b S) (fun w u=>zT (zZ zi false 3 w u) (fun x y=>some ([m,l,o,p,v,q,x,t,r,s,b,c,w,zQ x,g,i,j,k],y)) ()) ()):=by kernel_rfl
theorem yB.r4 :zW zi ⟨false,false,false⟩ (zU zi O) (reg Try.f15 4) (reg Try.f15 4).toList ([m,l,o,p,v,q,n,t,r,s,b,c,d,f,g,i,j,k]) S =
  (zT (jd zi BinOp.eql 3 (zQ n) (zQ l) S) (fun z u=>some ([m,l,o,p,v,q,n,t,r,s,b,c,d,f,zQ n,zQ l,z,k],u)) ()):=by kernel_rfl
theorem yB.r5 :zW zi ⟨false,false,false⟩ (zU zi O) (reg Try.f15 5) (reg Try.f15 5).toList ([m,l,o,p,v,q,n,t,r,s,b,c,d,f,g,i,j,k]) S =
  ( some ([m,l,o,p,Value.bool true,q,n,t,r,s,b,c,d,f,g,i,j,k],S)):=by kernel_rfl
theorem yB.r6 :zW zi ⟨false,false,false⟩ (zU zi O) (reg Try.f15 6) (reg Try.f15 6).toList ([m,l,o,p,v,q,n,t,r,s,b,c,d,f,g,i,j,k]) S =
  (zT (jd zi BinOp.add 3 b (.int .i64 1) S) (fun w u=>some ([m,l,o,p,v,q,n,t,r,s,zQ w,c,d,f,g,i,j,w],u)) ()):=by kernel_rfl
theorem yB.r7 :zW zi ⟨false,false,false⟩ (zU zi O) (reg Try.f15 7) (reg Try.f15 7).toList ([m,l,o,p,v,q,n,t,r,s,b,c,d,f,g,i,j,k]) S =
  ( some ([m,l,o,p,Value.bool false,q,n,t,r,s,b,c,d,f,g,i,j,k],S)):=by kernel_rfl
theorem yB.rs :type_of% (zJ @yB.r0 (zJ @yB.r1 (zJ @yB.r2 (zJ @yB.r3 (zJ @yB.r4 (zJ @yB.r5 (zJ @yB.r6 (@yB.r7)))))))):=zJ @yB.r0 (zJ @yB.r1 (zJ @yB.r2 (zJ @yB.r3 (zJ @yB.r4 (zJ @yB.r5 (zJ @yB.r6 (@yB.r7)))))))
theorem yB.runs {m l:zu}{S u:zS}{e:wC}{T:List zu}(h:zX zi O false yB.code ([m,l,zh,zh,zh,zh,zh,zh,zh,zh,zh,zh,zh,zh,zh,zh,zh,zh]) zS.empty=some (e,T,u)) (he:e=.normal∨e=.ret) (hca:[m,l].all (jw 16)=true) (hcv:jw 16 (T.getD 4 zh)=true):zU zi O 15 [m,l] S=some (T.getD 4 zh,S) :=
 kC rfl rfl Try.func15 (by decide) yB.body (by exact h) he (qI (a:=T.getD 4 zh) ((show jl zi T u Try.f15.results.toList=jl zi T u [(ResultVar.tmp 4)] from by kernel_rfl).trans (by simp only[jl])) (by kernel_rfl)) hca hcv
end
section
abbrev yA.id :FuncId:=26
noncomputable def yA.jg :Code:=(.seq (.region 2 (reg Try.f26 2) false) (.seq (.cond (.tmp 12) Code.skip (.exit 0)) (.seq (.block 1 (.seq (.region 3 (reg Try.f26 3) false) (.seq (.region 4 (reg Try.f26 4) false) (.cond (.tmp 18) (.seq (.region 5 (reg Try.f26 5) false) Code.ret) Code.skip)))) (.region 6 (reg Try.f26 6) false))))
noncomputable def yA.code :Code:=(.seq (.region 0 (reg Try.f26 0) false) (.seq (.seq (.region 1 (reg Try.f26 1) false) (.block 0 (.loop yA.jg))) (.seq (.region 7 (reg Try.f26 7) false) Code.ret)))
theorem yA.body :Try.f26.body=some yA.code:=by kernel_rfl
theorem yA.eta {T:List zu}(h:T.length=22):T=[T.getD 0 zh,T.getD 1 zh,T.getD 2 zh,T.getD 3 zh,T.getD 4 zh,T.getD 5 zh,T.getD 6 zh,T.getD 7 zh,T.getD 8 zh,T.getD 9 zh,T.getD 10 zh,T.getD 11 zh,T.getD 12 zh,T.getD 13 zh,T.getD 14 zh,T.getD 15 zh,T.getD 16 zh,T.getD 17 zh,T.getD 18 zh,T.getD 19 zh,T.getD 20 zh,T.getD 21 zh]:=(ZE T 22 h).trans (by kernel_rfl)
variable (p o u v s z w t y x b a c d f g i j k l m n:zu) (S:zS)
theorem yA.r0 :zW zi ⟨false,false,false⟩ (zU zi O) (reg Try.f26 0) (reg Try.f26 0).toList ([p,o,u,v,s,z,w,t,y,x,b,a,c,d,f,g,i,j,k,l,m,n]) S =
  (zT (qm (zQ p) S) (fun q r=>zT (wR zi 46 r) (fun A B=>some ([p,o,q,v,A,Value.bool false,w,t,y,x,b,a,c,d,f,g,i,j,k,l,m,n],B)) ()) ()):=by kernel_rfl
theorem yA.r1 :zW zi ⟨false,false,false⟩ (zU zi O) (reg Try.f26 1) (reg Try.f26 1).toList ([p,o,u,v,s,z,w,t,y,x,b,a,c,d,f,g,i,j,k,l,m,n]) S =
  (zT (jf zi 32 u 2 S) (fun q r=>zT (zZ zi false 30 q r) (fun A B=>zT (yK zi 30 A B) (fun D C=>some ([p,o,u,v,s,z,w,t,q,A,D,.int .i64 0,c,d,f,g,i,j,k,l,m,n],C)) ()) ()) ()):=by kernel_rfl
theorem yA.r2 :zW zi ⟨false,false,false⟩ (zU zi O) (reg Try.f26 2) (reg Try.f26 2).toList ([p,o,u,v,s,z,w,t,y,x,b,a,c,d,f,g,i,j,k,l,m,n]) S =
  (zT (jd zi BinOp.lss 3 a b S) (fun q r=>some ([p,o,u,v,s,z,w,t,y,x,b,a,q,d,f,g,i,j,k,l,m,n],r)) ()):=by kernel_rfl
theorem yA.r3 :zW zi ⟨false,false,false⟩ (zU zi O) (reg Try.f26 3) (reg Try.f26 3).toList ([p,o,u,v,s,z,w,t,y,x,b,a,c,d,f,g,i,j,k,l,m,n]) S =
  (zT (jZ zi 30 x a S) (fun q r=>zT (zZ zi false 46 q r) (fun A B=>zT (wR zi 46 B) (fun D C=>zT (jI zi 46 D (zQ A) C) (fun E F=>some ([p,o,u,v,s,z,w,D,y,x,b,a,c,q,A,g,i,j,k,l,m,n],F)) ()) ()) ()) ()):=by kernel_rfl
theorem yA.r4 :zW zi ⟨false,false,false⟩ (zU zi O) (reg Try.f26 4) (reg Try.f26 4).toList ([p,o,u,v,s,z,w,t,y,x,b,a,c,d,f,g,i,j,k,l,m,n]) S =
  (zT (zZ zi false 46 t S) (fun q r=>zT ((zU zi O) 17 [(zQ q)] r) (fun A B=>zT (jd zi BinOp.eql 3 A (zQ o) B) (fun E C=>some ([p,o,u,v,s,z,w,t,y,x,b,a,c,d,f,q,A,zQ o,E,l,m,n],C)) ()) ()) ()):=by kernel_rfl
theorem yA.r5 :zW zi ⟨false,false,false⟩ (zU zi O) (reg Try.f26 5) (reg Try.f26 5).toList ([p,o,u,v,s,z,w,t,y,x,b,a,c,d,f,g,i,j,k,l,m,n]) S =
  (zT (zZ zi false 46 t S) (fun q r=>zT (jI zi 46 s (zQ q) r) (fun A B=>some ([p,o,u,v,s,Value.bool true,w,t,y,x,b,a,c,d,f,g,i,j,k,q,m,n],B)) ()) ()):=by kernel_rfl
theorem yA.r6 :zW zi ⟨false,false,false⟩ (zU zi O) (reg Try.f26 6) (reg Try.f26 6).toList ([p,o,u,v,s,z,w,t,y,x,b,a,c,d,f,g,i,j,k,l,m,n]) S =
  (zT (jd zi BinOp.add 3 a (.int .i64 1) S) (fun q r=>some ([p,o,u,v,s,z,w,t,y,x,b,zQ q,c,d,f,g,i,j,k,l,q,n],r)) ()):=by kernel_rfl
theorem yA.r7 :zW zi ⟨false,false,false⟩ (zU zi O) (reg Try.f26 7) (reg Try.f26 7).toList ([p,o,u,v,s,z,w,t,y,x,b,a,c,d,f,g,i,j,k,l,m,n]) S =
  (zT (wS zi 46 [] S) (fun q r=>zT (jI zi 46 s (zQ q) r) (fun A B=>some ([p,o,u,v,s,Value.bool false,w,t,y,x,b,a,c,d,f,g,i,j,k,l,m,q],B)) ()) ()):=by kernel_rfl
theorem yA.rs :type_of% (zJ @yA.r0 (zJ @yA.r1 (zJ @yA.r2 (zJ @yA.r3 (zJ @yA.r4 (zJ @yA.r5 (zJ @yA.r6 (@yA.r7)))))))):=zJ @yA.r0 (zJ @yA.r1 (zJ @yA.r2 (zJ @yA.r3 (zJ @yA.r4 (zJ @yA.r5 (zJ @yA.r6 (@yA.r7)))))))
theorem yA.runs {p o:zu}{S r:zS}{e:wC}{T:List zu}(h:zX zi O false yA.code ([p,o,zh,zh,zh,zh,zh,zh,zh,zh,zh,zh,zh,zh,zh,zh,zh,zh,zh,zh,zh,zh]) zS.empty=some (e,T,r)) (he:e=.normal∨e=.ret) {w0:zu}(c0:zZ zi false 46 (T.getD 4 zh) r=some (w0,r)) (h0:yc (w0)=true) (h1:yc (T.getD 5 zh)=true) (hca:[p,o].all (jw 16)=true) (hcv:jw 16 (Value.tuple #[w0,T.getD 5 zh])=true):zU zi O 26 [p,o] S=some (Value.tuple #[w0,T.getD 5 zh],S) :=
 kC rfl rfl Try.func26 (by decide) yA.body (by exact h) he ((Zc ((show jl zi T r Try.f26.results.toList=jl zi T r [(ResultVar.cell 4 46),(ResultVar.tmp 5)] from by kernel_rfl).trans (by simp only[jl,c0])) (by kernel_rfl) (by simp only[List.all_cons,List.all_nil,h0,h1,Bool.and_true])).trans rfl) hca hcv
end
section
abbrev vO.id :FuncId:=27
noncomputable def vO.code :Code:=(.seq (.region 0 (reg Try.f27 0) false) (.seq (.region 1 (reg Try.f27 1) false) (.seq (.region 2 (reg Try.f27 2) false) (.seq (.region 3 (reg Try.f27 3) false) Code.ret))))
theorem vO.body :Try.f27.body=some vO.code:=by kernel_rfl
variable (b c m o p n r s t u f g i j k l:zu) (S:zS)
theorem vO.r0 :zW zi ⟨false,false,false⟩ (zU zi O) (reg Try.f27 0) (reg Try.f27 0).toList ([b,c,m,o,p,n,r,s,t,u,f,g,i,j,k,l]) S =
  (zT (qm (zQ b) S) (fun v d=>zT (qm (zQ c) d) (fun q w=>zT (wR zi 32 w) (fun x y=>some ([b,c,v,q,x,n,r,s,t,u,f,g,i,j,k,l],y)) ()) ()) ()):=by kernel_rfl
theorem vO.r1 :zW zi ⟨false,false,false⟩ (zU zi O) (reg Try.f27 1) (reg Try.f27 1).toList ([b,c,m,o,p,n,r,s,t,u,f,g,i,j,k,l]) S =
  (zT (yO zi 30 0 [] S) (fun v d=>zT (jf zi 32 m 2 d) (fun q w=>zT (zZ zi false 30 q w) (fun x y=>zT (yF zi 30 30 v x y) (fun z A=>some ([b,c,m,o,p,z,zQ v,q,x,zQ z,f,g,i,j,k,l],A)) ()) ()) ()) ()):=by kernel_rfl
theorem vO.r2 :zW zi ⟨false,false,false⟩ (zU zi O) (reg Try.f27 2) (reg Try.f27 2).toList ([b,c,m,o,p,n,r,s,t,u,f,g,i,j,k,l]) S =
  (zT (zZ zi false 46 o S) (fun q d=>zT (yO zi 30 1 [(0,q)] d) (fun x w=>zT (yF zi 30 30 n x w) (fun z y=>zT (jf zi 32 m 2 y) (fun B A=>zT (jI zi 30 B (zQ z) A) (fun D C=>some ([b,c,m,o,p,zQ n,r,s,t,u,zQ n,q,x,z,B,l],C)) ()) ()) ()) ()) ()):=by kernel_rfl
theorem vO.r3 :zW zi ⟨false,false,false⟩ (zU zi O) (reg Try.f27 3) (reg Try.f27 3).toList ([b,c,m,o,p,n,r,s,t,u,f,g,i,j,k,l]) S =
  (zT (zZ zi false 32 m S) (fun v d=>zT (jI zi 32 p (zQ v) d) (fun q w=>some ([b,c,m,o,p,n,r,s,t,u,f,g,i,j,k,v],w)) ()) ()):=by kernel_rfl
theorem vO.rs :type_of% (zJ @vO.r0 (zJ @vO.r1 (zJ @vO.r2 (@vO.r3)))):=zJ @vO.r0 (zJ @vO.r1 (zJ @vO.r2 (@vO.r3)))
theorem vO.runs {b c:zu}{S d:zS}{e:wC}{T:List zu}(h:zX zi O false vO.code ([b,c,zh,zh,zh,zh,zh,zh,zh,zh,zh,zh,zh,zh,zh,zh]) zS.empty=some (e,T,d)) (he:e=.normal∨e=.ret) {w0:zu}(c0:zZ zi false 32 (T.getD 4 zh) d=some (w0,d)) (hca:[b,c].all (jw 16)=true) (hcv:jw 16 (w0)=true):zU zi O 27 [b,c] S=some (w0,S) :=
 kC rfl rfl Try.func27 (by decide) vO.body (by exact h) he (qI (a:=w0) ((show jl zi T d Try.f27.results.toList=jl zi T d [(ResultVar.cell 4 32)] from by kernel_rfl).trans (by simp only[jl,c0])) (by kernel_rfl)) hca hcv
end
abbrev Zl (k:Nat) (l:List jR):zu:=vs yP 5 k l
theorem tX (b:jR):(yP b).length=5:=rfl
theorem IQ (S:zS):yO zi 30 0 [] S=some (Zl 2 [],S):=by rw[IY];rfl
theorem IU (b:jR) (S:zS):yO zi 30 1 [(0,bv b)] S=some (Zl 2 [b],S):=by kernel_rfl
theorem pF {j:Nat}{l m:List jR}(hm:je j m) (hl:l.length+m.length≤1000) (S:zS):yF zi 30 30 (Zl 2 l) (Zl j m) S=some (Zl 2 (l++m),S):=by
 rw[V6 dM QW PS rfl Iq (by omega) dM tX bM je.own (by decide) hm (by omega) (by omega),zM (fun h=>by have:=h.1;omega)]
theorem IL {k:Nat}{l:List jR}(hk:je k l) (S:zS):yK zi 30 (Zl k l) S=some (.int .i64 l.length,S):=XM dM hk
theorem IK {k:Nat}{l pre suf:List jR}{x:jR}(hk:je k l) (hl:l=pre++x::suf) (S:zS):jZ zi 30 (Zl k l) (.int .i64 pre.length) S=some (EP [.int .i64 x.slot,.int .i64 x.miner,.int .i64 x.variant,.int .i64 x.parent,tl x.k x.txs],S):=by
 rw[XL dM QW tX hk (by omega) (by rw[hl];simp;omega),Qu hl];rfl
theorem Vt (b:jR):kQ 3 (bv b)=true:=by
 have h:kQ 2 (tl b.k b.txs)=true:=by unfold tl vs sv;split<;>rfl
 simp only[kQ,zD,List.all_cons,List.all_nil,h,Bool.and_true]
structure JJ where
 kind:Int
 k:Nat
 data:List UInt8
def fA (a:JJ):List zu:=[.int .i64 a.kind,jk a.k a.data]
abbrev av (a:JJ):zu:=.agg [Value.int .i64 a.kind,jk a.k a.data].toArray
structure JJ.Ok (a:JJ):Prop where
 okl:je a.k a.data
 ne:a.k≠2
 le:a.data.length≤140737488351232
abbrev az :JJ:=⟨0,0,[]⟩
theorem P5 (a:JJ):(fA a).all (·.oneCell')=true:=by
 simp only[fA,List.all_cons,List.all_nil,lU,KQ,Bool.and_true]
theorem H6 (S:zS):wR zi 35 S=some (.pointer (some ⟨S.next,0,none⟩),S.push (.cells (fA az) (.own []) 0)):=by kernel_rfl
theorem Py (a:JJ) (S:zS):∃S2,jI zi 35 (.pointer (some ⟨S.next,0,none⟩)) (av a) (S.push (.cells (fA az) (.own []) 0))=some (zh,S2)∧S2.get S.next=some (.cells (fA a) (.own []) 0)∧Ext S S2∧S.next<S2.next :=
 bI S (by rw[Zf];rfl) mP rfl (P5 a)
theorem OL {S:zS}{q:Nat}{a:JJ}{own:Own}{e:Nat}(h:S.get q=some (.cells (fA a) own e)):zZ zi false 3 (.pointer (some ⟨q,0+0,none⟩)) S=some (.int .i64 a.kind,S):=Zp (t:=3) (o:=0+0) h Zo rfl
theorem iY {S:zS}{q:Nat}{a:JJ}{own:Own}{e:Nat}(h:S.get q=some (.cells (fA a) own e)) (hk:a.k≠2):zZ zi false 33 (.pointer (some ⟨q,0+1,none⟩)) S=some (jk a.k a.data,S):=by
 rw[QK (o:=0+1) (v:=jk a.k a.data) h iH rfl (fun l h=>by unfold jk vs sv at h;split at h<;>cases h),WQ,zM hk]
abbrev Qn :Ty:=.pair (.int .i64) (.pair (.slc 1 (.int .u8)) .unit)
theorem Ot (x:Qn.Val) (hg:Qn.Good x):∃a:JJ,Qn.Zd x=fA a∧a.Ok:=by
 obtain⟨n,t,u⟩:=x;obtain⟨h1,h2,_⟩:=hg;obtain⟨k,l,p1,p2,p3,p4⟩:=Ov t h2;refine⟨⟨n,k,l⟩,?_,⟨p1,p2,p4⟩⟩;show [Value.int .i64 n]++((Ty.slc 1 (.int .u8)).Zd t++[])=_;rw[p3];rfl
theorem Ou (x:(Ty.slc 32 Qn).Val) (hg:(Ty.slc 32 Qn).Good x):∃k l,je k l∧k≠2∧(Ty.slc 32 Qn).Zd x=[vs fA 2 k l]∧l.length*32≤140737488351232∧∀t∈l,t.Ok :=
 Oy (b:=32) (e:=Qn) fA JJ.Ok (fun x hx=>Ot x hx) (fun _=>rfl) x hg
theorem U5 {a b:jR}(ha:jP a=true) (hb:jP b=true) (h:vY a=vY b):vG a b=true:=by
 unfold vY at h;rw[zN ha,zN hb]at h;have:=(fH (r:=[]) (s:=[]) ha hb (by rw[h])).1
 exact Qi.2 this
structure aaM (bad:List Int) (sd:List (List UInt8)) (kn:List (Int×List UInt8)) (sb pb:List jR):Prop where
 rt:∀b∈sb++pb,b.Ok∧jP b=true
 kn1:∀b∈sb++pb,Wp kn (nameOf b)=some (vY b)
 kn2:∀n t,Wp kn n=some t→∃b∈sb++pb,nameOf b=n∧vY b=t
 sd1:∀x,qj x=true→x.kind=1→kE x∈sd→∃b∈sb,vG b x.b=true
 pb1:∀b∈pb,(∃c∈sb,vG c b=true)∨isBad bad b.miner=true
section
variable {bad:List Int}{sd:List (List UInt8)}{kn:List (Int×List UInt8)}{sb pb:List jR}
end
structure Dg where
 kb:Nat
 bad:List Int
 ks:Nat
 said:List Tb
 kk:Nat
 known:List jR
abbrev Zr (k:Nat) (l:List Tb):zu:=vs fB 1 k l
def fG (g:Dg):List zu:=[iz g.kb g.bad,Zr g.ks g.said,Zl g.kk g.known]
abbrev qx (g:Dg):zu:=.agg [iz g.kb g.bad,Zr g.ks g.said,Zl g.kk g.known].toArray
abbrev Y6 :Dg:=⟨0,[],0,[],0,[]⟩
structure Dg.Ok (g:Dg):Prop where
 b:je g.kb g.bad
 s:je g.ks g.said
 k:je g.kk g.known
 bne:g.kb≠2
 sne:g.ks≠2
 kne:g.kk≠2
 bl:g.bad.length≤1000
 sl:g.said.length≤200
 kl:g.known.length≤200
 so:∀t∈g.said,t.Ok
 ko:∀b∈g.known,b.Ok
theorem JR (S:zS):Ext zS.empty S:=⟨Nat.zero_le _,fun p hp=>absurd hp (Nat.not_lt_zero p),by simp[zS.empty]⟩
theorem P6 (g:Dg):(fG g).all (·.oneCell')=true:=by
 simp only[fG,List.all_cons,List.all_nil,KQ,Bool.and_true]
theorem rC {g:Dg}{d:Nat}(h:g.Ok):jw (d+14) (qx g)=true:=by
 have h2:jw (d+13) (Zr g.ks g.said)=true:=WO (d:=d+9) h.s.le fun t ht=>by
  show [jk t.k t.b].all (jw (d+9))=true;simp only[List.all_cons,List.all_nil,vU (d:=d+4) (h.so t ht).okl.le,Bool.and_true]
 have h3:jw (d+13) (Zl g.kk g.known)=true:=WO (d:=d+9) h.k.le fun b hb=>by
  have ht:jw (d+9) (tl b.k b.txs)=true:=WO (d:=d+5) (h.ko b hb).okl.le fun _ _=>rfl
  simp only[yP,List.all_cons,List.all_nil,ht,Bool.and_true];rfl
 refine gu (d:=d+13) ?_;simp only[List.all_cons,List.all_nil,LP (d:=d+8) h.b.le,h2,h3,Bool.and_true]
theorem Yb {g:Dg}(h:g.Ok):jw 16 (qx g)=true:=rC (d:=2) h
theorem LM {g:Dg}(h:g.Ok):jw 15 (qx g)=true:=rC (d:=1) h
theorem Vw (b:jR) (c:Bool):kQ 3 (.tuple #[bv b,.bool c])=true:=by
 have h:kQ 1 (tl b.k b.txs)=true:=by unfold tl vs sv;split<;>rfl
 show([bv b,Value.bool c].all (kQ 2))=true;show(([Value.int .i64 b.slot,.int .i64 b.miner,.int .i64 b.variant,.int .i64 b.parent,tl b.k b.txs].all (kQ 1))&&true)=true;simp only[List.all_cons,List.all_nil,h,Bool.and_true];rfl
theorem XB (g:Dg):kQ 3 (qx g)=true:=by
 have h1:kQ 2 (iz g.kb g.bad)=true:=by unfold iz vs sv;split<;>rfl
 have h2:kQ 2 (Zr g.ks g.said)=true:=by unfold Zr vs sv;split<;>rfl
 have h3:kQ 2 (Zl g.kk g.known)=true:=by unfold Zl vs sv;split<;>rfl
 simp only[kQ,zD,List.all_cons,List.all_nil,h1,h2,h3,Bool.and_true]
theorem XY (g:Dg) (S:zS):∃S2,qm (qx g) S=some (.pointer (some ⟨S.next,0,none⟩),S2)∧S2.get S.next=some (.cells (fG g) (.own []) 0)∧Ext S S2∧S.next<S2.next:=by
 obtain⟨S2,h1,h2,h3,h4⟩:=ak (qx g) S;rw[Zf,zD]at h2;exact⟨S2,h1,h2,h3,h4⟩
theorem IV (b:jR) (S:zS):∃S2,qm (bv b) S=some (.pointer (some ⟨S.next,0,none⟩),S2)∧S2.get S.next=some (.cells (yP b) (.own []) 0)∧Ext S S2∧S.next<S2.next:=by
 obtain⟨S2,h1,h2,h3,h4⟩:=ak (bv b) S;rw[Zf,zD]at h2;exact⟨S2,h1,h2,h3,h4⟩
theorem H8 (S:zS):wR zi 32 S=some (.pointer (some ⟨S.next,0,none⟩),S.push (.cells (fG Y6) (.own []) 0)):=by kernel_rfl
theorem XU (S:zS):∃S2,wR zi 32 S=some (.pointer (some ⟨S.next,0,none⟩),S2)∧S2.get S.next=some (.cells (fG Y6) (.own []) 0)∧Ext S S2∧S.next<S2.next :=
 ⟨_,H8 S,by rw[zS.qO,zN rfl],Ext.push _ _,by simp⟩
theorem H7 (S:zS):∃S2,wR zi 46 S=some (.pointer (some ⟨S.next,0,none⟩),S2)∧S2.get S.next=some (.cells (yP jm) (.own []) 0)∧Ext S S2∧S.next<S2.next :=
 ⟨_,Jc S,by rw[zS.qO,zN rfl],Ext.push _ _,by simp⟩
section
variable {S:zS}{q e:Nat}{own:Own}{g:Dg}
theorem nS {α:Type}{f:α→List zu}{e k:Nat}{l:List α}(x:Array zu):vs f e k l≠.agg x:=fun h=>by unfold vs sv at h;split at h<;>cases h
theorem ZT (h:S.get q=some (.cells (fG g) own e)) (hg:g.Ok):zZ zi false 32 (.pointer (some ⟨q,0,none⟩)) S=some (qx g,S):=by
 rw[OY h];simp only[aK,zM hg.bne,zM hg.sne,zM hg.kne]
theorem OM (h:S.get q=some (.cells (fG g) own e)) (hg:g.Ok):zZ zi false 24 (.pointer (some ⟨q,0+0,none⟩)) S=some (iz g.kb g.bad,S):=by
 rw[QK (o:=0+0) (v:=iz g.kb g.bad) h uH rfl (fun l=>nS l),WQ,zM hg.bne]
theorem BU (h:S.get q=some (.cells (fG g) own e)) (hg:g.Ok):zZ zi false 29 (.pointer (some ⟨q,0+1,none⟩)) S=some (Zr g.ks g.said,S):=by
 rw[QK (o:=0+1) (v:=Zr g.ks g.said) h NS rfl (fun l=>nS l),WQ,zM hg.sne]
theorem BX (h:S.get q=some (.cells (fG g) own e)) (hg:g.Ok):zZ zi false 30 (.pointer (some ⟨q,0+2,none⟩)) S=some (Zl g.kk g.known,S):=by
 rw[QK (o:=0+2) (v:=Zl g.kk g.known) h NT rfl (fun l=>nS l),WQ,zM hg.kne]
theorem Wy {S0:zS}(w:Dg) (h:S.get q=some (.cells (fG g) (.own []) 0)) (hE:Ext S0 S) (hq:S0.next≤q):∃S2,jI zi 32 (.pointer (some ⟨q,0,none⟩)) (qx w) S=some (zh,S2)∧S2.get q=some (.cells (fG w) (.own []) 0)∧Ext S0 S2∧S2.next=S.next∧∀k,k≠q→S2.get k=S.get k:=by
 obtain⟨S2,h1,h2,h3,h4,h5⟩:=Vq (P:=zi) (t:=32) (x:=qx w) (o:=0) (n:=3) h ED (by rw[Zf];rfl) (by rw[Zf,zD];exact P6 w) (by simp[fG]) hE hq
 rw[Zf,zD]at h2;exact⟨S2,h1,h2,h3,h4,h5⟩
theorem Sr {S0:zS}{k:Nat}(l:List Tb) (h:S.get q=some (.cells (fG g) (.own []) 0)) (hE:Ext S0 S) (hq:S0.next≤q):∃S2,jI zi 29 (.pointer (some ⟨q,0+1,none⟩)) (Zr k l) S=some (zh,S2)∧S2.get q=some (.cells (fG { g with ks:=k,said:=l }) (.own []) 0)∧Ext S0 S2∧S2.next=S.next∧∀k,k≠q→S2.get k=S.get k:=by
 obtain⟨S2,h1,h2,h3,h4,h5⟩:=Vq (P:=zi) (t:=29) (x:=Zr k l) (o:=0+1) (n:=1) h Tf (by rw[WM];rfl) (by rw[WM];simp only[List.all_cons,List.all_nil,KQ];rfl) (by simp[fG]) hE hq
 rw[WM]at h2;exact⟨S2,h1,h2,h3,h4,h5⟩
theorem Sm {S0:zS}{k:Nat}(l:List jR) (h:S.get q=some (.cells (fG g) (.own []) 0)) (hE:Ext S0 S) (hq:S0.next≤q):∃S2,jI zi 30 (.pointer (some ⟨q,0+2,none⟩)) (Zl k l) S=some (zh,S2)∧S2.get q=some (.cells (fG { g with kk:=k,known:=l }) (.own []) 0)∧Ext S0 S2∧S2.next=S.next∧∀k,k≠q→S2.get k=S.get k:=by
 obtain⟨S2,h1,h2,h3,h4,h5⟩:=Vq (P:=zi) (t:=30) (x:=Zl k l) (o:=0+2) (n:=1) h Ti (by rw[WM];rfl) (by rw[WM];simp only[List.all_cons,List.all_nil,KQ];rfl) (by simp[fG]) hE hq
 rw[WM]at h2;exact⟨S2,h1,h2,h3,h4,h5⟩
end
section
variable {g:Dg}
theorem yB.round (hg:g.Ok) {n:Int}:∀(suf pre:List Int) {T:List zu}{r:St}{S:zS},yj (zX zi O false yB.jg) T S=r→T.length=18 →
  T.getD 1 zh=.int .i64 n→T.getD 8 zh=iz g.kb g.bad→T.getD 9 zh=.int .i64 g.bad.length→T.getD 10 zh=.int .i64 pre.length→g.bad=pre++suf→isBad pre n=false →
  ∃e T' S',r=some (e,T',S')∧((isBad g.bad n=true∧e=.ret∧T'.getD 4 zh=.bool true)∨(isBad g.bad n=false∧e=.exit 0∧T'.length=18)):=by
 intro suf;induction suf with
 |nil=>
  intro pre T r S hL hT h1 h8 h9 h10 hpre hb;have hTe:=yB.eta hT;rw[h1,h8,h9,h10]at hTe;have hr:=Eq.refl (zX zi O false yB.jg T S);have d1:¬(pre.length:Int)<(g.bad.length:Int):=by rw[hpre];simp
  conv at hr=>
   rhs;rw[hTe];simp only[yB.jg,yB.code,yB.rs,jc,reduceIte,zk,zn,zo,zq,d1]
  exact⟨_,_,_,hL.symm.trans (yX hr (by simp)),.inr ⟨by rw[hpre,List.append_nil];exact hb,rfl,rfl⟩⟩
 |cons x suf ih=>
  intro pre T r S hL hT h1 h8 h9 h10 hpre hb;have hTe:=yB.eta hT;rw[h1,h8,h9,h10]at hTe;have hr:=Eq.refl (zX zi O false yB.jg T S);have hll:g.bad.length=pre.length+suf.length+1:=by rw[hpre];simp;omega
  have hbl:=hg.bl;have d1:(pre.length:Int)<(g.bad.length:Int):=by omega
  have e1:∀S,jZ zi 24 (iz g.kb g.bad) (.int .i64 pre.length) S=some (EP [.int .i64 x],S):=fun S=>by
   rw[QG hg.b (by omega) d1];rw[aZ hpre]
  have wi:IntKind.i64.wrap ((pre.length:Int)+1)=((pre++[x]).length:Int):=by rw[wrap_i64 (by omega) (by omega)];simp
  by_cases hx:x=n
  ·have dx:=zL hx;conv at hr=>
    rhs;rw[hTe];simp only[yB.jg,yB.code,yB.rs,jc,reduceIte,zk,zn,zo,zq,d1,e1,kS,dx]
   have hb2:isBad g.bad n=true:=by
    unfold isBad;rw[List.any_eq_true];exact⟨x,by rw[hpre];simp,zL hx.symm⟩
   exact⟨_,_,_,hL.symm.trans (yX hr (by simp)),.inl ⟨hb2,rfl,rfl⟩⟩
  ·have dx:=zK hx;conv at hr=>
    rhs;rw[hTe];simp only[yB.jg,yB.code,yB.rs,jc,reduceIte,zk,zn,zo,zq,d1,e1,kS,dx,wi]
   have hs3:=(xk hr).symm.trans hL;exact ih (pre++[x]) hs3 rfl rfl rfl rfl rfl (by rw[hpre];simp) (by
    unfold isBad at hb ⊢;rw[List.any_append,hb];have hx2:¬n=x:=fun h=>hx h.symm
    simp[hx2])
theorem yB.v (hg:g.Ok) (n:Int) (S:zS):zU zi O yB.id [qx g,.int .i64 n] S=some (.bool (isBad g.bad n),S):=by
 obtain⟨T,hTe⟩:∃T,T=(qx g::.int .i64 n::[zh,zh,zh,zh,zh,zh,zh,zh,zh,zh,zh,zh,zh,zh,zh,zh]):=⟨_,rfl⟩;have hr:=Eq.refl (zX zi O false yB.code T zS.empty);obtain⟨S1,b1,b2,b3,b4⟩:=XY g zS.empty;have l0:=OM b2 hg;have ln:=fun S=>KH (S:=S) hg.b
 conv at hr=>
  rhs;rw[hTe];simp only[yB.code,yB.rs,jc,reduceIte,zk,zn,zo,zq,b1,Nc,l0,ln,goInt]
 generalize hL:yj (zX zi O false yB.jg) _ _=r at hr;obtain⟨e,T1,S2,rfl,⟨h1,rfl,h3⟩ |⟨h1,rfl,h3⟩⟩:=yB.round hg (n:=n) g.bad [] hL rfl rfl rfl rfl rfl rfl rfl
 ·conv at hr=>
   rhs;simp only[jc,reduceIte,zk,zn,zo,zq]
  rw[hTe]at hr;have:=yB.runs (S:=S) hr (.inr rfl) (all2 (Yb hg) rfl) (by rw[h3];rfl)
  rw[h3]at this;rw[h1];exact this
 ·have hT1:=yB.eta h3;conv at hr=>
   rhs;simp only[jc,reduceIte,zk,zn,zo,zq];rw[hT1];simp only[yB.code,yB.rs,jc,reduceIte,zk,zn,zo,zq]
  rw[hTe]at hr;rw[h1];exact yB.runs hr (.inr rfl) (all2 (Yb hg) rfl) rfl
def Zn (l:List jR) (n:Int):Option jR:=l.find? fun b=>decide (nameOf b=n)
theorem yA.round (hg:g.Ok) {n:Int}{p:Nat}:∀(suf pre:List jR) {T:List zu}{r:St}{S:zS},yj (zX zi O false yA.jg) T S=r→T.length=22 →
  T.getD 1 zh=.int .i64 n→T.getD 4 zh=.pointer (some ⟨p,0,none⟩)→T.getD 9 zh=Zl g.kk g.known→T.getD 10 zh=.int .i64 g.known.length→T.getD 11 zh=.int .i64 pre.length→g.known=pre++suf→S.get p=some (.cells (yP jm) (.own []) 0)→p<S.next →
  ∃e T' S',r=some (e,T',S')∧T'.getD 4 zh=.pointer (some ⟨p,0,none⟩)∧((∃b,Zn suf n=some b∧e=.ret∧T'.getD 5 zh=.bool true∧S'.get p=some (.cells (yP b) (.own []) 0))∨(Zn suf n=none∧e=.exit 0∧T'.length=22∧S'.get p=some (.cells (yP jm) (.own []) 0))):=by
 intro suf;induction suf with
 |nil=>
  intro pre T r S hL hT h1 h4 h9 h10 h11 hpre hp hpl;have hTe:=yA.eta hT;rw[h1,h4,h9,h10,h11]at hTe;have hr:=Eq.refl (zX zi O false yA.jg T S);have d1:¬(pre.length:Int)<(g.known.length:Int):=by rw[hpre];simp
  conv at hr=>
   rhs;rw[hTe];simp only[yA.jg,yA.code,yA.rs,jc,reduceIte,zk,zn,zo,zq,d1]
  exact⟨_,_,_,hL.symm.trans (yX hr (by simp)),rfl,.inr ⟨rfl,rfl,rfl,hp⟩⟩
 |cons x suf ih=>
  intro pre T r S hL hT h1 h4 h9 h10 h11 hpre hp hpl;have hTe:=yA.eta hT;rw[h1,h4,h9,h10,h11]at hTe;have hr:=Eq.refl (zX zi O false yA.jg T S);have hll:g.known.length=pre.length+suf.length+1:=by rw[hpre];simp;omega
  have hkl:=hg.kl;have d1:(pre.length:Int)<(g.known.length:Int):=by omega
  have xo:=hg.ko x (by rw[hpre];simp)
  have e1:=fun S=>IK hg.k hpre S
  have wi:IntKind.i64.wrap ((pre.length:Int)+1)=((pre++[x]).length:Int):=by rw[wrap_i64 (by omega) (by omega)];simp
  obtain⟨S2,b1,b2,b3,b4⟩:=VK S x;have g2:S2.get p=some (.cells (yP jm) (.own []) 0):=(b3.2 p hpl).trans hp;have c1:=fun S=>xG.v xo S
  have lx:=vM b2 xo.ne;by_cases hn:nameOf x=n
  ·have dn:=zL hn;obtain⟨S3,s1,s2,s3,s4,s5⟩:=WU (S0:=zS.empty) x g2 (JR _) (Nat.zero_le p);conv at hr=>
    rhs;rw[hTe];simp only[yA.jg,yA.code,yA.rs,jc,reduceIte,zk,zn,zo,zq,d1,e1,BZ,Jc,b1,lx,c1,dn,s1]
   have hf:Zn (x::suf) n=some x:=by unfold Zn;rw[List.find?_cons,dn]
   exact⟨_,_,_,hL.symm.trans (yX hr (by simp)),rfl,.inl ⟨x,hf,rfl,rfl,s2⟩⟩
  ·have dn:=zK hn;conv at hr=>
    rhs;rw[hTe];simp only[yA.jg,yA.code,yA.rs,jc,reduceIte,zk,zn,zo,zq,d1,e1,BZ,Jc,b1,lx,c1,dn,wi]
   have hs3:=(xk hr).symm.trans hL;have hf:Zn (x::suf) n=Zn suf n:=by unfold Zn;rw[List.find?_cons,dn]
   rw[hf];exact ih (pre++[x]) hs3 rfl rfl rfl rfl rfl rfl (by rw[hpre];simp) g2 (Nat.lt_of_lt_of_le hpl b3.1)
theorem iy {l:List jR}{n:Int}{b:jR}(h:Zn l n=some b):b∈l∧nameOf b=n:=⟨List.mem_of_find?_eq_some h,by simpa using List.find?_some h⟩
theorem yA.v (hg:g.Ok) (n:Int) (S:zS):zU zi O yA.id [qx g,.int .i64 n] S=some (.tuple #[bv ((Zn g.known n).getD jm),.bool (Zn g.known n).isSome],S):=by
 obtain⟨T,hTe⟩:∃T,T=(qx g::.int .i64 n::[zh,zh,zh,zh,zh,zh,zh,zh,zh,zh,zh,zh,zh,zh,zh,zh,zh,zh,zh,zh]):=⟨_,rfl⟩;have hr:=Eq.refl (zX zi O false yA.code T zS.empty);obtain⟨S1,b1,b2,b3,b4⟩:=XY g zS.empty;obtain⟨S2,a1,a2,a3,a4⟩:=H7 S1;have l0:=BX ((a3.2 _ b4).trans b2) hg;have ln:=fun S=>IL (k:=g.kk) (l:=g.known) hg.k S
 have ca:[qx g,.int .i64 n].all (jw 16)=true:=all2 (Yb hg) rfl;conv at hr=>
  rhs;rw[hTe];simp only[yA.code,yA.rs,jc,reduceIte,zk,zn,zo,zq,b1,a1,uf,l0,ln]
 generalize hL:yj (zX zi O false yA.jg) _ _=r at hr;obtain⟨e,T1,S3,rfl,h4,⟨b,h1,rfl,h3,hb⟩ |⟨h1,rfl,h3,hb⟩⟩:=yA.round hg (n:=n) (p:=S1.next) g.known [] hL rfl rfl rfl rfl rfl rfl rfl a2 a4
 ·conv at hr=>
   rhs;simp only[jc,reduceIte,zk,zn,zo,zq]
  rw[hTe]at hr;have bo:=hg.ko b (iy h1).1;have:=yA.runs (S:=S) hr (.inr rfl) (by rw[h4];exact vM hb bo.ne) rfl (by rw[h3];rfl) ca (by rw[h3];exact Zx (all2 (qR bo.okl.le) rfl))
  rw[h3]at this;rw[h1];exact this
 ·have hT1:=yA.eta h3;rw[h4]at hT1;obtain⟨S4,s1,s2,s3,s4,s5⟩:=WU (S0:=zS.empty) jm hb (JR _) (Nat.zero_le _);have bd:∀S,wS zi 46 [] S=some (bv jm,S):=fun S=>by kernel_rfl
  conv at hr=>
   rhs;simp only[jc,reduceIte,zk,zn,zo,zq];rw[hT1];simp only[yA.code,yA.rs,jc,reduceIte,zk,zn,zo,zq,bd,s1]
  rw[hTe]at hr;rw[h1];exact yA.runs hr (.inr rfl) (vM s2 (by decide)) rfl rfl ca (Zx (all2 (qR (by decide)) rfl))
def JU (g:Dg) (b:jR):Dg:={ g with kk:=1,known:=g.known++[b] }
theorem Dg.Ok.know (hg:g.Ok) {b:jR}(hb:b.Ok) (hl:g.known.length<200):(JU g b).Ok:=⟨hg.b,hg.s,je.read,hg.bne,hg.sne,by show(1:Nat)≠2;decide,hg.bl,hg.sl,by show(g.known++[b]).length≤200;simp;omega,hg.so,fun x hx=>by
 rcases List.mem_append.1 hx with hx |hx
 ·exact hg.ko x hx
 ·rw[List.mem_singleton.1 hx];exact hb⟩
theorem vO.v (hg:g.Ok) {b:jR}(hb:b.Ok) (hl:g.known.length<200) (S:zS):zU zi O vO.id [qx g,bv b] S=some (qx (JU g b),S):=by
 obtain⟨T,hTe⟩:∃T,T=(qx g::bv b::[zh,zh,zh,zh,zh,zh,zh,zh,zh,zh,zh,zh,zh,zh]):=⟨_,rfl⟩;have hr:=Eq.refl (zX zi O false vO.code T zS.empty);obtain⟨S1,b1,b2,b3,b4⟩:=XY g zS.empty;obtain⟨S2,c1,c2,c3,c4⟩:=IV b S1;obtain⟨S3,a1,a2,a3,a4⟩:=XU S2;have n2:zS.empty.next<S2.next:=Nat.lt_of_lt_of_le b4 c3.1;have m2:S3.get zS.empty.next=some (.cells (fG g) (.own []) 0):=(a3.2 _ n2).trans ((c3.2 _ b4).trans b2);have m3:S3.get S1.next=some (.cells (yP b) (.own []) 0):=(a3.2 _ c4).trans c2;have l0:=BX m2 hg;have lb:=vM m3 hb.ne;have hX:∀S:zS,Ext zS.empty S:=fun S=>JR S
 have ap1:∀S,yF zi 30 30 (Zl 2 []) (Zl g.kk g.known) S=some (Zl 2 g.known,S):=fun S=>pF (l:=[]) hg.k (by simp;omega) S
 have ap2:∀S,yF zi 30 30 (Zl 2 g.known) (Zl 2 [b]) S=some (Zl 2 (g.known++[b]),S):=fun S=>pF je.own (by simp;omega) S
 have one1:=fun S=>IU b S
 obtain⟨S4,s1,s2,s3,s4,s5⟩:=Sm (k:=1) (g.known++[b]) m2 (hX S3) (Nat.le_refl _);have gk:=hg.know hb hl;have l1:zZ zi false 32 (.pointer (some ⟨zS.empty.next,0,none⟩)) S4=some (qx (JU g b),S4):=ZT s2 gk;have m4:S4.get S2.next=some (.cells (fG Y6) (.own []) 0):=(s5 _ (by have:=b4;have:=c4;have:=c3.1;omega)).trans a2
 obtain⟨S5,t1,t2,t3,t4,t5⟩:=Wy (JU g b) m4 (hX S4) (Nat.zero_le _);have l2:=ZT t2 gk;conv at hr=>
  rhs;rw[hTe];simp only[vO.code,vO.rs,jc,reduceIte,zk,zn,zo,zq,b1,c1,a1,IQ,uf,l0,ap1,lb,one1,ap2,s1,l1,t1]
 rw[hTe]at hr;exact vO.runs hr (.inr rfl) l2 (all2 (Yb hg) (qR hb.okl.le)) (Yb gk)
end
theorem dF (S:zS):yO zi 29 0 [] S=some (Zr 2 [],S):=by rw[IX];rfl
theorem UY (d:List UInt8) (S:zS):yO zi 29 1 [(0,jk 2 d)] S=some (Zr 2 [⟨1,d⟩],S):=by kernel_rfl
theorem P8 (t:Tb):(fB t).all (·.oneCell')=true:=by
 simp only[fB,List.all_cons,List.all_nil,KQ,Bool.and_true]
theorem Fb {j:Nat}{l m:List Tb}(hm:je j m) (hl:l.length+m.length≤1000) (S:zS):yF zi 29 29 (Zr 2 l) (Zr j m) S=some (Zr 2 (l++m),S):=by
 rw[V6 VW mM PO rfl Ip (by omega) VW tV P8 je.own (by decide) hm (by omega) (by omega),zM (fun h=>by have:=h.1;omega)]
theorem aF (S:zS):yO zi 33 0 [] S=some (jk 2 [],S):=by rw[KA];rfl
theorem I9 {k:Nat}{l:List UInt8} (hk:je k l) (hl:l.length≤140737488351232) (S:zS):yF zi 33 33 (jk 2 []) (jk k l) S=some (jk 2 l,S):=by
 rw[Wj je.own (by decide) hk (by simp;omega),zM (fun h=>by have:=h.1;omega),List.nil_append]
def Jf (g:Dg) (data:List UInt8):Dg:={ g with ks:=1,said:=g.said++[⟨1,data⟩] }
def Jg (g:Dg) (data:List UInt8) (m:ji) (e:Int):Dg:=if e=0∧m.kind=1 then(if(Zn g.known (nameOf m.b)).isSome then Jf g data else JU (Jf g data) m.b)else Jf g data
section
variable {g:Dg}
theorem Dg.Ok.say (hg:g.Ok) {data:List UInt8} (hd:data.length≤140737488351232) (hl:g.said.length<200):(Jf g data).Ok:=⟨hg.b,je.read,hg.k,hg.bne,by show(1:Nat)≠2;decide,hg.kne,hg.bl,by show(g.said++[(⟨1,data⟩:Tb)]).length≤200;simp;omega,hg.kl,fun x hx=>by
 rcases List.mem_append.1 hx with hx |hx
 ·exact hg.so x hx
 ·rw[List.mem_singleton.1 hx];exact⟨je.read,by show(1:Nat)≠2;decide,hd⟩,hg.ko⟩
theorem yD.v (hg:g.Ok) {k:Nat}{data:List UInt8} (hk:je k data) (k2:k≠2) (hd:data.length≤140737488351232) (hl:g.said.length<200) (hl2:g.known.length<200) :
  ∃m e,ZY data m e∧(Jg g data m e).Ok∧∀S,zU zi O yD.id [qx g,jk k data] S=some (qx (Jg g data m e),S):=by
 obtain⟨m,e,hR,cr⟩:=jM.v hk k2 (by omega)
 obtain⟨T,hTe⟩:∃T,T=(qx g::jk k data::[zh,zh,zh,zh,zh,zh,zh,zh,zh,zh,zh,zh,zh,zh,zh,zh,zh,zh,zh,zh,zh,zh,zh,zh,zh,zh,zh,zh,zh,zh,zh,zh,zh,zh,zh,zh,zh,zh,zh,zh,zh,zh,zh,zh,zh,zh]):=⟨_,rfl⟩;have hr:=Eq.refl (zX zi O false yD.code T zS.empty);have ca:[qx g,jk k data].all (jw 16)=true:=all2 (Yb hg) (vU hk.le);obtain⟨S1,b1,b2,b3,b4⟩:=XY g zS.empty;obtain⟨S2,a1,a2,a3,a4⟩:=XU S1;have m2:S2.get zS.empty.next=some (.cells (fG g) (.own []) 0):=(a3.2 _ b4).trans b2;have l0:=BU m2 hg;have ap1:∀S,yF zi 29 29 (Zr 2 []) (Zr g.ks g.said) S=some (Zr 2 g.said,S):=fun S=>Fb (l:=[]) hg.s (by simp;omega) S
 have ap2:∀S,yF zi 29 29 (Zr 2 g.said) (Zr 2 [⟨1,data⟩]) S=some (Zr 2 (g.said++[⟨1,data⟩]),S):=fun S=>Fb je.own (by simp;omega) S
 have cp:=fun S=>I9 hk hd S
 have one1:=fun S=>UY data S
 obtain⟨S3,s1,s2,s3,s4,s5⟩:=Sr (k:=1) (g.said++[⟨1,data⟩]) m2 (JR S2) (Nat.le_refl _);have gs:(Jf g data).Ok:=hg.say hd hl;have m4:S3.get S1.next=some (.cells (fG Y6) (.own []) 0):=(s5 _ (by omega)).trans a2
 obtain⟨S4,n1,n2,n3,n4⟩:=bH m S3;have am:wR zi 48 S3=some (.pointer (some ⟨S3.next,0,none⟩),S3.push (.cells (fM m0) (.own []) 0)):=Zv S3;have q2:S4.get zS.empty.next=some (.cells (fG (Jf g data)) (.own []) 0):=(n3.2 _ (by rw[s4];exact Nat.lt_of_lt_of_le b4 a3.1)).trans s2
 have q4:S4.get S1.next=some (.cells (fG Y6) (.own []) 0):=(n3.2 _ (by rw[s4];exact a4)).trans m4
 have lg:=ZT q2 gs;obtain⟨S5,t1,t2,t3,t4,t5⟩:=Wy (Jf g data) q4 (JR S4) (Nat.zero_le _);have lr:=ZT t2 gs;obtain⟨ok,_,hcase⟩:=hR;refine⟨m,e,⟨ok,‹_›,hcase⟩,?_⟩;by_cases he:e=0
 ·subst he;have d0:=jA n2;by_cases hkd:m.kind=1
  ·have dk:=zL hkd;have l7:=wL n2 ok.b.ne;have c2:=fun S=>xG.v ok.b S
   have c3:∀S,zU zi O yA.id [qx (Jf g data),.int .i64 (nameOf m.b)] S=some (.tuple #[bv ((Zn g.known (nameOf m.b)).getD jm),.bool (Zn g.known (nameOf m.b)).isSome],S):=fun S=>yA.v gs (nameOf m.b) S
   have st2:=ZG (o:=0) q2;have st7:=ZG (o:=0+8) n2;have hlt:zS.empty.next<S4.next:=Nat.lt_of_lt_of_le (by rw[s4];exact Nat.lt_of_lt_of_le b4 a3.1) n3.1
   have ps:Ext S4 (S4.push (.cells (yP jm) (.own []) 0)):=Ext.push _ _;have sx2:=dB (o:=0) q2 hlt ps;have sx7:=dB (o:=0+8) n2 n4 ps;obtain⟨S6,u1,u2,u3,u4⟩:=VK S4 ((Zn g.known (nameOf m.b)).getD jm);have r2:S6.get zS.empty.next=some (.cells (fG (Jf g data)) (.own []) 0):=(u3.2 _ hlt).trans q2;have r4:S6.get S1.next=some (.cells (fG Y6) (.own []) 0):=(u3.2 _ (Nat.lt_of_lt_of_le (by rw[s4];exact a4) n3.1)).trans q4
   have r6:S6.get S3.next=some (.cells (fM m) (.own []) 0):=(u3.2 _ n4).trans n2;have lg6:=ZT r2 gs;cases hf:(Zn g.known (nameOf m.b))with
   |some b=>
    rw[hf]at c3 u1;simp only[Option.getD_some,Option.isSome_some]at c3 u1;have e1:Jg g data m 0=Jf g data:=by unfold Jg;rw[zN ⟨rfl,hkd⟩,hf];rfl
    rw[e1];refine⟨gs,fun S=>?_⟩
    obtain⟨S7,v1,v2,v3,v4,v5⟩:=Wy (Jf g data) r4 (JR S6) (Nat.zero_le _);have lr7:=ZT v2 gs;conv at hr=>
     rhs;rw[hTe];simp only[yD.code,yD.rs,jc,reduceIte,zk,zn,zo,zq,b1,a1,dF,Ve,l0,ap1,aF,zM k2,cp,one1,ap2,s1,cr,am,n1,jE,d0,dk,lg,wz,l7,c2,c3,qy (XB _),qy (Vt _),qy (Vw _ _),Jc,u1,st2,st7,sx2,sx7,Option.getD_some,Option.isSome_some,lg6,v1]
    rw[hTe]at hr;exact yD.runs hr (.inr rfl) lr7 ca (Yb gs)
   |none=>
    rw[hf]at c3 u1;simp only[Option.getD_none,Option.isSome_none]at c3 u1;have e1:Jg g data m 0=JU (Jf g data) m.b:=by unfold Jg;rw[zN ⟨rfl,hkd⟩,hf];rfl
    rw[e1];have gk:(JU (Jf g data) m.b).Ok:=gs.know ok.b hl2;refine⟨gk,fun S=>?_⟩
    have c4:=fun S=>vO.v gs ok.b hl2 S
    have l7b:=wL r6 ok.b.ne;obtain⟨S7,v1,v2,v3,v4,v5⟩:=Wy (JU (Jf g data) m.b) r4 (JR S6) (Nat.zero_le _);have lr7:=ZT v2 gk;conv at hr=>
     rhs;rw[hTe];simp only[yD.code,yD.rs,jc,reduceIte,zk,zn,zo,zq,b1,a1,dF,Ve,l0,ap1,aF,zM k2,cp,one1,ap2,s1,cr,am,n1,jE,d0,dk,lg,wz,l7,c2,c3,qy (XB _),qy (Vt _),qy (Vw _ _),Jc,u1,st2,st7,sx2,sx7,Option.getD_none,Option.isSome_none,lg6,l7b,c4,v1]
    rw[hTe]at hr;exact yD.runs hr (.inr rfl) lr7 ca (Yb gk)
  ·have dk:=zK hkd;have e1:Jg g data m 0=Jf g data:=by unfold Jg;rw[zM (fun h=>hkd h.2)]
   rw[e1];refine⟨gs,fun S=>?_⟩
   conv at hr=>
    rhs;rw[hTe];simp only[yD.code,yD.rs,jc,reduceIte,zk,zn,zo,zq,b1,a1,dF,Ve,l0,ap1,aF,zM k2,cp,one1,ap2,s1,cr,am,n1,jE,d0,dk,lg,t1]
   rw[hTe]at hr;exact yD.runs hr (.inr rfl) lr ca (Yb gs)
 ·have de:=zK he;have e1:Jg g data m e=Jf g data:=by unfold Jg;rw[zM (fun h=>he h.1)]
  rw[e1];refine⟨gs,fun S=>?_⟩
  conv at hr=>
   rhs;rw[hTe];simp only[yD.code,yD.rs,jc,reduceIte,zk,zn,zo,zq,b1,a1,dF,Ve,l0,ap1,aF,zM k2,cp,one1,ap2,s1,cr,am,n1,de,lg,t1]
  rw[hTe]at hr;exact yD.runs hr (.inr rfl) lr ca (Yb gs)
end
def YD (l:List Tb) (data:List UInt8):Bool:=l.any fun t=>decide (t.b=data)
def Zh (g:Dg) (data:List UInt8) (m:ji) (e:Int):Bool×Dg :=
 if e=0 then(if YD g.said data=true then(true,g)else if isBad g.bad m.frm then(if m.kind=1 then(match Zn g.known (nameOf m.b)with
  |some b=>(vG b m.b,g)
  |none=>if isBad g.bad m.b.miner then(true,JU g m.b)else(false,g))else(true,g))else(false,g))else(false,g)
section
variable {g:Dg}
theorem UZ {k:Nat}{l pre suf:List Tb}{t:Tb}(hk:je k l) (hl:l=pre++t::suf) (S:zS):jZ zi 29 (Zr k l) (.int .i64 pre.length) S=some (EP [jk t.k t.b],S):=by
 rw[XL VW mM tV hk (by omega) (by rw[hl];simp;omega),Qu hl];rfl
theorem UR (t:Tb) (S:zS):zZ zi false 33 (EP [jk t.k t.b]) S=some (jk t.k t.b,S):=dP iH
theorem jB.round (hg:g.Ok) {k:Nat}{data:List UInt8} (hk:je k data) (k2:k≠2) {p p4 p6:Nat}{S:zS}(h2:S.get p=some (.cells (fG g) (.own []) 0)) (h4:S.get p4=some (.cells (fG Y6) (.own []) 0)):∀(suf pre:List Tb) {T:List zu}{r:St},yj (zX zi O false jB.jg) T S=r→T.length=69 →
  T.getD 1 zh=jk k data→T.getD 2 zh=.pointer (some ⟨p,0,none⟩)→T.getD 4 zh=.pointer (some ⟨p4,0,none⟩)→T.getD 6 zh=.pointer (some ⟨p6,0,none⟩)→T.getD 21 zh=Zr g.ks g.said→T.getD 22 zh=.int .i64 g.said.length→T.getD 23 zh=.int .i64 pre.length→g.said=pre++suf →
  ∃e T' S',r=some (e,T',S')∧T'.getD 4 zh=.pointer (some ⟨p4,0,none⟩)∧((YD suf data=true∧e=.ret∧T'.getD 5 zh=.bool true∧S'.get p4=some (.cells (fG g) (.own []) 0))∨(YD suf data=false∧e=.exit 0∧T'.length=69∧T'.getD 2 zh=.pointer (some ⟨p,0,none⟩)∧T'.getD 6 zh=.pointer (some ⟨p6,0,none⟩)∧S'=S)):=by
 intro suf;induction suf with
 |nil=>
  intro pre T r hL hT i1 i2 i4 i6 i21 i22 i23 hpre;have hTe:=jB.eta hT;rw[i1,i2,i4,i6,i21,i22,i23]at hTe;have hr:=Eq.refl (zX zi O false jB.jg T S);have d1:¬(pre.length:Int)<(g.said.length:Int):=by rw[hpre];simp
  conv at hr=>
   rhs;rw[hTe];simp only[jB.jg,jB.code,jB.rs,jc,reduceIte,zk,zn,zo,zq,d1]
  exact⟨_,_,_,hL.symm.trans (yX hr (by simp)),rfl,.inr ⟨rfl,rfl,rfl,rfl,rfl,rfl⟩⟩
 |cons x suf ih=>
  intro pre T r hL hT i1 i2 i4 i6 i21 i22 i23 hpre;have hTe:=jB.eta hT;rw[i1,i2,i4,i6,i21,i22,i23]at hTe;have hr:=Eq.refl (zX zi O false jB.jg T S);have hll:g.said.length=pre.length+suf.length+1:=by rw[hpre];simp;omega
  have hsl:=hg.sl;have d1:(pre.length:Int)<(g.said.length:Int):=by omega
  have xo:=hg.so x (by rw[hpre];simp)
  have xn:¬x.k=2:=xo.ne;have e1:=fun S=>UZ hg.s hpre S
  have wi:IntKind.i64.wrap ((pre.length:Int)+1)=((pre++[x]).length:Int):=by rw[wrap_i64 (by omega) (by omega)];simp
  have s1:∀S,qB zi false false 33 9 (jk k data) S=some (.string ⟨data.toArray⟩,S):=fun S=>by rw[XK];exact Y2 hk
  have s2:∀S,qB zi false false 33 9 (jk x.k x.b) S=some (.string ⟨x.b.toArray⟩,S):=fun S=>by rw[XK];exact Y2 xo.okl
  have cq:∀S,jd zi .eql 9 (.string ⟨x.b.toArray⟩) (.string ⟨data.toArray⟩) S=some (.bool (decide (x.b=data)),S):=fun S=>dJ (t:=9)
  have tl1:=fun S=>UR x S
  have lg:=ZT h2 hg;by_cases hx:x.b=data
  ·have dx:=zL hx;rw[dx]at cq;obtain⟨S5,t1,t2,t3,t4,t5⟩:=Wy g h4 (JR S) (Nat.zero_le _);conv at hr=>
    rhs;rw[hTe];simp only[jB.jg,jB.code,jB.rs,jc,reduceIte,zk,zn,zo,zq,d1,e1,tl1,zM xn,zM k2,s1,s2,cq,lg,t1]
   exact⟨_,_,_,hL.symm.trans (yX hr (by simp)),rfl,.inl ⟨by unfold YD;rw[List.any_cons,dx];rfl,rfl,rfl,t2⟩⟩
  ·have dx:=zK hx;rw[dx]at cq;conv at hr=>
    rhs;rw[hTe];simp only[jB.jg,jB.code,jB.rs,jc,reduceIte,zk,zn,zo,zq,d1,e1,tl1,zM xn,zM k2,s1,s2,cq,wi]
   have hs3:=(xk hr).symm.trans hL;have hf:YD (x::suf) data=YD suf data:=by unfold YD;rw[List.any_cons,dx,Bool.false_or]
   rw[hf];exact ih (pre++[x]) hs3 rfl rfl rfl rfl rfl rfl rfl rfl (by rw[hpre];simp)
theorem jB.v (hg:g.Ok) {k:Nat}{data:List UInt8} (hk:je k data) (k2:k≠2) (hd:data.length≤140737488351232) (hl2:g.known.length<200) :
  ∃m e,ZY data m e∧(Zh g data m e).2.Ok∧∀S,zU zi O jB.id [qx g,jk k data] S=some (.tuple #[qx (Zh g data m e).2,.bool (Zh g data m e).1],S):=by
 obtain⟨m,e,hR,cr⟩:=jM.v hk k2 (by omega)
 obtain⟨T,hTe⟩:∃T,T=(qx g::jk k data::zh::zh::zh::zh::zh::zh::zh::[zh,zh,zh,zh,zh,zh,zh,zh,zh,zh,zh,zh,zh,zh,zh,zh,zh,zh,zh,zh,zh,zh,zh,zh,zh,zh,zh,zh,zh,zh,zh,zh,zh,zh,zh,zh,zh,zh,zh,zh,zh,zh,zh,zh,zh,zh,zh,zh,zh,zh,zh,zh,zh,zh,zh,zh,zh,zh,zh,zh]):=⟨_,rfl⟩;have hr:=Eq.refl (zX zi O false jB.code T zS.empty);have ca:[qx g,jk k data].all (jw 16)=true:=all2 (Yb hg) (vU hk.le);have cv:∀{w:Dg}{b:Bool},w.Ok→jw 16 (.tuple #[qx w,.bool b])=true:=fun {w b} h=>Zx (all2 (LM h) rfl)
 obtain⟨S1,b1,b2,b3,b4⟩:=XY g zS.empty;obtain⟨S2,a1,a2,a3,a4⟩:=XU S1;have m2:S2.get zS.empty.next=some (.cells (fG g) (.own []) 0):=(a3.2 _ b4).trans b2;obtain⟨S4,n1,n2,n3,n4⟩:=bH m S2;have am:wR zi 48 S2=some (.pointer (some ⟨S2.next,0,none⟩),S2.push (.cells (fM m0) (.own []) 0)):=Zv S2;have hlt:zS.empty.next<S4.next:=Nat.lt_of_lt_of_le (Nat.lt_of_lt_of_le b4 a3.1) n3.1;have q2:S4.get zS.empty.next=some (.cells (fG g) (.own []) 0):=(n3.2 _ (Nat.lt_of_lt_of_le b4 a3.1)).trans m2;have q4:S4.get S1.next=some (.cells (fG Y6) (.own []) 0):=(n3.2 _ a4).trans a2;have lg:=ZT q2 hg;obtain⟨S5,t1,t2,t3,t4,t5⟩:=Wy g q4 (JR S4) (Nat.zero_le _);have lr:=ZT t2 hg;obtain⟨ok,_,hcase⟩:=hR;refine⟨m,e,⟨ok,‹_›,hcase⟩,?_⟩;by_cases he:e=0
 case neg=>
  have de:=zK he;have e1:Zh g data m e=(false,g):=by unfold Zh;rw[zM he]
  rw[e1];refine⟨hg,fun S=>?_⟩
  conv at hr=>
   rhs;rw[hTe];simp only[jB.code,jB.rs,jc,reduceIte,zk,zn,zo,zq,b1,a1,zM k2,cr,am,n1,de,lg,t1]
  rw[hTe]at hr;exact jB.runs hr (.inr rfl) lr rfl rfl ca (cv hg)
 subst he;have ls:=BU q2 hg;have lns:∀S,yK zi 29 (Zr g.ks g.said) S=some (.int .i64 g.said.length,S):=fun S=>XM VW hg.s
 conv at hr=>
  rhs;rw[hTe];simp only[jB.code,jB.rs,jc,reduceIte,zk,zn,zo,zq,b1,a1,zM k2,cr,am,n1,Ve,ls,lns]
 generalize hL:yj (zX zi O false jB.jg) _ _=r at hr;obtain⟨e,T1,S6,rfl,f4,⟨h1,rfl,f5,f6⟩ |⟨h1,rfl,f1,f2,f6,rfl⟩⟩:=jB.round hg hk k2 (p6:=S2.next) q2 q4 g.said [] hL rfl rfl rfl rfl rfl rfl rfl rfl rfl
 ·have e1:Zh g data m 0=(true,g):=by unfold Zh;rw[zN rfl,zN h1]
  rw[e1];refine⟨hg,fun S=>?_⟩
  conv at hr=>
   rhs;simp only[jc,reduceIte,zk,zn,zo,zq]
  rw[hTe]at hr;have:=jB.runs (S:=S) hr (.inr rfl) (by rw[f4];exact ZT f6 hg) rfl (by rw[f5];rfl) ca (by rw[f5];exact cv hg)
  rw[f5]at this;exact this
 have hT1:=jB.eta f1;rw[f2,f4,f6]at hT1;have d1:=jV n2;have d0:=jA n2;have cb:=fun S=>yB.v hg m.frm S
 cases hb:isBad g.bad m.frm with
 |false=>
  rw[hb]at cb;have e1:Zh g data m 0=(false,g):=by unfold Zh;rw[zN rfl,zM (by rw[h1];decide),hb];rfl
  rw[e1];refine⟨hg,fun S=>?_⟩
  conv at hr=>
   rhs;simp only[jc,reduceIte,zk,zn,zo,zq];rw[hT1];simp only[jB.code,jB.rs,jc,reduceIte,zk,zn,zo,zq,lg,jU,d1,cb,Bool.not_false,t1]
  rw[hTe]at hr;exact jB.runs hr (.inr rfl) lr rfl rfl ca (cv hg)
 |true=>
  rw[hb]at cb;by_cases hkd:m.kind=1
  case neg=>
   have dk:=zK hkd;have e1:Zh g data m 0=(true,g):=by unfold Zh;rw[zN rfl,zM (by rw[h1];decide),hb,zN rfl,zM hkd]
   rw[e1];refine⟨hg,fun S=>?_⟩
   conv at hr=>
    rhs;simp only[jc,reduceIte,zk,zn,zo,zq];rw[hT1];simp only[jB.code,jB.rs,jc,reduceIte,zk,zn,zo,zq,lg,jU,jE,d1,d0,dk,cb,Bool.not_true,t1]
   rw[hTe]at hr;exact jB.runs hr (.inr rfl) lr rfl rfl ca (cv hg)
  have dk:=zL hkd;have l7:=wL n2 ok.b.ne;have c2:=fun S=>xG.v ok.b S
  have c3:∀S,zU zi O yA.id [qx g,.int .i64 (nameOf m.b)] S=some (.tuple #[bv ((Zn g.known (nameOf m.b)).getD jm),.bool (Zn g.known (nameOf m.b)).isSome],S):=fun S=>yA.v hg (nameOf m.b) S
  have st2:=ZG (o:=0) q2;have st7:=ZG (o:=0+8) n2;have ps:Ext S6 (S6.push (.cells (yP jm) (.own []) 0)):=Ext.push _ _;have sx2:=dB (o:=0) q2 hlt ps;have sx7:=dB (o:=0+8) n2 n4 ps;obtain⟨S7,u1,u2,u3,u4⟩:=VK S6 ((Zn g.known (nameOf m.b)).getD jm);have r2:S7.get zS.empty.next=some (.cells (fG g) (.own []) 0):=(u3.2 _ hlt).trans q2;have r4:S7.get S1.next=some (.cells (fG Y6) (.own []) 0):=(u3.2 _ (Nat.lt_of_lt_of_le a4 n3.1)).trans q4;have r6:S7.get S2.next=some (.cells (fM m) (.own []) 0):=(u3.2 _ n4).trans n2;have lg7:=ZT r2 hg;have l7b:=wL r6 ok.b.ne;have sy2:=ZG (o:=0) r2;cases hf:(Zn g.known (nameOf m.b))with
  |some b=>
   rw[hf]at c3 u1 u2;simp only[Option.getD_some,Option.isSome_some]at c3 u1 u2;have bo:=hg.ko b (iy hf).1;have lb:=vM u2 bo.ne;have c5:=fun S=>kZ.v bo ok.b S
   have e1:Zh g data m 0=(vG b m.b,g):=by unfold Zh;rw[zN rfl,zM (by rw[h1];decide),hb,zN rfl,zN hkd,hf]
   rw[e1];refine⟨hg,fun S=>?_⟩
   obtain⟨S8,v1,v2,v3,v4,v5⟩:=Wy g r4 (JR S7) (Nat.zero_le _);have lr8:=ZT v2 hg;conv at hr=>
    rhs;simp only[jc,reduceIte,zk,zn,zo,zq];rw[hT1];simp only[jB.code,jB.rs,jc,reduceIte,zk,zn,zo,zq,lg,jU,jE,d1,d0,dk,cb,Bool.not_true,wz,l7,c2,c3,qy (XB _),qy (Vt _),qy (Vw _ _),Jc,u1,st2,st7,sx2,sx7,sy2,lg7,lb,l7b,c5,v1]
   rw[hTe]at hr;exact jB.runs hr (.inr rfl) lr8 rfl rfl ca (cv hg)
  |none=>
   rw[hf]at c3 u1 u2;simp only[Option.getD_none,Option.isSome_none]at c3 u1 u2;have d2:zZ zi false 3 (.pointer (some ⟨S2.next,0+8+1,none⟩)) S7=some (.int .i64 m.b.miner,S7):=Zp (t:=3) (o:=0+8+1) r6 Zo rfl;have cb2:=fun S=>yB.v hg m.b.miner S
   cases hb3:isBad g.bad m.b.miner with
   |false=>
    rw[hb3]at cb2;have e1:Zh g data m 0=(false,g):=by unfold Zh;rw[zN rfl,zM (by rw[h1];decide),hb,zN rfl,zN hkd,hf];dsimp only;rw[hb3];rfl
    rw[e1];refine⟨hg,fun S=>?_⟩
    obtain⟨S8,v1,v2,v3,v4,v5⟩:=Wy g r4 (JR S7) (Nat.zero_le _);have lr8:=ZT v2 hg;conv at hr=>
     rhs;simp only[jc,reduceIte,zk,zn,zo,zq];rw[hT1];simp only[jB.code,jB.rs,jc,reduceIte,zk,zn,zo,zq,lg,jU,jE,d1,d0,dk,cb,Bool.not_true,wz,l7,c2,c3,qy (XB _),qy (Vt _),qy (Vw _ _),Jc,u1,st2,st7,sx2,sx7,lg7,qY,d2,cb2,Bool.not_false,v1]
    rw[hTe]at hr;exact jB.runs hr (.inr rfl) lr8 rfl rfl ca (cv hg)
   |true=>
    rw[hb3]at cb2;have e1:Zh g data m 0=(true,JU g m.b):=by unfold Zh;rw[zN rfl,zM (by rw[h1];decide),hb,zN rfl,zN hkd,hf];dsimp only;rw[hb3];rfl
    rw[e1];have gk:(JU g m.b).Ok:=hg.know ok.b hl2;refine⟨gk,fun S=>?_⟩
    have c4:=fun S=>vO.v hg ok.b hl2 S
    obtain⟨S8,v1,v2,v3,v4,v5⟩:=Wy (JU g m.b) r4 (JR S7) (Nat.zero_le _);have lr8:=ZT v2 gk;conv at hr=>
     rhs;simp only[jc,reduceIte,zk,zn,zo,zq];rw[hT1];simp only[jB.code,jB.rs,jc,reduceIte,zk,zn,zo,zq,lg,jU,jE,d1,d0,dk,cb,Bool.not_true,wz,l7,c2,c3,qy (XB _),qy (Vt _),qy (Vw _ _),Jc,u1,st2,st7,sx2,sx7,lg7,qY,d2,cb2,l7b,c4,v1]
    rw[hTe]at hr;exact jB.runs hr (.inr rfl) lr8 rfl rfl ca (cv gk)
end
def Qa (l:List jR):List (Int×List UInt8):=l.map fun b=>(nameOf b,vY b)
theorem BQ (l:List jR) (n:Int):Wp (Qa l) n=(Zn l n).map vY:=by
 induction l with
 |nil=>rfl
 |cons b l ih=>
  unfold Qa Zn at ih ⊢;rw[List.map_cons,List.find?_cons,Wp];by_cases h:nameOf b=n
  ·rw[zN h,zL h];rfl
  ·rw[zM h,zK h];exact ih
def Alike (sd:List (List UInt8)) (l:List Tb):Prop:=∀s,s∈sd↔∃t∈l,t.b=s
theorem H9 {sd:List (List UInt8)}{l:List Tb}(h:Alike sd l) (data:List UInt8):Alike (Yn sd data) (l++[⟨1,data⟩]):=fun s=>by
 have hin:s∈Yn sd data↔s∈sd∨s=data:=by
  unfold Yn;split
  ·rename_i hs;exact⟨.inl,fun h=>h.elim id fun h=>h▸hs⟩
  ·simp
 rw[hin,h s];constructor
 ·rintro(⟨t,h1,h2⟩ |h1)
  ·exact⟨t,by simp[h1],h2⟩
  ·exact⟨⟨1,data⟩,by simp,h1.symm⟩
 ·rintro⟨t,h1,h2⟩;rcases List.mem_append.1 h1 with h1 |h1
  ·exact .inl ⟨t,h1,h2⟩
  ·rw[List.mem_singleton.1 h1]at h2;exact .inr h2.symm
theorem oH {sd:List (List UInt8)}{l:List Tb}(h:Alike sd l) (data:List UInt8):data∈sd↔YD l data=true:=by
 rw[h data];unfold YD;rw[List.any_eq_true];simp only[decide_eq_true_eq]
theorem Em {D:List UInt8} {m:ji}(h:ZY D m 0) (hk:m.kind=1):m.b.Ok∧jP m.b=true:=by
 obtain⟨ok,_,⟨_,hm,_⟩ |⟨h0,_⟩⟩:=h
 ·exact⟨ok.b,(JZ hm).blk hk⟩
 ·cases h0
section
variable {g:Dg}{sd:List (List UInt8)}{D:List UInt8} {m:ji}{e:Int}
theorem TA (hR:ZY D m e) (hs:Alike sd g.said) (hr:∀b∈g.known,jP b=true):J4 (Qa g.known) m e=Qa (Jg g D m e).known∧(∀b∈(Jg g D m e).known,jP b=true)∧Alike (Yn sd D) (Jg g D m e).said∧(Jg g D m e).bad=g.bad∧(Jg g D m e).said.length=g.said.length+1∧(Jg g D m e).known.length≤g.known.length+1:=by
 have h1:=H9 hs D;have e1:(Jf g D).said.length=g.said.length+1:=by show(g.said++[(⟨1,D⟩:Tb)]).length=_;simp
 unfold J4 Jg;by_cases hc:e=0∧m.kind=1
 ·rw[zN hc,zN hc];obtain⟨rfl,hk⟩:=hc;unfold Vo;rw[BQ];cases hf:Zn g.known (nameOf m.b)with
  |some b=>
   simp only[Option.map_some,Option.isSome_some,if_true];exact⟨rfl,hr,h1,rfl,e1,Nat.le_succ _⟩
  |none=>
   simp only[Option.map_none,Option.isSome_none,zF,if_false];refine⟨by unfold Qa JU Jf;simp,fun b hb=>?_,h1,rfl,e1,by show(g.known++[m.b]).length≤_;simp⟩
   rcases List.mem_append.1 hb with hb |hb
   ·exact hr b hb
   ·rw[List.mem_singleton.1 hb];exact(Em hR hk).2
 ·rw[zM hc,zM hc];exact⟨rfl,hr,h1,rfl,e1,Nat.le_succ _⟩
theorem RQ (hR:ZY D m e) (hs:Alike sd g.said) (hr:∀b∈g.known,jP b=true):xH g.bad sd (Qa g.known) D m e=((Zh g D m e).1,Qa (Zh g D m e).2.known)∧(∀b∈(Zh g D m e).2.known,jP b=true)∧(Zh g D m e).2.said=g.said∧(Zh g D m e).2.bad=g.bad∧(Zh g D m e).2.known.length≤g.known.length+1:=by
 unfold xH Zh;by_cases he:e=0
 ·subst he;rw[zN rfl,zN rfl];by_cases hi:YD g.said D=true
  ·rw[zN ((oH hs D).2 hi),zN hi];exact⟨rfl,hr,rfl,rfl,Nat.le_succ _⟩
  ·rw[zM (fun h=>hi ((oH hs D).1 h)),zM hi]
   by_cases hb:isBad g.bad m.frm=true
   ·rw[zN hb,zN hb];by_cases hk:m.kind=1
    ·rw[zN hk,zN hk,BQ];obtain⟨bo,br⟩:=Em hR hk;cases hf:Zn g.known (nameOf m.b)with
     |some b=>
      simp only[Option.map_some];have e1:decide (vY b=vY m.b)=vG b m.b:=by
       by_cases hh:vG b m.b=true
       ·rw[hh,zL (fJ hh).2.1]
       ·rw[zK (fun h=>hh (U5 (hr b (iy hf).1) br h))]
        simpa using hh
      rw[e1];exact⟨by trivial,hr,by trivial,by trivial,Nat.le_succ _⟩
     |none=>
      simp only[Option.map_none];by_cases hb2:isBad g.bad m.b.miner=true
      ·rw[zN hb2,zN hb2];refine⟨by unfold Qa JU;simp,fun b hb=>?_,rfl,rfl,by show(g.known++[m.b]).length≤_;simp⟩
       rcases List.mem_append.1 hb with hb |hb
       ·exact hr b hb
       ·rw[List.mem_singleton.1 hb];exact br
      ·rw[zM hb2,zM hb2];exact⟨rfl,hr,rfl,rfl,Nat.le_succ _⟩
    ·rw[zM hk,zM hk];exact⟨rfl,hr,rfl,rfl,Nat.le_succ _⟩
   ·rw[zM hb,zM hb];exact⟨rfl,hr,rfl,rfl,Nat.le_succ _⟩
 ·rw[zM he,zM he];exact⟨rfl,hr,rfl,rfl,Nat.le_succ _⟩
end
section
variable {S:zS}{q p:Nat}{bad:List Int}{sd:List (List UInt8)}{kn:List (Int×List UInt8)}{g:Dg}
theorem Gt.off (h:Gt S q bad sd kn) {r e:Nat}{cs:List zu}{own:Own}(hr:S.get r=some (.cells cs own e)) (hq:q≠r) {S1:zS}(hn:S1.next=S.next) (hk:∀k,k≠r→S1.get k=S.get k):Gt S1 q bad sd kn:=by
 obtain⟨k0,a,b,h1,h2,h3,h4,h5,h6,h7,h8,h9⟩:=h.cell;have ha:a≠r:=fun e=>by obtain⟨es,c,g1,_⟩:=h8;rw[e,hr]at g1;cases g1
 have hb:b≠r:=fun e=>by obtain⟨es,c,g1,_⟩:=h9;rw[e,hr]at g1;cases g1
 exact⟨by rw[hn];exact h.lt,k0,a,b,h1,h2,h3,by rw[hn];exact h4,by rw[hn];exact h5,h6,(hk q hq).trans h7,h8.keep (hk a ha),h9.keep (hk b hb)⟩
structure Two (S:zS) (q p:Nat) (bad:List Int) (g:Dg):Prop where
 gt:∃sd,Gt S q bad sd (Qa g.known)∧Alike sd g.said
 ok:g.Ok
 eb:g.bad=bad
 rt:∀b∈g.known,jP b=true
 cell:S.get p=some (.cells (fG g) (.own []) 0)
 lt:p<S.next
 pq:p≠q
 ql:q<S.next
theorem Two.ext {S1:zS}(h:Two S q p bad g) (x:Ext S S1):Two S1 q p bad g:=by
 obtain⟨sd,h1,h2⟩:=h.gt;exact⟨⟨sd,h1.ext x,h2⟩,h.ok,h.eb,h.rt,(x.2 _ h.lt).trans h.cell,Nat.lt_of_lt_of_le h.lt x.1,h.pq,Nat.lt_of_lt_of_le h.ql x.1⟩
theorem Two.off {S1:zS}(h:Two S q p bad g) {r e:Nat}{cs:List zu}{own:Own}(hr:S.get r=some (.cells cs own e)) (hq:q≠r) (hp:p≠r) (hn:S1.next=S.next) (hk:∀k,k≠r→S1.get k=S.get k):Two S1 q p bad g:=by
 obtain⟨sd,h1,h2⟩:=h.gt;exact⟨⟨sd,h1.off hr hq hn hk,h2⟩,h.ok,h.eb,h.rt,(hk p hp).trans h.cell,by rw[hn];exact h.lt,h.pq,by rw[hn];exact h.ql⟩
theorem Two.say (h:Two S q p bad g) {r:Nat}{D:List UInt8} {k:Nat}(hk:je k D) (k2:k≠2) (hd:D.length≤140737488351232) (hl:g.said.length<200) (hl2:g.known.length<200) (hr:r<S.next) (hg:S.get r=some (.cells (D.flatMap cb++[]) (.own []) 1)) :
  ∃S2 g2,zU zi O yx.id [.pointer (some ⟨q,0,none⟩),ms r D.length] S=some (.tuple #[],S2)∧yw S S2∧(∀S,zU zi O yD.id [qx g,jk k D] S=some (qx g2,S))∧g2.said.length=g.said.length+1∧g2.known.length≤g.known.length+1 ∧
   ∃S3,jI zi 32 (.pointer (some ⟨p,0,none⟩)) (qx g2) S2=some (zh,S3)∧Two S3 q p bad g2∧S3.next=S2.next∧∀k,k≠p→S3.get k=S2.get k:=by
 obtain⟨sd,G,A⟩:=h.gt;obtain⟨m1,e1,S2,R1,c1,G2,st⟩:=TB G hr hg hd;obtain⟨m2,e2,R2,ok2,c2⟩:=yD.v h.ok hk k2 hd hl hl2;obtain⟨sm,rfl⟩:=Ep R2 R1;rw[EF sm]at G2;obtain⟨q1,q2,q3,q4,q5,q6⟩:=TA R2 A h.rt;rw[q1]at G2;have pc:S2.get p=some (.cells (fG g) (.own []) 0):=(st.2 _ _ _ _ h.lt h.cell).trans h.cell;obtain⟨S3,t1,t2,t3,t4,t5⟩:=Wy (Jg g D m2 e2) pc (JR S2) (Nat.zero_le _);exact⟨S2,_,c1,st,c2,q5,q6,S3,t1,⟨⟨_,G2.off pc (fun e=>h.pq e.symm) t4 t5,q3⟩,ok2,q4.trans h.eb,q2,t2,by rw[t4];exact Nat.lt_of_lt_of_le h.lt st.1,h.pq,by rw[t4];exact Nat.lt_of_lt_of_le h.ql st.1⟩,t4,t5⟩
theorem Two.pass (h:Two S q p bad g) {r:Nat}{D:List UInt8} {k:Nat}(hk:je k D) (k2:k≠2) (hd:D.length≤140737488351232) (hl2:g.known.length<200) (hr:r<S.next) (hg:S.get r=some (.cells (D.flatMap cb++[]) (.own []) 1)) :
  ∃S2 g2 b,zU zi O jJ.id [.pointer (some ⟨q,0,none⟩),ms r D.length] S=some (.bool b,S2)∧yw S S2∧(∀S,zU zi O jB.id [qx g,jk k D] S=some (.tuple #[qx g2,.bool b],S))∧g2.Ok∧g2.said.length=g.said.length∧g2.known.length≤g.known.length+1 ∧
   ∀S3,Ext S2 S3→∃S4,jI zi 32 (.pointer (some ⟨p,0,none⟩)) (qx g2) S3=some (zh,S4)∧Two S4 q p bad g2∧S4.next=S3.next∧∀k,k≠p→S4.get k=S3.get k:=by
 obtain⟨sd,G,A⟩:=h.gt;obtain⟨m1,e1,S2,R1,c1,G2,st⟩:=RS G hr hg hd;obtain⟨m2,e2,R2,ok2,c2⟩:=jB.v h.ok hk k2 hd hl2;obtain⟨sm,rfl⟩:=Ep R2 R1;rw[DW sm]at G2 c1;obtain⟨q1,q2,q3,q4,q5⟩:=RQ R2 A h.rt;rw[h.eb]at q1;rw[q1]at G2 c1;refine⟨S2,_,_,c1,st,c2,ok2,by rw[q3],q5,fun S3 x=>?_⟩
 have pc:S3.get p=some (.cells (fG g) (.own []) 0):=(x.2 _ (Nat.lt_of_lt_of_le h.lt st.1)).trans ((st.2 _ _ _ _ h.lt h.cell).trans h.cell);obtain⟨S4,t1,t2,t3,t4,t5⟩:=Wy (Zh g D m2 e2).2 pc (JR S3) (Nat.zero_le _);exact⟨S4,t1,⟨⟨_,(G2.ext x).off pc (fun e=>h.pq e.symm) t4 t5,by rw[q3];exact A⟩,ok2,q4.trans h.eb,q2,t2,by rw[t4];exact Nat.lt_of_lt_of_le (Nat.lt_of_lt_of_le h.lt st.1) x.1,h.pq,by rw[t4];exact Nat.lt_of_lt_of_le (Nat.lt_of_lt_of_le h.ql st.1) x.1⟩,t4,t5⟩
end
def V7 (cs:List zu):Prop:=∀c∈cs,∃m,c=Value.int .u8 m
theorem BJ (D:List UInt8):V7 (D.flatMap cb++[]):=fun c hc=>by
 rw[List.append_nil,List.mem_flatMap]at hc;obtain⟨b,_,h⟩:=hc;exact⟨_,List.mem_singleton.1 h⟩
theorem OB {cs:List zu}(h:V7 cs) (o:Nat) (m:Int):V7 (splice cs o [.int .u8 m]):=fun c hc=>by
 unfold splice at hc;rcases List.mem_append.1 hc with hc |hc
 ·rcases List.mem_append.1 hc with hc |hc
  ·exact h c (List.mem_of_mem_take hc)
  ·exact⟨_,List.mem_singleton.1 hc⟩
 ·exact h c (List.mem_of_mem_drop hc)
theorem UC {cs:List zu}{o:Nat}{x:zu}(h:o<cs.length):(splice cs o [x]).length=cs.length:=by
 unfold splice;simp only[List.length_append,List.length_take,List.length_drop,List.length_cons,List.length_nil];omega
theorem LX {k:Nat}{D:List UInt8} (h:je k D) (hl:D.length≤140737488351232) (S:zS):∃y S0 r S1,Ji zi 33 0 [] S=some (y,S0)∧WX zi true 33 33 y (jk k D) S0=some (ms r D.length,S1)∧S1.get r=some (.cells (D.flatMap cb++[]) (.own []) 1)∧Ext S S1∧S.next≤r∧r<S1.next∧Ext S S0:=by
 have g0:(S.push (.cells [] (.own []) 1)).get S.next=some (.cells [] (.own []) 1):=by rw[zS.qO,zN rfl]
 have src:YU zi 33 1 (jk k D) (S.push (.cells [] (.own []) 1))=some (D.length,D.flatMap cb):=Gf WW h.Qe (by rw[X5,Nat.mul_one]) (Ls D)
 have e1:=oJ (P:=zi) (hp:=true) (t:=33) (tx:=33) (o:=0) (n:=0) (c:=0) WW XG Dk rfl oL (by decide) src g0 (by simp) (by omega) (by omega) (by rfl)
 rw[zN (by rfl),Nat.zero_add]at e1
 refine⟨_,_,_,_,(by kernel_rfl),e1,?_,((Ext.push S _).set (Nat.le_refl _) _).trans (Ext.push _ _),by simp,by simp,Ext.push S _⟩
 rw[zS.qO,zS.lM,zS.Xy,zN rfl];simp
theorem CZ (g:Dg):Z7 (qx g)=false:=by
 show [iz g.kb g.bad,Zr g.ks g.said,Zl g.kk g.known].any xQ=false;simp only[List.any_cons,List.any_nil,Dc,Bool.or_false]
theorem C9 (g:Dg) {k:Nat}{l:List UInt8}:[qx g,jk k l].all (fun x=>!Z7 x)=true:=by
 have h:Z7 (jk k l)=false:=by show Z7 (sv k 1 l.length (l.flatMap cb))=false;unfold sv;split<;>rfl
 simp only[List.all_cons,List.all_nil,CZ,h];rfl
theorem Pz (g:Dg) (n:Int):[qx g,.int .i64 n].all (fun x=>!Z7 x)=true:=by
 simp only[List.all_cons,List.all_nil,CZ];rfl
theorem pI (b:Bool) (S:zS):jd zi .neq 4 (.bool b) (.bool b) S=some (.bool false,S):=by cases b<;>kernel_rfl
namespace gateRuns
def codes :List (Bool×Ty):=[(false,.slc 8 (.int .i64)),(false,.slc 32 Qn)]
theorem coded :Xh zi 9 [24,28]=some codes:=by kernel_rfl
def kept (T:List zu):List zu:=[5,6,31,32,33].map (T.getD · zh)
section
variable {q p:Nat}{bad:List Int}
theorem Ey {g:Dg}{n j:Nat}(hn:n≤140737488351232) (jq:q≠j) (jp:p≠j):∀(d i:Nat) {T:List zu}{r:St}{S:zS}{cs:List zu},d=n-i→yj (zX zi O true jr.jg) T S=r→T.length=89→T.getD 9 zh=ms j n→T.getD 66 zh=.int .i64 n→T.getD 67 zh=.int .i64 i→i≤n →
  Two S q p bad g→S.get j=some (.cells cs (.own []) 1)→cs.length=n→V7 cs →
  ∃T' S',r=some (.exit 2,T',S')∧T'.length=89∧kept T'=kept T∧Two S' q p bad g:=by
 intro d;induction d with
 |zero=>
  intro i T r S cs hd hL hT h9 h66 h67 hi B hg hcs hI;have hTe:=jr.eta hT;rw[h9,h66,h67]at hTe;have hr:=Eq.refl (zX zi O true jr.jg T S);have d1:¬(i:Int)<(n:Int):=by omega
  conv at hr=>
   rhs;rw[hTe];simp only[jr.jg,jr.code,jr.rs,jc,reduceIte,zk,zn,zo,zq,d1]
  exact⟨_,_,hL.symm.trans (yX hr (by simp)),rfl,rfl,B⟩
 |succ d ih=>
  intro i T r S cs hd hL hT h9 h66 h67 hi B hg hcs hI;have hTe:=jr.eta hT;rw[h9,h66,h67]at hTe;have hr:=Eq.refl (zX zi O true jr.jg T S);have d1:(i:Int)<(n:Int):=by omega
  have ix:∀S,jZ zi 33 (ms j n) (.int .i64 i) S=some (.pointer (some ⟨j,0+i*1,none⟩),S):=fun S=>by
   rw[Oo (o:=0) (n:=n) (c:=n) (q:=j) WW XG (by omega) d1,Int.toNat_natCast]
  have hlt:0+i*1<cs.length:=by omega
  obtain⟨m,hm⟩:=hI _ (List.getElem_mem hlt);have l1:=Zp (t:=5) (o:=0+i*1) hg uK (by rw[zy hlt,hm])
  have s1:=fun w:Int=>YT (P:=zi) (t:=5) (o:=0+i*1) (x:=.int .u8 w) hg XG rfl rfl (by omega)
  have wi:IntKind.i64.wrap ((i:Int)+1)=((i+1:Nat):Int):=by rw[wrap_i64 (by omega) (by omega)];omega
  conv at hr=>
   rhs;rw[hTe];simp only[jr.jg,jr.code,jr.rs,jc,reduceIte,zk,zn,zo,zq,d1,ix,l1,s1,wi]
  have hs:=(xk hr).symm.trans hL;obtain⟨T',S',q1,q2,q3,q4⟩:=ih (i+1) (cs:=splice cs (0+i*1) [.int .u8 (IntKind.u8.wrap (m+1))]) (by omega) hs rfl rfl rfl rfl (by omega)
   (B.off hg jq jp (by simp[zS.kills]) (fun k hk=>by rw[zS.kM,zM hk];rfl)) (by rw[zS.kM,zN rfl];rfl) (by rw[←hcs];exact UC hlt) (OB hI _ _)
  exact⟨T',S',q1,q2,q3,q4⟩
theorem SV {k:Nat}{l:List JJ}(hk:je k l) (hl:l.length≤60) (ha:∀a∈l,a.Ok):∀(suf pre:List JJ) {T:List zu}{r:St}{S:zS}{g:Dg},yj (zX zi O true jr.qE) T S=r→T.length=89 →
  T.getD 5 zh=.pointer (some ⟨q,0,none⟩)→T.getD 6 zh=.pointer (some ⟨p,0,none⟩)→T.getD 31 zh=vs fA 2 k l→T.getD 32 zh=.int .i64 l.length→T.getD 33 zh=.int .i64 pre.length→l=pre++suf→Two S q p bad g→g.said.length≤pre.length→g.known.length≤pre.length →
  ∃T' S' g',r=some (.exit 0,T',S')∧T'.length=89∧T'.getD 5 zh=.pointer (some ⟨q,0,none⟩)∧T'.getD 6 zh=.pointer (some ⟨p,0,none⟩)∧Two S' q p bad g':=by
 intro suf;induction suf with
 |nil=>
  intro pre T r S g hL hT h5 h6 h31 h32 h33 hpre B hs1 hs2;have hTe:=jr.eta hT;rw[h5,h6,h31,h32,h33]at hTe;have hr:=Eq.refl (zX zi O true jr.qE T S);have d1:¬(pre.length:Int)<(l.length:Int):=by rw[hpre];simp
  conv at hr=>
   rhs;rw[hTe];simp only[jr.qE,jr.code,jr.rs,jc,reduceIte,zk,zn,zo,zq,d1]
  exact⟨_,_,g,hL.symm.trans (yX hr (by simp)),rfl,rfl,rfl,B⟩
 |cons a suf ih=>
  intro pre T r S g hL hT h5 h6 h31 h32 h33 hpre B hs1 hs2;have hTe:=jr.eta hT;rw[h5,h6,h31,h32,h33]at hTe;have hr:=Eq.refl (zX zi O true jr.qE T S);have hll:l.length=pre.length+suf.length+1:=by rw[hpre];simp;omega
  have d1:(pre.length:Int)<(l.length:Int):=by omega
  have ao:=ha a (by rw[hpre];simp)
  have ne:¬a.k=2:=ao.ne;have e1:∀S,jZ zi 28 (vs fA 2 k l) (.int .i64 pre.length) S=some (EP [.int .i64 a.kind,jk a.k a.data],S):=fun S=>by
   rw[XL FC mP (fun _=>rfl) hk (by omega) d1,Qu hpre];rfl
  have wi:IntKind.i64.wrap ((pre.length:Int)+1)=((pre++[a]).length:Int):=by rw[wrap_i64 (by omega) (by omega)];simp
  obtain⟨S1,n1,n2,n3,n4⟩:=Py a S;have al:=H6 S;obtain⟨y,S0,j,S2,c1,c2,c3,c4,c5,c6,c7⟩:=LX ao.okl ao.le S1;have n0:S0.get S.next=some (.cells (fA a) (.own []) 0):=(c7.2 _ n4).trans n2;have m2:S2.get S.next=some (.cells (fA a) (.own []) 0):=(c4.2 _ n4).trans n2;have la0:=iY n0 ne;have l0:=OL m2;have B2:=(B.ext n3).ext c4;have ml:S.next<S2.next:=Nat.lt_of_lt_of_le n4 c4.1;have lc:=ZT B2.cell B2.ok;have jq:q≠j:=by have:=B.ql;have:=n3.1;omega
  have jp:p≠j:=by have:=B.lt;have:=n3.1;omega
  have ln:=fun S=>OQ (P:=zi) WW (some ⟨j,0,none⟩) a.data.length a.data.length S
  by_cases h0:a.kind=0
  ·have e0:=zL h0;obtain⟨S3,g3,s1,s2,s3,s4,s5,S4,t1,B4,t4,t5⟩:=B2.say ao.okl ao.ne ao.le (by omega) (by omega) c6 c3
   have m3:S3.get S.next=some (.cells (fA a) (.own []) 0):=(s2.2 _ _ _ _ ml m2).trans m2;have la3:=iY m3 ne;have lc3:=ZT ((s2.2 _ _ _ _ B2.lt B2.cell).trans B2.cell) B2.ok;have s3:∀S,qN (zU zi O) 13 [qx g,jk a.k a.data] S=some (qx g3,S):=fun S=>Wl (s3 S) (C9 g)
   have j4:S4.get j=some (.cells (a.data.flatMap cb++[]) (.own []) 1):=(t5 _ (fun e=>jp e.symm)).trans ((s2.2 _ _ _ _ c6 c3).trans c3)
   conv at hr=>
    rhs;rw[hTe];simp only[jr.qE,jr.code,jr.rs,jc,reduceIte,zk,zn,zo,zq,d1,e1,Cb,al,n1,c1,tY,tZ,la0,c2,l0,e0,s1,lc3,la3,zM ne,s3,t1,ln,goInt]
   generalize hL1:yj (zX zi O true jr.jg) _ _=r1 at hr;obtain⟨T7,S7,p1,p2,p3,B7⟩:=Ey (bad:=bad) (g:=g3) (n:=a.data.length) (j:=j) ao.le jq jp _ 0 rfl hL1 rfl rfl rfl rfl (Nat.zero_le _) B4 j4 (by rw[List.append_nil,X5]) (BJ _)
   subst p1;unfold kept at p3;simp only[List.map_cons,List.map_nil,List.cons.injEq,and_true]at p3;obtain⟨f5,f6,f31,f32,f33⟩:=p3;have f33:T7.getD 33 zh=.int .i64 pre.length:=f33;have hT7:=jr.eta p2;rw[f33]at hT7;conv at hr=>
    rhs;simp only[jc,reduceIte,zk,zn,zo,zq];rw[hT7];simp only[jr.code,jr.rs,jc,reduceIte,zk,zn,zo,zq,wi]
   have hs:=(xk hr).symm.trans hL;exact ih (pre++[a]) hs rfl f5 f6 f31 f32 rfl (by rw[hpre];simp) B7 (by simp;omega) (by simp;omega)
  ·have e0:=zK h0;obtain⟨S3,g3,b,s1,s2,s3,ok3,s4,s5,s6⟩:=B2.pass ao.okl ao.ne ao.le (by omega) c6 c3
   have m3:S3.get S.next=some (.cells (fA a) (.own []) 0):=(s2.2 _ _ _ _ ml m2).trans m2;have la3:=iY m3 ne;have lc3:=ZT ((s2.2 _ _ _ _ B2.lt B2.cell).trans B2.cell) B2.ok;have s3:∀S,qN (zU zi O) 14 [qx g,jk a.k a.data] S=some (.tuple #[qx g3,.bool b],S):=fun S=>Wl (s3 S) (C9 g)
   obtain⟨S4,a1,a2,a3,a4⟩:=XU S3;obtain⟨S5,t1,t2,t3,t4,t5⟩:=Wy g3 a2 a3 (Nat.le_refl _);have lc5:=ZT t2 ok3;obtain⟨S6,u1,B6,u4,u5⟩:=s6 S5 t3;have j3:S3.get j=some (.cells (a.data.flatMap cb++[]) (.own []) 1):=(s2.2 _ _ _ _ c6 c3).trans c3;have j6:S6.get j=some (.cells (a.data.flatMap cb++[]) (.own []) 1):=(u5 _ (fun e=>jp e.symm)).trans ((t3.2 _ (Nat.lt_of_lt_of_le c6 s2.1)).trans j3)
   have bn:=fun S=>pI b S
   conv at hr=>
    rhs;rw[hTe];simp only[jr.qE,jr.code,jr.rs,jc,reduceIte,zk,zn,zo,zq,d1,e1,Cb,al,n1,c1,tY,tZ,la0,c2,l0,e0,s1,lc3,la3,zM ne,s3,a1,t1,lc5,u1,bn,ln,goInt]
   generalize hL1:yj (zX zi O true jr.jg) _ _=r1 at hr;obtain⟨T7,S7,p1,p2,p3,B7⟩:=Ey (bad:=bad) (g:=g3) (n:=a.data.length) (j:=j) ao.le jq jp _ 0 rfl hL1 rfl rfl rfl rfl (Nat.zero_le _) B6 j6 (by rw[List.append_nil,X5]) (BJ _)
   subst p1;unfold kept at p3;simp only[List.map_cons,List.map_nil,List.cons.injEq,and_true]at p3;obtain⟨f5,f6,f31,f32,f33⟩:=p3;have f33:T7.getD 33 zh=.int .i64 pre.length:=f33;have hT7:=jr.eta p2;rw[f33]at hT7;conv at hr=>
    rhs;simp only[jc,reduceIte,zk,zn,zo,zq];rw[hT7];simp only[jr.code,jr.rs,jc,reduceIte,zk,zn,zo,zq,wi]
   have hs:=(xk hr).symm.trans hL;exact ih (pre++[a]) hs rfl f5 f6 f31 f32 rfl (by rw[hpre];simp) B7 (by simp;omega) (by simp;omega)
theorem SX {g:Dg}{S:zS}(B:Two S q p bad g):∀(d:Nat) (i:Int) {T:List zu}{r:St},i+d=9→-1≤i→yj (zX zi O true jr.Qc) T S=r→T.length=89→T.getD 5 zh=.pointer (some ⟨q,0,none⟩)→T.getD 6 zh=.pointer (some ⟨p,0,none⟩)→T.getD 14 zh=.int .i64 i →
  ∃T',r=some (.exit 4,T',S)∧T'.length=89:=by
 intro d;induction d with
 |zero=>
  intro i T r hi hi1 hL hT h5 h6 h14;have hTe:=jr.eta hT;rw[h5,h6,h14]at hTe;have hr:=Eq.refl (zX zi O true jr.Qc T S);have d1:¬i<9:=by omega
  conv at hr=>
   rhs;rw[hTe];simp only[jr.Qc,jr.code,jr.rs,jc,reduceIte,zk,zn,zo,zq,d1]
  exact⟨_,hL.symm.trans (yX hr (by simp)),rfl⟩
 |succ d ih=>
  intro i T r hi hi1 hL hT h5 h6 h14;have hTe:=jr.eta hT;rw[h5,h6,h14]at hTe;have hr:=Eq.refl (zX zi O true jr.Qc T S);have d1:i<9:=by omega
  obtain⟨sd,G,A⟩:=B.gt;have c1:qN (zU zi O) 11 [.pointer (some ⟨q,0,none⟩),.int .i64 i] S=some (.bool (isBad bad i),S):=Wl (vV.v G i) rfl;have c2:qN (zU zi O) 15 [qx g,.int .i64 i] S=some (.bool (isBad bad i),S):=by
   rw[←B.eb];exact Wl (yB.v B.ok i S) (Pz g i)
  have lc:=ZT B.cell B.ok;have bn:=fun S=>pI (isBad bad i) S
  have st:=ZG (o:=0) B.cell;have wi:IntKind.i64.wrap (i+1)=i+1:=wrap_i64 (by omega) (by omega)
  conv at hr=>
   rhs;rw[hTe];simp only[jr.Qc,jr.code,jr.rs,jc,reduceIte,zk,zn,zo,zq,d1,c1,lc,qy (XB _),WT,c2,bn,st,wi]
  have hs:=(xk hr).symm.trans hL;exact ih (i+1) (by omega) (by omega) hs rfl rfl rfl rfl
end
theorem run {k j:Nat}{l:List JJ}{bad:List Int}(hj:je j bad) (j2:j≠2) (hbl:bad.length≤17592186043904) (hk:je k l) (k2:k≠2) (hg:∀t∈l,t.Ok) (S:zS):∃S',zU zi O 4 [iz j bad,vs fA 2 k l] S=some (.bool true,S'):=by
 obtain⟨T,hTe⟩:∃T,T=(iz j bad::vs fA 2 k l::zh::zh::zh::zh::zh::zh::zh::zh::zh::zh::zh::zh::zh::zh::zh::zh::zh::zh::zh::zh::zh::zh::zh::zh::zh::zh::zh::[zh,zh,zh,zh,zh,zh,zh,zh,zh,zh,zh,zh,zh,zh,zh,zh,zh,zh,zh,zh,zh,zh,zh,zh,zh,zh,zh,zh,zh,zh,zh,zh,zh,zh,zh,zh,zh,zh,zh,zh,zh,zh,zh,zh,zh,zh,zh,zh,zh,zh,zh,zh,zh,zh,zh,zh,zh,zh,zh,zh]):=⟨_,rfl⟩;have hr:=Eq.refl (zX zi O true jr.code T S);have c0:∀S,qN (zU zi O) 9 [] S=some (.bool true,S):=fun S=>Wl (qU.v S) rfl
 have ln:∀S,yK zi 28 (vs fA 2 k l) S=some (.int .i64 l.length,S):=fun S=>XM FC hk
 have lj:∀S,yK zi 24 (iz j bad) S=some (.int .i64 bad.length,S):=fun S=>KH hj
 by_cases h1:(60:Int)<(l.length:Int)
 ·have dq:=zL h1;conv at hr=>
   rhs;rw[hTe];simp only[jr.code,jr.rs,jc,reduceIte,zk,zn,zo,zq,c0,zM k2,zM j2,ln,lj,dq]
  rw[hTe]at hr;exact⟨_,jr.runs hr (.inr rfl)⟩
 have dq:=zK h1;by_cases h2:(20:Int)<(bad.length:Int)
 ·have dq2:=zL h2;conv at hr=>
   rhs;rw[hTe];simp only[jr.code,jr.rs,jc,reduceIte,zk,zn,zo,zq,c0,zM k2,zM j2,ln,lj,dq,dq2]
  rw[hTe]at hr;exact⟨_,jr.runs hr (.inr rfl)⟩
 have dq2:=zK h2;obtain⟨ya,A0,ra,A1,a1,a2,a3,a4,a5⟩:=LY hj (by omega) S
 obtain⟨q,A3,n1,G3,n3,n4⟩:=ZB.v (k:=1) (l:=bad) je.read (by decide) (by omega) (A1.set ra .dead)
 have nw:qN (zU zi O) 8 [ms ra bad.length] A1=some (.pointer (some ⟨q,0,none⟩),A3):=by
  unfold qN;rw[uq (uy (f:=ci) (e:=1) (fun _=>rfl) a3) rfl]
  dsimp only;rw[n1];rfl
 have bd:∀S,wS zi 32 [(0,iz j bad)] S=some (qx ⟨j,bad,0,[],0,[]⟩,S):=fun S=>IE WM S
 obtain⟨S4,b1,b2,b3,b4⟩:=XU A3;obtain⟨S5,t1,t2,t3,t4,t5⟩:=Wy ⟨j,bad,0,[],0,[]⟩ b2 b3 (Nat.le_refl _);have ok0:Dg.Ok ⟨j,bad,0,[],0,[]⟩:=⟨hj,je.none,je.none,j2,by show(0:Nat)≠2;decide,by show(0:Nat)≠2;decide,by show bad.length≤1000;omega,Nat.zero_le _,Nat.zero_le _,fun t h=>(nomatch h),fun t h=>(nomatch h)⟩
 have B:Two S5 q A3.next bad ⟨j,bad,0,[],0,[]⟩:=⟨⟨[],G3.ext t3,fun s=>⟨fun h=>(nomatch h),fun⟨t,h,_⟩=>(nomatch h)⟩⟩,ok0,rfl,fun t h=>(nomatch h),t2,by rw[t4];exact b4,by have:=G3.lt;omega,Nat.lt_of_lt_of_le G3.lt t3.1⟩
 conv at hr=>
  rhs;rw[hTe];simp only[jr.code,jr.rs,jc,reduceIte,zk,zn,zo,zq,c0,zM k2,zM j2,ln,lj,dq,dq2,a1,a2,nw,bd,b1,t1]
 generalize hL:yj (zX zi O true jr.qE) _ _=r at hr;obtain⟨T1,S6,g6,rfl,f1,f5,f6,B6⟩:=SV (q:=q) (p:=A3.next) hk (by omega) hg l [] hL rfl rfl rfl rfl rfl rfl rfl B (Nat.le_refl _) (Nat.le_refl _)
 have hT1:=jr.eta f1;rw[f5,f6]at hT1;conv at hr=>
  rhs;simp only[jc,reduceIte,zk,zn,zo,zq];rw[hT1];simp only[jr.code,jr.rs,jc,reduceIte,zk,zn,zo,zq]
 generalize hL3:yj (zX zi O true jr.Qc) _ _=r3 at hr;obtain⟨T2,rfl,e1⟩:=SX B6 10 (-1) (by decide) (by decide) hL3 rfl rfl rfl rfl
 have hT2:=jr.eta e1;conv at hr=>
  rhs;simp only[jc,reduceIte,zk,zn,zo,zq];rw[hT2];simp only[jr.code,jr.rs,jc,reduceIte,zk,zn,zo,zq]
 rw[hTe]at hr;exact⟨_,jr.runs hr (.inr rfl)⟩
theorem law (x:Args codes) (h:Args.Good codes x):∃k,(ZR zi k 4 (Args.place codes x zS.empty).1 (Args.place codes x zS.empty).2).map (·.1)=some (.bool true):=by
 obtain⟨a,b,u⟩:=x;obtain⟨h1,h2,_⟩:=h;obtain⟨j,bad,a1,a2,a3,a4,_⟩:=Ox a h1;obtain⟨k,l,p1,p2,p3,p4,p5⟩:=Ou b h2;obtain⟨S',e⟩:=run a1 a2 a4 p1 p2 p5 zS.empty;refine OJ Rt (S':=S') ?_;have e2:Args.Zd codes (a,b,u)=[iz j bad,vs fA 2 k l]:=by
  show [Jl false ((Ty.slc 8 (.int .i64)).Zd a),Jl false ((Ty.slc 32 Qn).Zd b)]=_;rw[a3,p3];rfl
 rw[e2];exact e
end gateRuns
end Go.Proofs.Ytfjogganfjkckaa
namespace Go.Proofs.Ytfjogganfjkckaa.gateRuns
open Go.ChangeShapes Go.WideShapes Go.ChangeAt Go.RowKit Go.Abs
theorem own :ownKnob zi.godebug=none:=by kernel_rfl
theorem laidOut :laidOutB zi=true:=by kernel_rfl
theorem mixes :zi.follows .mixedOrders=true:=by kernel_rfl
set_option maxRecDepth 100000 in
theorem lifted (os:Os) (started:os.Started) (H:Type) (enc:TypeId×zu→H) :
  ReturnsInHanded {} Try.checked os 4 .any (Rows.gateRunsSpec.pre6 enc zi Try.f4 Rows.gateRunsRow.domain false) (Rows.gateRunsSpec.post enc zi Try.f4 false true false false):=by
 refine returnsInHanded_of_change_sized (C:=Try.checked) own started (by kernel_rfl) Try.func4
  (ChangeSpec.witness6 (enc:=enc) (C:=Try.checked) false ⟨#[],#[.slice none 0 0,.slice none 0 0],[]⟩ 8 (by kernel_rfl) (by kernel_rfl) (by kernel_rfl) (by kernel_rfl)) ?_
 intro W base args ds gs before hval0 hW hcnd hsz0 _;have hW':=hW;obtain⟨p,q,hA0,hV,rfl,hfz,hnd⟩:=hW;obtain⟨rfl,rfl⟩:=trodVars_none hV;have hsz1:(DataW.weightsEach zi (Try.f4.params.toList++Rows.gateRunsSpec.plain.varTypes zi) (ds++[])).all (·≤reachBytes)=true:=hsz0
 have hval:∀(j:Nat) t v,Try.f4.params[j]?=some t→args[j]?=some v→Value.okWide zi W .any base t v:=hval0;have hA1:DataW.TrodAll enc zi W 0 (fun _=>true) true Try.f4.params.toList args.toList ds p:=hA0
 rw[Try.params4]at hA1 hsz1 hval;have hA:DataW.TrodAll enc zi W 0 (fun _=>true) true [24,28] args.toList ds p:=hA1
 have hsz:(DataW.weightsEach zi [24,28] ds).all (·≤reachBytes)=true:=by rw[List.append_nil ds]at hsz1;exact hsz1
 clear hA0 hA1 hval0 hsz0 hsz1;have r:=hA;obtain⟨v0,vs0,d0,ds0,p0,q0,hargs0,rfl,hp0,h0,r0⟩:=trodAll_cons r;obtain⟨v1,vs1,d1,ds1,p1,q1,hargs1,rfl,hp1,h1,r1⟩:=trodAll_cons r0;obtain⟨_,rfl,_⟩:=trodAll_nil r1;refine(OH mixes coded law hA (fun j t v h1 h2=>hval j t v (by rw[List.getElem?_toArray];exact h1) h2) hsz).mono fun e W' ⟨he,bel⟩=>?_
 subst he;exact⟨_,rfl,_,_,_,[],_,[],hW',trodAll_mk1 (shut_bool (by kernel_rfl) _),Iu laidOut bel _ _ _ _ (by kernel_rfl) hA,rfl,bel.frame _,fun h=>by cases h⟩
theorem over :Rows.gateRunsRow.holds Try.pinned (OpenSpec.ofChange Rows.gateRunsSpec) :=
 OpenClaim.holds_of_wide 4 Try.f4 rfl rfl rfl rfl rfl rfl rfl ⟨rfl,rfl,rfl,rfl,rfl⟩ rfl rfl rfl rfl rfl (by kernel_rfl) Try.func4 (by kernel_rfl)
  (of_decide_eq_true (by kernel_rfl)) (by unfold Func.isWrapper;first |(rw[zN (by decide +kernel)];kernel_rfl) |(rw[zM (by decide +kernel)];exact⟨rfl,rfl⟩))
  (fun os started H enc _=>lifted os started H enc)
theorem proved :Rows.GateRunsSaid:=over
end Go.Proofs.Ytfjogganfjkckaa.gateRuns
namespace Go.Proofs.Ytfjogganfjkckaa
theorem gateRuns_holds :Rows.GateRunsSaid:=gateRuns.proved
#print axioms gateRuns_holds
end Go.Proofs.Ytfjogganfjkckaa
